/- Texts of the proof of FnExactPlanCost, joined in build order. -/
import Derived.Test.YtcciljjnpfgaeaaGx0
import Derived.Test.YtcciljjnpfgaeaaGx14
import Derived.Test.YtcciljjnpfgaeaaGx16
import Derived.Test.YtcciljjnpfgaeaaGx23
import Derived.Test.YtcciljjnpfgaeaaGx25
import Derived.Test.YtcciljjnpfgaeaaGx32
import Derived.Test.YtcciljjnpfgaeaaGx34
import Derived.IntWalk
import Derived.Test.YtcciljjnpfgaeaaGx2
import Derived.Test.YtcciljjnpfgaeaaGx6
import Derived.Test.YtcciljjnpfgaeaaCont78
import Derived.Test.YtcciljjnpfgaeaaGx18
import Derived.Test.YtcciljjnpfgaeaaGx7
import Derived.Test.YtcciljjnpfgaeaaGx20
import Derived.Test.YtcciljjnpfgaeaaGx19
import Derived.Test.YtcciljjnpfgaeaaGx9
import Derived.Test.YtcciljjnpfgaeaaGx8
import Derived.Test.YtcciljjnpfgaeaaGx21
import Derived.Test.YtcciljjnpfgaeaaGx10
import Derived.Test.YtcciljjnpfgaeaaGx11
import Derived.Test.YtcciljjnpfgaeaaGx33
import Derived.Test.YtcciljjnpfgaeaaGx31
-- Written by wip/tools/gen.py out of the translation (the kit's printer, one namespace a seat). Lean checks it.
namespace Go.Proofs.Ytcciljjnpfgaeaa.G
open Go.RowKit Go.Proofs.YtcciljjnpfgaeaaW.PrintWords Go.Proofs.YtcciljjnpfgaeaaW.PrintLast Go.Proofs.YtcciljjnpfgaeaaW.PrintMore
attribute [local go_sem] max2_int min2_int max_two min_two max_three min_three max_four min_four   -- for this text's walks alone
set_option linter.unusedVariables false
set_option linter.unusedSimpArgs false

/-! ### laws_szShipS: function 13 -/
def laws_szShipS.f (l0 : List (S68)) (a1 : Int) : Option (Int) := if (wrap64 (a1 - (l0.length : Int))) < 0 then (some (-1)) else (some (wrap64 (a1 - (l0.length : Int))))
set_option maxHeartbeats 8000000 in
set_option maxRecDepth 100000 in
theorem laws_szShipS.calls (A0 : Option Addr) (c0 : Nat) (l0 : List (S68)) (a1 : Int) (r : Int) (w : World) (hr0 : Kd.C k68 w A0 l0.length l0) (hc0 : l0.length ≤ c0) (h : laws_szShipS.f l0 a1 = some r) :
    Calls Try.prog 13 #[.slice A0 l0.length c0, .int .i64 a1] w fun e w' => e = .returned (.int .i64 r) ∧ Drawn0 w w' := by
  have HR0 := Aside0.mk hr0
  have HC0 := Aside0.mk hc0
  clear hr0 hc0
  have H : (if (wrap64 (a1 - (l0.length : Int))) < 0 then (some (-1)) else (some (wrap64 (a1 - (l0.length : Int))))) = some r := h
  clear h
  by_cases c3 : (wrap64 (a1 - (l0.length : Int))) < 0
  · rw [if_pos c3] at H
    have c3b0 : decide ((wrap64 (a1 - (l0.length : Int))) < 0) = true := decide_eq_true c3
    clear c3
    obtain rfl := Option.some.inj H
    go_enter Try.func13, Try.ntmps13
    go_wp2
    go_ret
    exact ⟨by first | rfl | (simp; done) | (simp [*]; done), by repeat (first | exact Drawn0.refl _ | apply Drawn0.step)⟩
  · rw [if_neg c3] at H
    have c3b0 : decide ((wrap64 (a1 - (l0.length : Int))) < 0) = false := decide_eq_false c3
    clear c3
    obtain rfl := Option.some.inj H
    go_enter Try.func13, Try.ntmps13
    go_wp2
    go_ret
    exact ⟨by first | rfl | (simp; done) | (simp [*]; done), by repeat (first | exact Drawn0.refl _ | apply Drawn0.step)⟩

end Go.Proofs.Ytcciljjnpfgaeaa.G

-- Written by wip/tools/gen.py out of the translation (the kit's printer, one namespace a seat). Lean checks it.
namespace Go.Proofs.Ytcciljjnpfgaeaa.G
open Go.RowKit Go.Proofs.YtcciljjnpfgaeaaW.PrintWords Go.Proofs.YtcciljjnpfgaeaaW.PrintLast Go.Proofs.YtcciljjnpfgaeaaW.PrintMore
attribute [local go_sem] max2_int min2_int max_two min_two max_three min_three max_four min_four   -- for this text's walks alone
set_option linter.unusedVariables false
set_option linter.unusedSimpArgs false

/-! ### laws_szBerthS: function 14 -/
def laws_szBerthS.f (l0 : List (S70)) (a1 : Int) : Option (Int) := if (wrap64 (a1 - (l0.length : Int))) < 0 then (some (-1)) else (some (wrap64 (a1 - (l0.length : Int))))
set_option maxHeartbeats 8000000 in
set_option maxRecDepth 100000 in
theorem laws_szBerthS.calls (A0 : Option Addr) (c0 : Nat) (l0 : List (S70)) (a1 : Int) (r : Int) (w : World) (hr0 : Kd.C k70 w A0 l0.length l0) (hc0 : l0.length ≤ c0) (h : laws_szBerthS.f l0 a1 = some r) :
    Calls Try.prog 14 #[.slice A0 l0.length c0, .int .i64 a1] w fun e w' => e = .returned (.int .i64 r) ∧ Drawn0 w w' := by
  have HR0 := Aside0.mk hr0
  have HC0 := Aside0.mk hc0
  clear hr0 hc0
  have H : (if (wrap64 (a1 - (l0.length : Int))) < 0 then (some (-1)) else (some (wrap64 (a1 - (l0.length : Int))))) = some r := h
  clear h
  by_cases c3 : (wrap64 (a1 - (l0.length : Int))) < 0
  · rw [if_pos c3] at H
    have c3b0 : decide ((wrap64 (a1 - (l0.length : Int))) < 0) = true := decide_eq_true c3
    clear c3
    obtain rfl := Option.some.inj H
    go_enter Try.func14, Try.ntmps14
    go_wp2
    go_ret
    exact ⟨by first | rfl | (simp; done) | (simp [*]; done), by repeat (first | exact Drawn0.refl _ | apply Drawn0.step)⟩
  · rw [if_neg c3] at H
    have c3b0 : decide ((wrap64 (a1 - (l0.length : Int))) < 0) = false := decide_eq_false c3
    clear c3
    obtain rfl := Option.some.inj H
    go_enter Try.func14, Try.ntmps14
    go_wp2
    go_ret
    exact ⟨by first | rfl | (simp; done) | (simp [*]; done), by repeat (first | exact Drawn0.refl _ | apply Drawn0.step)⟩

end Go.Proofs.Ytcciljjnpfgaeaa.G

-- Written by wip/tools/gen.py out of the translation (the kit's printer, one namespace a seat). Lean checks it.
namespace Go.Proofs.Ytcciljjnpfgaeaa.G
open Go.RowKit Go.Proofs.YtcciljjnpfgaeaaW.PrintWords Go.Proofs.YtcciljjnpfgaeaaW.PrintLast Go.Proofs.YtcciljjnpfgaeaaW.PrintMore
attribute [local go_sem] max2_int min2_int max_two min_two max_three min_three max_four min_four   -- for this text's walks alone
set_option linter.unusedVariables false
set_option linter.unusedSimpArgs false

/-! ### laws_FnExactPlanCost: function 5 -/
def laws_FnExactPlanCost.j0 : Nat → List (S68) → List (S70) → List (S62) → List (S37) → Bool → Option (Bool)
  | 0, _, _, _, _, _ => none
  | k + 1, x1, x2, x10, x11, x51 => if x51 = true then (some false) else ((laws_toShipS.f k x1).bind fun t275 => ((laws_eqShipS.f k x10 t275).bind fun t278 => (if t278 = true then ((laws_toBerthS.f k x2).bind fun t279 => ((laws_eqBerthS.f k x11 t279).bind fun t282 => (if t282 = true then (some true) else (some false)))) else (some false))))
def laws_FnExactPlanCost.f (k : Nat) (a0 : Int) (l1 : List (S68)) (l2 : List (S70)) : Option (Bool) := (laws_szShipS.f l1 1048576).bind fun t257 => (if t257 < 0 then (some true) else ((laws_szBerthS.f l2 t257).bind fun t258 => (if t258 < 0 then (some true) else ((laws_toShipS.f k l1).bind fun t259 => ((laws_toBerthS.f k l2).bind fun t262 => ((spec_PlanCost.f k a0 t259 t262).bind fun bt265 => ((laws_toShipS.f k l1).bind fun t267 => ((laws_toBerthS.f k l2).bind fun t270 => ((impl_PlanCost.f k a0 t267 t270).bind fun bt273 => (if bt273.1 = bt265.1 then (laws_FnExactPlanCost.j0 k l1 l2 t267 t270 (bt273.2 != bt265.2)) else (laws_FnExactPlanCost.j0 k l1 l2 t267 t270 true)))))))))))
theorem laws_FnExactPlanCost.mono_l : ∀ k, (∀ y0 y1 y2 y3 y4, LeO (laws_FnExactPlanCost.j0 k y0 y1 y2 y3 y4) (laws_FnExactPlanCost.j0 (k + 1) y0 y1 y2 y3 y4))
  | 0 => fun _ _ _ _ _ r h => by simp [laws_FnExactPlanCost.j0] at h
  | k + 1 => by
    have ih0 := laws_FnExactPlanCost.mono_l k
    · intro y0 y1 y2 y3 y4
      unfold laws_FnExactPlanCost.j0
      repeat' first
      | (with_reducible exact ih0 _ _ _ _ _)
      | (with_reducible exact impl_PlanCost.mono _ _ _ _)
      | (with_reducible exact laws_eqBerthS.mono _ _ _)
      | (with_reducible exact laws_eqShipS.mono _ _ _)
      | (with_reducible exact laws_toBerthS.mono _ _)
      | (with_reducible exact laws_toShipS.mono _ _)
      | (with_reducible exact spec_PlanCost.mono _ _ _ _)
      | (with_reducible exact LeO.refl _)
      | (with_reducible exact LeO.none _)
      | (with_reducible refine LeO.ite ?_ ?_)
      | (with_reducible refine LeO.bind ?_ (fun _ => ?_))
      | exact ih0 _ _ _ _ _
      | exact impl_PlanCost.mono _ _ _ _
      | exact laws_eqBerthS.mono _ _ _
      | exact laws_eqShipS.mono _ _ _
      | exact laws_toBerthS.mono _ _
      | exact laws_toShipS.mono _ _
      | exact spec_PlanCost.mono _ _ _ _
      | exact LeO.none _
      | refine LeO.ite ?_ ?_
      | refine LeO.bind ?_ (fun _ => ?_)
theorem laws_FnExactPlanCost.mono : ∀ a0 a1 a2 k, LeO (laws_FnExactPlanCost.f k a0 a1 a2) (laws_FnExactPlanCost.f (k + 1) a0 a1 a2) := by
  intro a0 a1 a2 k
  have ih0 := laws_FnExactPlanCost.mono_l k
  unfold laws_FnExactPlanCost.f
  repeat' first
      | (with_reducible exact ih0 _ _ _ _ _)
      | (with_reducible exact impl_PlanCost.mono _ _ _ _)
      | (with_reducible exact laws_eqBerthS.mono _ _ _)
      | (with_reducible exact laws_eqShipS.mono _ _ _)
      | (with_reducible exact laws_toBerthS.mono _ _)
      | (with_reducible exact laws_toShipS.mono _ _)
      | (with_reducible exact spec_PlanCost.mono _ _ _ _)
      | (with_reducible exact LeO.refl _)
      | (with_reducible exact LeO.none _)
      | (with_reducible refine LeO.ite ?_ ?_)
      | (with_reducible refine LeO.bind ?_ (fun _ => ?_))
      | exact ih0 _ _ _ _ _
      | exact impl_PlanCost.mono _ _ _ _
      | exact laws_eqBerthS.mono _ _ _
      | exact laws_eqShipS.mono _ _ _
      | exact laws_toBerthS.mono _ _
      | exact laws_toShipS.mono _ _
      | exact spec_PlanCost.mono _ _ _ _
      | exact LeO.none _
      | refine LeO.ite ?_ ?_
      | refine LeO.bind ?_ (fun _ => ?_)
set_option maxHeartbeats 8000000 in
set_option maxRecDepth 100000 in
theorem laws_FnExactPlanCost.calls (k : Nat) (a0 : Int) (A1 : Option Addr) (c1 : Nat) (l1 : List (S68)) (A2 : Option Addr) (c2 : Nat) (l2 : List (S70)) (r : Bool) (w : World) (hr1 : Kd.C k68 w A1 l1.length l1) (hc1 : l1.length ≤ c1) (hr2 : Kd.C k70 w A2 l2.length l2) (hc2 : l2.length ≤ c2) (h : laws_FnExactPlanCost.f k a0 l1 l2 = some r) :
    Calls Try.prog 5 #[.int .i64 a0, .slice A1 l1.length c1, .slice A2 l2.length c2] w fun e w' => e = .returned (.bool r) ∧ Below w.heap.size w w' := by
  have HR1 := Aside0.mk hr1
  have HC1 := Aside0.mk hc1
  clear hr1 hc1
  have HR2 := Aside0.mk hr2
  have HC2 := Aside0.mk hc2
  clear hr2 hc2
  have HB := Aside0.mk (Below.refl w.heap.size w)
  have H : ((laws_szShipS.f l1 1048576).bind fun t257 => (if t257 < 0 then (some true) else ((laws_szBerthS.f l2 t257).bind fun t258 => (if t258 < 0 then (some true) else ((laws_toShipS.f k l1).bind fun t259 => ((laws_toBerthS.f k l2).bind fun t262 => ((spec_PlanCost.f k a0 t259 t262).bind fun bt265 => ((laws_toShipS.f k l1).bind fun t267 => ((laws_toBerthS.f k l2).bind fun t270 => ((impl_PlanCost.f k a0 t267 t270).bind fun bt273 => (if bt273.1 = bt265.1 then (laws_FnExactPlanCost.j0 k l1 l2 t267 t270 (bt273.2 != bt265.2)) else (laws_FnExactPlanCost.j0 k l1 l2 t267 t270 true)))))))))))) = some r := h
  clear h
  replace H := Option.bind_eq_some_iff.mp H
  obtain ⟨t257, A40, H⟩ := H
  replace H : (if t257 < 0 then (some true) else ((laws_szBerthS.f l2 t257).bind fun t258 => (if t258 < 0 then (some true) else ((laws_toShipS.f k l1).bind fun t259 => ((laws_toBerthS.f k l2).bind fun t262 => ((spec_PlanCost.f k a0 t259 t262).bind fun bt265 => ((laws_toShipS.f k l1).bind fun t267 => ((laws_toBerthS.f k l2).bind fun t270 => ((impl_PlanCost.f k a0 t267 t270).bind fun bt273 => (if bt273.1 = bt265.1 then (laws_FnExactPlanCost.j0 k l1 l2 t267 t270 (bt273.2 != bt265.2)) else (laws_FnExactPlanCost.j0 k l1 l2 t267 t270 true))))))))))) = some r := H
  have A4 := Aside0.mk A40
  clear A40
  by_cases c5 : t257 < 0
  · rw [if_pos c5] at H
    have c5b0 : decide (t257 < 0) = true := decide_eq_true c5
    clear c5
    obtain rfl := Option.some.inj H
    go_enter Try.func5, Try.ntmps5
    go_wp2_with (first | ((with_reducible refine gate_callee (f := 13) rfl ?_); refine goesL_ (some 16) rfl rfl Try.func13 (by kernel_rfl) rfl #[.slice A1 l1.length c1, .int .i64 1048576] rfl (by (try simp only [List.map_toArray, List.map_cons, List.map_nil]); first | done | rfl | (simp only [List.length_drop, List.length_take]; rfl)) ?_; (with_reducible refine (laws_szShipS.calls _ _ l1 1048576 t257 _ ?side1 ?side2 A4.out).mono ?_); (case side1 => repeat (first | exact HR1.out | (with_reducible refine Kd.C_alloc ?_ _) | (with_reducible refine Kd.C_drewN ?_ _) | (with_reducible refine Kd.C_drew ?_))); (case side2 => exact HC1.out); rintro e w' ⟨rfl, ⟨nd, rfl⟩⟩; refine ⟨_, rfl, ?_⟩))
    go_ret
    exact ⟨by first | rfl | (simp [errW_none, errW_some] <;> rfl) | (simp [*, errW_none, errW_some] <;> rfl), by repeat (first | (with_reducible first | exact HB.out | apply below_alloc | apply pw_below_drewN | apply below_drew1) | exact HB.out)⟩
  · rw [if_neg c5] at H
    have c5b0 : decide (t257 < 0) = false := decide_eq_false c5
    clear c5
    replace H := Option.bind_eq_some_iff.mp H
    obtain ⟨t258, A60, H⟩ := H
    replace H : (if t258 < 0 then (some true) else ((laws_toShipS.f k l1).bind fun t259 => ((laws_toBerthS.f k l2).bind fun t262 => ((spec_PlanCost.f k a0 t259 t262).bind fun bt265 => ((laws_toShipS.f k l1).bind fun t267 => ((laws_toBerthS.f k l2).bind fun t270 => ((impl_PlanCost.f k a0 t267 t270).bind fun bt273 => (if bt273.1 = bt265.1 then (laws_FnExactPlanCost.j0 k l1 l2 t267 t270 (bt273.2 != bt265.2)) else (laws_FnExactPlanCost.j0 k l1 l2 t267 t270 true))))))))) = some r := H
    have A6 := Aside0.mk A60
    clear A60
    by_cases c7 : t258 < 0
    · rw [if_pos c7] at H
      have c7b0 : decide (t258 < 0) = true := decide_eq_true c7
      clear c7
      obtain rfl := Option.some.inj H
      go_enter Try.func5, Try.ntmps5
      go_wp2_with (first | ((with_reducible refine gate_callee (f := 13) rfl ?_); refine goesL_ (some 16) rfl rfl Try.func13 (by kernel_rfl) rfl #[.slice A1 l1.length c1, .int .i64 1048576] rfl (by (try simp only [List.map_toArray, List.map_cons, List.map_nil]); first | done | rfl | (simp only [List.length_drop, List.length_take]; rfl)) ?_; (with_reducible refine (laws_szShipS.calls _ _ l1 1048576 t257 _ ?side1 ?side2 A4.out).mono ?_); (case side1 => repeat (first | exact HR1.out | (with_reducible refine Kd.C_alloc ?_ _) | (with_reducible refine Kd.C_drewN ?_ _) | (with_reducible refine Kd.C_drew ?_))); (case side2 => exact HC1.out); rintro e w' ⟨rfl, ⟨nd, rfl⟩⟩; refine ⟨_, rfl, ?_⟩) | ((with_reducible refine gate_callee (f := 14) rfl ?_); refine goesL_ (some 21) rfl rfl Try.func14 (by kernel_rfl) rfl #[.slice A2 l2.length c2, .int .i64 t257] rfl (by (try simp only [List.map_toArray, List.map_cons, List.map_nil]); first | done | rfl | (simp only [List.length_drop, List.length_take]; rfl)) ?_; (with_reducible refine (laws_szBerthS.calls _ _ l2 t257 t258 _ ?side1 ?side2 A6.out).mono ?_); (case side1 => repeat (first | exact HR2.out | (with_reducible refine Kd.C_alloc ?_ _) | (with_reducible refine Kd.C_drewN ?_ _) | (with_reducible refine Kd.C_drew ?_))); (case side2 => exact HC2.out); rintro e w' ⟨rfl, ⟨nd, rfl⟩⟩; refine ⟨_, rfl, ?_⟩))
      go_ret
      exact ⟨by first | rfl | (simp [errW_none, errW_some] <;> rfl) | (simp [*, errW_none, errW_some] <;> rfl), by repeat (first | (with_reducible first | exact HB.out | apply below_alloc | apply pw_below_drewN | apply below_drew1) | exact HB.out)⟩
    · rw [if_neg c7] at H
      have c7b0 : decide (t258 < 0) = false := decide_eq_false c7
      clear c7
      replace H := Option.bind_eq_some_iff.mp H
      obtain ⟨t259, A80, H⟩ := H
      replace H : ((laws_toBerthS.f k l2).bind fun t262 => ((spec_PlanCost.f k a0 t259 t262).bind fun bt265 => ((laws_toShipS.f k l1).bind fun t267 => ((laws_toBerthS.f k l2).bind fun t270 => ((impl_PlanCost.f k a0 t267 t270).bind fun bt273 => (if bt273.1 = bt265.1 then (laws_FnExactPlanCost.j0 k l1 l2 t267 t270 (bt273.2 != bt265.2)) else (laws_FnExactPlanCost.j0 k l1 l2 t267 t270 true))))))) = some r := H
      have A8 := Aside0.mk A80
      clear A80
      replace H := Option.bind_eq_some_iff.mp H
      obtain ⟨t262, A90, H⟩ := H
      replace H : ((spec_PlanCost.f k a0 t259 t262).bind fun bt265 => ((laws_toShipS.f k l1).bind fun t267 => ((laws_toBerthS.f k l2).bind fun t270 => ((impl_PlanCost.f k a0 t267 t270).bind fun bt273 => (if bt273.1 = bt265.1 then (laws_FnExactPlanCost.j0 k l1 l2 t267 t270 (bt273.2 != bt265.2)) else (laws_FnExactPlanCost.j0 k l1 l2 t267 t270 true)))))) = some r := H
      have A9 := Aside0.mk A90
      clear A90
      replace H := Option.bind_eq_some_iff.mp H
      obtain ⟨⟨t265, t266⟩, A100, H⟩ := H
      replace H : ((laws_toShipS.f k l1).bind fun t267 => ((laws_toBerthS.f k l2).bind fun t270 => ((impl_PlanCost.f k a0 t267 t270).bind fun bt273 => (if bt273.1 = t265 then (laws_FnExactPlanCost.j0 k l1 l2 t267 t270 (bt273.2 != t266)) else (laws_FnExactPlanCost.j0 k l1 l2 t267 t270 true))))) = some r := H
      have A10 := Aside0.mk A100
      clear A100
      replace H := Option.bind_eq_some_iff.mp H
      obtain ⟨t267, A110, H⟩ := H
      replace H : ((laws_toBerthS.f k l2).bind fun t270 => ((impl_PlanCost.f k a0 t267 t270).bind fun bt273 => (if bt273.1 = t265 then (laws_FnExactPlanCost.j0 k l1 l2 t267 t270 (bt273.2 != t266)) else (laws_FnExactPlanCost.j0 k l1 l2 t267 t270 true)))) = some r := H
      have A11 := Aside0.mk A110
      clear A110
      replace H := Option.bind_eq_some_iff.mp H
      obtain ⟨t270, A120, H⟩ := H
      replace H : ((impl_PlanCost.f k a0 t267 t270).bind fun bt273 => (if bt273.1 = t265 then (laws_FnExactPlanCost.j0 k l1 l2 t267 t270 (bt273.2 != t266)) else (laws_FnExactPlanCost.j0 k l1 l2 t267 t270 true))) = some r := H
      have A12 := Aside0.mk A120
      clear A120
      replace H := Option.bind_eq_some_iff.mp H
      obtain ⟨⟨t273, t274⟩, A130, H⟩ := H
      replace H : (if t273 = t265 then (laws_FnExactPlanCost.j0 k l1 l2 t267 t270 (t274 != t266)) else (laws_FnExactPlanCost.j0 k l1 l2 t267 t270 true)) = some r := H
      have A13 := Aside0.mk A130
      clear A130
      have HC14 := Aside0.mk H
      clear H
      go_enter Try.func5, Try.ntmps5
      go_upto_region 12 with (first | ((with_reducible refine gate_callee (f := 13) rfl ?_); refine goesL_ (some 16) rfl rfl Try.func13 (by kernel_rfl) rfl #[.slice A1 l1.length c1, .int .i64 1048576] rfl (by (try simp only [List.map_toArray, List.map_cons, List.map_nil]); first | done | rfl | (simp only [List.length_drop, List.length_take]; rfl)) ?_; (with_reducible refine (laws_szShipS.calls _ _ l1 1048576 t257 _ ?side1 ?side2 A4.out).mono ?_); (case side1 => repeat (first | exact HR1.out | (with_reducible refine Kd.C_alloc ?_ _) | (with_reducible refine Kd.C_drewN ?_ _) | (with_reducible refine Kd.C_drew ?_))); (case side2 => exact HC1.out); rintro e w' ⟨rfl, ⟨nd, rfl⟩⟩; refine ⟨_, rfl, ?_⟩) | ((with_reducible refine gate_callee (f := 14) rfl ?_); refine goesL_ (some 21) rfl rfl Try.func14 (by kernel_rfl) rfl #[.slice A2 l2.length c2, .int .i64 t257] rfl (by (try simp only [List.map_toArray, List.map_cons, List.map_nil]); first | done | rfl | (simp only [List.length_drop, List.length_take]; rfl)) ?_; (with_reducible refine (laws_szBerthS.calls _ _ l2 t257 t258 _ ?side1 ?side2 A6.out).mono ?_); (case side1 => repeat (first | exact HR2.out | (with_reducible refine Kd.C_alloc ?_ _) | (with_reducible refine Kd.C_drewN ?_ _) | (with_reducible refine Kd.C_drew ?_))); (case side2 => exact HC2.out); rintro e w' ⟨rfl, ⟨nd, rfl⟩⟩; refine ⟨_, rfl, ?_⟩) | ((with_reducible refine gate_callee (f := 16) rfl ?_); refine goesL_ (some 27) rfl rfl Try.func16 (by kernel_rfl) rfl #[.slice A1 l1.length c1] rfl (by (try simp only [List.map_toArray, List.map_cons, List.map_nil]); first | done | rfl | (simp only [List.length_drop, List.length_take]; rfl)) ?_; (with_reducible refine (laws_toShipS.calls k _ _ l1 t259 _ ?side1 ?side2 A8.out).mono ?_); (case side1 => repeat (first | exact HR1.out | (with_reducible refine Kd.C_alloc ?_ _) | (with_reducible refine Kd.C_drewN ?_ _) | (with_reducible refine Kd.C_drew ?_))); (case side2 => exact HC1.out); rintro e w15 ⟨v260, rfl, ho0, hb⟩; refine ⟨_, rfl, ?_⟩; have n0_ := Aside0.mk (Kd.R_lower ho0 (below_size (by repeat (first | (with_reducible first | exact HB.out | apply below_alloc | apply pw_below_drewN | apply below_drew1) | exact HB.out)))); have n1_ := Aside0.mk (below_step (by repeat (first | (with_reducible first | exact HB.out | apply below_alloc | apply pw_below_drewN | apply below_drew1) | exact HB.out)) hb); clear HB; have HO261 := n0_; have HB := n1_; clear n0_ n1_; (try clear hb); (try clear hb2); (try clear hk); (try clear hi); (try clear ho0)) | ((with_reducible refine gate_callee (f := 17) rfl ?_); refine goesL_ (some 29) rfl rfl Try.func17 (by kernel_rfl) rfl #[.slice A2 l2.length c2] rfl (by (try simp only [List.map_toArray, List.map_cons, List.map_nil]); first | done | rfl | (simp only [List.length_drop, List.length_take]; rfl)) ?_; (with_reducible refine (laws_toBerthS.calls k _ _ l2 t262 _ ?side1 ?side2 A9.out).mono ?_); (case side1 => repeat (first | exact (Kd.C_below HR2.out HB.out) | (with_reducible refine Kd.C_alloc ?_ _) | (with_reducible refine Kd.C_drewN ?_ _) | (with_reducible refine Kd.C_drew ?_))); (case side2 => exact HC2.out); rintro e w16 ⟨v263, rfl, ho0, hb⟩; refine ⟨_, rfl, ?_⟩; have n0_ := Aside0.mk (Kd.R_below (by (with_reducible repeat (first | apply Kd.R_alloc | apply Kd.R_drewN | apply Kd.R_drew)); exact HO261.out) hb); have n1_ := Aside0.mk (Kd.R_lower ho0 (below_size (by repeat (first | (with_reducible first | exact HB.out | apply below_alloc | apply pw_below_drewN | apply below_drew1) | exact HB.out)))); have n2_ := Aside0.mk (below_step (by repeat (first | (with_reducible first | exact HB.out | apply below_alloc | apply pw_below_drewN | apply below_drew1) | exact HB.out)) hb); clear HO261; clear HB; have HO261 := n0_; have HO264 := n1_; have HB := n2_; clear n0_ n1_ n2_; (try clear hb); (try clear hb2); (try clear hk); (try clear hi); (try clear ho0); obtain ⟨Ao17, co17, eo17⟩ := Kd.R_slice HO261.out; subst eo17; obtain ⟨Ao18, co18, eo18⟩ := Kd.R_slice HO264.out; subst eo18) | ((with_reducible refine gate_callee (f := 23) rfl ?_); refine goesL_ (some 30) rfl rfl Try.func23 (by kernel_rfl) rfl #[.int .i64 a0, .slice Ao17 t259.length co17, .slice Ao18 t262.length co18] rfl (by (try simp only [List.map_toArray, List.map_cons, List.map_nil]); first | done | rfl | (simp only [List.length_drop, List.length_take]; rfl)) ?_; (with_reducible refine (spec_PlanCost.calls k a0 _ _ t259 _ _ t262 t265 t266 _ ?side1 ?side2 ?side3 ?side4 A10.out).mono ?_); (case side1 => repeat (first | exact (Kd.R_reads' HO261.out).2.2 | (with_reducible refine Kd.C_alloc ?_ _) | (with_reducible refine Kd.C_drewN ?_ _) | (with_reducible refine Kd.C_drew ?_))); (case side2 => exact (Kd.R_reads' HO261.out).2.1); (case side3 => repeat (first | exact (Kd.R_reads' HO264.out).2.2 | (with_reducible refine Kd.C_alloc ?_ _) | (with_reducible refine Kd.C_drewN ?_ _) | (with_reducible refine Kd.C_drew ?_))); (case side4 => exact (Kd.R_reads' HO264.out).2.1); rintro e w19 ⟨rfl, hb⟩; refine ⟨_, rfl, ?_⟩; have n0_ := Aside0.mk (Kd.R_below (by (with_reducible repeat (first | apply Kd.R_alloc | apply Kd.R_drewN | apply Kd.R_drew)); exact HO261.out) hb); have n1_ := Aside0.mk (Kd.R_below (by (with_reducible repeat (first | apply Kd.R_alloc | apply Kd.R_drewN | apply Kd.R_drew)); exact HO264.out) hb); have n2_ := Aside0.mk (below_step (by repeat (first | (with_reducible first | exact HB.out | apply below_alloc | apply pw_below_drewN | apply below_drew1) | exact HB.out)) hb); clear HO261; clear HO264; clear HB; have HO261 := n0_; have HO264 := n1_; have HB := n2_; clear n0_ n1_ n2_; (try clear hb); (try clear hb2); (try clear hk); (try clear hi)) | ((with_reducible refine gate_callee (f := 16) rfl ?_); refine goesL_ (some 34) rfl rfl Try.func16 (by kernel_rfl) rfl #[.slice A1 l1.length c1] rfl (by (try simp only [List.map_toArray, List.map_cons, List.map_nil]); first | done | rfl | (simp only [List.length_drop, List.length_take]; rfl)) ?_; (with_reducible refine (laws_toShipS.calls k _ _ l1 t267 _ ?side1 ?side2 A11.out).mono ?_); (case side1 => repeat (first | exact (Kd.C_below HR1.out HB.out) | (with_reducible refine Kd.C_alloc ?_ _) | (with_reducible refine Kd.C_drewN ?_ _) | (with_reducible refine Kd.C_drew ?_))); (case side2 => exact HC1.out); rintro e w20 ⟨v268, rfl, ho0, hb⟩; refine ⟨_, rfl, ?_⟩; have n0_ := Aside0.mk (Kd.R_elder' (by (with_reducible repeat (first | apply Kd.R_alloc | apply Kd.R_drewN | apply Kd.R_drew)); exact HO261.out) (Kd.R_base ho0) hb); have n1_ := Aside0.mk (Kd.R_below (by (with_reducible repeat (first | apply Kd.R_alloc | apply Kd.R_drewN | apply Kd.R_drew)); exact HO264.out) hb); have n2_ := Aside0.mk (Kd.R_lower (Kd.R_new' ho0 (Kd.R_lt (by (with_reducible repeat (first | apply Kd.R_alloc | apply Kd.R_drewN | apply Kd.R_drew)); exact HO261.out))) (below_size (by repeat (first | (with_reducible first | exact HB.out | apply below_alloc | apply pw_below_drewN | apply below_drew1) | exact HB.out)))); have n3_ := Aside0.mk (below_step (by repeat (first | (with_reducible first | exact HB.out | apply below_alloc | apply pw_below_drewN | apply below_drew1) | exact HB.out)) hb); clear HO261; clear HO264; clear HB; have HO261 := n0_; have HO264 := n1_; have HO269 := n2_; have HB := n3_; clear n0_ n1_ n2_ n3_; (try clear hb); (try clear hb2); (try clear hk); (try clear hi); (try clear ho0)) | ((with_reducible refine gate_callee (f := 17) rfl ?_); refine goesL_ (some 36) rfl rfl Try.func17 (by kernel_rfl) rfl #[.slice A2 l2.length c2] rfl (by (try simp only [List.map_toArray, List.map_cons, List.map_nil]); first | done | rfl | (simp only [List.length_drop, List.length_take]; rfl)) ?_; (with_reducible refine (laws_toBerthS.calls k _ _ l2 t270 _ ?side1 ?side2 A12.out).mono ?_); (case side1 => repeat (first | exact (Kd.C_below HR2.out HB.out) | (with_reducible refine Kd.C_alloc ?_ _) | (with_reducible refine Kd.C_drewN ?_ _) | (with_reducible refine Kd.C_drew ?_))); (case side2 => exact HC2.out); rintro e w21 ⟨v271, rfl, ho0, hb⟩; refine ⟨_, rfl, ?_⟩; have n0_ := Aside0.mk (Kd.R_below (by (with_reducible repeat (first | apply Kd.R_alloc | apply Kd.R_drewN | apply Kd.R_drew)); exact HO261.out) hb); have n1_ := Aside0.mk (Kd.R_elder' (by (with_reducible repeat (first | apply Kd.R_alloc | apply Kd.R_drewN | apply Kd.R_drew)); exact HO264.out) (Kd.R_base ho0) hb); have n2_ := Aside0.mk (Kd.R_below (by (with_reducible repeat (first | apply Kd.R_alloc | apply Kd.R_drewN | apply Kd.R_drew)); exact HO269.out) hb); have n3_ := Aside0.mk (Kd.R_lower (Kd.R_new' ho0 (Kd.R_lt (by (with_reducible repeat (first | apply Kd.R_alloc | apply Kd.R_drewN | apply Kd.R_drew)); exact HO264.out))) (below_size (by repeat (first | (with_reducible first | exact HB.out | apply below_alloc | apply pw_below_drewN | apply below_drew1) | exact HB.out)))); have n4_ := Aside0.mk (below_step (by repeat (first | (with_reducible first | exact HB.out | apply below_alloc | apply pw_below_drewN | apply below_drew1) | exact HB.out)) hb); clear HO261; clear HO264; clear HO269; clear HB; have HO261 := n0_; have HO264 := n1_; have HO269 := n2_; have HO272 := n3_; have HB := n4_; clear n0_ n1_ n2_ n3_ n4_; (try clear hb); (try clear hb2); (try clear hk); (try clear hi); (try clear ho0); obtain ⟨Ao22, co22, eo22⟩ := Kd.R_slice HO269.out; subst eo22; obtain ⟨Ao23, co23, eo23⟩ := Kd.R_slice HO272.out; subst eo23) | ((with_reducible refine gate_callee (f := 24) rfl ?_); refine goesL_ (some 41) rfl rfl Try.func24 (by kernel_rfl) rfl #[.int .i64 a0, .slice Ao22 t267.length co22, .slice Ao23 t270.length co23] rfl (by (try simp only [List.map_toArray, List.map_cons, List.map_nil]); first | done | rfl | (simp only [List.length_drop, List.length_take]; rfl)) ?_; (with_reducible refine (impl_PlanCost.calls k a0 _ _ t267 _ _ t270 t273 t274 _ ?side1 ?side2 ?side3 ?side4 A13.out).mono ?_); (case side1 => repeat (first | exact (Kd.R_reads' HO269.out).2.2 | (with_reducible refine Kd.C_alloc ?_ _) | (with_reducible refine Kd.C_drewN ?_ _) | (with_reducible refine Kd.C_drew ?_))); (case side2 => exact (Kd.R_reads' HO269.out).2.1); (case side3 => repeat (first | exact (Kd.R_reads' HO272.out).2.2 | (with_reducible refine Kd.C_alloc ?_ _) | (with_reducible refine Kd.C_drewN ?_ _) | (with_reducible refine Kd.C_drew ?_))); (case side4 => exact (Kd.R_reads' HO272.out).2.1); rintro e w24 ⟨rfl, hb⟩; refine ⟨_, rfl, ?_⟩; have n0_ := Aside0.mk (Kd.R_below (by (with_reducible repeat (first | apply Kd.R_alloc | apply Kd.R_drewN | apply Kd.R_drew)); exact HO261.out) hb); have n1_ := Aside0.mk (Kd.R_below (by (with_reducible repeat (first | apply Kd.R_alloc | apply Kd.R_drewN | apply Kd.R_drew)); exact HO264.out) hb); have n2_ := Aside0.mk (Kd.R_below (by (with_reducible repeat (first | apply Kd.R_alloc | apply Kd.R_drewN | apply Kd.R_drew)); exact HO269.out) hb); have n3_ := Aside0.mk (Kd.R_below (by (with_reducible repeat (first | apply Kd.R_alloc | apply Kd.R_drewN | apply Kd.R_drew)); exact HO272.out) hb); have n4_ := Aside0.mk (below_step (by repeat (first | (with_reducible first | exact HB.out | apply below_alloc | apply pw_below_drewN | apply below_drew1) | exact HB.out)) hb); clear HO261; clear HO264; clear HO269; clear HO272; clear HB; have HO261 := n0_; have HO264 := n1_; have HO269 := n2_; have HO272 := n3_; have HB := n4_; clear n0_ n1_ n2_ n3_ n4_; (try clear hb); (try clear hb2); (try clear hk); (try clear hi)))
      (try simp only [Act.put, List.setIfInBounds_toArray, List.set_cons_zero, List.set_cons_succ])
      go_cut [51] (fun v51 wc => ∃ (kq : Nat) (x51_13 : Bool), v51 = .bool x51_13 ∧ Aside0 (laws_FnExactPlanCost.j0 kq l1 l2 t267 t270 x51_13 = some r) ∧ Aside0 (kq ≤ k) ∧ Aside0 (Kd.R k62 62 wc w.heap.size (fun _ => True) (.slice Ao22 t267.length co22) t267) ∧ Aside0 (Kd.R k37 37 wc w.heap.size (fun _ => True) (.slice Ao23 t270.length co23) t270) ∧ Aside0 (Below w.heap.size w wc))
      case first =>
        have H := HC14.out
        clear HC14
        by_cases c25 : t273 = t265
        · rw [if_pos c25] at H
          have c25b0 : (t273 == t265) = true := beq_iff_eq.mpr c25
          have c25b1 : (t273 != t265) = false := bne_eq_false_iff_eq.mpr c25
          clear c25
          (first | rw [c25b0] | (simp only [i64_w, i32_w]; rw [c25b0]) | skip)
          have H' := Aside0.mk H
          clear H
          go_wp2
          go_meet
          case rel => exact ⟨_, ((t274 != t266)), (by first | rfl | (simp; done) | (simp [*]; done)), H', ⟨by first | omega | exact Nat.le_refl _⟩, ⟨by (with_reducible repeat (first | apply Kd.R_alloc | apply Kd.R_drewN | apply Kd.R_drew)); exact Kd.R_mono HO269.out (fun _ hk => trivial)⟩, ⟨by (with_reducible repeat (first | apply Kd.R_alloc | apply Kd.R_drewN | apply Kd.R_drew)); exact Kd.R_mono HO272.out (fun _ hk => trivial)⟩, ⟨by repeat (first | (with_reducible first | exact HB.out | apply below_alloc | apply pw_below_drewN | apply below_drew1) | exact HB.out)⟩⟩
        · rw [if_neg c25] at H
          have c25b0 : (t273 == t265) = false := beq_eq_false_iff_ne.mpr c25
          have c25b1 : (t273 != t265) = true := bne_iff_ne.mpr c25
          (first | rw [c25b0] | (simp only [i64_w, i32_w]; rw [c25b0]) | skip)
          have H' := Aside0.mk H
          clear H
          go_wp2
          go_meet
          case rel => exact ⟨_, (true), (by first | rfl | (simp; done) | (simp [*]; done)), H', ⟨by first | omega | exact Nat.le_refl _⟩, ⟨by (with_reducible repeat (first | apply Kd.R_alloc | apply Kd.R_drewN | apply Kd.R_drew)); exact Kd.R_mono HO269.out (fun _ hk => trivial)⟩, ⟨by (with_reducible repeat (first | apply Kd.R_alloc | apply Kd.R_drewN | apply Kd.R_drew)); exact Kd.R_mono HO272.out (fun _ hk => trivial)⟩, ⟨by repeat (first | (with_reducible first | exact HB.out | apply below_alloc | apply pw_below_drewN | apply below_drew1) | exact HB.out)⟩⟩
      case rest =>
        clear HC14
        try clear c1
        try clear c2
        try clear p2
        try clear c5
        try clear c5b0
        try clear c7
        try clear c7b0
        try clear c13
        try clear c14
        try clear c16
        try clear c17
        try clear c23
        try clear c24
        try clear c25
        try clear c25b0
        try clear c25b1
        obtain ⟨kq, x51_13, rfl, HA, HJ13, HO_10, HO_11, HB⟩ := hcut
        cases kq with
        | zero => exact absurd HA.out (by simp [laws_FnExactPlanCost.j0])
        | succ kj13 =>
          have H := HA.out
          clear HA
          simp only [laws_FnExactPlanCost.j0] at H
          by_cases c26 : x51_13 = true
          · subst c26
            have H1 : (some false) = some r := by rw [if_pos rfl] at H; exact H
            clear H
            have H := H1
            clear H1
            obtain rfl := Option.some.inj H
            go_wp2
            go_ret
            exact ⟨by first | rfl | (simp [errW_none, errW_some] <;> rfl) | (simp [*, errW_none, errW_some] <;> rfl), by repeat (first | (with_reducible first | exact HB.out | apply below_alloc | apply pw_below_drewN | apply below_drew1) | exact HB.out)⟩
          · replace c26 := Bool.eq_false_iff.mpr c26
            subst c26
            have H1 : ((laws_toShipS.f kj13 l1).bind fun t275 => ((laws_eqShipS.f kj13 t267 t275).bind fun t278 => (if t278 = true then ((laws_toBerthS.f kj13 l2).bind fun t279 => ((laws_eqBerthS.f kj13 t270 t279).bind fun t282 => (if t282 = true then (some true) else (some false)))) else (some false)))) = some r := by rw [if_neg (show ¬ (false = true) by decide)] at H; exact H
            clear H
            have H := H1
            clear H1
            replace H := Option.bind_eq_some_iff.mp H
            obtain ⟨t275, A270, H⟩ := H
            replace H : ((laws_eqShipS.f kj13 t267 t275).bind fun t278 => (if t278 = true then ((laws_toBerthS.f kj13 l2).bind fun t279 => ((laws_eqBerthS.f kj13 t270 t279).bind fun t282 => (if t282 = true then (some true) else (some false)))) else (some false))) = some r := H
            have A27 := Aside0.mk A270
            clear A270
            replace H := Option.bind_eq_some_iff.mp H
            obtain ⟨t278, A280, H⟩ := H
            replace H : (if t278 = true then ((laws_toBerthS.f kj13 l2).bind fun t279 => ((laws_eqBerthS.f kj13 t270 t279).bind fun t282 => (if t282 = true then (some true) else (some false)))) else (some false)) = some r := H
            have A28 := Aside0.mk A280
            clear A280
            by_cases c29 : t278 = true
            · subst c29
              have H1 : ((laws_toBerthS.f kj13 l2).bind fun t279 => ((laws_eqBerthS.f kj13 t270 t279).bind fun t282 => (if t282 = true then (some true) else (some false)))) = some r := by rw [if_pos rfl] at H; exact H
              clear H
              have H := H1
              clear H1
              replace H := Option.bind_eq_some_iff.mp H
              obtain ⟨t279, A300, H⟩ := H
              replace H : ((laws_eqBerthS.f kj13 t270 t279).bind fun t282 => (if t282 = true then (some true) else (some false))) = some r := H
              have A30 := Aside0.mk A300
              clear A300
              replace H := Option.bind_eq_some_iff.mp H
              obtain ⟨t282, A310, H⟩ := H
              replace H : (if t282 = true then (some true) else (some false)) = some r := H
              have A31 := Aside0.mk A310
              clear A310
              by_cases c32 : t282 = true
              · subst c32
                have H1 : (some true) = some r := by rw [if_pos rfl] at H; exact H
                clear H
                have H := H1
                clear H1
                obtain rfl := Option.some.inj H
                go_wp2_with (first | ((with_reducible refine gate_callee (f := 16) rfl ?_); refine goesL_ (some 54) rfl rfl Try.func16 (by kernel_rfl) rfl #[.slice A1 l1.length c1] rfl (by (try simp only [List.map_toArray, List.map_cons, List.map_nil]); first | done | rfl | (simp only [List.length_drop, List.length_take]; rfl)) ?_; (with_reducible refine (laws_toShipS.calls kj13 _ _ l1 t275 _ ?side1 ?side2 A27.out).mono ?_); (case side1 => repeat (first | exact (Kd.C_below HR1.out HB.out) | (with_reducible refine Kd.C_alloc ?_ _) | (with_reducible refine Kd.C_drewN ?_ _) | (with_reducible refine Kd.C_drew ?_))); (case side2 => exact HC1.out); rintro e w33 ⟨v276, rfl, ho0, hb⟩; refine ⟨_, rfl, ?_⟩; have n0_ := Aside0.mk (Kd.R_elder' (by (with_reducible repeat (first | apply Kd.R_alloc | apply Kd.R_drewN | apply Kd.R_drew)); exact HO_10.out) (Kd.R_base ho0) hb); have n1_ := Aside0.mk (Kd.R_below (by (with_reducible repeat (first | apply Kd.R_alloc | apply Kd.R_drewN | apply Kd.R_drew)); exact HO_11.out) hb); have n2_ := Aside0.mk (Kd.R_lower (Kd.R_new' ho0 (Kd.R_lt (by (with_reducible repeat (first | apply Kd.R_alloc | apply Kd.R_drewN | apply Kd.R_drew)); exact HO_10.out))) (below_size (by repeat (first | (with_reducible first | exact HB.out | apply below_alloc | apply pw_below_drewN | apply below_drew1) | exact HB.out)))); have n3_ := Aside0.mk (below_step (by repeat (first | (with_reducible first | exact HB.out | apply below_alloc | apply pw_below_drewN | apply below_drew1) | exact HB.out)) hb); clear HO_10; clear HO_11; clear HB; have HO_10 := n0_; have HO_11 := n1_; have HO277 := n2_; have HB := n3_; clear n0_ n1_ n2_ n3_; (try clear hb); (try clear hb2); (try clear hk); (try clear hi); (try clear ho0); obtain ⟨Ao34, co34, eo34⟩ := Kd.R_slice HO277.out; subst eo34) | ((with_reducible refine gate_callee (f := 19) rfl ?_); refine goesL_ (some 55) rfl rfl Try.func19 (by kernel_rfl) rfl #[.slice Ao22 t267.length co22, .slice Ao34 t275.length co34] rfl (by (try simp only [List.map_toArray, List.map_cons, List.map_nil]); first | done | rfl | (simp only [List.length_drop, List.length_take]; rfl)) ?_; (with_reducible refine (laws_eqShipS.calls kj13 _ _ t267 _ _ t275 true _ ?side1 ?side2 ?side3 ?side4 A28.out).mono ?_); (case side1 => repeat (first | exact (Kd.R_reads' HO_10.out).2.2 | (with_reducible refine Kd.C_alloc ?_ _) | (with_reducible refine Kd.C_drewN ?_ _) | (with_reducible refine Kd.C_drew ?_))); (case side2 => exact (Kd.R_reads' HO_10.out).2.1); (case side3 => repeat (first | exact (Kd.R_reads' HO277.out).2.2 | (with_reducible refine Kd.C_alloc ?_ _) | (with_reducible refine Kd.C_drewN ?_ _) | (with_reducible refine Kd.C_drew ?_))); (case side4 => exact (Kd.R_reads' HO277.out).2.1); rintro e w35 ⟨rfl, hb⟩; refine ⟨_, rfl, ?_⟩; have n0_ := Aside0.mk (Kd.R_below (by (with_reducible repeat (first | apply Kd.R_alloc | apply Kd.R_drewN | apply Kd.R_drew)); exact HO_10.out) hb); have n1_ := Aside0.mk (Kd.R_below (by (with_reducible repeat (first | apply Kd.R_alloc | apply Kd.R_drewN | apply Kd.R_drew)); exact HO_11.out) hb); have n2_ := Aside0.mk (Kd.R_below (by (with_reducible repeat (first | apply Kd.R_alloc | apply Kd.R_drewN | apply Kd.R_drew)); exact HO277.out) hb); have n3_ := Aside0.mk (below_step (by repeat (first | (with_reducible first | exact HB.out | apply below_alloc | apply pw_below_drewN | apply below_drew1) | exact HB.out)) hb); clear HO_10; clear HO_11; clear HO277; clear HB; have HO_10 := n0_; have HO_11 := n1_; have HO277 := n2_; have HB := n3_; clear n0_ n1_ n2_ n3_; (try clear hb); (try clear hb2); (try clear hk); (try clear hi)) | ((with_reducible refine gate_callee (f := 17) rfl ?_); refine goesL_ (some 59) rfl rfl Try.func17 (by kernel_rfl) rfl #[.slice A2 l2.length c2] rfl (by (try simp only [List.map_toArray, List.map_cons, List.map_nil]); first | done | rfl | (simp only [List.length_drop, List.length_take]; rfl)) ?_; (with_reducible refine (laws_toBerthS.calls kj13 _ _ l2 t279 _ ?side1 ?side2 A30.out).mono ?_); (case side1 => repeat (first | exact (Kd.C_below HR2.out HB.out) | (with_reducible refine Kd.C_alloc ?_ _) | (with_reducible refine Kd.C_drewN ?_ _) | (with_reducible refine Kd.C_drew ?_))); (case side2 => exact HC2.out); rintro e w36 ⟨v280, rfl, ho0, hb⟩; refine ⟨_, rfl, ?_⟩; have n0_ := Aside0.mk (Kd.R_below (by (with_reducible repeat (first | apply Kd.R_alloc | apply Kd.R_drewN | apply Kd.R_drew)); exact HO_10.out) hb); have n1_ := Aside0.mk (Kd.R_elder' (by (with_reducible repeat (first | apply Kd.R_alloc | apply Kd.R_drewN | apply Kd.R_drew)); exact HO_11.out) (Kd.R_base ho0) hb); have n2_ := Aside0.mk (Kd.R_below (by (with_reducible repeat (first | apply Kd.R_alloc | apply Kd.R_drewN | apply Kd.R_drew)); exact HO277.out) hb); have n3_ := Aside0.mk (Kd.R_lower (Kd.R_new' ho0 (Kd.R_lt (by (with_reducible repeat (first | apply Kd.R_alloc | apply Kd.R_drewN | apply Kd.R_drew)); exact HO_11.out))) (below_size (by repeat (first | (with_reducible first | exact HB.out | apply below_alloc | apply pw_below_drewN | apply below_drew1) | exact HB.out)))); have n4_ := Aside0.mk (below_step (by repeat (first | (with_reducible first | exact HB.out | apply below_alloc | apply pw_below_drewN | apply below_drew1) | exact HB.out)) hb); clear HO_10; clear HO_11; clear HO277; clear HB; have HO_10 := n0_; have HO_11 := n1_; have HO277 := n2_; have HO281 := n3_; have HB := n4_; clear n0_ n1_ n2_ n3_ n4_; (try clear hb); (try clear hb2); (try clear hk); (try clear hi); (try clear ho0); obtain ⟨Ao37, co37, eo37⟩ := Kd.R_slice HO281.out; subst eo37) | ((with_reducible refine gate_callee (f := 20) rfl ?_); refine goesL_ (some 60) rfl rfl Try.func20 (by kernel_rfl) rfl #[.slice Ao23 t270.length co23, .slice Ao37 t279.length co37] rfl (by (try simp only [List.map_toArray, List.map_cons, List.map_nil]); first | done | rfl | (simp only [List.length_drop, List.length_take]; rfl)) ?_; (with_reducible refine (laws_eqBerthS.calls kj13 _ _ t270 _ _ t279 true _ ?side1 ?side2 ?side3 ?side4 A31.out).mono ?_); (case side1 => repeat (first | exact (Kd.R_reads' HO_11.out).2.2 | (with_reducible refine Kd.C_alloc ?_ _) | (with_reducible refine Kd.C_drewN ?_ _) | (with_reducible refine Kd.C_drew ?_))); (case side2 => exact (Kd.R_reads' HO_11.out).2.1); (case side3 => repeat (first | exact (Kd.R_reads' HO281.out).2.2 | (with_reducible refine Kd.C_alloc ?_ _) | (with_reducible refine Kd.C_drewN ?_ _) | (with_reducible refine Kd.C_drew ?_))); (case side4 => exact (Kd.R_reads' HO281.out).2.1); rintro e w38 ⟨rfl, hb⟩; refine ⟨_, rfl, ?_⟩; have n0_ := Aside0.mk (Kd.R_below (by (with_reducible repeat (first | apply Kd.R_alloc | apply Kd.R_drewN | apply Kd.R_drew)); exact HO_10.out) hb); have n1_ := Aside0.mk (Kd.R_below (by (with_reducible repeat (first | apply Kd.R_alloc | apply Kd.R_drewN | apply Kd.R_drew)); exact HO_11.out) hb); have n2_ := Aside0.mk (Kd.R_below (by (with_reducible repeat (first | apply Kd.R_alloc | apply Kd.R_drewN | apply Kd.R_drew)); exact HO277.out) hb); have n3_ := Aside0.mk (Kd.R_below (by (with_reducible repeat (first | apply Kd.R_alloc | apply Kd.R_drewN | apply Kd.R_drew)); exact HO281.out) hb); have n4_ := Aside0.mk (below_step (by repeat (first | (with_reducible first | exact HB.out | apply below_alloc | apply pw_below_drewN | apply below_drew1) | exact HB.out)) hb); clear HO_10; clear HO_11; clear HO277; clear HO281; clear HB; have HO_10 := n0_; have HO_11 := n1_; have HO277 := n2_; have HO281 := n3_; have HB := n4_; clear n0_ n1_ n2_ n3_ n4_; (try clear hb); (try clear hb2); (try clear hk); (try clear hi)))
                go_ret
                exact ⟨by first | rfl | (simp [errW_none, errW_some] <;> rfl) | (simp [*, errW_none, errW_some] <;> rfl), by repeat (first | (with_reducible first | exact HB.out | apply below_alloc | apply pw_below_drewN | apply below_drew1) | exact HB.out)⟩
              · replace c32 := Bool.eq_false_iff.mpr c32
                subst c32
                have H1 : (some false) = some r := by rw [if_neg (show ¬ (false = true) by decide)] at H; exact H
                clear H
                have H := H1
                clear H1
                obtain rfl := Option.some.inj H
                go_wp2_with (first | ((with_reducible refine gate_callee (f := 16) rfl ?_); refine goesL_ (some 54) rfl rfl Try.func16 (by kernel_rfl) rfl #[.slice A1 l1.length c1] rfl (by (try simp only [List.map_toArray, List.map_cons, List.map_nil]); first | done | rfl | (simp only [List.length_drop, List.length_take]; rfl)) ?_; (with_reducible refine (laws_toShipS.calls kj13 _ _ l1 t275 _ ?side1 ?side2 A27.out).mono ?_); (case side1 => repeat (first | exact (Kd.C_below HR1.out HB.out) | (with_reducible refine Kd.C_alloc ?_ _) | (with_reducible refine Kd.C_drewN ?_ _) | (with_reducible refine Kd.C_drew ?_))); (case side2 => exact HC1.out); rintro e w39 ⟨v276, rfl, ho0, hb⟩; refine ⟨_, rfl, ?_⟩; have n0_ := Aside0.mk (Kd.R_elder' (by (with_reducible repeat (first | apply Kd.R_alloc | apply Kd.R_drewN | apply Kd.R_drew)); exact HO_10.out) (Kd.R_base ho0) hb); have n1_ := Aside0.mk (Kd.R_below (by (with_reducible repeat (first | apply Kd.R_alloc | apply Kd.R_drewN | apply Kd.R_drew)); exact HO_11.out) hb); have n2_ := Aside0.mk (Kd.R_lower (Kd.R_new' ho0 (Kd.R_lt (by (with_reducible repeat (first | apply Kd.R_alloc | apply Kd.R_drewN | apply Kd.R_drew)); exact HO_10.out))) (below_size (by repeat (first | (with_reducible first | exact HB.out | apply below_alloc | apply pw_below_drewN | apply below_drew1) | exact HB.out)))); have n3_ := Aside0.mk (below_step (by repeat (first | (with_reducible first | exact HB.out | apply below_alloc | apply pw_below_drewN | apply below_drew1) | exact HB.out)) hb); clear HO_10; clear HO_11; clear HB; have HO_10 := n0_; have HO_11 := n1_; have HO277 := n2_; have HB := n3_; clear n0_ n1_ n2_ n3_; (try clear hb); (try clear hb2); (try clear hk); (try clear hi); (try clear ho0); obtain ⟨Ao40, co40, eo40⟩ := Kd.R_slice HO277.out; subst eo40) | ((with_reducible refine gate_callee (f := 19) rfl ?_); refine goesL_ (some 55) rfl rfl Try.func19 (by kernel_rfl) rfl #[.slice Ao22 t267.length co22, .slice Ao40 t275.length co40] rfl (by (try simp only [List.map_toArray, List.map_cons, List.map_nil]); first | done | rfl | (simp only [List.length_drop, List.length_take]; rfl)) ?_; (with_reducible refine (laws_eqShipS.calls kj13 _ _ t267 _ _ t275 true _ ?side1 ?side2 ?side3 ?side4 A28.out).mono ?_); (case side1 => repeat (first | exact (Kd.R_reads' HO_10.out).2.2 | (with_reducible refine Kd.C_alloc ?_ _) | (with_reducible refine Kd.C_drewN ?_ _) | (with_reducible refine Kd.C_drew ?_))); (case side2 => exact (Kd.R_reads' HO_10.out).2.1); (case side3 => repeat (first | exact (Kd.R_reads' HO277.out).2.2 | (with_reducible refine Kd.C_alloc ?_ _) | (with_reducible refine Kd.C_drewN ?_ _) | (with_reducible refine Kd.C_drew ?_))); (case side4 => exact (Kd.R_reads' HO277.out).2.1); rintro e w41 ⟨rfl, hb⟩; refine ⟨_, rfl, ?_⟩; have n0_ := Aside0.mk (Kd.R_below (by (with_reducible repeat (first | apply Kd.R_alloc | apply Kd.R_drewN | apply Kd.R_drew)); exact HO_10.out) hb); have n1_ := Aside0.mk (Kd.R_below (by (with_reducible repeat (first | apply Kd.R_alloc | apply Kd.R_drewN | apply Kd.R_drew)); exact HO_11.out) hb); have n2_ := Aside0.mk (Kd.R_below (by (with_reducible repeat (first | apply Kd.R_alloc | apply Kd.R_drewN | apply Kd.R_drew)); exact HO277.out) hb); have n3_ := Aside0.mk (below_step (by repeat (first | (with_reducible first | exact HB.out | apply below_alloc | apply pw_below_drewN | apply below_drew1) | exact HB.out)) hb); clear HO_10; clear HO_11; clear HO277; clear HB; have HO_10 := n0_; have HO_11 := n1_; have HO277 := n2_; have HB := n3_; clear n0_ n1_ n2_ n3_; (try clear hb); (try clear hb2); (try clear hk); (try clear hi)) | ((with_reducible refine gate_callee (f := 17) rfl ?_); refine goesL_ (some 59) rfl rfl Try.func17 (by kernel_rfl) rfl #[.slice A2 l2.length c2] rfl (by (try simp only [List.map_toArray, List.map_cons, List.map_nil]); first | done | rfl | (simp only [List.length_drop, List.length_take]; rfl)) ?_; (with_reducible refine (laws_toBerthS.calls kj13 _ _ l2 t279 _ ?side1 ?side2 A30.out).mono ?_); (case side1 => repeat (first | exact (Kd.C_below HR2.out HB.out) | (with_reducible refine Kd.C_alloc ?_ _) | (with_reducible refine Kd.C_drewN ?_ _) | (with_reducible refine Kd.C_drew ?_))); (case side2 => exact HC2.out); rintro e w42 ⟨v280, rfl, ho0, hb⟩; refine ⟨_, rfl, ?_⟩; have n0_ := Aside0.mk (Kd.R_below (by (with_reducible repeat (first | apply Kd.R_alloc | apply Kd.R_drewN | apply Kd.R_drew)); exact HO_10.out) hb); have n1_ := Aside0.mk (Kd.R_elder' (by (with_reducible repeat (first | apply Kd.R_alloc | apply Kd.R_drewN | apply Kd.R_drew)); exact HO_11.out) (Kd.R_base ho0) hb); have n2_ := Aside0.mk (Kd.R_below (by (with_reducible repeat (first | apply Kd.R_alloc | apply Kd.R_drewN | apply Kd.R_drew)); exact HO277.out) hb); have n3_ := Aside0.mk (Kd.R_lower (Kd.R_new' ho0 (Kd.R_lt (by (with_reducible repeat (first | apply Kd.R_alloc | apply Kd.R_drewN | apply Kd.R_drew)); exact HO_11.out))) (below_size (by repeat (first | (with_reducible first | exact HB.out | apply below_alloc | apply pw_below_drewN | apply below_drew1) | exact HB.out)))); have n4_ := Aside0.mk (below_step (by repeat (first | (with_reducible first | exact HB.out | apply below_alloc | apply pw_below_drewN | apply below_drew1) | exact HB.out)) hb); clear HO_10; clear HO_11; clear HO277; clear HB; have HO_10 := n0_; have HO_11 := n1_; have HO277 := n2_; have HO281 := n3_; have HB := n4_; clear n0_ n1_ n2_ n3_ n4_; (try clear hb); (try clear hb2); (try clear hk); (try clear hi); (try clear ho0); obtain ⟨Ao43, co43, eo43⟩ := Kd.R_slice HO281.out; subst eo43) | ((with_reducible refine gate_callee (f := 20) rfl ?_); refine goesL_ (some 60) rfl rfl Try.func20 (by kernel_rfl) rfl #[.slice Ao23 t270.length co23, .slice Ao43 t279.length co43] rfl (by (try simp only [List.map_toArray, List.map_cons, List.map_nil]); first | done | rfl | (simp only [List.length_drop, List.length_take]; rfl)) ?_; (with_reducible refine (laws_eqBerthS.calls kj13 _ _ t270 _ _ t279 false _ ?side1 ?side2 ?side3 ?side4 A31.out).mono ?_); (case side1 => repeat (first | exact (Kd.R_reads' HO_11.out).2.2 | (with_reducible refine Kd.C_alloc ?_ _) | (with_reducible refine Kd.C_drewN ?_ _) | (with_reducible refine Kd.C_drew ?_))); (case side2 => exact (Kd.R_reads' HO_11.out).2.1); (case side3 => repeat (first | exact (Kd.R_reads' HO281.out).2.2 | (with_reducible refine Kd.C_alloc ?_ _) | (with_reducible refine Kd.C_drewN ?_ _) | (with_reducible refine Kd.C_drew ?_))); (case side4 => exact (Kd.R_reads' HO281.out).2.1); rintro e w44 ⟨rfl, hb⟩; refine ⟨_, rfl, ?_⟩; have n0_ := Aside0.mk (Kd.R_below (by (with_reducible repeat (first | apply Kd.R_alloc | apply Kd.R_drewN | apply Kd.R_drew)); exact HO_10.out) hb); have n1_ := Aside0.mk (Kd.R_below (by (with_reducible repeat (first | apply Kd.R_alloc | apply Kd.R_drewN | apply Kd.R_drew)); exact HO_11.out) hb); have n2_ := Aside0.mk (Kd.R_below (by (with_reducible repeat (first | apply Kd.R_alloc | apply Kd.R_drewN | apply Kd.R_drew)); exact HO277.out) hb); have n3_ := Aside0.mk (Kd.R_below (by (with_reducible repeat (first | apply Kd.R_alloc | apply Kd.R_drewN | apply Kd.R_drew)); exact HO281.out) hb); have n4_ := Aside0.mk (below_step (by repeat (first | (with_reducible first | exact HB.out | apply below_alloc | apply pw_below_drewN | apply below_drew1) | exact HB.out)) hb); clear HO_10; clear HO_11; clear HO277; clear HO281; clear HB; have HO_10 := n0_; have HO_11 := n1_; have HO277 := n2_; have HO281 := n3_; have HB := n4_; clear n0_ n1_ n2_ n3_ n4_; (try clear hb); (try clear hb2); (try clear hk); (try clear hi)))
                go_ret
                exact ⟨by first | rfl | (simp [errW_none, errW_some] <;> rfl) | (simp [*, errW_none, errW_some] <;> rfl), by repeat (first | (with_reducible first | exact HB.out | apply below_alloc | apply pw_below_drewN | apply below_drew1) | exact HB.out)⟩
            · replace c29 := Bool.eq_false_iff.mpr c29
              subst c29
              have H1 : (some false) = some r := by rw [if_neg (show ¬ (false = true) by decide)] at H; exact H
              clear H
              have H := H1
              clear H1
              obtain rfl := Option.some.inj H
              go_wp2_with (first | ((with_reducible refine gate_callee (f := 16) rfl ?_); refine goesL_ (some 54) rfl rfl Try.func16 (by kernel_rfl) rfl #[.slice A1 l1.length c1] rfl (by (try simp only [List.map_toArray, List.map_cons, List.map_nil]); first | done | rfl | (simp only [List.length_drop, List.length_take]; rfl)) ?_; (with_reducible refine (laws_toShipS.calls kj13 _ _ l1 t275 _ ?side1 ?side2 A27.out).mono ?_); (case side1 => repeat (first | exact (Kd.C_below HR1.out HB.out) | (with_reducible refine Kd.C_alloc ?_ _) | (with_reducible refine Kd.C_drewN ?_ _) | (with_reducible refine Kd.C_drew ?_))); (case side2 => exact HC1.out); rintro e w45 ⟨v276, rfl, ho0, hb⟩; refine ⟨_, rfl, ?_⟩; have n0_ := Aside0.mk (Kd.R_elder' (by (with_reducible repeat (first | apply Kd.R_alloc | apply Kd.R_drewN | apply Kd.R_drew)); exact HO_10.out) (Kd.R_base ho0) hb); have n1_ := Aside0.mk (Kd.R_below (by (with_reducible repeat (first | apply Kd.R_alloc | apply Kd.R_drewN | apply Kd.R_drew)); exact HO_11.out) hb); have n2_ := Aside0.mk (Kd.R_lower (Kd.R_new' ho0 (Kd.R_lt (by (with_reducible repeat (first | apply Kd.R_alloc | apply Kd.R_drewN | apply Kd.R_drew)); exact HO_10.out))) (below_size (by repeat (first | (with_reducible first | exact HB.out | apply below_alloc | apply pw_below_drewN | apply below_drew1) | exact HB.out)))); have n3_ := Aside0.mk (below_step (by repeat (first | (with_reducible first | exact HB.out | apply below_alloc | apply pw_below_drewN | apply below_drew1) | exact HB.out)) hb); clear HO_10; clear HO_11; clear HB; have HO_10 := n0_; have HO_11 := n1_; have HO277 := n2_; have HB := n3_; clear n0_ n1_ n2_ n3_; (try clear hb); (try clear hb2); (try clear hk); (try clear hi); (try clear ho0); obtain ⟨Ao46, co46, eo46⟩ := Kd.R_slice HO277.out; subst eo46) | ((with_reducible refine gate_callee (f := 19) rfl ?_); refine goesL_ (some 55) rfl rfl Try.func19 (by kernel_rfl) rfl #[.slice Ao22 t267.length co22, .slice Ao46 t275.length co46] rfl (by (try simp only [List.map_toArray, List.map_cons, List.map_nil]); first | done | rfl | (simp only [List.length_drop, List.length_take]; rfl)) ?_; (with_reducible refine (laws_eqShipS.calls kj13 _ _ t267 _ _ t275 false _ ?side1 ?side2 ?side3 ?side4 A28.out).mono ?_); (case side1 => repeat (first | exact (Kd.R_reads' HO_10.out).2.2 | (with_reducible refine Kd.C_alloc ?_ _) | (with_reducible refine Kd.C_drewN ?_ _) | (with_reducible refine Kd.C_drew ?_))); (case side2 => exact (Kd.R_reads' HO_10.out).2.1); (case side3 => repeat (first | exact (Kd.R_reads' HO277.out).2.2 | (with_reducible refine Kd.C_alloc ?_ _) | (with_reducible refine Kd.C_drewN ?_ _) | (with_reducible refine Kd.C_drew ?_))); (case side4 => exact (Kd.R_reads' HO277.out).2.1); rintro e w47 ⟨rfl, hb⟩; refine ⟨_, rfl, ?_⟩; have n0_ := Aside0.mk (Kd.R_below (by (with_reducible repeat (first | apply Kd.R_alloc | apply Kd.R_drewN | apply Kd.R_drew)); exact HO_10.out) hb); have n1_ := Aside0.mk (Kd.R_below (by (with_reducible repeat (first | apply Kd.R_alloc | apply Kd.R_drewN | apply Kd.R_drew)); exact HO_11.out) hb); have n2_ := Aside0.mk (Kd.R_below (by (with_reducible repeat (first | apply Kd.R_alloc | apply Kd.R_drewN | apply Kd.R_drew)); exact HO277.out) hb); have n3_ := Aside0.mk (below_step (by repeat (first | (with_reducible first | exact HB.out | apply below_alloc | apply pw_below_drewN | apply below_drew1) | exact HB.out)) hb); clear HO_10; clear HO_11; clear HO277; clear HB; have HO_10 := n0_; have HO_11 := n1_; have HO277 := n2_; have HB := n3_; clear n0_ n1_ n2_ n3_; (try clear hb); (try clear hb2); (try clear hk); (try clear hi)))
              go_ret
              exact ⟨by first | rfl | (simp [errW_none, errW_some] <;> rfl) | (simp [*, errW_none, errW_some] <;> rfl), by repeat (first | (with_reducible first | exact HB.out | apply below_alloc | apply pw_below_drewN | apply below_drew1) | exact HB.out)⟩

/-- THE ONE PURE STATEMENT of laws_FnExactPlanCost. -/
def laws_FnExactPlanCost.Pure : Prop := ∀ (a0 : Int) (l1 : List (S68)) (l2 : List (S70)), (Lit.int .i64 a0).wf = true → (l1.length ≤ maxLen ∧ ∀ y ∈ l1, W68 y) → (l2.length ≤ maxLen ∧ ∀ y ∈ l2, W70 y) → ∃ k, laws_FnExactPlanCost.f k a0 l1 l2 = some true
theorem laws_FnExactPlanCost.walk (P : laws_FnExactPlanCost.Pure) (a0 : Int) (A1 : Option Addr) (c1 : Nat) (l1 : List (S68)) (A2 : Option Addr) (c2 : Nat) (l2 : List (S70)) (w : World) (hr1 : Kd.C k68 w A1 l1.length l1) (hc1 : l1.length ≤ c1) (hr2 : Kd.C k70 w A2 l2.length l2) (hc2 : l2.length ≤ c2) (hw0 : (Lit.int .i64 a0).wf = true) (hw1 : (l1.length ≤ maxLen ∧ ∀ y ∈ l1, W68 y)) (hw2 : (l2.length ≤ maxLen ∧ ∀ y ∈ l2, W70 y)) :
    Calls Try.prog 5 #[.int .i64 a0, .slice A1 l1.length c1, .slice A2 l2.length c2] w fun e w' => e = .returned (.bool true) ∧ Below w.heap.size w w' := by
  obtain ⟨k, h⟩ := P a0 l1 l2 hw0 hw1 hw2
  refine (laws_FnExactPlanCost.calls k a0 _ _ l1 _ _ l2 true w hr1 hc1 hr2 hc2 h).mono ?_
  rintro e w' ⟨rfl, hd⟩
  exact ⟨rfl, hd⟩

end Go.Proofs.Ytcciljjnpfgaeaa.G

namespace Go.Proofs.Ytcciljjnpfgaeaa.G
open Go.RowKit Go.Proofs.YtcciljjnpfgaeaaW.PrintWords Go.Proofs.YtcciljjnpfgaeaaW.PrintLast
set_option linter.unusedVariables false
set_option linter.unusedSimpArgs false
/-! Plain laws on printed functions: what holds from some number of rounds on, case by case and loop by loop. -/
theorem Ev.ite {α : Type} {c : Prop} [Decidable c] {A B : Nat → Option α} {r : α} (h1 : c → Ev A r) (h2 : ¬ c → Ev B r) : Ev (fun k => if c then A k else B k) r := by
  by_cases h : c
  · simpa only [if_pos h] using h1 h
  · simpa only [if_neg h] using h2 h
theorem Ev.val {α : Type} {v r : α} (h : v = r) : Ev (fun _ => some v) r := by rw [h]; exact Ev.now r
theorem Ev.eq {α : Type} {g : Nat → Option α} {r r' : α} (h : Ev g r) (e : r = r') : Ev g r' := e ▸ h
theorem Ev.same {α : Type} {g : Nat → Option α} {r r' : α} (h : Ev g r) (h' : Ev g r') : r = r' := by
  obtain ⟨K, h⟩ := h
  obtain ⟨K', h'⟩ := h'
  have h1 := h (max K K') (by omega)
  rw [h' (max K K') (by omega)] at h1
  exact (Option.some.inj h1).symm
theorem wrap64_id {x : Int} (h1 : -9223372036854775808 ≤ x) (h2 : x ≤ 9223372036854775807) : wrap64 x = x := IntWalk.wrap64_in x ⟨h1, h2⟩
theorem wf_iff {x : Int} : (Lit.int .i64 x).wf = true ↔ -9223372036854775808 ≤ x ∧ x ≤ 9223372036854775807 := by
  have e : (Lit.int .i64 x).wf = (decide (-9223372036854775808 ≤ x) && decide (x ≤ 9223372036854775807)) := rfl
  rw [e]
  simp
/-- What holds of all indices from i up to, and without, n. -/
def All (P : Int → Prop) (i n : Int) : Prop := ∀ j, i ≤ j → j < n → P j
theorem All.end_ (P : Int → Prop) (n : Int) : All P n n := fun j h1 h2 => by omega
theorem All.step {P : Int → Prop} {i n : Int} (h : i < n) : All P i n ↔ P i ∧ All P (i + 1) n := by
  constructor
  · intro a
    exact ⟨a i (Int.le_refl _) h, fun j h1 h2 => a j (by omega) h2⟩
  · rintro ⟨p, a⟩ j h1 h2
    by_cases e : j = i
    · rw [e]; exact p
    · exact a j (by omega) h2
/-- One of two values, by a statement. -/
noncomputable def chk {β : Type} (p : Prop) (a b : β) : β := @ite β p (Classical.propDecidable p) a b
theorem chk_pos {β : Type} {p : Prop} (h : p) (a b : β) : chk p a b = a := by unfold chk; exact if_pos h
theorem chk_neg {β : Type} {p : Prop} (h : ¬ p) (a b : β) : chk p a b = b := by unfold chk; exact if_neg h
theorem chk_congr {β : Type} {p q : Prop} (h : p ↔ q) (a b : β) : chk p a b = chk q a b := by rw [propext h]
theorem chk_true {p : Prop} : chk p true false = true ↔ p := by
  by_cases h : p
  · rw [chk_pos h]; exact ⟨fun _ => h, fun _ => rfl⟩
  · rw [chk_neg h]; exact ⟨(fun e => by cases e), (fun e => absurd e h)⟩
theorem chk_and {β : Type} {p q : Prop} (a b : β) : chk p (chk q a b) b = chk (p ∧ q) a b := by
  by_cases h : p
  · rw [chk_pos h]
    exact chk_congr ⟨fun x => ⟨h, x⟩, fun x => x.2⟩ _ _
  · rw [chk_neg h, chk_neg (fun x => h x.1)]
/-- A loop that goes up, any state. -/
theorem Ev.up {σ β : Type} (g : Nat → σ → Int → Option β) (R : σ → Int → β) (I : σ → Int → Prop) (n : Int)
    (hend : ∀ s, I s n → Ev (fun k => g k s n) (R s n))
    (hstep : ∀ s i, I s i → i < n → (∀ s', I s' (i + 1) → Ev (fun k => g k s' (i + 1)) (R s' (i + 1))) → Ev (fun k => g k s i) (R s i)) :
    ∀ s i, I s i → i ≤ n → Ev (fun k => g k s i) (R s i) := by
  have main : ∀ (d : Nat) s i, I s i → i + d = n → Ev (fun k => g k s i) (R s i) := by
    intro d
    induction d with
    | zero =>
      intro s i hI hd
      obtain rfl : i = n := by omega
      exact hend s hI
    | succ d ih => intro s i hI hd; exact hstep s i hI (by omega) (fun s' hI' => ih s' (i + 1) hI' (by omega))
  intro s i hI hi
  exact main (n - i).toNat s i hI (by omega)
/-- A loop that tests each index. -/
theorem Ev.check {β : Type} (g : Nat → Int → Option β) (n : Int) (P : Int → Prop) (r0 r1 : β) (i0 : Int)
    (hend : Ev (fun k => g k n) r0)
    (hstep : ∀ i, i0 ≤ i → i < n → ∀ r, Ev (fun k => g k (i + 1)) r → Ev (fun k => g k i) (chk (P i) r r1)) :
    ∀ i, i0 ≤ i → i ≤ n → Ev (fun k => g k i) (chk (All P i n) r0 r1) := by
  intro i h0 hi
  refine Ev.up (fun k (_ : Unit) i => g k i) (fun _ i => chk (All P i n) r0 r1) (fun _ i => i0 ≤ i) n (fun _ _ => ?_) (fun _ i h0 hlt ih => ?_) () i h0 hi
  · rw [chk_pos (All.end_ P n)]; exact hend
  · have := hstep i h0 hlt _ (ih () (by omega))
    rw [chk_and, chk_congr (All.step hlt).symm] at this
    exact this
theorem Ev.upc {β : Type} (g : Nat → Int → Option β) (r : β) (n i0 : Int) (hend : Ev (fun k => g k n) r) (hstep : ∀ i, i0 ≤ i → i < n → Ev (fun k => g k (i + 1)) r → Ev (fun k => g k i) r) :
    ∀ i, i0 ≤ i → i ≤ n → Ev (fun k => g k i) r := by
  intro i h0 hi
  exact Ev.up (fun k (_ : Unit) i => g k i) (fun _ _ => r) (fun _ i => i0 ≤ i) n (fun _ _ => hend) (fun _ i h0 hlt ih => hstep i h0 hlt (ih () (by omega))) () i h0 hi
theorem getD_set {α : Type} (xs : List α) (i j : Nat) (v z : α) (hi : i < xs.length) : (xs.set i v).getD j z = if j = i then v else xs.getD j z := by
  rw [List.getD_eq_getElem?_getD, List.getD_eq_getElem?_getD]
  by_cases h : j = i
  · subst h; rw [List.getElem?_set_self hi, if_pos rfl]; rfl
  · rw [List.getElem?_set_ne (fun e => h e.symm), if_neg h]
theorem ext_getD {α : Type} (z : α) {xs ys : List α} (hl : xs.length = ys.length) (h : ∀ j : Nat, j < xs.length → xs.getD j z = ys.getD j z) : xs = ys := by
  apply List.ext_getElem hl
  intro i h1 h2
  have := h i h1
  rw [List.getD_eq_getElem?_getD, List.getD_eq_getElem?_getD, List.getElem?_eq_getElem h1, List.getElem?_eq_getElem h2] at this
  exact this
theorem getD_map {α β : Type} (f : α → β) (xs : List α) (j : Nat) (z : α) (z' : β) (h : j < xs.length) : (xs.map f).getD j z' = f (xs.getD j z) := by
  rw [List.getD_eq_getElem?_getD, List.getD_eq_getElem?_getD, List.getElem?_map, List.getElem?_eq_getElem h]; rfl
/-- out := make(n); out[i] = conv(xs[i]) for all i. -/
theorem Ev.fill {α β : Type} (g : Nat → List β → Int → Option (List β)) (xs : List α) (conv : α → β) (z : α) (z' : β)
    (hend : ∀ out, Ev (fun k => g k out (xs.length : Int)) out)
    (hstep : ∀ out i, out.length = xs.length → 0 ≤ i → i < (xs.length : Int) → ∀ r, Ev (fun k => g k (out.set i.toNat (conv (xs.getD i.toNat z))) (i + 1)) r → Ev (fun k => g k out i) r) :
    Ev (fun k => g k (List.replicate xs.length z') 0) (xs.map conv) := by
  refine Ev.up g (fun _ _ => xs.map conv) (fun out i => 0 ≤ i ∧ out.length = xs.length ∧ ∀ j : Nat, (j : Int) < i → out.getD j z' = conv (xs.getD j z)) (xs.length : Int) ?_ ?_ _ 0 ⟨by omega, by simp, fun j h => by omega⟩ (by omega)
  · rintro out ⟨_, hl, h⟩
    refine Ev.eq (hend out) (ext_getD z' (by simpa using hl) fun j hj => ?_)
    rw [h j (by omega), getD_map conv xs j z z' (by omega)]
  · rintro out i ⟨h0, hl, h⟩ hlt ih
    refine hstep out i hl h0 hlt _ (ih _ ⟨by omega, by simpa using hl, fun j hj => ?_⟩)
    rw [getD_set _ _ _ _ _ (by omega)]
    by_cases e : j = i.toNat
    · rw [if_pos e, e]
    · rw [if_neg e]; exact h j (by omega)
/-- A list that is marked with numbers, m an element. -/
theorem Ev.mark {α : Type} (g : Nat → List α → Int → Int → Option (Int × List α)) (n m : Int) (mk : Int → α) (z : α)
    (hend : ∀ xs c, (xs.length : Int) = n → Ev (fun k => g k xs c n) (c, xs))
    (hstep : ∀ xs c i, (xs.length : Int) = n → 0 ≤ i → i < n → c = 1 + m * i → ∀ r, Ev (fun k => g k (xs.set i.toNat (mk i)) (c + m) (i + 1)) r → Ev (fun k => g k xs c i) r)
    (xs : List α) (hl : (xs.length : Int) = n) : ∃ ys : List α, Ev (fun k => g k xs 1 0) (1 + m * n, ys) ∧ (ys.length : Int) = n ∧ ∀ j, 0 ≤ j → j < n → ys.getD j.toNat z = mk j := by
  have main : ∀ (d : Nat) (xs : List α) (i : Int), (xs.length : Int) = n → 0 ≤ i → i + d = n → (∀ j, 0 ≤ j → j < i → xs.getD j.toNat z = mk j) → ∃ ys : List α, Ev (fun k => g k xs (1 + m * i) i) (1 + m * n, ys) ∧ (ys.length : Int) = n ∧ ∀ j, 0 ≤ j → j < n → ys.getD j.toNat z = mk j := by
    intro d
    induction d with
    | zero =>
      intro xs i hl h0 hd h
      obtain rfl : i = n := by omega
      exact ⟨xs, hend xs _ hl, hl, h⟩
    | succ d ih =>
      intro xs i hl h0 hd h
      obtain ⟨ys, h1, h2, h3⟩ := ih (xs.set i.toNat (mk i)) (i + 1) (by simpa using hl) (by omega) (by omega) (fun j hj0 hj => by
        rw [getD_set _ _ _ _ _ (by omega)]
        by_cases e : j = i
        · rw [if_pos (by rw [e]), e]
        · rw [if_neg (by omega)]; exact h j hj0 (by omega))
      refine ⟨ys, hstep xs _ i hl h0 (by omega) rfl _ ?_, h2, h3⟩
      rw [show 1 + m * i + m = 1 + m * (i + 1) from by rw [Int.mul_add]; omega]
      exact h1
  obtain ⟨ys, h1, h2⟩ := main n.toNat xs 0 hl (by omega) (by omega) (fun j _ _ => by omega)
  exact ⟨ys, by simpa using h1, h2⟩
/-- The same from any number on. -/
theorem Ev.markFrom {α : Type} (g : Nat → List α → Int → Int → Option (Int × List α)) (n m s : Int) (mk : Int → α) (z : α)
    (hend : ∀ xs c, (xs.length : Int) = n → Ev (fun k => g k xs c n) (c, xs))
    (hstep : ∀ xs c i, (xs.length : Int) = n → 0 ≤ i → i < n → c = s + m * i → ∀ r, Ev (fun k => g k (xs.set i.toNat (mk i)) (c + m) (i + 1)) r → Ev (fun k => g k xs c i) r)
    (xs : List α) (hl : (xs.length : Int) = n) : ∃ ys : List α, Ev (fun k => g k xs s 0) (s + m * n, ys) ∧ (ys.length : Int) = n ∧ ∀ j, 0 ≤ j → j < n → ys.getD j.toNat z = mk j := by
  have main : ∀ (d : Nat) (xs : List α) (i : Int), (xs.length : Int) = n → 0 ≤ i → i + d = n → (∀ j, 0 ≤ j → j < i → xs.getD j.toNat z = mk j) → ∃ ys : List α, Ev (fun k => g k xs (s + m * i) i) (s + m * n, ys) ∧ (ys.length : Int) = n ∧ ∀ j, 0 ≤ j → j < n → ys.getD j.toNat z = mk j := by
    intro d
    induction d with
    | zero =>
      intro xs i hl h0 hd h
      obtain rfl : i = n := by omega
      exact ⟨xs, hend xs _ hl, hl, h⟩
    | succ d ih =>
      intro xs i hl h0 hd h
      obtain ⟨ys, h1, h2, h3⟩ := ih (xs.set i.toNat (mk i)) (i + 1) (by simpa using hl) (by omega) (by omega) (fun j hj0 hj => by
        rw [getD_set _ _ _ _ _ (by omega)]
        by_cases e : j = i
        · rw [if_pos (by rw [e]), e]
        · rw [if_neg (by omega)]; exact h j hj0 (by omega))
      refine ⟨ys, hstep xs _ i hl h0 (by omega) rfl _ ?_, h2, h3⟩
      rw [show s + m * i + m = s + m * (i + 1) from by rw [Int.mul_add]; omega]
      exact h1
  obtain ⟨ys, h1, h2⟩ := main n.toNat xs 0 hl (by omega) (by omega) (fun j _ _ => by omega)
  exact ⟨ys, by simpa using h1, h2⟩
/-- out grows by one element a round. -/
theorem Ev.build {α β γ : Type} (g : Nat → List β → Int → Option γ) (xs : List α) (f : α → β) (z : α) (r : γ) (hend : Ev (fun k => g k (xs.map f) (xs.length : Int)) r)
    (hstep : ∀ out i, 0 ≤ i → i < (xs.length : Int) → (out.length : Int) = i → ∀ r, Ev (fun k => g k (out ++ [f (xs.getD i.toNat z)]) (i + 1)) r → Ev (fun k => g k out i) r) : Ev (fun k => g k [] 0) r := by
  refine Ev.up g (fun _ _ => r) (fun out i => 0 ≤ i ∧ i ≤ (xs.length : Int) ∧ out = (xs.take i.toNat).map f) (xs.length : Int) ?_ ?_ [] 0 ⟨by omega, by omega, by simp⟩ (by omega)
  · rintro out ⟨_, _, rfl⟩
    have e : xs.take (xs.length : Int).toNat = xs := by simp
    rw [e]; exact hend
  · rintro out i ⟨h0, h1, rfl⟩ hlt ih
    refine hstep _ i h0 hlt (by simp; omega) _ (ih _ ⟨by omega, by omega, ?_⟩)
    have e : (i + 1).toNat = i.toNat + 1 := by omega
    rw [e, List.take_succ_eq_append_getElem (show i.toNat < xs.length by omega), List.map_append, List.getD_eq_getElem?_getD, List.getElem?_eq_getElem (show i.toNat < xs.length by omega)]
    rfl
/-- Two loops that go up together. -/
theorem Ev.both {σ β : Type} (g1 g2 : Nat → σ → Int → Option β) (I : σ → Int → Prop) (Q : β → Prop) (n : Int) (hend : ∀ s, I s n → ∃ r, Q r ∧ Ev (fun k => g1 k s n) r ∧ Ev (fun k => g2 k s n) r)
    (hstep : ∀ s i, I s i → i < n → (∃ r, Q r ∧ Ev (fun k => g1 k s i) r ∧ Ev (fun k => g2 k s i) r) ∨ ∃ s', I s' (i + 1) ∧ (∀ r, Ev (fun k => g1 k s' (i + 1)) r → Ev (fun k => g1 k s i) r) ∧ (∀ r, Ev (fun k => g2 k s' (i + 1)) r → Ev (fun k => g2 k s i) r)) :
    ∀ s i, I s i → i ≤ n → ∃ r, Q r ∧ Ev (fun k => g1 k s i) r ∧ Ev (fun k => g2 k s i) r := by
  have main : ∀ (d : Nat) s i, I s i → i + d = n → ∃ r, Q r ∧ Ev (fun k => g1 k s i) r ∧ Ev (fun k => g2 k s i) r := by
    intro d
    induction d with
    | zero =>
      intro s i hI hd
      obtain rfl : i = n := by omega
      exact hend s hI
    | succ d ih =>
      intro s i hI hd
      rcases hstep s i hI (by omega) with h | ⟨s', hI', h1, h2⟩
      · exact h
      · obtain ⟨r, hq, e1, e2⟩ := ih s' (i + 1) hI' (by omega)
        exact ⟨r, hq, h1 r e1, h2 r e2⟩
  intro s i hI hi
  exact main (n - i).toNat s i hI (by omega)
theorem mul_bd {x y A B : Int} (hA : 0 ≤ A) (hB : 0 ≤ B) (h1 : -A ≤ x) (h2 : x ≤ A) (h3 : -B ≤ y) (h4 : y ≤ B) : -(A * B) ≤ x * y ∧ x * y ≤ A * B := by
  have hx : x.natAbs ≤ A.natAbs := by omega
  have hy : y.natAbs ≤ B.natAbs := by omega
  have h := Nat.mul_le_mul hx hy
  rw [← Int.natAbs_mul, ← Int.natAbs_mul] at h
  have hAB : 0 ≤ A * B := Int.mul_nonneg hA hB
  omega

end Go.Proofs.Ytcciljjnpfgaeaa.G

namespace Go.Proofs.Ytcciljjnpfgaeaa.G
open Go.RowKit Go.Proofs.YtcciljjnpfgaeaaW.PrintWords Go.Proofs.YtcciljjnpfgaeaaW.PrintLast
set_option linter.unusedVariables false
set_option linter.unusedSimpArgs false
def cv_Sh (x : S68) : S62 := ⟨x.f0, x.f1, x.f2, x.f3⟩
theorem sz_Sh (xs : List S68) (n : Int) (h : xs.length ≤ maxLen) (h0 : 0 ≤ n) (h1 : n ≤ 1048576) : laws_szShipS.f xs n = some (if n - (xs.length : Int) < 0 then -1 else n - (xs.length : Int)) := by
  unfold maxLen at h
  unfold laws_szShipS.f
  rw [wrap64_id (by omega) (by omega)]
  split <;> rfl
theorem to_Sh (xs : List S68) (h : (xs.length : Int) ≤ 1048576) : Ev (fun k => laws_toShipS.f k xs) (xs.map cv_Sh) := by
  unfold laws_toShipS.f
  simp (disch := omega) only [if_pos]
  simp only [Int.toNat_natCast]
  refine Ev.fill (fun k out i => laws_toShipS.l0 k xs out i) xs cv_Sh z68 z62 ?_ ?_
  · intro out
    refine Ev.step (fun k => by rw [laws_toShipS.l0]) ?_
    simp only [Int.lt_irrefl, if_false]
    exact Ev.now _
  · intro out i hl h0 hlt r hr
    refine Ev.step (fun k => by rw [laws_toShipS.l0]) ?_
    simp (disch := omega) only [wrap64_id, if_pos, laws_toShip.f, Option.bind_some, hl]
    exact hr
theorem eq_Sh (xs : List S62) (h : (xs.length : Int) ≤ 1048576) : Ev (fun k => laws_eqShipS.f k xs xs) true := by
  unfold laws_eqShipS.f
  simp only [if_true]
  refine Ev.upc (fun k i => laws_eqShipS.l0 k xs xs i) true (xs.length : Int) 0 ?_ ?_ 0 (by omega) (by omega)
  · refine Ev.step (fun k => by rw [laws_eqShipS.l0]) ?_
    simp only [Int.lt_irrefl, if_false]
    exact Ev.now _
  · intro i h0 hlt hr
    refine Ev.step (fun k => by rw [laws_eqShipS.l0]) ?_
    simp (disch := omega) only [wrap64_id, if_pos, laws_eqShip.f, Option.bind_some, if_true]
    exact hr
end Go.Proofs.Ytcciljjnpfgaeaa.G

namespace Go.Proofs.Ytcciljjnpfgaeaa.G
open Go.RowKit Go.Proofs.YtcciljjnpfgaeaaW.PrintWords Go.Proofs.YtcciljjnpfgaeaaW.PrintLast
set_option linter.unusedVariables false
set_option linter.unusedSimpArgs false
def cv_B (x : S70) : S37 := ⟨x.f0, x.f1⟩
theorem sz_B (xs : List S70) (n : Int) (h : xs.length ≤ maxLen) (h0 : 0 ≤ n) (h1 : n ≤ 1048576) : laws_szBerthS.f xs n = some (if n - (xs.length : Int) < 0 then -1 else n - (xs.length : Int)) := by
  unfold maxLen at h
  unfold laws_szBerthS.f
  rw [wrap64_id (by omega) (by omega)]
  split <;> rfl
theorem to_B (xs : List S70) (h : (xs.length : Int) ≤ 1048576) : Ev (fun k => laws_toBerthS.f k xs) (xs.map cv_B) := by
  unfold laws_toBerthS.f
  simp (disch := omega) only [if_pos]
  simp only [Int.toNat_natCast]
  refine Ev.fill (fun k out i => laws_toBerthS.l0 k xs out i) xs cv_B z70 z37 ?_ ?_
  · intro out
    refine Ev.step (fun k => by rw [laws_toBerthS.l0]) ?_
    simp only [Int.lt_irrefl, if_false]
    exact Ev.now _
  · intro out i hl h0 hlt r hr
    refine Ev.step (fun k => by rw [laws_toBerthS.l0]) ?_
    simp (disch := omega) only [wrap64_id, if_pos, laws_toBerth.f, Option.bind_some, hl]
    exact hr
theorem eq_B (xs : List S37) (h : (xs.length : Int) ≤ 1048576) : Ev (fun k => laws_eqBerthS.f k xs xs) true := by
  unfold laws_eqBerthS.f
  simp only [if_true]
  refine Ev.upc (fun k i => laws_eqBerthS.l0 k xs xs i) true (xs.length : Int) 0 ?_ ?_ 0 (by omega) (by omega)
  · refine Ev.step (fun k => by rw [laws_eqBerthS.l0]) ?_
    simp only [Int.lt_irrefl, if_false]
    exact Ev.now _
  · intro i h0 hlt hr
    refine Ev.step (fun k => by rw [laws_eqBerthS.l0]) ?_
    simp (disch := omega) only [wrap64_id, if_pos, laws_eqBerth.f, Option.bind_some, if_true]
    exact hr
end Go.Proofs.Ytcciljjnpfgaeaa.G

-- Written by wip/tools/gen.py out of the translation (the kit's printer, one namespace a seat). Lean checks it.
namespace Go.Proofs.Ytcciljjnpfgaeaa.G
open Go.RowKit Go.Proofs.YtcciljjnpfgaeaaW.PrintWords Go.Proofs.YtcciljjnpfgaeaaW.PrintLast Go.Proofs.YtcciljjnpfgaeaaW.PrintMore
attribute [local go_sem] max2_int min2_int max_two min_two max_three min_three max_four min_four   -- for this text's walks alone
set_option linter.unusedVariables false
set_option linter.unusedSimpArgs false

/-! ### spec_l1Most: function 55 -/
def spec_l1Most.f (a0 : Int) (a1 : Int) : Option (Int) := if a0 > a1 then (some a0) else (some a1)
set_option maxHeartbeats 8000000 in
set_option maxRecDepth 100000 in
theorem spec_l1Most.calls (a0 : Int) (a1 : Int) (r : Int) (w : World) (h : spec_l1Most.f a0 a1 = some r) :
    Calls Try.prog 55 #[.int .i64 a0, .int .i64 a1] w fun e w' => e = .returned (.int .i64 r) ∧ Drawn0 w w' := by
  have H : (if a0 > a1 then (some a0) else (some a1)) = some r := h
  clear h
  by_cases c3 : a0 > a1
  · rw [if_pos c3] at H
    have c3b0 : decide (a1 < a0) = true := decide_eq_true c3
    clear c3
    obtain rfl := Option.some.inj H
    go_enter Try.func55, Try.ntmps55
    go_wp2
    go_ret
    exact ⟨by first | rfl | (simp; done) | (simp [*]; done), by repeat (first | exact Drawn0.refl _ | apply Drawn0.step)⟩
  · rw [if_neg c3] at H
    have c3b0 : decide (a1 < a0) = false := decide_eq_false c3
    clear c3
    obtain rfl := Option.some.inj H
    go_enter Try.func55, Try.ntmps55
    go_wp2
    go_ret
    exact ⟨by first | rfl | (simp; done) | (simp [*]; done), by repeat (first | exact Drawn0.refl _ | apply Drawn0.step)⟩

end Go.Proofs.Ytcciljjnpfgaeaa.G

namespace Go.Proofs.Ytcciljjnpfgaeaa.G
open Go.RowKit Go.Proofs.YtcciljjnpfgaeaaW.PrintWords Go.Proofs.YtcciljjnpfgaeaaW.PrintLast
set_option linter.unusedVariables false
set_option linter.unusedSimpArgs false
theorem impl_within_eq (a b c : Int) : impl_within.f a b c = some (decide (b ≤ a ∧ a ≤ c)) := by
  unfold impl_within.f
  split
  · rename_i h; congr 1; simp; omega
  · rename_i h; congr 1; simp; omega
theorem spec_l1In_eq (a b c : Int) : spec_l1In.f a b c = some (decide (b ≤ a ∧ a ≤ c)) := by
  unfold spec_l1In.f
  split
  · rename_i h; congr 1; simp; omega
  · rename_i h; congr 1; simp; omega
theorem spec_most_eq (a b : Int) : spec_l1Most.f a b = some (mx a b) := by
  unfold spec_l1Most.f mx
  split <;> split <;> first | rfl | (congr 1; omega)
end Go.Proofs.Ytcciljjnpfgaeaa.G

namespace Go.Proofs.Ytcciljjnpfgaeaa.G
open Go.RowKit Go.Proofs.YtcciljjnpfgaeaaW.PrintWords Go.Proofs.YtcciljjnpfgaeaaW.PrintLast
set_option linter.unusedVariables false
set_option linter.unusedSimpArgs false
def shipOk (x : S62) : Prop := (1 ≤ x.f0 ∧ x.f0 ≤ 30) ∧ (0 ≤ x.f1 ∧ x.f1 ≤ 200) ∧ (1 ≤ x.f2 ∧ x.f2 ≤ 48) ∧ (1 ≤ x.f3 ∧ x.f3 ≤ 9)
def Ships (q : Int) (l : List S62) : Prop := (1 ≤ q ∧ q ≤ 30) ∧ (l.length : Int) ≤ 5 ∧ All (fun i => shipOk (rd_T62 l i)) 0 (l.length : Int)
theorem cont78_eq (l : List S62) : impl_Ship_69_78.f l = some (chk (All (fun i => shipOk (rd_T62 l i)) 0 (l.length : Int)) false true) := by
  unfold impl_Ship_69_78.f
  congr 1
  have hb : (bad78 l l.length 0 ≥ 0) ↔ ¬ All (fun i => shipOk (rd_T62 l i)) 0 (l.length : Int) := by
    rw [bad78_iff]
    constructor
    · intro h a
      refine h fun j _ hj => ?_
      have := a (j : Int) (by omega) (by omega)
      unfold good78; exact decide_eq_true this
    · intro h a
      refine h fun j h0 hj => ?_
      have := a j.toNat (by omega) (by omega)
      rw [show ((j.toNat : Nat) : Int) = j from by omega] at this
      unfold good78 at this
      have h' := of_decide_eq_true this
      exact h'
  by_cases ha : All (fun i => shipOk (rd_T62 l i)) 0 (l.length : Int)
  · rw [chk_pos ha]; exact decide_eq_false (fun x => hb.1 x ha)
  · rw [chk_neg ha]; exact decide_eq_true (hb.2 ha)
theorem impl_ships (q : Int) (l : List S62) : impl_areShips.f q l = some (chk (Ships q l) true false) := by
  unfold impl_areShips.f
  simp only [impl_within_eq, Option.bind_some, decide_eq_true_eq, cont78_eq]
  by_cases h1 : 1 ≤ q ∧ q ≤ 30
  · rw [if_pos h1]
    by_cases h2 : (l.length : Int) > 5
    · rw [if_pos h2, chk_neg (fun m : Ships q l => by have := m.2.1; omega)]
    · rw [if_neg h2]
      by_cases h3 : All (fun i => shipOk (rd_T62 l i)) 0 (l.length : Int)
      · rw [chk_pos h3, chk_pos (show Ships q l from ⟨h1, by omega, h3⟩)]; rfl
      · rw [chk_neg h3, chk_neg (fun m : Ships q l => h3 m.2.2)]; rfl
  · rw [if_neg h1, chk_neg (fun m : Ships q l => h1 m.1)]
theorem spec_ships (q : Int) (l : List S62) : Ev (fun k => spec_l14Ships.f k q l) (chk (Ships q l) true false) := by
  unfold spec_l14Ships.f
  have inner : ∀ (i : Int) (r : Bool), 0 ≤ i → i < (l.length : Int) → i ≤ 5 → (shipOk (rd_T62 l i) → Ev (fun k => spec_l14Ships.l0 k q l (i + 1)) r) → (¬ shipOk (rd_T62 l i) → r = false) → Ev (fun k => spec_l14Ships.l0 k q l i) r := by
    intro i r i0 i1 i5 hy hn
    refine Ev.step (fun k => by rw [spec_l14Ships.l0]) ?_
    simp (disch := omega) only [if_pos]
    rw [decide_eq_true i5]
    refine Ev.step (fun k => by rw [spec_l14Ships.j1]) ?_
    simp (disch := omega) only [if_pos, spec_l1In_eq, Option.bind_some, decide_eq_true_eq, if_true]
    have no : ¬ shipOk (rd_T62 l i) → Ev (fun _ => some false) r := fun h => by rw [hn h]; exact Ev.now _
    refine Ev.ite (fun g1 => ?_) (fun g1 => no (fun m => g1 m.1))
    refine Ev.ite (fun g2 => ?_) (fun g2 => no (fun m => g2 m.2.1))
    refine Ev.ite (fun g3 => ?_) (fun g3 => no (fun m => g3 m.2.2.1))
    refine Ev.ite (fun g4 => ?_) (fun g4 => no (fun m => g4 m.2.2.2))
    rw [wrap64_id (by omega) (by omega)]
    exact hy ⟨g1, g2, g3, g4⟩
  by_cases hl : (l.length : Int) ≤ 5
  · have h := Ev.check (fun k i => spec_l14Ships.l0 k q l i) (l.length : Int) (fun i => shipOk (rd_T62 l i)) (decide (1 ≤ q ∧ q ≤ 30)) false 0 (by
      refine Ev.step (fun k => by rw [spec_l14Ships.l0]) ?_
      simp only [Int.lt_irrefl, if_false]
      refine Ev.step (fun k => by rw [spec_l14Ships.j1]) ?_
      simp only [Bool.false_eq_true, if_false, spec_l1In_eq, Option.bind_some, decide_eq_true_eq]
      refine Ev.ite (fun g => ?_) (fun g => ?_)
      · rw [decide_eq_true g, decide_eq_true hl]; exact Ev.now _
      · rw [decide_eq_false g]; exact Ev.now _) (by
      intro i h0 hlt r hr
      refine inner i _ h0 hlt (by omega) (fun m => ?_) (fun m => ?_)
      · rw [chk_pos m]; exact hr
      · rw [chk_neg m]) 0 (by omega) (by omega)
    refine Ev.eq h ?_
    by_cases ha : All (fun i => shipOk (rd_T62 l i)) 0 (l.length : Int)
    · rw [chk_pos ha]
      by_cases hq : 1 ≤ q ∧ q ≤ 30
      · rw [decide_eq_true hq, chk_pos (show Ships q l from ⟨hq, hl, ha⟩)]
      · rw [decide_eq_false hq, chk_neg (fun m : Ships q l => hq m.1)]
    · rw [chk_neg ha, chk_neg (fun m : Ships q l => ha m.2.2)]
  · rw [chk_neg (fun m : Ships q l => hl m.2.1)]
    have main : ∀ (d : Nat) (i : Int), 0 ≤ i → i + d = 6 → Ev (fun k => spec_l14Ships.l0 k q l i) false := by
      intro d
      induction d with
      | zero =>
        intro i h0 hd
        obtain rfl : i = 6 := by omega
        have fin : Ev (fun k => spec_l14Ships.j1 k q l 6 false) false := by
          refine Ev.step (fun k => by rw [spec_l14Ships.j1]) ?_
          simp only [Bool.false_eq_true, if_false, spec_l1In_eq, Option.bind_some, decide_eq_true_eq]
          refine Ev.ite (fun g => ?_) (fun g => Ev.now _)
          rw [decide_eq_false hl]; exact Ev.now _
        refine Ev.step (fun k => by rw [spec_l14Ships.l0]) ?_
        rw [show decide ((6 : Int) ≤ 5) = false from by decide]
        exact Ev.ite (fun _ => fin) (fun _ => fin)
      | succ d ih =>
        intro i h0 hd
        exact inner i false h0 (by omega) (by omega) (fun _ => ih (i + 1) (by omega) (by omega)) (fun _ => rfl)
    exact main 6 0 (by omega) (by omega)
/-- A berth is possible for a ship for itself. -/
def Fit (q : Int) (x : S62) (b : S37) : Prop := (0 ≤ b.f0 ∧ b.f0 ≤ q - x.f0) ∧ (x.f1 ≤ b.f1 ∧ b.f1 ≤ 1000)
def Apart (x : S62) (a : S37) (y : S62) (b : S37) : Prop := a.f0 + x.f0 ≤ b.f0 ∨ b.f0 + y.f0 ≤ a.f0 ∨ a.f1 + x.f2 ≤ b.f1 ∨ b.f1 + y.f2 ≤ a.f1
def small (b : S37) : Prop := (0 ≤ b.f0 ∧ b.f0 ≤ 30) ∧ (0 ≤ b.f1 ∧ b.f1 ≤ 1000)
theorem fit_small {q : Int} {x : S62} {b : S37} (hq : q ≤ 30) (hx : shipOk x) (h : Fit q x b) : small b := by
  unfold shipOk at hx
  unfold Fit at h
  unfold small
  omega
theorem touch_eq (x : S62) (a : S37) (y : S62) (b : S37) (hx : shipOk x) (ha : small a) (hy : shipOk y) (hb : small b) : impl_touch.f x.f0 x.f1 x.f2 x.f3 a.f0 a.f1 y.f0 y.f1 y.f2 y.f3 b.f0 b.f1 = some (chk (Apart x a y b) false true) := by
  unfold shipOk at hx hy
  unfold small at ha hb
  unfold impl_touch.f
  simp (disch := omega) only [wrap64_id]
  by_cases h : Apart x a y b
  · rw [chk_pos h]
    unfold Apart at h
    split
    · split
      · split
        · rw [decide_eq_false (by omega)]
        · rfl
      · rfl
    · rfl
  · rw [chk_neg h]
    unfold Apart at h
    simp (disch := omega) only [if_pos]
    rw [decide_eq_true (by omega)]
theorem apart_eq (x : S62) (a : S37) (y : S62) (b : S37) (hx : shipOk x) (ha : small a) (hy : shipOk y) (hb : small b) : spec_l14Apart.f x.f0 x.f1 x.f2 x.f3 a.f0 a.f1 y.f0 y.f1 y.f2 y.f3 b.f0 b.f1 = some (chk (Apart x a y b) true false) := by
  unfold shipOk at hx hy
  unfold small at ha hb
  unfold spec_l14Apart.f
  simp (disch := omega) only [wrap64_id]
  by_cases h : Apart x a y b
  · rw [chk_pos h]
    unfold Apart at h
    split
    · rfl
    · split
      · rfl
      · split
        · rfl
        · rw [decide_eq_true (by omega)]
  · rw [chk_neg h]
    unfold Apart at h
    simp (disch := omega) only [if_neg]
    rw [decide_eq_false (by omega)]
/-- The berth of a ship is possible beside the first n of others. -/
def Beside (q : Int) (x : S62) (b : S37) (o : List S62) (bs : List S37) (n : Int) : Prop := Fit q x b ∧ All (fun k => Apart x b (rd_T62 o k) (rd_T37 bs k)) 0 n
theorem impl_Fits (q : Int) (hq : 1 ≤ q ∧ q ≤ 30) (x : S62) (hx : shipOk x) (b : S37) (o : List S62) (bs : List S37) (hn : bs.length ≤ o.length) (hn5 : (bs.length : Int) ≤ 5) (ho : All (fun k => shipOk (rd_T62 o k)) 0 (bs.length : Int)) (hb : All (fun k => small (rd_T37 bs k)) 0 (bs.length : Int)) : Ev (fun k => impl_fits.f k q x.f0 x.f1 x.f2 x.f3 b.f0 b.f1 o bs) (chk (Beside q x b o bs (bs.length : Int)) true false) := by
  have hx' := hx
  unfold shipOk at hx'
  have no : ¬ Fit q x b → Ev (fun k => impl_fits.j0 k o bs true x.f0 x.f1 x.f2 x.f3 b.f0 b.f1) (chk (Beside q x b o bs (bs.length : Int)) true false) := by
    intro h
    rw [chk_neg (fun m : Beside q x b o bs (bs.length : Int) => h m.1)]
    refine Ev.step (fun k => by rw [impl_fits.j0]) ?_
    simp only [if_true]; exact Ev.now _
  unfold impl_fits.f
  rw [wrap64_id (by omega) (by omega)]
  refine Ev.ite (fun g1 => no (fun m => by unfold Fit at m; omega)) (fun g1 => ?_)
  refine Ev.ite (fun g2 => no (fun m => by unfold Fit at m; omega)) (fun g2 => ?_)
  refine Ev.ite (fun g3 => no (fun m => by unfold Fit at m; omega)) (fun g3 => ?_)
  by_cases g4 : b.f1 > 1000
  · rw [decide_eq_true g4]; exact no (fun m => by unfold Fit at m; omega)
  · rw [decide_eq_false g4]
    have hf : Fit q x b := by unfold Fit; omega
    refine Ev.step (fun k => by rw [impl_fits.j0]) ?_
    simp only [Bool.false_eq_true, if_false]
    rw [chk_congr (show Beside q x b o bs (bs.length : Int) ↔ All (fun k => Apart x b (rd_T62 o k) (rd_T37 bs k)) 0 (bs.length : Int) from ⟨fun m => m.2, fun m => ⟨hf, m⟩⟩)]
    refine Ev.check (fun k i => impl_fits.l0 k o bs (bs.length : Int) i x.f0 x.f1 x.f2 x.f3 b.f0 b.f1) (bs.length : Int) (fun k => Apart x b (rd_T62 o k) (rd_T37 bs k)) true false 0 ?_ ?_ 0 (by omega) (by omega)
    · refine Ev.step (fun k => by rw [impl_fits.l0]) ?_
      simp only [Int.lt_irrefl, if_false]
      exact Ev.now _
    · intro i h0 hlt r hr
      refine Ev.step (fun k => by rw [impl_fits.l0]) ?_
      simp (disch := omega) only [if_pos, wrap64_id]
      rw [touch_eq x b _ _ hx (fit_small hq.2 hx hf) (ho i h0 hlt) (hb i h0 hlt)]
      simp only [Option.bind_some]
      by_cases ha : Apart x b (rd_T62 o i) (rd_T37 bs i)
      · rw [chk_pos ha, chk_pos ha]; simp only [Bool.false_eq_true, if_false]; exact hr
      · rw [chk_neg ha, chk_neg ha]; simp only [if_true]; exact Ev.now _
theorem spec_Fits (q : Int) (hq : 1 ≤ q ∧ q ≤ 30) (x : S62) (hx : shipOk x) (b : S37) : spec_l14Fits.f q x.f0 x.f1 x.f2 x.f3 b.f0 b.f1 = some (chk (Fit q x b) true false) := by
  unfold shipOk at hx
  unfold spec_l14Fits.f
  rw [wrap64_id (by omega) (by omega)]
  simp only [spec_l1In_eq, Option.bind_some, decide_eq_true_eq]
  by_cases g1 : 0 ≤ b.f0 ∧ b.f0 ≤ q - x.f0
  · rw [if_pos g1]
    by_cases g2 : x.f1 ≤ b.f1 ∧ b.f1 ≤ 1000
    · rw [decide_eq_true g2, chk_pos (show Fit q x b from ⟨g1, g2⟩)]
    · rw [decide_eq_false g2, chk_neg (fun m : Fit q x b => g2 m.2)]
  · rw [if_neg g1, chk_neg (fun m : Fit q x b => g1 m.1)]
/-- Ship i of a plan stands well. -/
def Stand (q : Int) (l : List S62) (p : List S37) (i : Int) : Prop := Beside q (rd_T62 l i) (rd_T37 p i) l p i
def Poss (q : Int) (l : List S62) (p : List S37) : Prop := Ships q l ∧ (p.length : Int) = (l.length : Int) ∧ All (Stand q l p) 0 (p.length : Int)
theorem rd62_take (l : List S62) (n k : Int) (h0 : 0 ≤ k) (h1 : k < n) : rd_T62 (l.take n.toNat) k = rd_T62 l k := by
  unfold rd_T62
  rw [List.getD_eq_getElem?_getD, List.getD_eq_getElem?_getD, List.getElem?_take_of_lt (by omega)]
theorem rd37_take (l : List S37) (n k : Int) (h0 : 0 ≤ k) (h1 : k < n) : rd_T37 (l.take n.toNat) k = rd_T37 l k := by
  unfold rd_T37
  rw [List.getD_eq_getElem?_getD, List.getD_eq_getElem?_getD, List.getElem?_take_of_lt (by omega)]
theorem len62_take (l : List S62) (i : Int) (h0 : 0 ≤ i) (h1 : i ≤ (l.length : Int)) : ((l.take i.toNat).length : Int) = i := by rw [List.length_take]; omega
theorem len37_take (l : List S37) (i : Int) (h0 : 0 ≤ i) (h1 : i ≤ (l.length : Int)) : ((l.take i.toNat).length : Int) = i := by rw [List.length_take]; omega
theorem beside_take (q : Int) (x : S62) (b : S37) (l : List S62) (p : List S37) (n : Int) : Beside q x b (l.take n.toNat) (p.take n.toNat) n ↔ Beside q x b l p n := by
  constructor
  · rintro ⟨h1, h2⟩
    refine ⟨h1, fun k k0 k1 => ?_⟩
    have := h2 k k0 k1
    show Apart x b (rd_T62 l k) (rd_T37 p k)
    rw [← rd62_take l n k k0 k1, ← rd37_take p n k k0 k1]
    exact this
  · rintro ⟨h1, h2⟩
    refine ⟨h1, fun k k0 k1 => ?_⟩
    show Apart x b (rd_T62 (l.take n.toNat) k) (rd_T37 (p.take n.toNat) k)
    rw [rd62_take l n k k0 k1, rd37_take p n k k0 k1]
    exact h2 k k0 k1
theorem poss_small {q : Int} {l : List S62} {p : List S37} (hs : Ships q l) (n : Int) (hn : n ≤ (l.length : Int)) (h : All (Stand q l p) 0 n) : All (fun k => small (rd_T37 p k)) 0 n := by
  intro k k0 k1
  exact fit_small hs.1.2 (hs.2.2 k k0 (by omega)) (h k k0 k1).1
theorem impl_stand {q : Int} {l : List S62} (hs : Ships q l) (p : List S37) (i : Int) (h0 : 0 ≤ i) (h1 : i < (p.length : Int)) (h2 : i < (l.length : Int)) (ha : All (Stand q l p) 0 i) : Ev (fun k => impl_fits.f k q (rd_T62 l i).f0 (rd_T62 l i).f1 (rd_T62 l i).f2 (rd_T62 l i).f3 (rd_T37 p i).f0 (rd_T37 p i).f1 (l.take i.toNat) (p.take i.toNat)) (chk (Stand q l p i) true false) := by
  have hl := hs.2.1
  have e1 := len62_take l i h0 (by omega)
  have e2 := len37_take p i h0 (by omega)
  have h := impl_Fits q hs.1 (rd_T62 l i) (hs.2.2 i h0 h2) (rd_T37 p i) (l.take i.toNat) (p.take i.toNat) (by omega) (by omega) (by
      rw [e2]; intro k k0 k1
      show shipOk (rd_T62 (l.take i.toNat) k)
      rw [rd62_take l i k k0 k1]
      exact hs.2.2 k k0 (by omega)) (by
      rw [e2]; intro k k0 k1
      show small (rd_T37 (p.take i.toNat) k)
      rw [rd37_take p i k k0 k1]
      exact poss_small hs i (by omega) ha k k0 k1)
  rw [e2, chk_congr (beside_take q (rd_T62 l i) (rd_T37 p i) l p i)] at h
  exact h
theorem check_all {P : Int → Prop} (g : Nat → Int → Option Bool) (n : Int) (hend : Ev (fun k => g k n) true) (hstep : ∀ i, 0 ≤ i → i < n → All P 0 i → (P i → Ev (fun k => g k (i + 1)) (chk (All P (i + 1) n) true false)) → Ev (fun k => g k i) (chk (All P i n) true false)) : ∀ (d : Nat) (i : Int), 0 ≤ i → i + d = n → All P 0 i → Ev (fun k => g k i) (chk (All P i n) true false) := by
  intro d
  induction d with
  | zero =>
    intro i h0 hd ha
    obtain rfl : i = n := by omega
    rw [chk_pos (All.end_ P i)]
    exact hend
  | succ d ih =>
    intro i h0 hd ha
    refine hstep i h0 (by omega) ha (fun hp => ih (i + 1) (by omega) (by omega) (fun j a b => ?_))
    by_cases e : j = i
    · rw [e]; exact hp
    · exact ha j a (by omega)
theorem impl_poss (q : Int) (l : List S62) (p : List S37) : Ev (fun k => impl_IsPossiblePlan.f k q l p) (chk (Poss q l p) true false) := by
  have no : ¬ Poss q l p → Ev (fun k => impl_IsPossiblePlan.j0 k q l p true) (chk (Poss q l p) true false) := by
    intro h
    rw [chk_neg h]
    refine Ev.step (fun k => by rw [impl_IsPossiblePlan.j0]) ?_
    simp only [if_true]; exact Ev.now _
  unfold impl_IsPossiblePlan.f
  simp only [impl_ships, Option.bind_some]
  refine Ev.ite (fun hs => ?_) (fun hs => no (fun m => hs (chk_true.2 m.1)))
  have hs := chk_true.1 hs
  have hl := hs.2.1
  by_cases hn : (p.length : Int) = (l.length : Int)
  · rw [show ((p.length : Int) != (l.length : Int)) = false from by rw [hn]; exact bne_self_eq_false _]
    refine Ev.step (fun k => by rw [impl_IsPossiblePlan.j0]) ?_
    simp only [Bool.false_eq_true, if_false]
    rw [chk_congr (show Poss q l p ↔ All (Stand q l p) 0 (p.length : Int) from ⟨fun m => m.2.2, fun m => ⟨hs, hn, m⟩⟩)]
    refine check_all (fun k i => impl_IsPossiblePlan.l0 k q l p p (p.length : Int) i) (p.length : Int) ?_ ?_ p.length 0 (by omega) (by omega) (fun j a b => by omega)
    · refine Ev.step (fun k => by rw [impl_IsPossiblePlan.l0]) ?_
      simp only [Int.lt_irrefl, if_false]
      exact Ev.now _
    · intro i h0 hlt ha nx
      refine Ev.step (fun k => by rw [impl_IsPossiblePlan.l0]) ?_
      simp (disch := omega) only [if_pos]
      refine Ev.bind (impl_stand hs p i h0 hlt (by omega) ha) ?_
      refine Ev.ite (fun g => ?_) (fun g => ?_)
      · rw [wrap64_id (by omega) (by omega), chk_congr (All.step hlt), chk_congr (show Stand q l p i ∧ All (Stand q l p) (i + 1) (p.length : Int) ↔ All (Stand q l p) (i + 1) (p.length : Int) from ⟨fun m => m.2, fun m => ⟨chk_true.1 g, m⟩⟩)]
        exact nx (chk_true.1 g)
      · rw [chk_neg (fun m => g (chk_true.2 (m i (by omega) hlt)))]; exact Ev.now _
  · rw [show ((p.length : Int) != (l.length : Int)) = true from by rw [bne_iff_ne]; exact hn]
    exact no (fun m => hn m.2.1)
/-- The reference's plan for the first ships of a valid list. -/
theorem spec_plan {q : Int} {l : List S62} (hs : Ships q l) (p : List S37) (hpl : (p.length : Int) ≤ 1099511627776) : Ev (fun k => spec_l14Plan.f k q l p) (chk ((p.length : Int) ≤ (l.length : Int) ∧ All (Stand q l p) 0 (p.length : Int)) true false) := by
  have hl := hs.2.1
  unfold spec_l14Plan.f
  have key : ((p.length : Int) ≤ (l.length : Int) ∧ All (Stand q l p) 0 (p.length : Int)) ↔ All (fun i => i < (l.length : Int) ∧ Stand q l p i) 0 (p.length : Int) := by
    constructor
    · rintro ⟨h1, h2⟩ i a b
      exact ⟨by omega, h2 i a b⟩
    · intro h
      refine ⟨?_, fun i a b => (h i a b).2⟩
      by_cases e : (p.length : Int) ≤ 0
      · omega
      · have := (h ((p.length : Int) - 1) (by omega) (by omega)).1
        omega
  rw [chk_congr key]
  refine check_all (fun k i => spec_l14Plan.l0 k q l p i) (p.length : Int) ?_ ?_ p.length 0 (by omega) (by omega) (fun j a b => by omega)
  · refine Ev.step (fun k => by rw [spec_l14Plan.l0]) ?_
    simp only [Int.lt_irrefl, if_false]
    exact Ev.now _
  · intro i h0 hlt ha nx
    have no : ¬ (i < (l.length : Int) ∧ Stand q l p i) → Ev (fun k => spec_l14Plan.j1 k q l p i true) (chk (All (fun i => i < (l.length : Int) ∧ Stand q l p i) i (p.length : Int)) true false) := by
      intro h
      rw [chk_neg (fun m => h (m i (by omega) hlt))]
      refine Ev.step (fun k => by rw [spec_l14Plan.j1]) ?_
      simp only [if_true]; exact Ev.now _
    refine Ev.step (fun k => by rw [spec_l14Plan.l0]) ?_
    simp only [if_pos hlt]
    refine Ev.ite (fun g1 => no (fun m => by omega)) (fun g1 => ?_)
    simp (disch := omega) only [if_pos]
    rw [spec_Fits q hs.1 (rd_T62 l i) (hs.2.2 i h0 (by omega)) (rd_T37 p i)]
    simp only [Option.bind_some]
    by_cases g2 : Fit q (rd_T62 l i) (rd_T37 p i)
    · rw [chk_pos g2]
      refine Ev.step (fun k => by rw [spec_l14Plan.j1]) ?_
      simp only [Bool.not_true, Bool.false_eq_true, if_false]
      have sm := poss_small hs i (by omega) (fun j a b => (ha j a b).2)
      have inner := Ev.check (fun k j => spec_l14Plan.l1 k q l p i j) i (fun j => Apart (rd_T62 l i) (rd_T37 p i) (rd_T62 l j) (rd_T37 p j)) (chk (All (fun i => i < (l.length : Int) ∧ Stand q l p i) (i + 1) (p.length : Int)) true false) false 0
      rw [chk_congr (All.step hlt)]
      by_cases g3 : Stand q l p i
      · rw [chk_congr (show (i < (l.length : Int) ∧ Stand q l p i) ∧ All (fun i => i < (l.length : Int) ∧ Stand q l p i) (i + 1) (p.length : Int) ↔ All (fun i => i < (l.length : Int) ∧ Stand q l p i) (i + 1) (p.length : Int) from ⟨fun m => m.2, fun m => ⟨⟨by omega, g3⟩, m⟩⟩)]
        refine Ev.upc (fun k j => spec_l14Plan.l1 k q l p i j) _ i 0 ?_ ?_ 0 (by omega) (by omega)
        · refine Ev.step (fun k => by rw [spec_l14Plan.l1]) ?_
          simp only [Int.lt_irrefl, if_false]
          rw [wrap64_id (by omega) (by omega)]
          exact nx ⟨by omega, g3⟩
        · intro j j0 jlt hj
          refine Ev.step (fun k => by rw [spec_l14Plan.l1]) ?_
          simp (disch := omega) only [if_pos]
          rw [apart_eq _ _ _ _ (hs.2.2 i h0 (by omega)) (fit_small hs.1.2 (hs.2.2 i h0 (by omega)) g2) (hs.2.2 j j0 (by omega)) (sm j j0 jlt), chk_pos (g3.2 j j0 jlt)]
          simp only [Option.bind_some, if_true]
          rw [wrap64_id (by omega) (by omega)]
          exact hj
      · rw [chk_neg (fun m => g3 m.1.2)]
        have ne : ¬ All (fun j => Apart (rd_T62 l i) (rd_T37 p i) (rd_T62 l j) (rd_T37 p j)) 0 i := fun m => g3 ⟨g2, m⟩
        have main : ∀ (d : Nat) (j : Int), 0 ≤ j → j + d = i → ¬ All (fun j => Apart (rd_T62 l i) (rd_T37 p i) (rd_T62 l j) (rd_T37 p j)) j i → Ev (fun k => spec_l14Plan.l1 k q l p i j) false := by
          intro d
          induction d with
          | zero =>
            intro j j0 jd hj
            exact absurd (fun x a b => by omega) hj
          | succ d ih =>
            intro j j0 jd hj
            refine Ev.step (fun k => by rw [spec_l14Plan.l1]) ?_
            simp (disch := omega) only [if_pos]
            rw [apart_eq _ _ _ _ (hs.2.2 i h0 (by omega)) (fit_small hs.1.2 (hs.2.2 i h0 (by omega)) g2) (hs.2.2 j j0 (by omega)) (sm j j0 (by omega))]
            simp only [Option.bind_some]
            by_cases ap : Apart (rd_T62 l i) (rd_T37 p i) (rd_T62 l j) (rd_T37 p j)
            · rw [chk_pos ap]
              simp only [if_true]
              rw [wrap64_id (by omega) (by omega)]
              refine ih (j + 1) (by omega) (by omega) (fun m => hj ?_)
              rw [All.step (show j < i by omega)]
              exact ⟨ap, m⟩
            · rw [chk_neg ap]
              simp only [Bool.false_eq_true, if_false]
              exact Ev.now _
        exact main i.toNat 0 (by omega) (by omega) ne
    · rw [chk_neg g2]
      exact no (fun m => g2 m.2.1)
theorem spec_asked (q : Int) (l : List S62) (p : List S37) (hpl : (p.length : Int) ≤ 1099511627776) : Ev (fun k => spec_l14Asked.f k q l p) (chk (Poss q l p) true false) := by
  unfold spec_l14Asked.f
  refine Ev.bind (spec_ships q l) ?_
  refine Ev.ite (fun hs => ?_) (fun hs => ?_)
  · have hs := chk_true.1 hs
    refine Ev.bind (spec_plan hs p hpl) ?_
    refine Ev.ite (fun g => ?_) (fun g => ?_)
    · have g := chk_true.1 g
      by_cases hn : (p.length : Int) = (l.length : Int)
      · rw [chk_pos (show Poss q l p from ⟨hs, hn, g.2⟩), hn]
        exact Ev.val (beq_self_eq_true _)
      · rw [chk_neg (fun m : Poss q l p => hn m.2.1)]
        exact Ev.val (by rw [beq_eq_false_iff_ne]; exact hn)
    · rw [chk_neg (fun m : Poss q l p => g (chk_true.2 ⟨by have := m.2.1; omega, m.2.2⟩))]; exact Ev.now _
  · rw [chk_neg (fun m : Poss q l p => hs (chk_true.2 m.1))]; exact Ev.now _
end Go.Proofs.Ytcciljjnpfgaeaa.G

-- Written by wip/tools/gen.py out of the translation (the kit's printer, one namespace a seat). Lean checks it.
namespace Go.Proofs.Ytcciljjnpfgaeaa.G
open Go.RowKit Go.Proofs.YtcciljjnpfgaeaaW.PrintWords Go.Proofs.YtcciljjnpfgaeaaW.PrintLast Go.Proofs.YtcciljjnpfgaeaaW.PrintMore
attribute [local go_sem] max2_int min2_int max_two min_two max_three min_three max_four min_four   -- for this text's walks alone
set_option linter.unusedVariables false
set_option linter.unusedSimpArgs false

/-! ### impl_LastHour: function 22 -/
def impl_LastHour.l0 : Nat → List (S62) → Int → List (S37) → Int → Int → Option (Int × Bool)
  | 0, _, _, _, _, _ => none
  | k + 1, x1, x8, x16, x17, x18 => if x18 < x17 then (if 0 ≤ x18 then (if x18 < (x16.length : Int) then (if x18 < (x1.length : Int) then (impl_LastHour.l0 k x1 (mx x8 (wrap64 (((rd_T37 x16 x18).f1) + ((rd_T62 x1 x18).f2)))) x16 x17 (wrap64 (x18 + 1))) else (none)) else (none)) else (none)) else (some (x8, true))
def impl_LastHour.f (k : Nat) (a0 : Int) (l1 : List (S62)) (l2 : List (S37)) : Option (Int × Bool) := (impl_IsPossiblePlan.f k a0 l1 l2).bind fun t217 => (if t217 = true then (impl_LastHour.l0 k l1 0 l2 (l2.length : Int) 0) else (some (0, false)))
theorem impl_LastHour.mono_l : ∀ k, (∀ y0 y1 y2 y3 y4, LeO (impl_LastHour.l0 k y0 y1 y2 y3 y4) (impl_LastHour.l0 (k + 1) y0 y1 y2 y3 y4))
  | 0 => fun _ _ _ _ _ r h => by simp [impl_LastHour.l0] at h
  | k + 1 => by
    have ih0 := impl_LastHour.mono_l k
    · intro y0 y1 y2 y3 y4
      unfold impl_LastHour.l0
      repeat' first
      | (with_reducible exact ih0 _ _ _ _ _)
      | (with_reducible exact impl_IsPossiblePlan.mono _ _ _ _)
      | (with_reducible exact LeO.refl _)
      | (with_reducible exact LeO.none _)
      | (with_reducible refine LeO.ite ?_ ?_)
      | (with_reducible refine LeO.bind ?_ (fun _ => ?_))
      | exact ih0 _ _ _ _ _
      | exact impl_IsPossiblePlan.mono _ _ _ _
      | exact LeO.none _
      | refine LeO.ite ?_ ?_
      | refine LeO.bind ?_ (fun _ => ?_)
theorem impl_LastHour.mono : ∀ a0 a1 a2 k, LeO (impl_LastHour.f k a0 a1 a2) (impl_LastHour.f (k + 1) a0 a1 a2) := by
  intro a0 a1 a2 k
  have ih0 := impl_LastHour.mono_l k
  unfold impl_LastHour.f
  repeat' first
      | (with_reducible exact ih0 _ _ _ _ _)
      | (with_reducible exact impl_IsPossiblePlan.mono _ _ _ _)
      | (with_reducible exact LeO.refl _)
      | (with_reducible exact LeO.none _)
      | (with_reducible refine LeO.ite ?_ ?_)
      | (with_reducible refine LeO.bind ?_ (fun _ => ?_))
      | exact ih0 _ _ _ _ _
      | exact impl_IsPossiblePlan.mono _ _ _ _
      | exact LeO.none _
      | refine LeO.ite ?_ ?_
      | refine LeO.bind ?_ (fun _ => ?_)
set_option maxHeartbeats 8000000 in
set_option maxRecDepth 100000 in
theorem impl_LastHour.calls (k : Nat) (a0 : Int) (A1 : Option Addr) (c1 : Nat) (l1 : List (S62)) (A2 : Option Addr) (c2 : Nat) (l2 : List (S37)) (r1 : Int) (r2 : Bool) (w : World) (hr1 : Kd.C k62 w A1 l1.length l1) (hc1 : l1.length ≤ c1) (hr2 : Kd.C k37 w A2 l2.length l2) (hc2 : l2.length ≤ c2) (h : impl_LastHour.f k a0 l1 l2 = some (r1, r2)) :
    Calls Try.prog 22 #[.int .i64 a0, .slice A1 l1.length c1, .slice A2 l2.length c2] w fun e w' => e = .returned (.tuple #[.int .i64 r1, .bool r2]) ∧ Below w.heap.size w w' := by
  have hu37 := Try.underlying37
  have HR1 := Aside0.mk hr1
  have HC1 := Aside0.mk hc1
  clear hr1 hc1
  have HR2 := Aside0.mk hr2
  have HC2 := Aside0.mk hc2
  clear hr2 hc2
  have HB := Aside0.mk (Below.refl w.heap.size w)
  have H : ((impl_IsPossiblePlan.f k a0 l1 l2).bind fun t217 => (if t217 = true then (impl_LastHour.l0 k l1 0 l2 (l2.length : Int) 0) else (some (0, false)))) = some (r1, r2) := h
  clear h
  replace H := Option.bind_eq_some_iff.mp H
  obtain ⟨t217, A40, H⟩ := H
  replace H : (if t217 = true then (impl_LastHour.l0 k l1 0 l2 (l2.length : Int) 0) else (some (0, false))) = some (r1, r2) := H
  have A4 := Aside0.mk A40
  clear A40
  by_cases c5 : t217 = true
  · subst c5
    have H1 : (impl_LastHour.l0 k l1 0 l2 (l2.length : Int) 0) = some (r1, r2) := by rw [if_pos rfl] at H; exact H
    clear H
    have H := H1
    clear H1
    have H' := Aside0.mk H
    clear H
    go_enter Try.func22, Try.ntmps22
    go_wp2_with (first | (go_at_call 18; (with_reducible refine (impl_IsPossiblePlan.calls k a0 _ _ l1 _ _ l2 true _ ?side1 ?side2 ?side3 ?side4 A4.out).mono ?_); (case side1 => repeat (first | exact HR1.out | (with_reducible refine Kd.C_alloc ?_ _) | (with_reducible refine Kd.C_drewN ?_ _) | (with_reducible refine Kd.C_drew ?_))); (case side2 => exact HC1.out); (case side3 => repeat (first | exact HR2.out | (with_reducible refine Kd.C_alloc ?_ _) | (with_reducible refine Kd.C_drewN ?_ _) | (with_reducible refine Kd.C_drew ?_))); (case side4 => exact HC2.out); rintro e w6 ⟨rfl, hb⟩; have n0_ := Aside0.mk (below_step (by repeat (first | (with_reducible first | exact HB.out | apply below_alloc | apply pw_below_drewN | apply below_drew1) | exact HB.out)) hb); clear HB; have HB := n0_; clear n0_; (try clear hb); (try clear hb2); (try clear hk); (try clear hi)))
    repeat (go_quiet (first | (go_at_call 18; (with_reducible refine (impl_IsPossiblePlan.calls k a0 _ _ l1 _ _ l2 true _ ?side1 ?side2 ?side3 ?side4 A4.out).mono ?_); (case side1 => repeat (first | exact HR1.out | (with_reducible refine Kd.C_alloc ?_ _) | (with_reducible refine Kd.C_drewN ?_ _) | (with_reducible refine Kd.C_drew ?_))); (case side2 => exact HC1.out); (case side3 => repeat (first | exact HR2.out | (with_reducible refine Kd.C_alloc ?_ _) | (with_reducible refine Kd.C_drewN ?_ _) | (with_reducible refine Kd.C_drew ?_))); (case side4 => exact HC2.out); rintro e w6 ⟨rfl, hb⟩; have n0_ := Aside0.mk (below_step (by repeat (first | (with_reducible first | exact HB.out | apply below_alloc | apply pw_below_drewN | apply below_drew1) | exact HB.out)) hb); clear HB; have HB := n0_; clear n0_; (try clear hb); (try clear hb2); (try clear hk); (try clear hi))); try go_wp2_with (first | (go_at_call 18; (with_reducible refine (impl_IsPossiblePlan.calls k a0 _ _ l1 _ _ l2 true _ ?side1 ?side2 ?side3 ?side4 A4.out).mono ?_); (case side1 => repeat (first | exact HR1.out | (with_reducible refine Kd.C_alloc ?_ _) | (with_reducible refine Kd.C_drewN ?_ _) | (with_reducible refine Kd.C_drew ?_))); (case side2 => exact HC1.out); (case side3 => repeat (first | exact HR2.out | (with_reducible refine Kd.C_alloc ?_ _) | (with_reducible refine Kd.C_drewN ?_ _) | (with_reducible refine Kd.C_drew ?_))); (case side4 => exact HC2.out); rintro e w6 ⟨rfl, hb⟩; have n0_ := Aside0.mk (below_step (by repeat (first | (with_reducible first | exact HB.out | apply below_alloc | apply pw_below_drewN | apply below_drew1) | exact HB.out)) hb); clear HB; have HB := n0_; clear n0_; (try clear hb); (try clear hb2); (try clear hk); (try clear hi))))
    go_loopg [8, 18] k (fun kq v8 v18 w' => ∃ (x8_1 : Int) (x18_1 : Int), v8 = .int .i64 x8_1 ∧ v18 = .int .i64 x18_1 ∧ Aside0 (impl_LastHour.l0 kq l1 x8_1 l2 (l2.length : Int) x18_1 = some (r1, r2)) ∧ Aside0 (kq ≤ k) ∧ Aside0 (Below w.heap.size w w'))
    case atStart => exact ⟨(0), (0), (by first | rfl | (simp; done) | (simp [*]; done)), (by first | rfl | (simp; done) | (simp [*]; done)), H', ⟨Nat.le_refl _⟩, ⟨by repeat (first | (with_reducible first | exact HB.out | apply below_alloc | apply pw_below_drewN | apply below_drew1) | exact HB.out)⟩⟩
    case round =>
      clear H'
      try clear c1
      try clear c2
      try clear p2
      try clear c5
      obtain ⟨x8_1, x18_1, rfl, rfl, HA, HK1, HB⟩ := hrel
      cases gk with
      | zero => exact absurd HA.out (by simp [impl_LastHour.l0])
      | succ k1 =>
        have H := HA.out
        clear HA
        simp only [impl_LastHour.l0] at H
        by_cases c7 : x18_1 < (l2.length : Int)
        · rw [if_pos c7] at H
          have c7b0 : decide (x18_1 < (l2.length : Int)) = true := decide_eq_true c7
          clear c7
          by_cases c8 : 0 ≤ x18_1
          · rw [if_pos c8] at H
            have c8b0 : decide (0 ≤ x18_1) = true := decide_eq_true c8
            clear c8
            by_cases c9 : x18_1 < (l2.length : Int)
            · rw [if_pos c9] at H
              have c9b0 : decide (x18_1 < (l2.length : Int)) = true := decide_eq_true c9
              clear c9
              by_cases c10 : x18_1 < (l1.length : Int)
              · rw [if_pos c10] at H
                have c10b0 : decide (x18_1 < (l1.length : Int)) = true := decide_eq_true c10
                clear c10
                obtain ⟨ji11, hji11⟩ : ∃ j_ : Int, (mx x8_1 (wrap64 (((rd_T37 l2 x18_1).f1) + ((rd_T62 l1 x18_1).f2)))) = j_ := ⟨_, rfl⟩
                replace H : (impl_LastHour.l0 k1 l1 ji11 l2 (l2.length : Int) (wrap64 (x18_1 + 1))) = some (r1, r2) := by first | (rw [hji11] at H; exact H) | (simp only [hji11] at H ⊢; exact H)
                have hji11_ : (if x8_1 < (wrap64 (((rd_T37 l2 x18_1).f1) + ((rd_T62 l1 x18_1).f2))) then (wrap64 (((rd_T37 l2 x18_1).f1) + ((rd_T62 l1 x18_1).f2))) else x8_1) = ji11 := hji11
                have H' := Aside0.mk H
                clear H
                have p218 : 0 ≤ (x18_1 : Int) := of_decide_eq_true (by first | (with_reducible assumption) | assumption)
                have q218 : x18_1 < (l2.length : Int) := of_decide_eq_true (by first | (with_reducible assumption) | assumption)
                obtain ⟨ad218, e218, hx218_0, hx218_1⟩ := at_T37 HR2.out x18_1 p218 q218
                cases e218
                replace hx218_0 := (HB.out.cell (World.block_lt_of_cell? w _ hx218_0)).trans hx218_0
                replace hx218_1 := (HB.out.cell (World.block_lt_of_cell? w _ hx218_1)).trans hx218_1
                replace p218 := eq_true p218
                replace q218 := eq_true q218
                go_wp2_with (first | ((with_reducible refine gate_dst (N := 10) rfl ?_); refine box_event ?hg (N := 10) ?hd (cs := #[.int .i64 0, .int .i64 0]) (t := 37) ?hr ?_; (case hd => rfl); (case hg => rfl); (case hr => first | (go_simp; done) | (go_simp; rfl)); intro gb219 hg w12 hbox hb; have n0_ := Aside0.mk (below_step (by repeat (first | (with_reducible first | exact HB.out | apply below_alloc | apply pw_below_drewN | apply below_drew1) | exact HB.out)) hb); have n1_ := Aside0.mk (hbox); have n2_ := Aside0.mk ((by rw [hg]; exact (below_size (by repeat (first | (with_reducible first | exact HB.out | apply below_alloc | apply pw_below_drewN | apply below_drew1) | exact HB.out))) : w.heap.size ≤ gb219)); have n3_ := Aside0.mk ((by rw [hg]; exact (below_size (by repeat (first | (with_reducible first | exact HB.out | apply below_alloc | apply pw_below_drewN | apply below_drew1) | exact HB.out))) : w.heap.size ≤ gb219)); clear HB; have HB := n0_; have BK219 := n1_; have GW219 := n2_; have GE219 := n3_; clear n0_ n1_ n2_ n3_; clear hb hbox hg; have hcz13_0 : w12.cell? ⟨gb219, 0, none⟩ = some (.int .i64 0) := (blk_cell BK219.out 0).trans rfl; have hcz13_1 : w12.cell? ⟨gb219, 1, none⟩ = some (.int .i64 0) := (blk_cell BK219.out 1).trans rfl; have hfz13_0 := blk_frozen BK219.out 0; have hfz13_1 := blk_frozen BK219.out 1; have p220 : 0 ≤ (x18_1 : Int) := of_decide_eq_true (by first | (with_reducible assumption) | assumption); have q220 : x18_1 < (l1.length : Int) := of_decide_eq_true (by first | (with_reducible assumption) | assumption); obtain ⟨ad220, e220, hx220_0, hx220_1, hx220_2, hx220_3⟩ := at_T62 HR1.out x18_1 p220 q220; cases e220; have hn220_0 : ad220.block ≠ gb219 := Nat.ne_of_lt (Nat.lt_of_lt_of_le (by have := World.block_lt_of_cell? _ _ hx220_0; first | rwa [add_block] at this | exact this) GW219.out); have hn220_1 : ad220.block ≠ gb219 := Nat.ne_of_lt (Nat.lt_of_lt_of_le (by have := World.block_lt_of_cell? _ _ hx220_0; first | rwa [add_block] at this | exact this) GW219.out); replace hx220_0 := (HB.out.cell (World.block_lt_of_cell? w _ hx220_0)).trans hx220_0; replace hx220_1 := (HB.out.cell (World.block_lt_of_cell? w _ hx220_1)).trans hx220_1; replace hx220_2 := (HB.out.cell (World.block_lt_of_cell? w _ hx220_2)).trans hx220_2; replace hx220_3 := (HB.out.cell (World.block_lt_of_cell? w _ hx220_3)).trans hx220_3; replace hx220_0 := (cell_far (p := ⟨gb219, 0, none⟩) (by first | (rw [add_block]; exact hn220_0) | (show (Addr.add _ _).block ≠ _; rw [add_block]; exact hn220_0) | exact hn220_0) (.int .i64 ((rd_T37 l2 x18_1).f0))).trans hx220_0; replace hx220_1 := (cell_far (p := ⟨gb219, 0, none⟩) (by first | (rw [add_block]; exact hn220_0) | (show (Addr.add _ _).block ≠ _; rw [add_block]; exact hn220_0) | exact hn220_0) (.int .i64 ((rd_T37 l2 x18_1).f0))).trans hx220_1; replace hx220_2 := (cell_far (p := ⟨gb219, 0, none⟩) (by first | (rw [add_block]; exact hn220_0) | (show (Addr.add _ _).block ≠ _; rw [add_block]; exact hn220_0) | exact hn220_0) (.int .i64 ((rd_T37 l2 x18_1).f0))).trans hx220_2; replace hx220_3 := (cell_far (p := ⟨gb219, 0, none⟩) (by first | (rw [add_block]; exact hn220_0) | (show (Addr.add _ _).block ≠ _; rw [add_block]; exact hn220_0) | exact hn220_0) (.int .i64 ((rd_T37 l2 x18_1).f0))).trans hx220_3; replace hx220_0 := (cell_far (p := ⟨gb219, 1, none⟩) (by first | (rw [add_block]; exact hn220_1) | (show (Addr.add _ _).block ≠ _; rw [add_block]; exact hn220_1) | exact hn220_1) (.int .i64 ((rd_T37 l2 x18_1).f1))).trans hx220_0; replace hx220_1 := (cell_far (p := ⟨gb219, 1, none⟩) (by first | (rw [add_block]; exact hn220_1) | (show (Addr.add _ _).block ≠ _; rw [add_block]; exact hn220_1) | exact hn220_1) (.int .i64 ((rd_T37 l2 x18_1).f1))).trans hx220_1; replace hx220_2 := (cell_far (p := ⟨gb219, 1, none⟩) (by first | (rw [add_block]; exact hn220_1) | (show (Addr.add _ _).block ≠ _; rw [add_block]; exact hn220_1) | exact hn220_1) (.int .i64 ((rd_T37 l2 x18_1).f1))).trans hx220_2; replace hx220_3 := (cell_far (p := ⟨gb219, 1, none⟩) (by first | (rw [add_block]; exact hn220_1) | (show (Addr.add _ _).block ≠ _; rw [add_block]; exact hn220_1) | exact hn220_1) (.int .i64 ((rd_T37 l2 x18_1).f1))).trans hx220_3; (try have hy220_0 := fun (n_ : Nat) => (show ((((w12.drewN n_).setCell ⟨gb219, 0, none⟩ (.int .i64 ((rd_T37 l2 x18_1).f0))).setCell ⟨gb219, 1, none⟩ (.int .i64 ((rd_T37 l2 x18_1).f1)))).cell? _ = some _ from hx220_0)); (try have hy220_1 := fun (n_ : Nat) => (show ((((w12.drewN n_).setCell ⟨gb219, 0, none⟩ (.int .i64 ((rd_T37 l2 x18_1).f0))).setCell ⟨gb219, 1, none⟩ (.int .i64 ((rd_T37 l2 x18_1).f1)))).cell? _ = some _ from hx220_1)); (try have hy220_2 := fun (n_ : Nat) => (show ((((w12.drewN n_).setCell ⟨gb219, 0, none⟩ (.int .i64 ((rd_T37 l2 x18_1).f0))).setCell ⟨gb219, 1, none⟩ (.int .i64 ((rd_T37 l2 x18_1).f1)))).cell? _ = some _ from hx220_2)); (try have hy220_3 := fun (n_ : Nat) => (show ((((w12.drewN n_).setCell ⟨gb219, 0, none⟩ (.int .i64 ((rd_T37 l2 x18_1).f0))).setCell ⟨gb219, 1, none⟩ (.int .i64 ((rd_T37 l2 x18_1).f1)))).cell? _ = some _ from hx220_3)); clear hn220_0; clear hn220_1; replace p220 := eq_true p220; replace q220 := eq_true q220))
                repeat (go_quiet (first | ((with_reducible refine gate_dst (N := 10) rfl ?_); refine box_event ?hg (N := 10) ?hd (cs := #[.int .i64 0, .int .i64 0]) (t := 37) ?hr ?_; (case hd => rfl); (case hg => rfl); (case hr => first | (go_simp; done) | (go_simp; rfl)); intro gb219 hg w12 hbox hb; have n0_ := Aside0.mk (below_step (by repeat (first | (with_reducible first | exact HB.out | apply below_alloc | apply pw_below_drewN | apply below_drew1) | exact HB.out)) hb); have n1_ := Aside0.mk (hbox); have n2_ := Aside0.mk ((by rw [hg]; exact (below_size (by repeat (first | (with_reducible first | exact HB.out | apply below_alloc | apply pw_below_drewN | apply below_drew1) | exact HB.out))) : w.heap.size ≤ gb219)); have n3_ := Aside0.mk ((by rw [hg]; exact (below_size (by repeat (first | (with_reducible first | exact HB.out | apply below_alloc | apply pw_below_drewN | apply below_drew1) | exact HB.out))) : w.heap.size ≤ gb219)); clear HB; have HB := n0_; have BK219 := n1_; have GW219 := n2_; have GE219 := n3_; clear n0_ n1_ n2_ n3_; clear hb hbox hg; have hcz13_0 : w12.cell? ⟨gb219, 0, none⟩ = some (.int .i64 0) := (blk_cell BK219.out 0).trans rfl; have hcz13_1 : w12.cell? ⟨gb219, 1, none⟩ = some (.int .i64 0) := (blk_cell BK219.out 1).trans rfl; have hfz13_0 := blk_frozen BK219.out 0; have hfz13_1 := blk_frozen BK219.out 1; have p220 : 0 ≤ (x18_1 : Int) := of_decide_eq_true (by first | (with_reducible assumption) | assumption); have q220 : x18_1 < (l1.length : Int) := of_decide_eq_true (by first | (with_reducible assumption) | assumption); obtain ⟨ad220, e220, hx220_0, hx220_1, hx220_2, hx220_3⟩ := at_T62 HR1.out x18_1 p220 q220; cases e220; have hn220_0 : ad220.block ≠ gb219 := Nat.ne_of_lt (Nat.lt_of_lt_of_le (by have := World.block_lt_of_cell? _ _ hx220_0; first | rwa [add_block] at this | exact this) GW219.out); have hn220_1 : ad220.block ≠ gb219 := Nat.ne_of_lt (Nat.lt_of_lt_of_le (by have := World.block_lt_of_cell? _ _ hx220_0; first | rwa [add_block] at this | exact this) GW219.out); replace hx220_0 := (HB.out.cell (World.block_lt_of_cell? w _ hx220_0)).trans hx220_0; replace hx220_1 := (HB.out.cell (World.block_lt_of_cell? w _ hx220_1)).trans hx220_1; replace hx220_2 := (HB.out.cell (World.block_lt_of_cell? w _ hx220_2)).trans hx220_2; replace hx220_3 := (HB.out.cell (World.block_lt_of_cell? w _ hx220_3)).trans hx220_3; replace hx220_0 := (cell_far (p := ⟨gb219, 0, none⟩) (by first | (rw [add_block]; exact hn220_0) | (show (Addr.add _ _).block ≠ _; rw [add_block]; exact hn220_0) | exact hn220_0) (.int .i64 ((rd_T37 l2 x18_1).f0))).trans hx220_0; replace hx220_1 := (cell_far (p := ⟨gb219, 0, none⟩) (by first | (rw [add_block]; exact hn220_0) | (show (Addr.add _ _).block ≠ _; rw [add_block]; exact hn220_0) | exact hn220_0) (.int .i64 ((rd_T37 l2 x18_1).f0))).trans hx220_1; replace hx220_2 := (cell_far (p := ⟨gb219, 0, none⟩) (by first | (rw [add_block]; exact hn220_0) | (show (Addr.add _ _).block ≠ _; rw [add_block]; exact hn220_0) | exact hn220_0) (.int .i64 ((rd_T37 l2 x18_1).f0))).trans hx220_2; replace hx220_3 := (cell_far (p := ⟨gb219, 0, none⟩) (by first | (rw [add_block]; exact hn220_0) | (show (Addr.add _ _).block ≠ _; rw [add_block]; exact hn220_0) | exact hn220_0) (.int .i64 ((rd_T37 l2 x18_1).f0))).trans hx220_3; replace hx220_0 := (cell_far (p := ⟨gb219, 1, none⟩) (by first | (rw [add_block]; exact hn220_1) | (show (Addr.add _ _).block ≠ _; rw [add_block]; exact hn220_1) | exact hn220_1) (.int .i64 ((rd_T37 l2 x18_1).f1))).trans hx220_0; replace hx220_1 := (cell_far (p := ⟨gb219, 1, none⟩) (by first | (rw [add_block]; exact hn220_1) | (show (Addr.add _ _).block ≠ _; rw [add_block]; exact hn220_1) | exact hn220_1) (.int .i64 ((rd_T37 l2 x18_1).f1))).trans hx220_1; replace hx220_2 := (cell_far (p := ⟨gb219, 1, none⟩) (by first | (rw [add_block]; exact hn220_1) | (show (Addr.add _ _).block ≠ _; rw [add_block]; exact hn220_1) | exact hn220_1) (.int .i64 ((rd_T37 l2 x18_1).f1))).trans hx220_2; replace hx220_3 := (cell_far (p := ⟨gb219, 1, none⟩) (by first | (rw [add_block]; exact hn220_1) | (show (Addr.add _ _).block ≠ _; rw [add_block]; exact hn220_1) | exact hn220_1) (.int .i64 ((rd_T37 l2 x18_1).f1))).trans hx220_3; (try have hy220_0 := fun (n_ : Nat) => (show ((((w12.drewN n_).setCell ⟨gb219, 0, none⟩ (.int .i64 ((rd_T37 l2 x18_1).f0))).setCell ⟨gb219, 1, none⟩ (.int .i64 ((rd_T37 l2 x18_1).f1)))).cell? _ = some _ from hx220_0)); (try have hy220_1 := fun (n_ : Nat) => (show ((((w12.drewN n_).setCell ⟨gb219, 0, none⟩ (.int .i64 ((rd_T37 l2 x18_1).f0))).setCell ⟨gb219, 1, none⟩ (.int .i64 ((rd_T37 l2 x18_1).f1)))).cell? _ = some _ from hx220_1)); (try have hy220_2 := fun (n_ : Nat) => (show ((((w12.drewN n_).setCell ⟨gb219, 0, none⟩ (.int .i64 ((rd_T37 l2 x18_1).f0))).setCell ⟨gb219, 1, none⟩ (.int .i64 ((rd_T37 l2 x18_1).f1)))).cell? _ = some _ from hx220_2)); (try have hy220_3 := fun (n_ : Nat) => (show ((((w12.drewN n_).setCell ⟨gb219, 0, none⟩ (.int .i64 ((rd_T37 l2 x18_1).f0))).setCell ⟨gb219, 1, none⟩ (.int .i64 ((rd_T37 l2 x18_1).f1)))).cell? _ = some _ from hx220_3)); clear hn220_0; clear hn220_1; replace p220 := eq_true p220; replace q220 := eq_true q220)); try go_wp2_with (first | ((with_reducible refine gate_dst (N := 10) rfl ?_); refine box_event ?hg (N := 10) ?hd (cs := #[.int .i64 0, .int .i64 0]) (t := 37) ?hr ?_; (case hd => rfl); (case hg => rfl); (case hr => first | (go_simp; done) | (go_simp; rfl)); intro gb219 hg w12 hbox hb; have n0_ := Aside0.mk (below_step (by repeat (first | (with_reducible first | exact HB.out | apply below_alloc | apply pw_below_drewN | apply below_drew1) | exact HB.out)) hb); have n1_ := Aside0.mk (hbox); have n2_ := Aside0.mk ((by rw [hg]; exact (below_size (by repeat (first | (with_reducible first | exact HB.out | apply below_alloc | apply pw_below_drewN | apply below_drew1) | exact HB.out))) : w.heap.size ≤ gb219)); have n3_ := Aside0.mk ((by rw [hg]; exact (below_size (by repeat (first | (with_reducible first | exact HB.out | apply below_alloc | apply pw_below_drewN | apply below_drew1) | exact HB.out))) : w.heap.size ≤ gb219)); clear HB; have HB := n0_; have BK219 := n1_; have GW219 := n2_; have GE219 := n3_; clear n0_ n1_ n2_ n3_; clear hb hbox hg; have hcz13_0 : w12.cell? ⟨gb219, 0, none⟩ = some (.int .i64 0) := (blk_cell BK219.out 0).trans rfl; have hcz13_1 : w12.cell? ⟨gb219, 1, none⟩ = some (.int .i64 0) := (blk_cell BK219.out 1).trans rfl; have hfz13_0 := blk_frozen BK219.out 0; have hfz13_1 := blk_frozen BK219.out 1; have p220 : 0 ≤ (x18_1 : Int) := of_decide_eq_true (by first | (with_reducible assumption) | assumption); have q220 : x18_1 < (l1.length : Int) := of_decide_eq_true (by first | (with_reducible assumption) | assumption); obtain ⟨ad220, e220, hx220_0, hx220_1, hx220_2, hx220_3⟩ := at_T62 HR1.out x18_1 p220 q220; cases e220; have hn220_0 : ad220.block ≠ gb219 := Nat.ne_of_lt (Nat.lt_of_lt_of_le (by have := World.block_lt_of_cell? _ _ hx220_0; first | rwa [add_block] at this | exact this) GW219.out); have hn220_1 : ad220.block ≠ gb219 := Nat.ne_of_lt (Nat.lt_of_lt_of_le (by have := World.block_lt_of_cell? _ _ hx220_0; first | rwa [add_block] at this | exact this) GW219.out); replace hx220_0 := (HB.out.cell (World.block_lt_of_cell? w _ hx220_0)).trans hx220_0; replace hx220_1 := (HB.out.cell (World.block_lt_of_cell? w _ hx220_1)).trans hx220_1; replace hx220_2 := (HB.out.cell (World.block_lt_of_cell? w _ hx220_2)).trans hx220_2; replace hx220_3 := (HB.out.cell (World.block_lt_of_cell? w _ hx220_3)).trans hx220_3; replace hx220_0 := (cell_far (p := ⟨gb219, 0, none⟩) (by first | (rw [add_block]; exact hn220_0) | (show (Addr.add _ _).block ≠ _; rw [add_block]; exact hn220_0) | exact hn220_0) (.int .i64 ((rd_T37 l2 x18_1).f0))).trans hx220_0; replace hx220_1 := (cell_far (p := ⟨gb219, 0, none⟩) (by first | (rw [add_block]; exact hn220_0) | (show (Addr.add _ _).block ≠ _; rw [add_block]; exact hn220_0) | exact hn220_0) (.int .i64 ((rd_T37 l2 x18_1).f0))).trans hx220_1; replace hx220_2 := (cell_far (p := ⟨gb219, 0, none⟩) (by first | (rw [add_block]; exact hn220_0) | (show (Addr.add _ _).block ≠ _; rw [add_block]; exact hn220_0) | exact hn220_0) (.int .i64 ((rd_T37 l2 x18_1).f0))).trans hx220_2; replace hx220_3 := (cell_far (p := ⟨gb219, 0, none⟩) (by first | (rw [add_block]; exact hn220_0) | (show (Addr.add _ _).block ≠ _; rw [add_block]; exact hn220_0) | exact hn220_0) (.int .i64 ((rd_T37 l2 x18_1).f0))).trans hx220_3; replace hx220_0 := (cell_far (p := ⟨gb219, 1, none⟩) (by first | (rw [add_block]; exact hn220_1) | (show (Addr.add _ _).block ≠ _; rw [add_block]; exact hn220_1) | exact hn220_1) (.int .i64 ((rd_T37 l2 x18_1).f1))).trans hx220_0; replace hx220_1 := (cell_far (p := ⟨gb219, 1, none⟩) (by first | (rw [add_block]; exact hn220_1) | (show (Addr.add _ _).block ≠ _; rw [add_block]; exact hn220_1) | exact hn220_1) (.int .i64 ((rd_T37 l2 x18_1).f1))).trans hx220_1; replace hx220_2 := (cell_far (p := ⟨gb219, 1, none⟩) (by first | (rw [add_block]; exact hn220_1) | (show (Addr.add _ _).block ≠ _; rw [add_block]; exact hn220_1) | exact hn220_1) (.int .i64 ((rd_T37 l2 x18_1).f1))).trans hx220_2; replace hx220_3 := (cell_far (p := ⟨gb219, 1, none⟩) (by first | (rw [add_block]; exact hn220_1) | (show (Addr.add _ _).block ≠ _; rw [add_block]; exact hn220_1) | exact hn220_1) (.int .i64 ((rd_T37 l2 x18_1).f1))).trans hx220_3; (try have hy220_0 := fun (n_ : Nat) => (show ((((w12.drewN n_).setCell ⟨gb219, 0, none⟩ (.int .i64 ((rd_T37 l2 x18_1).f0))).setCell ⟨gb219, 1, none⟩ (.int .i64 ((rd_T37 l2 x18_1).f1)))).cell? _ = some _ from hx220_0)); (try have hy220_1 := fun (n_ : Nat) => (show ((((w12.drewN n_).setCell ⟨gb219, 0, none⟩ (.int .i64 ((rd_T37 l2 x18_1).f0))).setCell ⟨gb219, 1, none⟩ (.int .i64 ((rd_T37 l2 x18_1).f1)))).cell? _ = some _ from hx220_1)); (try have hy220_2 := fun (n_ : Nat) => (show ((((w12.drewN n_).setCell ⟨gb219, 0, none⟩ (.int .i64 ((rd_T37 l2 x18_1).f0))).setCell ⟨gb219, 1, none⟩ (.int .i64 ((rd_T37 l2 x18_1).f1)))).cell? _ = some _ from hx220_2)); (try have hy220_3 := fun (n_ : Nat) => (show ((((w12.drewN n_).setCell ⟨gb219, 0, none⟩ (.int .i64 ((rd_T37 l2 x18_1).f0))).setCell ⟨gb219, 1, none⟩ (.int .i64 ((rd_T37 l2 x18_1).f1)))).cell? _ = some _ from hx220_3)); clear hn220_0; clear hn220_1; replace p220 := eq_true p220; replace q220 := eq_true q220)))
                go_roundg k1
                case measure => have := HK1.out; omega
                case rel => exact ⟨(ji11), (wrap64 (x18_1 + 1)), (by first | rfl | (simp; done) | (simp only [← hji11] <;> (first | rfl | simp)) | (simp [*]; done)), (by first | rfl | (simp; done) | (simp [*]; done)), H', ⟨by have := HK1.out; omega⟩, ⟨by repeat (first | (with_reducible first | exact HB.out | apply below_alloc | apply pw_below_drewN | apply below_drew1 | refine below_set ?_ GE219.out) | exact HB.out)⟩⟩
              · rw [if_neg c10] at H
                exact absurd H (by simp)
            · rw [if_neg c9] at H
              exact absurd H (by simp)
          · rw [if_neg c8] at H
            exact absurd H (by simp)
        · rw [if_neg c7] at H
          have c7b0 : decide (x18_1 < (l2.length : Int)) = false := decide_eq_false c7
          clear c7
          simp only [Option.some.injEq, Prod.mk.injEq] at H
          obtain ⟨rfl, rfl⟩ := H
          go_wp2
          repeat (go_quiet (fail); try go_wp2)
          go_ret2
          exact ⟨by first | rfl | (simp [errW_none, errW_some] <;> rfl) | (simp [*, errW_none, errW_some] <;> rfl), by repeat (first | (with_reducible first | exact HB.out | apply below_alloc | apply pw_below_drewN | apply below_drew1) | exact HB.out)⟩
  · replace c5 := Bool.eq_false_iff.mpr c5
    subst c5
    have H1 : (some (0, false)) = some (r1, r2) := by rw [if_neg (show ¬ (false = true) by decide)] at H; exact H
    clear H
    have H := H1
    clear H1
    simp only [Option.some.injEq, Prod.mk.injEq] at H
    obtain ⟨rfl, rfl⟩ := H
    go_enter Try.func22, Try.ntmps22
    go_wp2_with (first | (go_at_call 18; (with_reducible refine (impl_IsPossiblePlan.calls k a0 _ _ l1 _ _ l2 false _ ?side1 ?side2 ?side3 ?side4 A4.out).mono ?_); (case side1 => repeat (first | exact HR1.out | (with_reducible refine Kd.C_alloc ?_ _) | (with_reducible refine Kd.C_drewN ?_ _) | (with_reducible refine Kd.C_drew ?_))); (case side2 => exact HC1.out); (case side3 => repeat (first | exact HR2.out | (with_reducible refine Kd.C_alloc ?_ _) | (with_reducible refine Kd.C_drewN ?_ _) | (with_reducible refine Kd.C_drew ?_))); (case side4 => exact HC2.out); rintro e w14 ⟨rfl, hb⟩; have n0_ := Aside0.mk (below_step (by repeat (first | (with_reducible first | exact HB.out | apply below_alloc | apply pw_below_drewN | apply below_drew1) | exact HB.out)) hb); clear HB; have HB := n0_; clear n0_; (try clear hb); (try clear hb2); (try clear hk); (try clear hi)))
    repeat (go_quiet (first | (go_at_call 18; (with_reducible refine (impl_IsPossiblePlan.calls k a0 _ _ l1 _ _ l2 false _ ?side1 ?side2 ?side3 ?side4 A4.out).mono ?_); (case side1 => repeat (first | exact HR1.out | (with_reducible refine Kd.C_alloc ?_ _) | (with_reducible refine Kd.C_drewN ?_ _) | (with_reducible refine Kd.C_drew ?_))); (case side2 => exact HC1.out); (case side3 => repeat (first | exact HR2.out | (with_reducible refine Kd.C_alloc ?_ _) | (with_reducible refine Kd.C_drewN ?_ _) | (with_reducible refine Kd.C_drew ?_))); (case side4 => exact HC2.out); rintro e w14 ⟨rfl, hb⟩; have n0_ := Aside0.mk (below_step (by repeat (first | (with_reducible first | exact HB.out | apply below_alloc | apply pw_below_drewN | apply below_drew1) | exact HB.out)) hb); clear HB; have HB := n0_; clear n0_; (try clear hb); (try clear hb2); (try clear hk); (try clear hi))); try go_wp2_with (first | (go_at_call 18; (with_reducible refine (impl_IsPossiblePlan.calls k a0 _ _ l1 _ _ l2 false _ ?side1 ?side2 ?side3 ?side4 A4.out).mono ?_); (case side1 => repeat (first | exact HR1.out | (with_reducible refine Kd.C_alloc ?_ _) | (with_reducible refine Kd.C_drewN ?_ _) | (with_reducible refine Kd.C_drew ?_))); (case side2 => exact HC1.out); (case side3 => repeat (first | exact HR2.out | (with_reducible refine Kd.C_alloc ?_ _) | (with_reducible refine Kd.C_drewN ?_ _) | (with_reducible refine Kd.C_drew ?_))); (case side4 => exact HC2.out); rintro e w14 ⟨rfl, hb⟩; have n0_ := Aside0.mk (below_step (by repeat (first | (with_reducible first | exact HB.out | apply below_alloc | apply pw_below_drewN | apply below_drew1) | exact HB.out)) hb); clear HB; have HB := n0_; clear n0_; (try clear hb); (try clear hb2); (try clear hk); (try clear hi))))
    go_ret2
    exact ⟨by first | rfl | (simp [errW_none, errW_some] <;> rfl) | (simp [*, errW_none, errW_some] <;> rfl), by repeat (first | (with_reducible first | exact HB.out | apply below_alloc | apply pw_below_drewN | apply below_drew1) | exact HB.out)⟩

end Go.Proofs.Ytcciljjnpfgaeaa.G

-- Written by wip/tools/gen.py out of the translation (the kit's printer, one namespace a seat). Lean checks it.
namespace Go.Proofs.Ytcciljjnpfgaeaa.G
open Go.RowKit Go.Proofs.YtcciljjnpfgaeaaW.PrintWords Go.Proofs.YtcciljjnpfgaeaaW.PrintLast Go.Proofs.YtcciljjnpfgaeaaW.PrintMore
attribute [local go_sem] max2_int min2_int max_two min_two max_three min_three max_four min_four   -- for this text's walks alone
set_option linter.unusedVariables false
set_option linter.unusedSimpArgs false

/-! ### spec_LastHour: function 21 -/
def spec_LastHour.l0 : Nat → List (S62) → List (S37) → Int → Int → Option (Int × Bool)
  | 0, _, _, _, _ => none
  | k + 1, x1, x2, x8, x9 => if x9 < (x1.length : Int) then (if 0 ≤ x9 then (if x9 < (x2.length : Int) then ((spec_l1Most.f x8 (wrap64 (((rd_T37 x2 x9).f1) + ((rd_T62 x1 x9).f2)))).bind fun t216 => (spec_LastHour.l0 k x1 x2 t216 (wrap64 (x9 + 1)))) else (none)) else (none)) else (some (x8, true))
def spec_LastHour.f (k : Nat) (a0 : Int) (l1 : List (S62)) (l2 : List (S37)) : Option (Int × Bool) := (spec_l14Asked.f k a0 l1 l2).bind fun t213 => (if t213 = true then (spec_LastHour.l0 k l1 l2 0 0) else (some (0, false)))
theorem spec_LastHour.mono_l : ∀ k, (∀ y0 y1 y2 y3, LeO (spec_LastHour.l0 k y0 y1 y2 y3) (spec_LastHour.l0 (k + 1) y0 y1 y2 y3))
  | 0 => fun _ _ _ _ r h => by simp [spec_LastHour.l0] at h
  | k + 1 => by
    have ih0 := spec_LastHour.mono_l k
    · intro y0 y1 y2 y3
      unfold spec_LastHour.l0
      repeat' first
      | (with_reducible exact ih0 _ _ _ _)
      | (with_reducible exact spec_l14Asked.mono _ _ _ _)
      | (with_reducible exact LeO.refl _)
      | (with_reducible exact LeO.none _)
      | (with_reducible refine LeO.ite ?_ ?_)
      | (with_reducible refine LeO.bind ?_ (fun _ => ?_))
      | exact ih0 _ _ _ _
      | exact spec_l14Asked.mono _ _ _ _
      | exact LeO.none _
      | refine LeO.ite ?_ ?_
      | refine LeO.bind ?_ (fun _ => ?_)
theorem spec_LastHour.mono : ∀ a0 a1 a2 k, LeO (spec_LastHour.f k a0 a1 a2) (spec_LastHour.f (k + 1) a0 a1 a2) := by
  intro a0 a1 a2 k
  have ih0 := spec_LastHour.mono_l k
  unfold spec_LastHour.f
  repeat' first
      | (with_reducible exact ih0 _ _ _ _)
      | (with_reducible exact spec_l14Asked.mono _ _ _ _)
      | (with_reducible exact LeO.refl _)
      | (with_reducible exact LeO.none _)
      | (with_reducible refine LeO.ite ?_ ?_)
      | (with_reducible refine LeO.bind ?_ (fun _ => ?_))
      | exact ih0 _ _ _ _
      | exact spec_l14Asked.mono _ _ _ _
      | exact LeO.none _
      | refine LeO.ite ?_ ?_
      | refine LeO.bind ?_ (fun _ => ?_)
set_option maxHeartbeats 8000000 in
set_option maxRecDepth 100000 in
theorem spec_LastHour.calls (k : Nat) (a0 : Int) (A1 : Option Addr) (c1 : Nat) (l1 : List (S62)) (A2 : Option Addr) (c2 : Nat) (l2 : List (S37)) (r1 : Int) (r2 : Bool) (w : World) (hr1 : Kd.C k62 w A1 l1.length l1) (hc1 : l1.length ≤ c1) (hr2 : Kd.C k37 w A2 l2.length l2) (hc2 : l2.length ≤ c2) (h : spec_LastHour.f k a0 l1 l2 = some (r1, r2)) :
    Calls Try.prog 21 #[.int .i64 a0, .slice A1 l1.length c1, .slice A2 l2.length c2] w fun e w' => e = .returned (.tuple #[.int .i64 r1, .bool r2]) ∧ Below w.heap.size w w' := by
  have HR1 := Aside0.mk hr1
  have HC1 := Aside0.mk hc1
  clear hr1 hc1
  have HR2 := Aside0.mk hr2
  have HC2 := Aside0.mk hc2
  clear hr2 hc2
  have HB := Aside0.mk (Below.refl w.heap.size w)
  have H : ((spec_l14Asked.f k a0 l1 l2).bind fun t213 => (if t213 = true then (spec_LastHour.l0 k l1 l2 0 0) else (some (0, false)))) = some (r1, r2) := h
  clear h
  replace H := Option.bind_eq_some_iff.mp H
  obtain ⟨t213, A40, H⟩ := H
  replace H : (if t213 = true then (spec_LastHour.l0 k l1 l2 0 0) else (some (0, false))) = some (r1, r2) := H
  have A4 := Aside0.mk A40
  clear A40
  by_cases c5 : t213 = true
  · subst c5
    have H1 : (spec_LastHour.l0 k l1 l2 0 0) = some (r1, r2) := by rw [if_pos rfl] at H; exact H
    clear H
    have H := H1
    clear H1
    have H' := Aside0.mk H
    clear H
    go_enter Try.func21, Try.ntmps21
    go_wp2_with (first | (go_at_call 49; (with_reducible refine (spec_l14Asked.calls k a0 _ _ l1 _ _ l2 true _ ?side1 ?side2 ?side3 ?side4 A4.out).mono ?_); (case side1 => repeat (first | exact HR1.out | (with_reducible refine Kd.C_alloc ?_ _) | (with_reducible refine Kd.C_drewN ?_ _) | (with_reducible refine Kd.C_drew ?_))); (case side2 => exact HC1.out); (case side3 => repeat (first | exact HR2.out | (with_reducible refine Kd.C_alloc ?_ _) | (with_reducible refine Kd.C_drewN ?_ _) | (with_reducible refine Kd.C_drew ?_))); (case side4 => exact HC2.out); rintro e w6 ⟨rfl, hb⟩; have n0_ := Aside0.mk (below_step (by repeat (first | (with_reducible first | exact HB.out | apply below_alloc | apply pw_below_drewN | apply below_drew1) | exact HB.out)) hb); clear HB; have HB := n0_; clear n0_; (try clear hb); (try clear hb2); (try clear hk); (try clear hi)))
    repeat (go_quiet (first | (go_at_call 49; (with_reducible refine (spec_l14Asked.calls k a0 _ _ l1 _ _ l2 true _ ?side1 ?side2 ?side3 ?side4 A4.out).mono ?_); (case side1 => repeat (first | exact HR1.out | (with_reducible refine Kd.C_alloc ?_ _) | (with_reducible refine Kd.C_drewN ?_ _) | (with_reducible refine Kd.C_drew ?_))); (case side2 => exact HC1.out); (case side3 => repeat (first | exact HR2.out | (with_reducible refine Kd.C_alloc ?_ _) | (with_reducible refine Kd.C_drewN ?_ _) | (with_reducible refine Kd.C_drew ?_))); (case side4 => exact HC2.out); rintro e w6 ⟨rfl, hb⟩; have n0_ := Aside0.mk (below_step (by repeat (first | (with_reducible first | exact HB.out | apply below_alloc | apply pw_below_drewN | apply below_drew1) | exact HB.out)) hb); clear HB; have HB := n0_; clear n0_; (try clear hb); (try clear hb2); (try clear hk); (try clear hi))); try go_wp2_with (first | (go_at_call 49; (with_reducible refine (spec_l14Asked.calls k a0 _ _ l1 _ _ l2 true _ ?side1 ?side2 ?side3 ?side4 A4.out).mono ?_); (case side1 => repeat (first | exact HR1.out | (with_reducible refine Kd.C_alloc ?_ _) | (with_reducible refine Kd.C_drewN ?_ _) | (with_reducible refine Kd.C_drew ?_))); (case side2 => exact HC1.out); (case side3 => repeat (first | exact HR2.out | (with_reducible refine Kd.C_alloc ?_ _) | (with_reducible refine Kd.C_drewN ?_ _) | (with_reducible refine Kd.C_drew ?_))); (case side4 => exact HC2.out); rintro e w6 ⟨rfl, hb⟩; have n0_ := Aside0.mk (below_step (by repeat (first | (with_reducible first | exact HB.out | apply below_alloc | apply pw_below_drewN | apply below_drew1) | exact HB.out)) hb); clear HB; have HB := n0_; clear n0_; (try clear hb); (try clear hb2); (try clear hk); (try clear hi))))
    go_loopg [8, 9] k (fun kq v8 v9 w' => ∃ (x8_1 : Int) (x9_1 : Int), v8 = .int .i64 x8_1 ∧ v9 = .int .i64 x9_1 ∧ Aside0 (spec_LastHour.l0 kq l1 l2 x8_1 x9_1 = some (r1, r2)) ∧ Aside0 (kq ≤ k) ∧ Aside0 (Below w.heap.size w w'))
    case atStart => exact ⟨(0), (0), (by first | rfl | (simp; done) | (simp [*]; done)), (by first | rfl | (simp; done) | (simp [*]; done)), H', ⟨Nat.le_refl _⟩, ⟨by repeat (first | (with_reducible first | exact HB.out | apply below_alloc | apply pw_below_drewN | apply below_drew1) | exact HB.out)⟩⟩
    case round =>
      clear H'
      try clear c1
      try clear c2
      try clear p2
      try clear c5
      obtain ⟨x8_1, x9_1, rfl, rfl, HA, HK1, HB⟩ := hrel
      cases gk with
      | zero => exact absurd HA.out (by simp [spec_LastHour.l0])
      | succ k1 =>
        have H := HA.out
        clear HA
        simp only [spec_LastHour.l0] at H
        by_cases c7 : x9_1 < (l1.length : Int)
        · rw [if_pos c7] at H
          have c7b0 : decide (x9_1 < (l1.length : Int)) = true := decide_eq_true c7
          clear c7
          by_cases c8 : 0 ≤ x9_1
          · rw [if_pos c8] at H
            have c8b0 : decide (0 ≤ x9_1) = true := decide_eq_true c8
            clear c8
            by_cases c9 : x9_1 < (l2.length : Int)
            · rw [if_pos c9] at H
              have c9b0 : decide (x9_1 < (l2.length : Int)) = true := decide_eq_true c9
              clear c9
              replace H := Option.bind_eq_some_iff.mp H
              obtain ⟨t216, A100, H⟩ := H
              replace H : (spec_LastHour.l0 k1 l1 l2 t216 (wrap64 (x9_1 + 1))) = some (r1, r2) := H
              have A10 := Aside0.mk A100
              clear A100
              have H' := Aside0.mk H
              clear H
              have p214 : 0 ≤ (x9_1 : Int) := of_decide_eq_true (by first | (with_reducible assumption) | assumption)
              have q214 : x9_1 < (l2.length : Int) := of_decide_eq_true (by first | (with_reducible assumption) | assumption)
              obtain ⟨ad214, e214, hx214_0, hx214_1⟩ := at_T37 HR2.out x9_1 p214 q214
              cases e214
              replace hx214_0 := (HB.out.cell (World.block_lt_of_cell? w _ hx214_0)).trans hx214_0
              replace hx214_1 := (HB.out.cell (World.block_lt_of_cell? w _ hx214_1)).trans hx214_1
              replace p214 := eq_true p214
              replace q214 := eq_true q214
              have p215 : 0 ≤ (x9_1 : Int) := of_decide_eq_true (by first | (with_reducible assumption) | assumption)
              have q215 : x9_1 < (l1.length : Int) := of_decide_eq_true (by first | (with_reducible assumption) | assumption)
              obtain ⟨ad215, e215, hx215_0, hx215_1, hx215_2, hx215_3⟩ := at_T62 HR1.out x9_1 p215 q215
              cases e215
              replace hx215_0 := (HB.out.cell (World.block_lt_of_cell? w _ hx215_0)).trans hx215_0
              replace hx215_1 := (HB.out.cell (World.block_lt_of_cell? w _ hx215_1)).trans hx215_1
              replace hx215_2 := (HB.out.cell (World.block_lt_of_cell? w _ hx215_2)).trans hx215_2
              replace hx215_3 := (HB.out.cell (World.block_lt_of_cell? w _ hx215_3)).trans hx215_3
              replace p215 := eq_true p215
              replace q215 := eq_true q215
              go_wp2_with (first | (go_at_call 55; (with_reducible refine (spec_l1Most.calls x8_1 (wrap64 (((rd_T37 l2 x9_1).f1) + ((rd_T62 l1 x9_1).f2))) t216 _ A10.out).mono ?_); rintro e w' ⟨rfl, ⟨nd, rfl⟩⟩; (try first | exact ⟨rfl, _, World.drewN_drewN _ _ _⟩ | exact ⟨rfl, _, Eq.trans (World.drewN_drewN _ _ _) (congrArg (World.drewN _) (Nat.add_assoc _ _ _))⟩)))
              repeat (go_quiet (first | (go_at_call 55; (with_reducible refine (spec_l1Most.calls x8_1 (wrap64 (((rd_T37 l2 x9_1).f1) + ((rd_T62 l1 x9_1).f2))) t216 _ A10.out).mono ?_); rintro e w' ⟨rfl, ⟨nd, rfl⟩⟩; (try first | exact ⟨rfl, _, World.drewN_drewN _ _ _⟩ | exact ⟨rfl, _, Eq.trans (World.drewN_drewN _ _ _) (congrArg (World.drewN _) (Nat.add_assoc _ _ _))⟩))); try go_wp2_with (first | (go_at_call 55; (with_reducible refine (spec_l1Most.calls x8_1 (wrap64 (((rd_T37 l2 x9_1).f1) + ((rd_T62 l1 x9_1).f2))) t216 _ A10.out).mono ?_); rintro e w' ⟨rfl, ⟨nd, rfl⟩⟩; (try first | exact ⟨rfl, _, World.drewN_drewN _ _ _⟩ | exact ⟨rfl, _, Eq.trans (World.drewN_drewN _ _ _) (congrArg (World.drewN _) (Nat.add_assoc _ _ _))⟩))))
              go_roundg k1
              case measure => have := HK1.out; omega
              case rel => exact ⟨(t216), (wrap64 (x9_1 + 1)), (by first | rfl | (simp; done) | (simp [*]; done)), (by first | rfl | (simp; done) | (simp [*]; done)), H', ⟨by have := HK1.out; omega⟩, ⟨by repeat (first | (with_reducible first | exact HB.out | apply below_alloc | apply pw_below_drewN | apply below_drew1) | exact HB.out)⟩⟩
            · rw [if_neg c9] at H
              exact absurd H (by simp)
          · rw [if_neg c8] at H
            exact absurd H (by simp)
        · rw [if_neg c7] at H
          have c7b0 : decide (x9_1 < (l1.length : Int)) = false := decide_eq_false c7
          clear c7
          simp only [Option.some.injEq, Prod.mk.injEq] at H
          obtain ⟨rfl, rfl⟩ := H
          go_wp2
          repeat (go_quiet (fail); try go_wp2)
          go_ret2
          exact ⟨by first | rfl | (simp [errW_none, errW_some] <;> rfl) | (simp [*, errW_none, errW_some] <;> rfl), by repeat (first | (with_reducible first | exact HB.out | apply below_alloc | apply pw_below_drewN | apply below_drew1) | exact HB.out)⟩
  · replace c5 := Bool.eq_false_iff.mpr c5
    subst c5
    have H1 : (some (0, false)) = some (r1, r2) := by rw [if_neg (show ¬ (false = true) by decide)] at H; exact H
    clear H
    have H := H1
    clear H1
    simp only [Option.some.injEq, Prod.mk.injEq] at H
    obtain ⟨rfl, rfl⟩ := H
    go_enter Try.func21, Try.ntmps21
    go_wp2_with (first | (go_at_call 49; (with_reducible refine (spec_l14Asked.calls k a0 _ _ l1 _ _ l2 false _ ?side1 ?side2 ?side3 ?side4 A4.out).mono ?_); (case side1 => repeat (first | exact HR1.out | (with_reducible refine Kd.C_alloc ?_ _) | (with_reducible refine Kd.C_drewN ?_ _) | (with_reducible refine Kd.C_drew ?_))); (case side2 => exact HC1.out); (case side3 => repeat (first | exact HR2.out | (with_reducible refine Kd.C_alloc ?_ _) | (with_reducible refine Kd.C_drewN ?_ _) | (with_reducible refine Kd.C_drew ?_))); (case side4 => exact HC2.out); rintro e w11 ⟨rfl, hb⟩; have n0_ := Aside0.mk (below_step (by repeat (first | (with_reducible first | exact HB.out | apply below_alloc | apply pw_below_drewN | apply below_drew1) | exact HB.out)) hb); clear HB; have HB := n0_; clear n0_; (try clear hb); (try clear hb2); (try clear hk); (try clear hi)))
    repeat (go_quiet (first | (go_at_call 49; (with_reducible refine (spec_l14Asked.calls k a0 _ _ l1 _ _ l2 false _ ?side1 ?side2 ?side3 ?side4 A4.out).mono ?_); (case side1 => repeat (first | exact HR1.out | (with_reducible refine Kd.C_alloc ?_ _) | (with_reducible refine Kd.C_drewN ?_ _) | (with_reducible refine Kd.C_drew ?_))); (case side2 => exact HC1.out); (case side3 => repeat (first | exact HR2.out | (with_reducible refine Kd.C_alloc ?_ _) | (with_reducible refine Kd.C_drewN ?_ _) | (with_reducible refine Kd.C_drew ?_))); (case side4 => exact HC2.out); rintro e w11 ⟨rfl, hb⟩; have n0_ := Aside0.mk (below_step (by repeat (first | (with_reducible first | exact HB.out | apply below_alloc | apply pw_below_drewN | apply below_drew1) | exact HB.out)) hb); clear HB; have HB := n0_; clear n0_; (try clear hb); (try clear hb2); (try clear hk); (try clear hi))); try go_wp2_with (first | (go_at_call 49; (with_reducible refine (spec_l14Asked.calls k a0 _ _ l1 _ _ l2 false _ ?side1 ?side2 ?side3 ?side4 A4.out).mono ?_); (case side1 => repeat (first | exact HR1.out | (with_reducible refine Kd.C_alloc ?_ _) | (with_reducible refine Kd.C_drewN ?_ _) | (with_reducible refine Kd.C_drew ?_))); (case side2 => exact HC1.out); (case side3 => repeat (first | exact HR2.out | (with_reducible refine Kd.C_alloc ?_ _) | (with_reducible refine Kd.C_drewN ?_ _) | (with_reducible refine Kd.C_drew ?_))); (case side4 => exact HC2.out); rintro e w11 ⟨rfl, hb⟩; have n0_ := Aside0.mk (below_step (by repeat (first | (with_reducible first | exact HB.out | apply below_alloc | apply pw_below_drewN | apply below_drew1) | exact HB.out)) hb); clear HB; have HB := n0_; clear n0_; (try clear hb); (try clear hb2); (try clear hk); (try clear hi))))
    go_ret2
    exact ⟨by first | rfl | (simp [errW_none, errW_some] <;> rfl) | (simp [*, errW_none, errW_some] <;> rfl), by repeat (first | (with_reducible first | exact HB.out | apply below_alloc | apply pw_below_drewN | apply below_drew1) | exact HB.out)⟩

end Go.Proofs.Ytcciljjnpfgaeaa.G

-- Written by wip/tools/gen.py out of the translation (the kit's printer, one namespace a seat). Lean checks it.
namespace Go.Proofs.Ytcciljjnpfgaeaa.G
open Go.RowKit Go.Proofs.YtcciljjnpfgaeaaW.PrintWords Go.Proofs.YtcciljjnpfgaeaaW.PrintLast Go.Proofs.YtcciljjnpfgaeaaW.PrintMore
attribute [local go_sem] max2_int min2_int max_two min_two max_three min_three max_four min_four   -- for this text's walks alone
set_option linter.unusedVariables false
set_option linter.unusedSimpArgs false

/-! ### impl_WaitOf: function 29 -/
def impl_WaitOf.l0 : Nat → List (S62) → List Int → List (S37) → Int → Int → Option (List Int × Bool)
  | 0, _, _, _, _, _ => none
  | k + 1, x1, x8, x17, x18, x19 => if x19 < x18 then (if 0 ≤ x19 then (if x19 < (x17.length : Int) then (if x19 < (x1.length : Int) then (if x8.length < 17592186044416 then (impl_WaitOf.l0 k x1 (x8 ++ [wrap64 (((rd_T37 x17 x19).f1) - ((rd_T62 x1 x19).f1))]) x17 x18 (wrap64 (x19 + 1))) else (none)) else (none)) else (none)) else (none)) else (some (x8, true))
def impl_WaitOf.f (k : Nat) (a0 : Int) (l1 : List (S62)) (l2 : List (S37)) : Option (List Int × Bool) := (impl_IsPossiblePlan.f k a0 l1 l2).bind fun t359 => (if t359 = true then (impl_WaitOf.l0 k l1 (([] : List Int)) l2 (l2.length : Int) 0) else (some (([] : List Int), false)))
theorem impl_WaitOf.mono_l : ∀ k, (∀ y0 y1 y2 y3 y4, LeO (impl_WaitOf.l0 k y0 y1 y2 y3 y4) (impl_WaitOf.l0 (k + 1) y0 y1 y2 y3 y4))
  | 0 => fun _ _ _ _ _ r h => by simp [impl_WaitOf.l0] at h
  | k + 1 => by
    have ih0 := impl_WaitOf.mono_l k
    · intro y0 y1 y2 y3 y4
      unfold impl_WaitOf.l0
      repeat' first
      | (with_reducible exact ih0 _ _ _ _ _)
      | (with_reducible exact impl_IsPossiblePlan.mono _ _ _ _)
      | (with_reducible exact LeO.refl _)
      | (with_reducible exact LeO.none _)
      | (with_reducible refine LeO.ite ?_ ?_)
      | (with_reducible refine LeO.bind ?_ (fun _ => ?_))
      | exact ih0 _ _ _ _ _
      | exact impl_IsPossiblePlan.mono _ _ _ _
      | exact LeO.none _
      | refine LeO.ite ?_ ?_
      | refine LeO.bind ?_ (fun _ => ?_)
theorem impl_WaitOf.mono : ∀ a0 a1 a2 k, LeO (impl_WaitOf.f k a0 a1 a2) (impl_WaitOf.f (k + 1) a0 a1 a2) := by
  intro a0 a1 a2 k
  have ih0 := impl_WaitOf.mono_l k
  unfold impl_WaitOf.f
  repeat' first
      | (with_reducible exact ih0 _ _ _ _ _)
      | (with_reducible exact impl_IsPossiblePlan.mono _ _ _ _)
      | (with_reducible exact LeO.refl _)
      | (with_reducible exact LeO.none _)
      | (with_reducible refine LeO.ite ?_ ?_)
      | (with_reducible refine LeO.bind ?_ (fun _ => ?_))
      | exact ih0 _ _ _ _ _
      | exact impl_IsPossiblePlan.mono _ _ _ _
      | exact LeO.none _
      | refine LeO.ite ?_ ?_
      | refine LeO.bind ?_ (fun _ => ?_)
def impl_WaitOf.T7 : Bool × List (List Nat × List Nat) := (true, [([], []), ([], []), ([1], [1]), ([], []), ([], []), ([3, 4], [3, 4]), ([5], [5]), ([6], [6]), ([2, 7], [2, 7]), ([8], [8]), ([0, 9], [0, 9]), ([10, 10, 0, 1, 2, 3, 4, 5, 6, 7, 8, 9, 10], [0, 10])])
def impl_WaitOf.B7 : List Nat := [0, 0, 2, 0, 0, 24, 56, 120, 254, 510, 1023, 2047]
theorem impl_WaitOf.tab7 : rtab .any (opsOf Try.f29 7) = impl_WaitOf.T7 := by kernel_rfl
theorem impl_WaitOf.bits7 : waitsOk impl_WaitOf.T7.2 impl_WaitOf.B7 = true := by kernel_rfl
set_option maxHeartbeats 8000000 in
set_option maxRecDepth 100000 in
theorem impl_WaitOf.calls (k : Nat) (a0 : Int) (A1 : Option Addr) (c1 : Nat) (l1 : List (S62)) (A2 : Option Addr) (c2 : Nat) (l2 : List (S37)) (r1 : List Int) (r2 : Bool) (w : World) (hr1 : Kd.C k62 w A1 l1.length l1) (hc1 : l1.length ≤ c1) (hr2 : Kd.C k37 w A2 l2.length l2) (hc2 : l2.length ≤ c2) (h : impl_WaitOf.f k a0 l1 l2 = some (r1, r2)) :
    Calls Try.prog 29 #[.int .i64 a0, .slice A1 l1.length c1, .slice A2 l2.length c2] w fun e w' => ∃ v0_ : Value, e = .returned (.tuple #[v0_, .bool r2]) ∧ Kd.R (Kd.int .i64) 3 w' w.heap.size (fun _ => True) v0_ r1 ∧ Below w.heap.size w w' := by
  have hu37 := Try.underlying37
  have HR1 := Aside0.mk hr1
  have HC1 := Aside0.mk hc1
  clear hr1 hc1
  have HR2 := Aside0.mk hr2
  have HC2 := Aside0.mk hc2
  clear hr2 hc2
  have HB := Aside0.mk (Below.refl w.heap.size w)
  have H : ((impl_IsPossiblePlan.f k a0 l1 l2).bind fun t359 => (if t359 = true then (impl_WaitOf.l0 k l1 (([] : List Int)) l2 (l2.length : Int) 0) else (some (([] : List Int), false)))) = some (r1, r2) := h
  clear h
  replace H := Option.bind_eq_some_iff.mp H
  obtain ⟨t359, A40, H⟩ := H
  replace H : (if t359 = true then (impl_WaitOf.l0 k l1 (([] : List Int)) l2 (l2.length : Int) 0) else (some (([] : List Int), false))) = some (r1, r2) := H
  have A4 := Aside0.mk A40
  clear A40
  by_cases c5 : t359 = true
  · subst c5
    have H1 : (impl_WaitOf.l0 k l1 (([] : List Int)) l2 (l2.length : Int) 0) = some (r1, r2) := by rw [if_pos rfl] at H; exact H
    clear H
    have H := H1
    clear H1
    obtain ⟨y360, hy360⟩ : ∃ y_ : List Int, y_ = (([] : List Int)) := ⟨_, rfl⟩
    replace H : (impl_WaitOf.l0 k l1 y360 l2 (l2.length : Int) 0) = some (r1, r2) := by first | (rw [hy360]; with_reducible exact H) | (have H2_ := (Option.bind_some _ _).symm.trans H; rw [hy360]; with_reducible exact H2_) | (have H2_ := (Option.bind_some _ _).symm.trans H; with_reducible exact H2_) | with_reducible exact H | (rw [hy360]; exact H) | exact H
    have Ny360 := Aside0.mk hy360
    clear hy360
    have H' := Aside0.mk H
    clear H
    go_enter Try.func29, Try.ntmps29
    go_wp2_with (first | ((with_reducible refine gate_callee (f := 18) rfl ?_); refine goesL_ (some 14) rfl rfl Try.func18 (by kernel_rfl) rfl #[.int .i64 a0, .slice A1 l1.length c1, .slice A2 l2.length c2] rfl (by (try simp only [List.map_toArray, List.map_cons, List.map_nil]); first | done | rfl | (simp only [List.length_drop, List.length_take]; rfl)) ?_; (with_reducible refine (impl_IsPossiblePlan.calls k a0 _ _ l1 _ _ l2 true _ ?side1 ?side2 ?side3 ?side4 A4.out).mono ?_); (case side1 => repeat (first | exact HR1.out | (with_reducible refine Kd.C_alloc ?_ _) | (with_reducible refine Kd.C_drewN ?_ _) | (with_reducible refine Kd.C_drew ?_))); (case side2 => exact HC1.out); (case side3 => repeat (first | exact HR2.out | (with_reducible refine Kd.C_alloc ?_ _) | (with_reducible refine Kd.C_drewN ?_ _) | (with_reducible refine Kd.C_drew ?_))); (case side4 => exact HC2.out); rintro e w6 ⟨rfl, hb⟩; refine ⟨_, rfl, ?_⟩; have n0_ := Aside0.mk (below_step (by repeat (first | (with_reducible first | exact HB.out | apply below_alloc | apply pw_below_drewN | apply below_drew1) | exact HB.out)) hb); clear HB; have HB := n0_; clear n0_; (try clear hb); (try clear hb2); (try clear hk); (try clear hi)) | ((with_reducible refine gate_dst (N := 16) rfl ?_); refine Kd.R_lit (Kd.int .i64) _ 3 ?hg (N := 16) ?hd (xs := ([] : List Int)) (inner := []) (ok := fun _ => True) (okp := fun _ => True) ?hr ?hp (fun _ hk => hk) trivial (Below.refl _ _) (Nat.le_refl _) (by simp) ?_; (case hd => rfl); (case hg => rfl); (case hr => first | (go_simp; done) | (go_simp; rfl)); (case hp => exact (Reps.none _ _)); intro v361 w7 ho8 hb hg_ hnew_; clear hg_ hnew_; (first | rw [← Ny360.out] at ho8 | (simp only [Int.reduceToNat] at ho8; rw [← Ny360.out] at ho8)); have n0_ := Aside0.mk (Kd.R_lower ho8 (below_size (by repeat (first | (with_reducible first | exact HB.out | apply below_alloc | apply pw_below_drewN | apply below_drew1) | exact HB.out)))); have n1_ := Aside0.mk (below_step (by repeat (first | (with_reducible first | exact HB.out | apply below_alloc | apply pw_below_drewN | apply below_drew1) | exact HB.out)) hb); clear HB; have HO362 := n0_; have HB := n1_; clear n0_ n1_; clear hb ho8))
    go_loopg [8, 19] k (fun kq v8 v19 w' => ∃ (x8_1 : List Int) (x19_1 : Int), v19 = .int .i64 x19_1 ∧ Aside0 (impl_WaitOf.l0 kq l1 x8_1 l2 (l2.length : Int) x19_1 = some (r1, r2)) ∧ Aside0 (kq ≤ k) ∧ Aside0 (Kd.R (Kd.int .i64) 3 w' w.heap.size (fun _ => True) v8 x8_1) ∧ Aside0 (Below w.heap.size w w'))
    case atStart => exact ⟨(y360), (0), (by first | rfl | (simp; done) | (simp [*]; done)), H', ⟨Nat.le_refl _⟩, ⟨by (with_reducible repeat (first | apply Kd.R_alloc | apply Kd.R_drewN | apply Kd.R_drew)); exact HO362.out⟩, ⟨by repeat (first | (with_reducible first | exact HB.out | apply below_alloc | apply pw_below_drewN | apply below_drew1) | exact HB.out)⟩⟩
    case round =>
      clear H'
      try clear c1
      try clear c2
      try clear p2
      try clear c5
      obtain ⟨x8_1, x19_1, rfl, HA, HK1, HO_8, HB⟩ := hrel
      cases gk with
      | zero => exact absurd HA.out (by simp [impl_WaitOf.l0])
      | succ k1 =>
        have H := HA.out
        clear HA
        simp only [impl_WaitOf.l0] at H
        by_cases c9 : x19_1 < (l2.length : Int)
        · rw [if_pos c9] at H
          have c9b0 : decide (x19_1 < (l2.length : Int)) = true := decide_eq_true c9
          clear c9
          by_cases c10 : 0 ≤ x19_1
          · rw [if_pos c10] at H
            have c10b0 : decide (0 ≤ x19_1) = true := decide_eq_true c10
            clear c10
            by_cases c11 : x19_1 < (l2.length : Int)
            · rw [if_pos c11] at H
              have c11b0 : decide (x19_1 < (l2.length : Int)) = true := decide_eq_true c11
              clear c11
              by_cases c12 : x19_1 < (l1.length : Int)
              · rw [if_pos c12] at H
                have c12b0 : decide (x19_1 < (l1.length : Int)) = true := decide_eq_true c12
                clear c12
                by_cases c13 : x8_1.length < 17592186044416
                · rw [if_pos c13] at H
                  have LMc13 := Aside0.mk c13
                  clear c13
                  obtain ⟨y366, hy366⟩ : ∃ y_ : List Int, y_ = (x8_1 ++ [wrap64 (((rd_T37 l2 x19_1).f1) - ((rd_T62 l1 x19_1).f1))]) := ⟨_, rfl⟩
                  replace H : (impl_WaitOf.l0 k1 l1 y366 l2 (l2.length : Int) (wrap64 (x19_1 + 1))) = some (r1, r2) := by first | (rw [hy366]; with_reducible exact H) | (have H2_ := (Option.bind_some _ _).symm.trans H; rw [hy366]; with_reducible exact H2_) | (have H2_ := (Option.bind_some _ _).symm.trans H; with_reducible exact H2_) | with_reducible exact H | (rw [hy366]; exact H) | exact H
                  have Ny366 := Aside0.mk hy366
                  clear hy366
                  have H' := Aside0.mk H
                  clear H
                  have p363 : 0 ≤ (x19_1 : Int) := of_decide_eq_true (by first | (with_reducible assumption) | assumption)
                  have q363 : x19_1 < (l2.length : Int) := of_decide_eq_true (by first | (with_reducible assumption) | assumption)
                  obtain ⟨ad363, e363, hx363_0, hx363_1⟩ := at_T37 HR2.out x19_1 p363 q363
                  cases e363
                  replace hx363_0 := (HB.out.cell (World.block_lt_of_cell? w _ hx363_0)).trans hx363_0
                  replace hx363_1 := (HB.out.cell (World.block_lt_of_cell? w _ hx363_1)).trans hx363_1
                  replace p363 := eq_true p363
                  replace q363 := eq_true q363
                  try go_wp2_with (first | ((with_reducible refine gate_dst (N := 10) rfl ?_); refine box_event ?hg (N := 10) ?hd (cs := #[.int .i64 0, .int .i64 0]) (t := 37) ?hr ?_; (case hd => rfl); (case hg => rfl); (case hr => first | (go_simp; done) | (go_simp; rfl)); intro gb364 hg w14 hbox hb; have n0_ := Aside0.mk (Kd.R_below (by (with_reducible repeat (first | apply Kd.R_alloc | apply Kd.R_drewN | apply Kd.R_drew)); exact HO_8.out) hb); have n1_ := Aside0.mk (below_step (by repeat (first | (with_reducible first | exact HB.out | apply below_alloc | apply pw_below_drewN | apply below_drew1) | exact HB.out)) hb); have n2_ := Aside0.mk (hbox); have n3_ := Aside0.mk ((by rw [hg]; exact (below_size (by repeat (first | (with_reducible first | exact HB.out | apply below_alloc | apply pw_below_drewN | apply below_drew1) | exact HB.out))) : w.heap.size ≤ gb364)); have n4_ := Aside0.mk ((by rw [hg]; exact (below_size (by repeat (first | (with_reducible first | exact HB.out | apply below_alloc | apply pw_below_drewN | apply below_drew1) | exact HB.out))) : w.heap.size ≤ gb364)); clear HO_8; clear HB; have HO_8 := n0_; have HB := n1_; have BK364 := n2_; have GW364 := n3_; have GE364 := n4_; clear n0_ n1_ n2_ n3_ n4_; clear hb hbox hg; have hcz15_0 : w14.cell? ⟨gb364, 0, none⟩ = some (.int .i64 0) := (blk_cell BK364.out 0).trans rfl; have hcz15_1 : w14.cell? ⟨gb364, 1, none⟩ = some (.int .i64 0) := (blk_cell BK364.out 1).trans rfl; have hfz15_0 := blk_frozen BK364.out 0; have hfz15_1 := blk_frozen BK364.out 1))
                  have n0_ : Aside0 (Kd.R (Kd.int .i64) 3 ((w14.setCell ⟨gb364, 0, none⟩ (.int .i64 ((rd_T37 l2 x19_1).f0))).setCell ⟨gb364, 1, none⟩ (.int .i64 ((rd_T37 l2 x19_1).f1))) w.heap.size (fun _ => True) u8 x8_1) := ⟨by (with_reducible repeat (first | apply Kd.R_alloc | apply Kd.R_drewN | apply Kd.R_drew)); exact Kd.R_mono (Kd.R_far (p := ⟨gb364, 1, none⟩) (Kd.R_far (p := ⟨gb364, 0, none⟩) (Kd.R_types HO_8.out BK364.out (by decide)) (fun _ hk => hk.2) (.int .i64 ((rd_T37 l2 x19_1).f0))) (fun _ hk => hk.2) (.int .i64 ((rd_T37 l2 x19_1).f1))) (fun _ hk => trivial)⟩
                  have n1_ : Aside0 (((w14.setCell ⟨gb364, 0, none⟩ (.int .i64 ((rd_T37 l2 x19_1).f0))).setCell ⟨gb364, 1, none⟩ (.int .i64 ((rd_T37 l2 x19_1).f1))).heap[gb364]? = some (.cells #[.int .i64 ((rd_T37 l2 x19_1).f0), .int .i64 ((rd_T37 l2 x19_1).f1)] 37 (0, 0))) := ⟨by (with_reducible repeat (first | refine blk_drewN ?_ _ | refine blk_drew ?_ | refine blk_alloc ?_ _)); refine blk_put (cs := #[.int .i64 ((rd_T37 l2 x19_1).f0), .int .i64 0]) ?_ 1 _ rfl; (with_reducible repeat (first | refine blk_drewN ?_ _ | refine blk_drew ?_ | refine blk_alloc ?_ _)); refine blk_put (cs := #[.int .i64 0, .int .i64 0]) ?_ 0 _ rfl; (with_reducible repeat (first | refine blk_drewN ?_ _ | refine blk_drew ?_ | refine blk_alloc ?_ _)); exact BK364.out⟩
                  have n2_ : Aside0 (Below w.heap.size w ((w14.setCell ⟨gb364, 0, none⟩ (.int .i64 ((rd_T37 l2 x19_1).f0))).setCell ⟨gb364, 1, none⟩ (.int .i64 ((rd_T37 l2 x19_1).f1)))) := ⟨by repeat (first | (with_reducible first | exact HB.out | apply below_alloc | apply pw_below_drewN | apply below_drew1 | refine below_set ?_ GE364.out) | exact HB.out)⟩
                  (try clear HO_8)
                  (try clear BK364)
                  (try clear HB)
                  generalize ((w14.setCell ⟨gb364, 0, none⟩ (.int .i64 ((rd_T37 l2 x19_1).f0))).setCell ⟨gb364, 1, none⟩ (.int .i64 ((rd_T37 l2 x19_1).f1))) = w16 at n0_ n1_ n2_ ⊢
                  have HO_8 := n0_
                  have BK364 := n1_
                  have HB := n2_
                  clear n0_ n1_ n2_
                  have n0_ := Aside0.mk (Kd.R_drew HO_8.out)
                  have n1_ := Aside0.mk (blk_drew BK364.out)
                  have n2_ := Aside0.mk (below_drew1 HB.out)
                  clear HO_8
                  clear BK364
                  clear HB
                  have HO_8 := n0_
                  have BK364 := n1_
                  have HB := n2_
                  clear n0_ n1_ n2_
                  have p365 : 0 ≤ (x19_1 : Int) := of_decide_eq_true (by first | (with_reducible assumption) | assumption)
                  have q365 : x19_1 < (l1.length : Int) := of_decide_eq_true (by first | (with_reducible assumption) | assumption)
                  obtain ⟨ad365, e365, hx365_0, hx365_1, hx365_2, hx365_3⟩ := at_T62 HR1.out x19_1 p365 q365
                  have hw365_3 := hx365_3
                  have hw365_2 := hx365_2
                  have hw365_1 := hx365_1
                  have hw365_0 := hx365_0
                  cases e365
                  replace hx365_0 := (HB.out.cell (World.block_lt_of_cell? w _ hx365_0)).trans hx365_0
                  replace hx365_1 := (HB.out.cell (World.block_lt_of_cell? w _ hx365_1)).trans hx365_1
                  replace hx365_2 := (HB.out.cell (World.block_lt_of_cell? w _ hx365_2)).trans hx365_2
                  replace hx365_3 := (HB.out.cell (World.block_lt_of_cell? w _ hx365_3)).trans hx365_3
                  replace p365 := eq_true p365
                  replace q365 := eq_true q365
                  refine start_ (n := 12) (S := fun w' => w'.cell? ⟨gb364, 0, none⟩ = some (.int .i64 ((rd_T37 l2 x19_1).f0)) ∧ w'.cell? ⟨gb364, 1, none⟩ = some (.int .i64 ((rd_T37 l2 x19_1).f1)) ∧ w'.cell? (ad365.add ((x19_1).toNat * 4)) = some (.int .i64 ((rd_T62 l1 x19_1).f0)) ∧ w'.cell? ⟨(ad365.add ((x19_1).toNat * 4)).block, (ad365.add ((x19_1).toNat * 4)).off + 1, none⟩ = some (.int .i64 ((rd_T62 l1 x19_1).f1)) ∧ w'.cell? ⟨(ad365.add ((x19_1).toNat * 4)).block, (ad365.add ((x19_1).toNat * 4)).off + 2, none⟩ = some (.int .i64 ((rd_T62 l1 x19_1).f2)) ∧ w'.cell? ⟨(ad365.add ((x19_1).toNat * 4)).block, (ad365.add ((x19_1).toNat * 4)).off + 3, none⟩ = some (.int .i64 ((rd_T62 l1 x19_1).f3))) (ds := []) #[false, false, false, false, false, false, false, false, false, false, false, false] (by kernel_rfl) rfl rfl ⟨(blk_cell BK364.out 0).trans rfl, (blk_cell BK364.out 1).trans rfl, ((HB.out.cell (World.block_lt_of_cell? w _ hw365_0)).trans hw365_0), ((HB.out.cell (World.block_lt_of_cell? w _ hw365_1)).trans hw365_1), ((HB.out.cell (World.block_lt_of_cell? w _ hw365_2)).trans hw365_2), ((HB.out.cell (World.block_lt_of_cell? w _ hw365_3)).trans hw365_3)⟩ (fun hHeld => ?_); refine with_tabW impl_WaitOf.tab7 impl_WaitOf.bits7 (fun HT_ HW_ => ?_)
                  generalize w16.drew = w17 at HO_8 BK364 HB hx365_0 hx365_1 hx365_2 hx365_3 hHeld ⊢
                  refine pure_ (i := 0) (N := some 24) (v := ?_) (a' := ?_) #[true, false, false, false, false, false, false, false, false, false, false, false] rfl rfl (any_of HT_.out (by kernel_rfl)) (fun _ _ _ h => h) (Or.inl ⟨by rfl, ?_⟩) ?_ ?_
                  rotate_left
                  · intro w'
                    go_simp
                    with_reducible rfl
                  rotate_left
                  · simp only [Act.put, List.setIfInBounds_toArray, List.set_cons_zero, List.set_cons_succ, i64_w, i32_w]
                    rfl
                  refine pure_ (i := 1) (N := some 25) (v := ?_) (a' := ?_) #[true, true, false, false, false, false, false, false, false, false, false, false] rfl rfl (any_of HT_.out (by kernel_rfl)) (fun _ _ _ h => h) (Or.inl ⟨by rfl, ?_⟩) ?_ ?_
                  rotate_left
                  · intro w'
                    go_simp
                    with_reducible rfl
                  rotate_left
                  · simp only [Act.put, List.setIfInBounds_toArray, List.set_cons_zero, List.set_cons_succ, i64_w, i32_w]
                    rfl
                  refine pure_ (i := 3) (N := some 27) (v := ?_) (a' := ?_) #[true, true, false, true, false, false, false, false, false, false, false, false] rfl rfl (any_of HT_.out (by kernel_rfl)) (fun _ _ _ h => h) (Or.inl ⟨by rfl, ?_⟩) ?_ ?_
                  rotate_left
                  · intro w'
                    go_simp
                    with_reducible rfl
                  rotate_left
                  · simp only [Act.put, List.setIfInBounds_toArray, List.set_cons_zero, List.set_cons_succ, i64_w, i32_w]
                    rfl
                  refine pure_ (i := 4) (N := some 28) (v := ?_) (a' := ?_) #[true, true, false, true, true, false, false, false, false, false, false, false] rfl rfl (any_of HT_.out (by kernel_rfl)) (fun _ _ _ h => h) (Or.inl ⟨by rfl, ?_⟩) ?_ ?_
                  rotate_left
                  · intro w'
                    go_simp
                    with_reducible rfl
                  rotate_left
                  · simp only [Act.put, List.setIfInBounds_toArray, List.set_cons_zero, List.set_cons_succ, i64_w, i32_w]
                    rfl
                  refine pure_ (i := 5) (N := some 29) (v := ?_) (a' := ?_) #[true, true, false, true, true, true, false, false, false, false, false, false] rfl rfl (any_of HT_.out (by kernel_rfl)) (fun _ _ _ h => h) (Or.inl ⟨by rfl, ?_⟩) ?_ ?_
                  rotate_left
                  · intro w'
                    go_simp
                    with_reducible rfl
                  rotate_left
                  · simp only [Act.put, List.setIfInBounds_toArray, List.set_cons_zero, List.set_cons_succ, i64_w, i32_w]
                    rfl
                  refine pure_ (i := 6) (N := some 30) (v := ?_) (a' := ?_) #[true, true, false, true, true, true, true, false, false, false, false, false] rfl rfl (any_of HT_.out (by kernel_rfl)) (fun _ _ _ h => h) (Or.inl ⟨by rfl, ?_⟩) ?_ ?_
                  rotate_left
                  · intro w'
                    go_simp
                    with_reducible rfl
                  rotate_left
                  · simp only [Act.put, List.setIfInBounds_toArray, List.set_cons_zero, List.set_cons_succ, i64_w, i32_w]
                    rfl
                  refine take_ (i := 2) (N := some 26) (v := ?_) (a' := ?_) #[true, true, true, true, true, true, true, false, false, false, false, false] rfl rfl (take_ofW HT_.out HW_.out (by kernel_rfl)) (fun _ _ _ h => h) (Or.inl ⟨by rfl, ?_⟩) hHeld ?_ ?_
                  rotate_left
                  · rintro w' ⟨s0, s1, s2, s3, s4, s5⟩
                    go_simp
                    with_reducible rfl
                  rotate_left
                  · simp only [Act.put, List.setIfInBounds_toArray, List.set_cons_zero, List.set_cons_succ, i64_w, i32_w]
                    rfl
                  refine take_ (i := 7) (N := some 31) (v := ?_) (a' := ?_) #[true, true, true, true, true, true, true, true, false, false, false, false] rfl rfl (take_ofW HT_.out HW_.out (by kernel_rfl)) (fun _ _ _ h => h) (Or.inl ⟨by rfl, ?_⟩) hHeld ?_ ?_
                  rotate_left
                  · rintro w' ⟨s0, s1, s2, s3, s4, s5⟩
                    go_simp
                    with_reducible rfl
                  rotate_left
                  · simp only [Act.put, List.setIfInBounds_toArray, List.set_cons_zero, List.set_cons_succ, i64_w, i32_w]
                    rfl
                  refine pure_ (i := 8) (N := some 32) (v := ?_) (a' := ?_) #[true, true, true, true, true, true, true, true, true, false, false, false] rfl rfl (any_of HT_.out (by kernel_rfl)) (fun _ _ _ h => h) (Or.inl ⟨by rfl, ?_⟩) ?_ ?_
                  rotate_left
                  · intro w'
                    go_simp
                    with_reducible rfl
                  rotate_left
                  · simp only [Act.put, List.setIfInBounds_toArray, List.set_cons_zero, List.set_cons_succ, i64_w, i32_w]
                    rfl
                  refine one_ (i := 9) (N := some 33) #[true, true, true, true, true, true, true, true, true, true, false, false] rfl rfl (one_of HT_.out (by kernel_rfl)) (by decide) (fun K hK => ?_)
                  refine value_ (w1 := ?_) (v := ?_) (by rfl) rfl ?_ ?_
                  rotate_left 2
                  · go_simp
                    constructor
                    · rfl
                    · rfl
                  refine hK.out _ _ ⟨(blk_cell (blk_alloc BK364.out _) 0).trans rfl, (blk_cell (blk_alloc BK364.out _) 1).trans rfl, (World.cell?_alloc_lt _ _ _ (World.block_lt_of_cell? _ _ (((HB.out.cell (World.block_lt_of_cell? w _ hw365_0)).trans hw365_0)))).trans (((HB.out.cell (World.block_lt_of_cell? w _ hw365_0)).trans hw365_0)), (World.cell?_alloc_lt _ _ _ (World.block_lt_of_cell? _ _ (((HB.out.cell (World.block_lt_of_cell? w _ hw365_1)).trans hw365_1)))).trans (((HB.out.cell (World.block_lt_of_cell? w _ hw365_1)).trans hw365_1)), (World.cell?_alloc_lt _ _ _ (World.block_lt_of_cell? _ _ (((HB.out.cell (World.block_lt_of_cell? w _ hw365_2)).trans hw365_2)))).trans (((HB.out.cell (World.block_lt_of_cell? w _ hw365_2)).trans hw365_2)), (World.cell?_alloc_lt _ _ _ (World.block_lt_of_cell? _ _ (((HB.out.cell (World.block_lt_of_cell? w _ hw365_3)).trans hw365_3)))).trans (((HB.out.cell (World.block_lt_of_cell? w _ hw365_3)).trans hw365_3))⟩ (fun hHeld => ?_)
                  clear hK K
                  refine norm_ (a' := ?_) ?_ ?_
                  rotate_left
                  · show Act.put _ (some 33) _ = _
                    simp only [Act.put, List.setIfInBounds_toArray, List.set_cons_zero, List.set_cons_succ, i64_w, i32_w]
                    rfl
                  refine one_ (i := 10) (N := some 34) #[true, true, true, true, true, true, true, true, true, true, true, false] rfl rfl (one_of HT_.out (by kernel_rfl)) (by decide) (fun K hK => ?_)
                  refine Kd.R_append_step (Kd.int .i64) (w0 := w) w.heap.size (by rfl) (.tmp 24) (.tmp 33) 41 3 (.int .i64 0) 8 rfl Try.underlying41 info3 rfl (by decide) (by omega) u8 x8_1 (wrap64 (((rd_T37 l2 x19_1).f1) - ((rd_T62 l1 x19_1).f1))) [.int .i64 (wrap64 (((rd_T37 l2 x19_1).f1) - ((rd_T62 l1 x19_1).f1)))] (fun _ => True) (fun _ => False) rfl rfl ?aP (fun _ hk => hk.elim) ?aF ?aO ?aB ?aS ?aL ?_
                  (case aP => exact rfl)
                  (case aB => exact (by repeat (first | (with_reducible first | exact HB.out | apply below_alloc | apply pw_below_drewN | apply below_drew1 | refine below_set ?_ GE364.out) | exact HB.out)))
                  (case aF => exact (fun _ _ => trivial))
                  (case aO => exact (by (with_reducible repeat (first | apply Kd.R_alloc | apply Kd.R_drewN | apply Kd.R_drew)); exact HO_8.out))
                  (case aS => exact (below_size (by repeat (first | (with_reducible first | exact HB.out | apply below_alloc | apply pw_below_drewN | apply below_drew1 | refine below_set ?_ GE364.out) | exact HB.out))))
                  (case aL => have := LMc13.out; omega)
                  intro v367 w18 ho hb hg hat
                  rw [← Ny366.out] at ho
                  have n0_ := Aside0.mk (blk_grown (g := gb364) (o := .cells #[.int .i64 ((rd_T37 l2 x19_1).f0), .int .i64 ((rd_T37 l2 x19_1).f1)] 37 (0, 0)) (by (with_reducible repeat (first | refine blk_drewN ?_ _ | refine blk_drew ?_ | refine blk_alloc ?_ _)); exact BK364.out) hg (Kd.R_ne HO_8.out BK364.out (by decide)))
                  have n1_ := Aside0.mk (hb)
                  have n2_ := Aside0.mk (ho)
                  clear BK364
                  clear HB
                  clear HO_8
                  have BK364 := n0_
                  have HB := n1_
                  have HO368 := n2_
                  clear n0_ n1_ n2_
                  clear ho hb hg hat
                  refine hK.out _ _ ⟨(blk_cell BK364.out 0).trans rfl, (blk_cell BK364.out 1).trans rfl, ((HB.out.cell (World.block_lt_of_cell? w _ hw365_0)).trans hw365_0), ((HB.out.cell (World.block_lt_of_cell? w _ hw365_1)).trans hw365_1), ((HB.out.cell (World.block_lt_of_cell? w _ hw365_2)).trans hw365_2), ((HB.out.cell (World.block_lt_of_cell? w _ hw365_3)).trans hw365_3)⟩ (fun hHeld => ?_)
                  clear hK K
                  refine norm_ (a' := ?_) ?_ ?_
                  rotate_left
                  · show Act.put _ (some 34) _ = _
                    simp only [Act.put, List.setIfInBounds_toArray, List.set_cons_zero, List.set_cons_succ, i64_w, i32_w]
                    rfl
                  refine pure_ (i := 11) (N := some 8) (v := ?_) (a' := ?_) #[true, true, true, true, true, true, true, true, true, true, true, true] rfl rfl (any_of HT_.out (by kernel_rfl)) (fun _ _ _ h => h) (Or.inl ⟨by rfl, ?_⟩) ?_ ?_
                  rotate_left
                  · intro w'
                    go_simp
                    with_reducible rfl
                  rotate_left
                  · simp only [Act.put, List.setIfInBounds_toArray, List.set_cons_zero, List.set_cons_succ, i64_w, i32_w]
                    rfl
                  refine done_ (done_of HT_.out (by kernel_rfl)) ?_
                  try go_wp2
                  go_roundg k1
                  case measure => have := HK1.out; omega
                  case rel => exact ⟨(y366), (wrap64 (x19_1 + 1)), (by first | rfl | (simp; done) | (simp [*]; done)), H', ⟨by have := HK1.out; omega⟩, ⟨by (with_reducible repeat (first | apply Kd.R_alloc | apply Kd.R_drewN | apply Kd.R_drew)); exact HO368.out⟩, ⟨by repeat (first | (with_reducible first | exact HB.out | apply below_alloc | apply pw_below_drewN | apply below_drew1 | refine below_set ?_ GE364.out) | exact HB.out)⟩⟩
                · rw [if_neg c13] at H
                  exact absurd H (by simp)
              · rw [if_neg c12] at H
                exact absurd H (by simp)
            · rw [if_neg c11] at H
              exact absurd H (by simp)
          · rw [if_neg c10] at H
            exact absurd H (by simp)
        · rw [if_neg c9] at H
          have c9b0 : decide (x19_1 < (l2.length : Int)) = false := decide_eq_false c9
          clear c9
          simp only [Option.some.injEq, Prod.mk.injEq] at H
          obtain ⟨rfl, rfl⟩ := H
          go_wp2
          go_ret2
          exact ⟨_, by first | rfl | (simp [errW_none, errW_some] <;> rfl) | (simp [*, errW_none, errW_some] <;> rfl), by (with_reducible repeat (first | apply Kd.R_alloc | apply Kd.R_drewN | apply Kd.R_drew)); exact HO_8.out, by repeat (first | (with_reducible first | exact HB.out | apply below_alloc | apply pw_below_drewN | apply below_drew1) | exact HB.out)⟩
  · replace c5 := Bool.eq_false_iff.mpr c5
    subst c5
    have H1 : (some (([] : List Int), false)) = some (r1, r2) := by rw [if_neg (show ¬ (false = true) by decide)] at H; exact H
    clear H
    have H := H1
    clear H1
    simp only [Option.some.injEq, Prod.mk.injEq] at H
    obtain ⟨rfl, rfl⟩ := H
    go_enter Try.func29, Try.ntmps29
    go_wp2_with (first | ((with_reducible refine gate_callee (f := 18) rfl ?_); refine goesL_ (some 14) rfl rfl Try.func18 (by kernel_rfl) rfl #[.int .i64 a0, .slice A1 l1.length c1, .slice A2 l2.length c2] rfl (by (try simp only [List.map_toArray, List.map_cons, List.map_nil]); first | done | rfl | (simp only [List.length_drop, List.length_take]; rfl)) ?_; (with_reducible refine (impl_IsPossiblePlan.calls k a0 _ _ l1 _ _ l2 false _ ?side1 ?side2 ?side3 ?side4 A4.out).mono ?_); (case side1 => repeat (first | exact HR1.out | (with_reducible refine Kd.C_alloc ?_ _) | (with_reducible refine Kd.C_drewN ?_ _) | (with_reducible refine Kd.C_drew ?_))); (case side2 => exact HC1.out); (case side3 => repeat (first | exact HR2.out | (with_reducible refine Kd.C_alloc ?_ _) | (with_reducible refine Kd.C_drewN ?_ _) | (with_reducible refine Kd.C_drew ?_))); (case side4 => exact HC2.out); rintro e w19 ⟨rfl, hb⟩; refine ⟨_, rfl, ?_⟩; have n0_ := Aside0.mk (below_step (by repeat (first | (with_reducible first | exact HB.out | apply below_alloc | apply pw_below_drewN | apply below_drew1) | exact HB.out)) hb); clear HB; have HB := n0_; clear n0_; (try clear hb); (try clear hb2); (try clear hk); (try clear hi)))
    go_ret2
    exact ⟨_, by first | rfl | (simp [errW_none, errW_some] <;> rfl) | (simp [*, errW_none, errW_some] <;> rfl), by first | exact Kd.R_nil _ _ _ _ _ | exact Kd.N_nil _ _ _ _ _ | exact Kd.V_nil _ _ _ _ _ | exact Kd.Q_nil _ _ _ _ _ | exact Kd.S_nil _ _ _ _ _, by repeat (first | (with_reducible first | exact HB.out | apply below_alloc | apply pw_below_drewN | apply below_drew1) | exact HB.out)⟩

end Go.Proofs.Ytcciljjnpfgaeaa.G

-- Written by wip/tools/gen.py out of the translation (the kit's printer, one namespace a seat). Lean checks it.
namespace Go.Proofs.Ytcciljjnpfgaeaa.G
open Go.RowKit Go.Proofs.YtcciljjnpfgaeaaW.PrintWords Go.Proofs.YtcciljjnpfgaeaaW.PrintLast Go.Proofs.YtcciljjnpfgaeaaW.PrintMore
attribute [local go_sem] max2_int min2_int max_two min_two max_three min_three max_four min_four   -- for this text's walks alone
set_option linter.unusedVariables false
set_option linter.unusedSimpArgs false

/-! ### spec_WaitOf: function 28 -/
def spec_WaitOf.l0 : Nat → List (S62) → List (S37) → List Int → Int → Option (List Int × Bool)
  | 0, _, _, _, _ => none
  | k + 1, x1, x2, x8, x9 => if x9 < (x1.length : Int) then (if 0 ≤ x9 then (if x9 < (x2.length : Int) then (if x8.length < 17592186044416 then (spec_WaitOf.l0 k x1 x2 (x8 ++ [wrap64 (((rd_T37 x2 x9).f1) - ((rd_T62 x1 x9).f1))]) (wrap64 (x9 + 1))) else (none)) else (none)) else (none)) else (some (x8, true))
def spec_WaitOf.f (k : Nat) (a0 : Int) (l1 : List (S62)) (l2 : List (S37)) : Option (List Int × Bool) := (some (([] : List Int) : List Int)).bind fun y350 => ((spec_l14Asked.f k a0 l1 l2).bind fun t353 => (if t353 = true then (spec_WaitOf.l0 k l1 l2 y350 0) else (some (y350, false))))
theorem spec_WaitOf.mono_l : ∀ k, (∀ y0 y1 y2 y3, LeO (spec_WaitOf.l0 k y0 y1 y2 y3) (spec_WaitOf.l0 (k + 1) y0 y1 y2 y3))
  | 0 => fun _ _ _ _ r h => by simp [spec_WaitOf.l0] at h
  | k + 1 => by
    have ih0 := spec_WaitOf.mono_l k
    · intro y0 y1 y2 y3
      unfold spec_WaitOf.l0
      repeat' first
      | (with_reducible exact ih0 _ _ _ _)
      | (with_reducible exact spec_l14Asked.mono _ _ _ _)
      | (with_reducible exact LeO.refl _)
      | (with_reducible exact LeO.none _)
      | (with_reducible refine LeO.ite ?_ ?_)
      | (with_reducible refine LeO.bind ?_ (fun _ => ?_))
      | exact ih0 _ _ _ _
      | exact spec_l14Asked.mono _ _ _ _
      | exact LeO.none _
      | refine LeO.ite ?_ ?_
      | refine LeO.bind ?_ (fun _ => ?_)
theorem spec_WaitOf.mono : ∀ a0 a1 a2 k, LeO (spec_WaitOf.f k a0 a1 a2) (spec_WaitOf.f (k + 1) a0 a1 a2) := by
  intro a0 a1 a2 k
  have ih0 := spec_WaitOf.mono_l k
  unfold spec_WaitOf.f
  repeat' first
      | (with_reducible exact ih0 _ _ _ _)
      | (with_reducible exact spec_l14Asked.mono _ _ _ _)
      | (with_reducible exact LeO.refl _)
      | (with_reducible exact LeO.none _)
      | (with_reducible refine LeO.ite ?_ ?_)
      | (with_reducible refine LeO.bind ?_ (fun _ => ?_))
      | exact ih0 _ _ _ _
      | exact spec_l14Asked.mono _ _ _ _
      | exact LeO.none _
      | refine LeO.ite ?_ ?_
      | refine LeO.bind ?_ (fun _ => ?_)
def spec_WaitOf.T7 : Bool × List (List Nat × List Nat) := (true, [([], []), ([], []), ([], []), ([1, 2], [1, 2]), ([3], [3]), ([4], [4]), ([], []), ([], []), ([6, 7], [6, 7]), ([8], [8]), ([9], [9]), ([5, 10], [5, 10]), ([11], [11]), ([0, 12], [0, 12]), ([13, 13, 0, 1, 2, 3, 4, 5, 6, 7, 8, 9, 10, 11, 12, 13], [0, 13])])
def spec_WaitOf.B7 : List Nat := [0, 0, 0, 6, 14, 30, 0, 0, 192, 448, 960, 2046, 4094, 8191, 16383]
theorem spec_WaitOf.tab7 : rtab .any (opsOf Try.f28 7) = spec_WaitOf.T7 := by kernel_rfl
theorem spec_WaitOf.bits7 : waitsOk spec_WaitOf.T7.2 spec_WaitOf.B7 = true := by kernel_rfl
set_option maxHeartbeats 8000000 in
set_option maxRecDepth 100000 in
theorem spec_WaitOf.calls (k : Nat) (a0 : Int) (A1 : Option Addr) (c1 : Nat) (l1 : List (S62)) (A2 : Option Addr) (c2 : Nat) (l2 : List (S37)) (r1 : List Int) (r2 : Bool) (w : World) (hr1 : Kd.C k62 w A1 l1.length l1) (hc1 : l1.length ≤ c1) (hr2 : Kd.C k37 w A2 l2.length l2) (hc2 : l2.length ≤ c2) (h : spec_WaitOf.f k a0 l1 l2 = some (r1, r2)) :
    Calls Try.prog 28 #[.int .i64 a0, .slice A1 l1.length c1, .slice A2 l2.length c2] w fun e w' => ∃ v0_ : Value, e = .returned (.tuple #[v0_, .bool r2]) ∧ Kd.R (Kd.int .i64) 3 w' w.heap.size (fun _ => True) v0_ r1 ∧ Below w.heap.size w w' := by
  have HR1 := Aside0.mk hr1
  have HC1 := Aside0.mk hc1
  clear hr1 hc1
  have HR2 := Aside0.mk hr2
  have HC2 := Aside0.mk hc2
  clear hr2 hc2
  have HB := Aside0.mk (Below.refl w.heap.size w)
  have H : ((some (([] : List Int) : List Int)).bind fun y350 => ((spec_l14Asked.f k a0 l1 l2).bind fun t353 => (if t353 = true then (spec_WaitOf.l0 k l1 l2 y350 0) else (some (y350, false))))) = some (r1, r2) := h
  clear h
  obtain ⟨y350, hy350⟩ : ∃ y_ : List Int, y_ = (([] : List Int)) := ⟨_, rfl⟩
  replace H : ((spec_l14Asked.f k a0 l1 l2).bind fun t353 => (if t353 = true then (spec_WaitOf.l0 k l1 l2 y350 0) else (some (y350, false)))) = some (r1, r2) := by first | (rw [hy350]; with_reducible exact H) | (have H2_ := (Option.bind_some _ _).symm.trans H; rw [hy350]; with_reducible exact H2_) | (have H2_ := (Option.bind_some _ _).symm.trans H; with_reducible exact H2_) | with_reducible exact H | (rw [hy350]; exact H) | exact H
  have Ny350 := Aside0.mk hy350
  clear hy350
  replace H := Option.bind_eq_some_iff.mp H
  obtain ⟨t353, A40, H⟩ := H
  replace H : (if t353 = true then (spec_WaitOf.l0 k l1 l2 y350 0) else (some (y350, false))) = some (r1, r2) := H
  have A4 := Aside0.mk A40
  clear A40
  by_cases c5 : t353 = true
  · subst c5
    have H1 : (spec_WaitOf.l0 k l1 l2 y350 0) = some (r1, r2) := by rw [if_pos rfl] at H; exact H
    clear H
    have H := H1
    clear H1
    have H' := Aside0.mk H
    clear H
    go_enter Try.func28, Try.ntmps28
    go_wp2_with (first | ((with_reducible refine gate_dst (N := 10) rfl ?_); refine Kd.R_lit (Kd.int .i64) _ 3 ?hg (N := 10) ?hd (xs := ([] : List Int)) (inner := []) (ok := fun _ => True) (okp := fun _ => True) ?hr ?hp (fun _ hk => hk) trivial (Below.refl _ _) (Nat.le_refl _) (by simp) ?_; (case hd => rfl); (case hg => rfl); (case hr => first | (go_simp; done) | (go_simp; rfl)); (case hp => exact (Reps.none _ _)); intro v351 w6 ho7 hb hg_ hnew_; clear hg_ hnew_; (first | rw [← Ny350.out] at ho7 | (simp only [Int.reduceToNat] at ho7; rw [← Ny350.out] at ho7)); have n0_ := Aside0.mk (Kd.R_lower ho7 (below_size (by repeat (first | (with_reducible first | exact HB.out | apply below_alloc | apply pw_below_drewN | apply below_drew1) | exact HB.out)))); have n1_ := Aside0.mk (below_step (by repeat (first | (with_reducible first | exact HB.out | apply below_alloc | apply pw_below_drewN | apply below_drew1) | exact HB.out)) hb); clear HB; have HO352 := n0_; have HB := n1_; clear n0_ n1_; clear hb ho7) | ((with_reducible refine gate_callee (f := 49) rfl ?_); refine goesL_ (some 14) rfl rfl Try.func49 (by kernel_rfl) rfl #[.int .i64 a0, .slice A1 l1.length c1, .slice A2 l2.length c2] rfl (by (try simp only [List.map_toArray, List.map_cons, List.map_nil]); first | done | rfl | (simp only [List.length_drop, List.length_take]; rfl)) ?_; (with_reducible refine (spec_l14Asked.calls k a0 _ _ l1 _ _ l2 true _ ?side1 ?side2 ?side3 ?side4 A4.out).mono ?_); (case side1 => repeat (first | exact (Kd.C_below HR1.out HB.out) | (with_reducible refine Kd.C_alloc ?_ _) | (with_reducible refine Kd.C_drewN ?_ _) | (with_reducible refine Kd.C_drew ?_))); (case side2 => exact HC1.out); (case side3 => repeat (first | exact (Kd.C_below HR2.out HB.out) | (with_reducible refine Kd.C_alloc ?_ _) | (with_reducible refine Kd.C_drewN ?_ _) | (with_reducible refine Kd.C_drew ?_))); (case side4 => exact HC2.out); rintro e w8 ⟨rfl, hb⟩; refine ⟨_, rfl, ?_⟩; have n0_ := Aside0.mk (Kd.R_below (by (with_reducible repeat (first | apply Kd.R_alloc | apply Kd.R_drewN | apply Kd.R_drew)); exact HO352.out) hb); have n1_ := Aside0.mk (below_step (by repeat (first | (with_reducible first | exact HB.out | apply below_alloc | apply pw_below_drewN | apply below_drew1) | exact HB.out)) hb); clear HO352; clear HB; have HO352 := n0_; have HB := n1_; clear n0_ n1_; (try clear hb); (try clear hb2); (try clear hk); (try clear hi)))
    go_loopg [8, 9] k (fun kq v8 v9 w' => ∃ (x8_1 : List Int) (x9_1 : Int), v9 = .int .i64 x9_1 ∧ Aside0 (spec_WaitOf.l0 kq l1 l2 x8_1 x9_1 = some (r1, r2)) ∧ Aside0 (kq ≤ k) ∧ Aside0 (Kd.R (Kd.int .i64) 3 w' w.heap.size (fun _ => True) v8 x8_1) ∧ Aside0 (Below w.heap.size w w'))
    case atStart => exact ⟨(y350), (0), (by first | rfl | (simp; done) | (simp [*]; done)), H', ⟨Nat.le_refl _⟩, ⟨by (with_reducible repeat (first | apply Kd.R_alloc | apply Kd.R_drewN | apply Kd.R_drew)); exact HO352.out⟩, ⟨by repeat (first | (with_reducible first | exact HB.out | apply below_alloc | apply pw_below_drewN | apply below_drew1) | exact HB.out)⟩⟩
    case round =>
      clear H'
      try clear c1
      try clear c2
      try clear p2
      try clear c4
      try clear c5
      obtain ⟨x8_1, x9_1, rfl, HA, HK1, HO_8, HB⟩ := hrel
      cases gk with
      | zero => exact absurd HA.out (by simp [spec_WaitOf.l0])
      | succ k1 =>
        have H := HA.out
        clear HA
        simp only [spec_WaitOf.l0] at H
        by_cases c9 : x9_1 < (l1.length : Int)
        · rw [if_pos c9] at H
          have c9b0 : decide (x9_1 < (l1.length : Int)) = true := decide_eq_true c9
          clear c9
          by_cases c10 : 0 ≤ x9_1
          · rw [if_pos c10] at H
            have c10b0 : decide (0 ≤ x9_1) = true := decide_eq_true c10
            clear c10
            by_cases c11 : x9_1 < (l2.length : Int)
            · rw [if_pos c11] at H
              have c11b0 : decide (x9_1 < (l2.length : Int)) = true := decide_eq_true c11
              clear c11
              by_cases c12 : x8_1.length < 17592186044416
              · rw [if_pos c12] at H
                have LMc12 := Aside0.mk c12
                clear c12
                obtain ⟨y356, hy356⟩ : ∃ y_ : List Int, y_ = (x8_1 ++ [wrap64 (((rd_T37 l2 x9_1).f1) - ((rd_T62 l1 x9_1).f1))]) := ⟨_, rfl⟩
                replace H : (spec_WaitOf.l0 k1 l1 l2 y356 (wrap64 (x9_1 + 1))) = some (r1, r2) := by first | (rw [hy356]; with_reducible exact H) | (have H2_ := (Option.bind_some _ _).symm.trans H; rw [hy356]; with_reducible exact H2_) | (have H2_ := (Option.bind_some _ _).symm.trans H; with_reducible exact H2_) | with_reducible exact H | (rw [hy356]; exact H) | exact H
                have Ny356 := Aside0.mk hy356
                clear hy356
                have H' := Aside0.mk H
                clear H
                try go_wp2
                have n0_ := Aside0.mk (Kd.R_drew HO_8.out)
                have n1_ := Aside0.mk (below_drew1 HB.out)
                clear HO_8
                clear HB
                have HO_8 := n0_
                have HB := n1_
                clear n0_ n1_
                have p354 : 0 ≤ (x9_1 : Int) := of_decide_eq_true (by first | (with_reducible assumption) | assumption)
                have q354 : x9_1 < (l2.length : Int) := of_decide_eq_true (by first | (with_reducible assumption) | assumption)
                obtain ⟨ad354, e354, hx354_0, hx354_1⟩ := at_T37 HR2.out x9_1 p354 q354
                have hw354_1 := hx354_1
                have hw354_0 := hx354_0
                cases e354
                replace hx354_0 := (HB.out.cell (World.block_lt_of_cell? w _ hx354_0)).trans hx354_0
                replace hx354_1 := (HB.out.cell (World.block_lt_of_cell? w _ hx354_1)).trans hx354_1
                replace p354 := eq_true p354
                replace q354 := eq_true q354
                have p355 : 0 ≤ (x9_1 : Int) := of_decide_eq_true (by first | (with_reducible assumption) | assumption)
                have q355 : x9_1 < (l1.length : Int) := of_decide_eq_true (by first | (with_reducible assumption) | assumption)
                obtain ⟨ad355, e355, hx355_0, hx355_1, hx355_2, hx355_3⟩ := at_T62 HR1.out x9_1 p355 q355
                have hw355_3 := hx355_3
                have hw355_2 := hx355_2
                have hw355_1 := hx355_1
                have hw355_0 := hx355_0
                cases e355
                replace hx355_0 := (HB.out.cell (World.block_lt_of_cell? w _ hx355_0)).trans hx355_0
                replace hx355_1 := (HB.out.cell (World.block_lt_of_cell? w _ hx355_1)).trans hx355_1
                replace hx355_2 := (HB.out.cell (World.block_lt_of_cell? w _ hx355_2)).trans hx355_2
                replace hx355_3 := (HB.out.cell (World.block_lt_of_cell? w _ hx355_3)).trans hx355_3
                replace p355 := eq_true p355
                replace q355 := eq_true q355
                refine start_ (n := 15) (S := fun w' => w'.cell? (ad354.add ((x9_1).toNat * 2)) = some (.int .i64 ((rd_T37 l2 x9_1).f0)) ∧ w'.cell? ⟨(ad354.add ((x9_1).toNat * 2)).block, (ad354.add ((x9_1).toNat * 2)).off + 1, none⟩ = some (.int .i64 ((rd_T37 l2 x9_1).f1)) ∧ w'.cell? (ad355.add ((x9_1).toNat * 4)) = some (.int .i64 ((rd_T62 l1 x9_1).f0)) ∧ w'.cell? ⟨(ad355.add ((x9_1).toNat * 4)).block, (ad355.add ((x9_1).toNat * 4)).off + 1, none⟩ = some (.int .i64 ((rd_T62 l1 x9_1).f1)) ∧ w'.cell? ⟨(ad355.add ((x9_1).toNat * 4)).block, (ad355.add ((x9_1).toNat * 4)).off + 2, none⟩ = some (.int .i64 ((rd_T62 l1 x9_1).f2)) ∧ w'.cell? ⟨(ad355.add ((x9_1).toNat * 4)).block, (ad355.add ((x9_1).toNat * 4)).off + 3, none⟩ = some (.int .i64 ((rd_T62 l1 x9_1).f3))) (ds := []) #[false, false, false, false, false, false, false, false, false, false, false, false, false, false, false] (by kernel_rfl) rfl rfl ⟨((HB.out.cell (World.block_lt_of_cell? w _ hw354_0)).trans hw354_0), ((HB.out.cell (World.block_lt_of_cell? w _ hw354_1)).trans hw354_1), ((HB.out.cell (World.block_lt_of_cell? w _ hw355_0)).trans hw355_0), ((HB.out.cell (World.block_lt_of_cell? w _ hw355_1)).trans hw355_1), ((HB.out.cell (World.block_lt_of_cell? w _ hw355_2)).trans hw355_2), ((HB.out.cell (World.block_lt_of_cell? w _ hw355_3)).trans hw355_3)⟩ (fun hHeld => ?_); refine with_tabW spec_WaitOf.tab7 spec_WaitOf.bits7 (fun HT_ HW_ => ?_)
                generalize wr.drew = w13 at HO_8 HB hx354_0 hx354_1 hx355_0 hx355_1 hx355_2 hx355_3 hHeld ⊢
                refine pure_ (i := 0) (N := some 23) (v := ?_) (a' := ?_) #[true, false, false, false, false, false, false, false, false, false, false, false, false, false, false] rfl rfl (any_of HT_.out (by kernel_rfl)) (fun _ _ _ h => h) (Or.inl ⟨by rfl, ?_⟩) ?_ ?_
                rotate_left
                · intro w'
                  go_simp
                  with_reducible rfl
                rotate_left
                · simp only [Act.put, List.setIfInBounds_toArray, List.set_cons_zero, List.set_cons_succ, i64_w, i32_w]
                  rfl
                refine pure_ (i := 1) (N := some 24) (v := ?_) (a' := ?_) #[true, true, false, false, false, false, false, false, false, false, false, false, false, false, false] rfl rfl (any_of HT_.out (by kernel_rfl)) (fun _ _ _ h => h) (Or.inl ⟨by rfl, ?_⟩) ?_ ?_
                rotate_left
                · intro w'
                  go_simp
                  with_reducible rfl
                rotate_left
                · simp only [Act.put, List.setIfInBounds_toArray, List.set_cons_zero, List.set_cons_succ, i64_w, i32_w]
                  rfl
                refine pure_ (i := 2) (N := some 25) (v := ?_) (a' := ?_) #[true, true, true, false, false, false, false, false, false, false, false, false, false, false, false] rfl rfl (any_of HT_.out (by kernel_rfl)) (fun _ _ _ h => h) (Or.inl ⟨by rfl, ?_⟩) ?_ ?_
                rotate_left
                · intro w'
                  go_simp
                  with_reducible rfl
                rotate_left
                · simp only [Act.put, List.setIfInBounds_toArray, List.set_cons_zero, List.set_cons_succ, i64_w, i32_w]
                  rfl
                refine pure_ (i := 3) (N := some 26) (v := ?_) (a' := ?_) #[true, true, true, true, false, false, false, false, false, false, false, false, false, false, false] rfl rfl (any_of HT_.out (by kernel_rfl)) (fun _ _ _ h => h) (Or.inl ⟨by rfl, ?_⟩) ?_ ?_
                rotate_left
                · intro w'
                  go_simp
                  with_reducible rfl
                rotate_left
                · simp only [Act.put, List.setIfInBounds_toArray, List.set_cons_zero, List.set_cons_succ, i64_w, i32_w]
                  rfl
                refine pure_ (i := 4) (N := some 27) (v := ?_) (a' := ?_) #[true, true, true, true, true, false, false, false, false, false, false, false, false, false, false] rfl rfl (any_of HT_.out (by kernel_rfl)) (fun _ _ _ h => h) (Or.inl ⟨by rfl, ?_⟩) ?_ ?_
                rotate_left
                · intro w'
                  go_simp
                  with_reducible rfl
                rotate_left
                · simp only [Act.put, List.setIfInBounds_toArray, List.set_cons_zero, List.set_cons_succ, i64_w, i32_w]
                  rfl
                refine pure_ (i := 6) (N := some 29) (v := ?_) (a' := ?_) #[true, true, true, true, true, false, true, false, false, false, false, false, false, false, false] rfl rfl (any_of HT_.out (by kernel_rfl)) (fun _ _ _ h => h) (Or.inl ⟨by rfl, ?_⟩) ?_ ?_
                rotate_left
                · intro w'
                  go_simp
                  with_reducible rfl
                rotate_left
                · simp only [Act.put, List.setIfInBounds_toArray, List.set_cons_zero, List.set_cons_succ, i64_w, i32_w]
                  rfl
                refine pure_ (i := 7) (N := some 30) (v := ?_) (a' := ?_) #[true, true, true, true, true, false, true, true, false, false, false, false, false, false, false] rfl rfl (any_of HT_.out (by kernel_rfl)) (fun _ _ _ h => h) (Or.inl ⟨by rfl, ?_⟩) ?_ ?_
                rotate_left
                · intro w'
                  go_simp
                  with_reducible rfl
                rotate_left
                · simp only [Act.put, List.setIfInBounds_toArray, List.set_cons_zero, List.set_cons_succ, i64_w, i32_w]
                  rfl
                refine pure_ (i := 8) (N := some 31) (v := ?_) (a' := ?_) #[true, true, true, true, true, false, true, true, true, false, false, false, false, false, false] rfl rfl (any_of HT_.out (by kernel_rfl)) (fun _ _ _ h => h) (Or.inl ⟨by rfl, ?_⟩) ?_ ?_
                rotate_left
                · intro w'
                  go_simp
                  with_reducible rfl
                rotate_left
                · simp only [Act.put, List.setIfInBounds_toArray, List.set_cons_zero, List.set_cons_succ, i64_w, i32_w]
                  rfl
                refine pure_ (i := 9) (N := some 32) (v := ?_) (a' := ?_) #[true, true, true, true, true, false, true, true, true, true, false, false, false, false, false] rfl rfl (any_of HT_.out (by kernel_rfl)) (fun _ _ _ h => h) (Or.inl ⟨by rfl, ?_⟩) ?_ ?_
                rotate_left
                · intro w'
                  go_simp
                  with_reducible rfl
                rotate_left
                · simp only [Act.put, List.setIfInBounds_toArray, List.set_cons_zero, List.set_cons_succ, i64_w, i32_w]
                  rfl
                refine take_ (i := 5) (N := some 28) (v := ?_) (a' := ?_) #[true, true, true, true, true, true, true, true, true, true, false, false, false, false, false] rfl rfl (take_ofW HT_.out HW_.out (by kernel_rfl)) (fun _ _ _ h => h) (Or.inl ⟨by rfl, ?_⟩) hHeld ?_ ?_
                rotate_left
                · rintro w' ⟨s0, s1, s2, s3, s4, s5⟩
                  go_simp
                  with_reducible rfl
                rotate_left
                · simp only [Act.put, List.setIfInBounds_toArray, List.set_cons_zero, List.set_cons_succ, i64_w, i32_w]
                  rfl
                refine take_ (i := 10) (N := some 33) (v := ?_) (a' := ?_) #[true, true, true, true, true, true, true, true, true, true, true, false, false, false, false] rfl rfl (take_ofW HT_.out HW_.out (by kernel_rfl)) (fun _ _ _ h => h) (Or.inl ⟨by rfl, ?_⟩) hHeld ?_ ?_
                rotate_left
                · rintro w' ⟨s0, s1, s2, s3, s4, s5⟩
                  go_simp
                  with_reducible rfl
                rotate_left
                · simp only [Act.put, List.setIfInBounds_toArray, List.set_cons_zero, List.set_cons_succ, i64_w, i32_w]
                  rfl
                refine pure_ (i := 11) (N := some 34) (v := ?_) (a' := ?_) #[true, true, true, true, true, true, true, true, true, true, true, true, false, false, false] rfl rfl (any_of HT_.out (by kernel_rfl)) (fun _ _ _ h => h) (Or.inl ⟨by rfl, ?_⟩) ?_ ?_
                rotate_left
                · intro w'
                  go_simp
                  with_reducible rfl
                rotate_left
                · simp only [Act.put, List.setIfInBounds_toArray, List.set_cons_zero, List.set_cons_succ, i64_w, i32_w]
                  rfl
                refine one_ (i := 12) (N := some 35) #[true, true, true, true, true, true, true, true, true, true, true, true, true, false, false] rfl rfl (one_of HT_.out (by kernel_rfl)) (by decide) (fun K hK => ?_)
                refine value_ (w1 := ?_) (v := ?_) (by rfl) rfl ?_ ?_
                rotate_left 2
                · go_simp
                  constructor
                  · rfl
                  · rfl
                refine hK.out _ _ ⟨(World.cell?_alloc_lt _ _ _ (World.block_lt_of_cell? _ _ (((HB.out.cell (World.block_lt_of_cell? w _ hw354_0)).trans hw354_0)))).trans (((HB.out.cell (World.block_lt_of_cell? w _ hw354_0)).trans hw354_0)), (World.cell?_alloc_lt _ _ _ (World.block_lt_of_cell? _ _ (((HB.out.cell (World.block_lt_of_cell? w _ hw354_1)).trans hw354_1)))).trans (((HB.out.cell (World.block_lt_of_cell? w _ hw354_1)).trans hw354_1)), (World.cell?_alloc_lt _ _ _ (World.block_lt_of_cell? _ _ (((HB.out.cell (World.block_lt_of_cell? w _ hw355_0)).trans hw355_0)))).trans (((HB.out.cell (World.block_lt_of_cell? w _ hw355_0)).trans hw355_0)), (World.cell?_alloc_lt _ _ _ (World.block_lt_of_cell? _ _ (((HB.out.cell (World.block_lt_of_cell? w _ hw355_1)).trans hw355_1)))).trans (((HB.out.cell (World.block_lt_of_cell? w _ hw355_1)).trans hw355_1)), (World.cell?_alloc_lt _ _ _ (World.block_lt_of_cell? _ _ (((HB.out.cell (World.block_lt_of_cell? w _ hw355_2)).trans hw355_2)))).trans (((HB.out.cell (World.block_lt_of_cell? w _ hw355_2)).trans hw355_2)), (World.cell?_alloc_lt _ _ _ (World.block_lt_of_cell? _ _ (((HB.out.cell (World.block_lt_of_cell? w _ hw355_3)).trans hw355_3)))).trans (((HB.out.cell (World.block_lt_of_cell? w _ hw355_3)).trans hw355_3))⟩ (fun hHeld => ?_)
                clear hK K
                refine norm_ (a' := ?_) ?_ ?_
                rotate_left
                · show Act.put _ (some 35) _ = _
                  simp only [Act.put, List.setIfInBounds_toArray, List.set_cons_zero, List.set_cons_succ, i64_w, i32_w]
                  rfl
                refine one_ (i := 13) (N := some 36) #[true, true, true, true, true, true, true, true, true, true, true, true, true, true, false] rfl rfl (one_of HT_.out (by kernel_rfl)) (by decide) (fun K hK => ?_)
                refine Kd.R_append_step (Kd.int .i64) (w0 := w) w.heap.size (by rfl) (.tmp 23) (.tmp 35) 41 3 (.int .i64 0) 8 rfl Try.underlying41 info3 rfl (by decide) (by omega) u8 x8_1 (wrap64 (((rd_T37 l2 x9_1).f1) - ((rd_T62 l1 x9_1).f1))) [.int .i64 (wrap64 (((rd_T37 l2 x9_1).f1) - ((rd_T62 l1 x9_1).f1)))] (fun _ => True) (fun _ => False) rfl rfl ?aP (fun _ hk => hk.elim) ?aF ?aO ?aB ?aS ?aL ?_
                (case aP => exact rfl)
                (case aB => exact (by repeat (first | (with_reducible first | exact HB.out | apply below_alloc | apply pw_below_drewN | apply below_drew1) | exact HB.out)))
                (case aF => exact (fun _ _ => trivial))
                (case aO => exact (by (with_reducible repeat (first | apply Kd.R_alloc | apply Kd.R_drewN | apply Kd.R_drew)); exact HO_8.out))
                (case aS => exact (below_size (by repeat (first | (with_reducible first | exact HB.out | apply below_alloc | apply pw_below_drewN | apply below_drew1) | exact HB.out))))
                (case aL => have := LMc12.out; omega)
                intro v357 w14 ho hb hg hat
                rw [← Ny356.out] at ho
                have n0_ := Aside0.mk (hb)
                have n1_ := Aside0.mk (ho)
                clear HB
                clear HO_8
                have HB := n0_
                have HO358 := n1_
                clear n0_ n1_
                clear ho hb hg hat
                refine hK.out _ _ ⟨((HB.out.cell (World.block_lt_of_cell? w _ hw354_0)).trans hw354_0), ((HB.out.cell (World.block_lt_of_cell? w _ hw354_1)).trans hw354_1), ((HB.out.cell (World.block_lt_of_cell? w _ hw355_0)).trans hw355_0), ((HB.out.cell (World.block_lt_of_cell? w _ hw355_1)).trans hw355_1), ((HB.out.cell (World.block_lt_of_cell? w _ hw355_2)).trans hw355_2), ((HB.out.cell (World.block_lt_of_cell? w _ hw355_3)).trans hw355_3)⟩ (fun hHeld => ?_)
                clear hK K
                refine norm_ (a' := ?_) ?_ ?_
                rotate_left
                · show Act.put _ (some 36) _ = _
                  simp only [Act.put, List.setIfInBounds_toArray, List.set_cons_zero, List.set_cons_succ, i64_w, i32_w]
                  rfl
                refine pure_ (i := 14) (N := some 8) (v := ?_) (a' := ?_) #[true, true, true, true, true, true, true, true, true, true, true, true, true, true, true] rfl rfl (any_of HT_.out (by kernel_rfl)) (fun _ _ _ h => h) (Or.inl ⟨by rfl, ?_⟩) ?_ ?_
                rotate_left
                · intro w'
                  go_simp
                  with_reducible rfl
                rotate_left
                · simp only [Act.put, List.setIfInBounds_toArray, List.set_cons_zero, List.set_cons_succ, i64_w, i32_w]
                  rfl
                refine done_ (done_of HT_.out (by kernel_rfl)) ?_
                try go_wp2
                go_roundg k1
                case measure => have := HK1.out; omega
                case rel => exact ⟨(y356), (wrap64 (x9_1 + 1)), (by first | rfl | (simp; done) | (simp [*]; done)), H', ⟨by have := HK1.out; omega⟩, ⟨by (with_reducible repeat (first | apply Kd.R_alloc | apply Kd.R_drewN | apply Kd.R_drew)); exact HO358.out⟩, ⟨by repeat (first | (with_reducible first | exact HB.out | apply below_alloc | apply pw_below_drewN | apply below_drew1) | exact HB.out)⟩⟩
              · rw [if_neg c12] at H
                exact absurd H (by simp)
            · rw [if_neg c11] at H
              exact absurd H (by simp)
          · rw [if_neg c10] at H
            exact absurd H (by simp)
        · rw [if_neg c9] at H
          have c9b0 : decide (x9_1 < (l1.length : Int)) = false := decide_eq_false c9
          clear c9
          simp only [Option.some.injEq, Prod.mk.injEq] at H
          obtain ⟨rfl, rfl⟩ := H
          go_wp2
          go_ret2
          exact ⟨_, by first | rfl | (simp [errW_none, errW_some] <;> rfl) | (simp [*, errW_none, errW_some] <;> rfl), by (with_reducible repeat (first | apply Kd.R_alloc | apply Kd.R_drewN | apply Kd.R_drew)); exact HO_8.out, by repeat (first | (with_reducible first | exact HB.out | apply below_alloc | apply pw_below_drewN | apply below_drew1) | exact HB.out)⟩
  · replace c5 := Bool.eq_false_iff.mpr c5
    subst c5
    have H1 : (some (y350, false)) = some (r1, r2) := by rw [if_neg (show ¬ (false = true) by decide)] at H; exact H
    clear H
    have H := H1
    clear H1
    simp only [Option.some.injEq, Prod.mk.injEq] at H
    obtain ⟨rfl, rfl⟩ := H
    go_enter Try.func28, Try.ntmps28
    go_wp2_with (first | ((with_reducible refine gate_dst (N := 10) rfl ?_); refine Kd.R_lit (Kd.int .i64) _ 3 ?hg (N := 10) ?hd (xs := ([] : List Int)) (inner := []) (ok := fun _ => True) (okp := fun _ => True) ?hr ?hp (fun _ hk => hk) trivial (Below.refl _ _) (Nat.le_refl _) (by simp) ?_; (case hd => rfl); (case hg => rfl); (case hr => first | (go_simp; done) | (go_simp; rfl)); (case hp => exact (Reps.none _ _)); intro v351 w15 ho16 hb hg_ hnew_; clear hg_ hnew_; (first | rw [← Ny350.out] at ho16 | (simp only [Int.reduceToNat] at ho16; rw [← Ny350.out] at ho16)); have n0_ := Aside0.mk (Kd.R_lower ho16 (below_size (by repeat (first | (with_reducible first | exact HB.out | apply below_alloc | apply pw_below_drewN | apply below_drew1) | exact HB.out)))); have n1_ := Aside0.mk (below_step (by repeat (first | (with_reducible first | exact HB.out | apply below_alloc | apply pw_below_drewN | apply below_drew1) | exact HB.out)) hb); clear HB; have HO352 := n0_; have HB := n1_; clear n0_ n1_; clear hb ho16) | ((with_reducible refine gate_callee (f := 49) rfl ?_); refine goesL_ (some 14) rfl rfl Try.func49 (by kernel_rfl) rfl #[.int .i64 a0, .slice A1 l1.length c1, .slice A2 l2.length c2] rfl (by (try simp only [List.map_toArray, List.map_cons, List.map_nil]); first | done | rfl | (simp only [List.length_drop, List.length_take]; rfl)) ?_; (with_reducible refine (spec_l14Asked.calls k a0 _ _ l1 _ _ l2 false _ ?side1 ?side2 ?side3 ?side4 A4.out).mono ?_); (case side1 => repeat (first | exact (Kd.C_below HR1.out HB.out) | (with_reducible refine Kd.C_alloc ?_ _) | (with_reducible refine Kd.C_drewN ?_ _) | (with_reducible refine Kd.C_drew ?_))); (case side2 => exact HC1.out); (case side3 => repeat (first | exact (Kd.C_below HR2.out HB.out) | (with_reducible refine Kd.C_alloc ?_ _) | (with_reducible refine Kd.C_drewN ?_ _) | (with_reducible refine Kd.C_drew ?_))); (case side4 => exact HC2.out); rintro e w17 ⟨rfl, hb⟩; refine ⟨_, rfl, ?_⟩; have n0_ := Aside0.mk (Kd.R_below (by (with_reducible repeat (first | apply Kd.R_alloc | apply Kd.R_drewN | apply Kd.R_drew)); exact HO352.out) hb); have n1_ := Aside0.mk (below_step (by repeat (first | (with_reducible first | exact HB.out | apply below_alloc | apply pw_below_drewN | apply below_drew1) | exact HB.out)) hb); clear HO352; clear HB; have HO352 := n0_; have HB := n1_; clear n0_ n1_; (try clear hb); (try clear hb2); (try clear hk); (try clear hi)))
    go_ret2
    exact ⟨_, by first | rfl | (simp [errW_none, errW_some] <;> rfl) | (simp [*, errW_none, errW_some] <;> rfl), by (with_reducible repeat (first | apply Kd.R_alloc | apply Kd.R_drewN | apply Kd.R_drew)); exact HO352.out, by repeat (first | (with_reducible first | exact HB.out | apply below_alloc | apply pw_below_drewN | apply below_drew1) | exact HB.out)⟩

end Go.Proofs.Ytcciljjnpfgaeaa.G

-- Written by wip/tools/gen.py out of the translation (the kit's printer, one namespace a seat). Lean checks it.
namespace Go.Proofs.Ytcciljjnpfgaeaa.G
open Go.RowKit Go.Proofs.YtcciljjnpfgaeaaW.PrintWords Go.Proofs.YtcciljjnpfgaeaaW.PrintLast Go.Proofs.YtcciljjnpfgaeaaW.PrintMore
attribute [local go_sem] max2_int min2_int max_two min_two max_three min_three max_four min_four   -- for this text's walks alone
set_option linter.unusedVariables false
set_option linter.unusedSimpArgs false

/-! ### spec_IsPossiblePlan: function 15 -/
def spec_IsPossiblePlan.f (k : Nat) (a0 : Int) (l1 : List (S62)) (l2 : List (S37)) : Option (Bool) := (spec_l14Asked.f k a0 l1 l2).bind fun t131 => (some t131)
theorem spec_IsPossiblePlan.mono : ∀ a0 a1 a2 k, LeO (spec_IsPossiblePlan.f k a0 a1 a2) (spec_IsPossiblePlan.f (k + 1) a0 a1 a2) := by
  intro a0 a1 a2 k
  unfold spec_IsPossiblePlan.f
  repeat' first
      | (with_reducible exact spec_l14Asked.mono _ _ _ _)
      | (with_reducible exact LeO.refl _)
      | (with_reducible exact LeO.none _)
      | (with_reducible refine LeO.ite ?_ ?_)
      | (with_reducible refine LeO.bind ?_ (fun _ => ?_))
      | exact spec_l14Asked.mono _ _ _ _
      | exact LeO.none _
      | refine LeO.ite ?_ ?_
      | refine LeO.bind ?_ (fun _ => ?_)
set_option maxHeartbeats 8000000 in
set_option maxRecDepth 100000 in
theorem spec_IsPossiblePlan.calls (k : Nat) (a0 : Int) (A1 : Option Addr) (c1 : Nat) (l1 : List (S62)) (A2 : Option Addr) (c2 : Nat) (l2 : List (S37)) (r : Bool) (w : World) (hr1 : Kd.C k62 w A1 l1.length l1) (hc1 : l1.length ≤ c1) (hr2 : Kd.C k37 w A2 l2.length l2) (hc2 : l2.length ≤ c2) (h : spec_IsPossiblePlan.f k a0 l1 l2 = some r) :
    Calls Try.prog 15 #[.int .i64 a0, .slice A1 l1.length c1, .slice A2 l2.length c2] w fun e w' => e = .returned (.bool r) ∧ Below w.heap.size w w' := by
  have HR1 := Aside0.mk hr1
  have HC1 := Aside0.mk hc1
  clear hr1 hc1
  have HR2 := Aside0.mk hr2
  have HC2 := Aside0.mk hc2
  clear hr2 hc2
  have HB := Aside0.mk (Below.refl w.heap.size w)
  have H : ((spec_l14Asked.f k a0 l1 l2).bind fun t131 => (some t131)) = some r := h
  clear h
  replace H := Option.bind_eq_some_iff.mp H
  obtain ⟨t131, A40, H⟩ := H
  replace H : (some t131) = some r := H
  have A4 := Aside0.mk A40
  clear A40
  obtain rfl := Option.some.inj H
  go_enter Try.func15, Try.ntmps15
  go_wp2_with (first | ((with_reducible refine gate_callee (f := 49) rfl ?_); refine goesL_ (some 10) rfl rfl Try.func49 (by kernel_rfl) rfl #[.int .i64 a0, .slice A1 l1.length c1, .slice A2 l2.length c2] rfl (by (try simp only [List.map_toArray, List.map_cons, List.map_nil]); first | done | rfl | (simp only [List.length_drop, List.length_take]; rfl)) ?_; (with_reducible refine (spec_l14Asked.calls k a0 _ _ l1 _ _ l2 t131 _ ?side1 ?side2 ?side3 ?side4 A4.out).mono ?_); (case side1 => repeat (first | exact HR1.out | (with_reducible refine Kd.C_alloc ?_ _) | (with_reducible refine Kd.C_drewN ?_ _) | (with_reducible refine Kd.C_drew ?_))); (case side2 => exact HC1.out); (case side3 => repeat (first | exact HR2.out | (with_reducible refine Kd.C_alloc ?_ _) | (with_reducible refine Kd.C_drewN ?_ _) | (with_reducible refine Kd.C_drew ?_))); (case side4 => exact HC2.out); rintro e w5 ⟨rfl, hb⟩; refine ⟨_, rfl, ?_⟩; have n0_ := Aside0.mk (below_step (by repeat (first | (with_reducible first | exact HB.out | apply below_alloc | apply pw_below_drewN | apply below_drew1) | exact HB.out)) hb); clear HB; have HB := n0_; clear n0_; (try clear hb); (try clear hb2); (try clear hk); (try clear hi)))
  go_ret
  exact ⟨by first | rfl | (simp [errW_none, errW_some] <;> rfl) | (simp [*, errW_none, errW_some] <;> rfl), by repeat (first | (with_reducible first | exact HB.out | apply below_alloc | apply pw_below_drewN | apply below_drew1) | exact HB.out)⟩

end Go.Proofs.Ytcciljjnpfgaeaa.G

namespace Go.Proofs.Ytcciljjnpfgaeaa.G
open Go.RowKit Go.Proofs.YtcciljjnpfgaeaaW.PrintWords Go.Proofs.YtcciljjnpfgaeaaW.PrintLast
set_option linter.unusedVariables false
set_option linter.unusedSimpArgs false
theorem mx_bd (a b : Int) : (mx a b = a ∨ mx a b = b) ∧ a ≤ mx a b ∧ b ≤ mx a b := by unfold mx; split <;> omega
theorem poss_at {q : Int} {l : List S62} {p : List S37} (h : Poss q l p) (i : Int) (h0 : 0 ≤ i) (h1 : i < (l.length : Int)) : shipOk (rd_T62 l i) ∧ Fit q (rd_T62 l i) (rd_T37 p i) := ⟨h.1.2.2 i h0 h1, (h.2.2 i h0 (by have := h.2.1; omega)).1⟩
theorem spec_poss (q : Int) (l : List S62) (p : List S37) (hpl : (p.length : Int) ≤ 1099511627776) : Ev (fun k => spec_IsPossiblePlan.f k q l p) (chk (Poss q l p) true false) := by
  unfold spec_IsPossiblePlan.f
  exact Ev.bind (spec_asked q l p hpl) (Ev.now _)
def lastTo (l : List S62) (p : List S37) : Nat → Int
  | 0 => 0
  | d + 1 => mx (lastTo l p d) ((rd_T37 p d).f1 + (rd_T62 l d).f2)
theorem lastTo_succ (l : List S62) (p : List S37) (d : Nat) : lastTo l p (d + 1) = mx (lastTo l p d) ((rd_T37 p d).f1 + (rd_T62 l d).f2) := rfl
noncomputable def lastR (q : Int) (l : List S62) (p : List S37) : Int × Bool := chk (Poss q l p) (lastTo l p l.length, true) (0, false)
theorem impl_last (q : Int) (l : List S62) (p : List S37) : Ev (fun k => impl_LastHour.f k q l p) (lastR q l p) := by
  unfold impl_LastHour.f lastR
  refine Ev.bind (impl_poss q l p) ?_
  refine Ev.ite (fun h => ?_) (fun h => ?_)
  · have h := chk_true.1 h
    rw [chk_pos h]
    have hn := h.2.1
    have h5 := h.1.2.1
    rw [hn]
    refine Ev.up (fun k (s : Int) i => impl_LastHour.l0 k l s p (l.length : Int) i) (fun _ _ => (lastTo l p l.length, true)) (fun s i => 0 ≤ i ∧ s = lastTo l p i.toNat) (l.length : Int) ?_ ?_ 0 0 ⟨by omega, rfl⟩ (by omega)
    · rintro s ⟨_, rfl⟩
      refine Ev.step (fun k => by rw [impl_LastHour.l0]) ?_
      simp only [Int.lt_irrefl, if_false, Int.toNat_natCast]
      exact Ev.now _
    · rintro s i ⟨i0, rfl⟩ hlt ih
      have o := poss_at h i i0 hlt
      unfold shipOk Fit at o
      refine Ev.step (fun k => by rw [impl_LastHour.l0]) ?_
      simp (disch := omega) only [if_pos, wrap64_id]
      refine ih _ ⟨by omega, ?_⟩
      rw [show (i + 1).toNat = i.toNat + 1 from by omega, lastTo_succ, show ((i.toNat : Nat) : Int) = i from by omega]
  · rw [chk_neg (fun m => h (chk_true.2 m))]; exact Ev.now _
theorem spec_last (q : Int) (l : List S62) (p : List S37) (hpl : (p.length : Int) ≤ 1099511627776) : Ev (fun k => spec_LastHour.f k q l p) (lastR q l p) := by
  unfold spec_LastHour.f lastR
  refine Ev.bind (spec_asked q l p hpl) ?_
  refine Ev.ite (fun h => ?_) (fun h => ?_)
  · have h := chk_true.1 h
    rw [chk_pos h]
    have hn := h.2.1
    have h5 := h.1.2.1
    refine Ev.up (fun k (s : Int) i => spec_LastHour.l0 k l p s i) (fun _ _ => (lastTo l p l.length, true)) (fun s i => 0 ≤ i ∧ s = lastTo l p i.toNat) (l.length : Int) ?_ ?_ 0 0 ⟨by omega, rfl⟩ (by omega)
    · rintro s ⟨_, rfl⟩
      refine Ev.step (fun k => by rw [spec_LastHour.l0]) ?_
      simp only [Int.lt_irrefl, if_false, Int.toNat_natCast]
      exact Ev.now _
    · rintro s i ⟨i0, rfl⟩ hlt ih
      have o := poss_at h i i0 hlt
      unfold shipOk Fit at o
      refine Ev.step (fun k => by rw [spec_LastHour.l0]) ?_
      simp (disch := omega) only [if_pos, wrap64_id, spec_most_eq, Option.bind_some]
      refine ih _ ⟨by omega, ?_⟩
      rw [show (i + 1).toNat = i.toNat + 1 from by omega, lastTo_succ, show ((i.toNat : Nat) : Int) = i from by omega]
  · rw [chk_neg (fun m => h (chk_true.2 m))]; exact Ev.now _
def costTo (l : List S62) (p : List S37) : Nat → Int
  | 0 => 0
  | d + 1 => costTo l p d + (rd_T62 l d).f3 * ((rd_T37 p d).f1 - (rd_T62 l d).f1)
theorem costTo_succ (l : List S62) (p : List S37) (d : Nat) : costTo l p (d + 1) = costTo l p d + (rd_T62 l d).f3 * ((rd_T37 p d).f1 - (rd_T62 l d).f1) := rfl
/-- What a plan's costs need: the ships are valid, the starts are in their bounds. -/
def Timed (l : List S62) (p : List S37) : Prop := (p.length : Int) = (l.length : Int) ∧ (l.length : Int) ≤ 5 ∧ All (fun i => shipOk (rd_T62 l i) ∧ (rd_T62 l i).f1 ≤ (rd_T37 p i).f1 ∧ (rd_T37 p i).f1 ≤ 1000) 0 (l.length : Int)
theorem poss_timed {q : Int} {l : List S62} {p : List S37} (h : Poss q l p) : Timed l p := ⟨h.2.1, h.1.2.1, fun i a b => by
  have o := poss_at h i a b
  refine ⟨o.1, ?_⟩
  have := o.2
  unfold Fit at this
  omega⟩
theorem timed_at {l : List S62} {p : List S37} (h : Timed l p) (i : Int) (h0 : 0 ≤ i) (h1 : i < (l.length : Int)) : (0 ≤ (rd_T62 l i).f3 * ((rd_T37 p i).f1 - (rd_T62 l i).f1) ∧ (rd_T62 l i).f3 * ((rd_T37 p i).f1 - (rd_T62 l i).f1) ≤ 9000) ∧ 0 ≤ (rd_T37 p i).f1 - (rd_T62 l i).f1 ∧ (rd_T37 p i).f1 - (rd_T62 l i).f1 ≤ 1000 := by
  have o := h.2.2 i h0 h1
  have o1 : shipOk (rd_T62 l i) := o.1
  have o2 : (rd_T62 l i).f1 ≤ (rd_T37 p i).f1 ∧ (rd_T37 p i).f1 ≤ 1000 := o.2
  unfold shipOk at o1
  have m := mul_bd (x := (rd_T62 l i).f3) (y := (rd_T37 p i).f1 - (rd_T62 l i).f1) (A := 9) (B := 1000) (by omega) (by omega) (by omega) (by omega) (by omega) (by omega)
  exact ⟨⟨Int.mul_nonneg (by omega) (by omega), by omega⟩, by omega, by omega⟩
theorem cost_bd {l : List S62} {p : List S37} (h : Timed l p) : ∀ d : Nat, (d : Int) ≤ (l.length : Int) → 0 ≤ costTo l p d ∧ costTo l p d ≤ 9000 * d := by
  intro d
  induction d with
  | zero => intro _; simp [costTo]
  | succ d ih =>
    intro hd
    have := ih (by omega)
    have t := timed_at h (d : Int) (by omega) (by omega)
    rw [costTo_succ]
    omega
theorem impl_cost {l : List S62} {p : List S37} (h : Timed l p) : Ev (fun k => impl_planCost.f k l p) (costTo l p l.length) := by
  have hn := h.1
  have h5 := h.2.1
  unfold impl_planCost.f
  refine Ev.up (fun k (s : Int) i => impl_planCost.l0 k p s l (l.length : Int) i) (fun _ _ => costTo l p l.length) (fun s i => 0 ≤ i ∧ s = costTo l p i.toNat) (l.length : Int) ?_ ?_ 0 0 ⟨by omega, rfl⟩ (by omega)
  · rintro s ⟨_, rfl⟩
    refine Ev.step (fun k => by rw [impl_planCost.l0]) ?_
    simp only [Int.lt_irrefl, if_false, Int.toNat_natCast]
    exact Ev.now _
  · rintro s i ⟨i0, rfl⟩ hlt ih
    have t := timed_at h i i0 hlt
    have b := cost_bd h i.toNat (by omega)
    refine Ev.step (fun k => by rw [impl_planCost.l0]) ?_
    simp (disch := omega) only [if_pos, wrap64_id]
    refine ih _ ⟨by omega, ?_⟩
    rw [show (i + 1).toNat = i.toNat + 1 from by omega, costTo_succ, show ((i.toNat : Nat) : Int) = i from by omega]
theorem spec_cost {l : List S62} {p : List S37} (h : Timed l p) : Ev (fun k => spec_l14Cost.f k l p) (costTo l p l.length) := by
  have hn := h.1
  have h5 := h.2.1
  unfold spec_l14Cost.f
  refine Ev.up (fun k (s : Int) i => spec_l14Cost.l0 k l p s i) (fun _ _ => costTo l p l.length) (fun s i => 0 ≤ i ∧ s = costTo l p i.toNat) (l.length : Int) ?_ ?_ 0 0 ⟨by omega, rfl⟩ (by omega)
  · rintro s ⟨_, rfl⟩
    refine Ev.step (fun k => by rw [spec_l14Cost.l0]) ?_
    simp only [hn, Int.lt_irrefl, if_false, Int.toNat_natCast]
    exact Ev.now _
  · rintro s i ⟨i0, rfl⟩ hlt ih
    have t := timed_at h i i0 hlt
    have b := cost_bd h i.toNat (by omega)
    refine Ev.step (fun k => by rw [spec_l14Cost.l0]) ?_
    simp (disch := omega) only [if_pos, wrap64_id]
    refine ih _ ⟨by omega, ?_⟩
    rw [show (i + 1).toNat = i.toNat + 1 from by omega, costTo_succ, show ((i.toNat : Nat) : Int) = i from by omega]
noncomputable def costR (q : Int) (l : List S62) (p : List S37) : Int × Bool := chk (Poss q l p) (costTo l p l.length, true) (0, false)
theorem impl_planC (q : Int) (l : List S62) (p : List S37) : Ev (fun k => impl_PlanCost.f k q l p) (costR q l p) := by
  unfold impl_PlanCost.f costR
  refine Ev.bind (impl_poss q l p) ?_
  refine Ev.ite (fun h => ?_) (fun h => ?_)
  · have h := chk_true.1 h
    rw [chk_pos h]
    exact Ev.bind (impl_cost (poss_timed h)) (Ev.now _)
  · rw [chk_neg (fun m => h (chk_true.2 m))]; exact Ev.now _
theorem spec_planC (q : Int) (l : List S62) (p : List S37) (hpl : (p.length : Int) ≤ 1099511627776) : Ev (fun k => spec_PlanCost.f k q l p) (costR q l p) := by
  unfold spec_PlanCost.f costR
  refine Ev.bind (spec_asked q l p hpl) ?_
  refine Ev.ite (fun h => ?_) (fun h => ?_)
  · have h := chk_true.1 h
    rw [chk_pos h]
    exact Ev.bind (spec_cost (poss_timed h)) (Ev.now _)
  · rw [chk_neg (fun m => h (chk_true.2 m))]; exact Ev.now _
def waitTo (l : List S62) (p : List S37) : Nat → List Int
  | 0 => []
  | d + 1 => waitTo l p d ++ [(rd_T37 p d).f1 - (rd_T62 l d).f1]
theorem waitTo_succ (l : List S62) (p : List S37) (d : Nat) : waitTo l p (d + 1) = waitTo l p d ++ [(rd_T37 p d).f1 - (rd_T62 l d).f1] := rfl
theorem wait_len (l : List S62) (p : List S37) : ∀ d : Nat, (waitTo l p d).length = d := by
  intro d
  induction d with
  | zero => rfl
  | succ d ih => rw [waitTo_succ, List.length_append, ih]; rfl
noncomputable def waitR (q : Int) (l : List S62) (p : List S37) : List Int × Bool := chk (Poss q l p) (waitTo l p l.length, true) ([], false)
theorem waitR_len (q : Int) (l : List S62) (p : List S37) : ((waitR q l p).1.length : Int) ≤ 5 := by
  unfold waitR
  by_cases h : Poss q l p
  · rw [chk_pos h]
    have := h.1.2.1
    show ((waitTo l p l.length).length : Int) ≤ 5
    rw [wait_len]; exact this
  · rw [chk_neg h]; decide
theorem impl_wait (q : Int) (l : List S62) (p : List S37) : Ev (fun k => impl_WaitOf.f k q l p) (waitR q l p) := by
  unfold impl_WaitOf.f waitR
  refine Ev.bind (impl_poss q l p) ?_
  refine Ev.ite (fun h => ?_) (fun h => ?_)
  · have h := chk_true.1 h
    rw [chk_pos h]
    have hn := h.2.1
    have h5 := h.1.2.1
    rw [hn]
    refine Ev.up (fun k (s : List Int) i => impl_WaitOf.l0 k l s p (l.length : Int) i) (fun _ _ => (waitTo l p l.length, true)) (fun s i => 0 ≤ i ∧ s = waitTo l p i.toNat) (l.length : Int) ?_ ?_ [] 0 ⟨by omega, rfl⟩ (by omega)
    · rintro s ⟨_, rfl⟩
      refine Ev.step (fun k => by rw [impl_WaitOf.l0]) ?_
      simp only [Int.lt_irrefl, if_false, Int.toNat_natCast]
      exact Ev.now _
    · rintro s i ⟨i0, rfl⟩ hlt ih
      have o := poss_at h i i0 hlt
      unfold shipOk Fit at o
      have wl := wait_len l p i.toNat
      refine Ev.step (fun k => by rw [impl_WaitOf.l0]) ?_
      simp (disch := omega) only [if_pos, wrap64_id]
      refine ih _ ⟨by omega, ?_⟩
      rw [show (i + 1).toNat = i.toNat + 1 from by omega, waitTo_succ, show ((i.toNat : Nat) : Int) = i from by omega]
  · rw [chk_neg (fun m => h (chk_true.2 m))]; exact Ev.now _
theorem spec_wait (q : Int) (l : List S62) (p : List S37) (hpl : (p.length : Int) ≤ 1099511627776) : Ev (fun k => spec_WaitOf.f k q l p) (waitR q l p) := by
  unfold spec_WaitOf.f waitR
  simp only [Option.bind_some]
  refine Ev.bind (spec_asked q l p hpl) ?_
  refine Ev.ite (fun h => ?_) (fun h => ?_)
  · have h := chk_true.1 h
    rw [chk_pos h]
    have hn := h.2.1
    have h5 := h.1.2.1
    refine Ev.up (fun k (s : List Int) i => spec_WaitOf.l0 k l p s i) (fun _ _ => (waitTo l p l.length, true)) (fun s i => 0 ≤ i ∧ s = waitTo l p i.toNat) (l.length : Int) ?_ ?_ [] 0 ⟨by omega, rfl⟩ (by omega)
    · rintro s ⟨_, rfl⟩
      refine Ev.step (fun k => by rw [spec_WaitOf.l0]) ?_
      simp only [Int.lt_irrefl, if_false, Int.toNat_natCast]
      exact Ev.now _
    · rintro s i ⟨i0, rfl⟩ hlt ih
      have o := poss_at h i i0 hlt
      unfold shipOk Fit at o
      have wl := wait_len l p i.toNat
      refine Ev.step (fun k => by rw [spec_WaitOf.l0]) ?_
      simp (disch := omega) only [if_pos, wrap64_id]
      refine ih _ ⟨by omega, ?_⟩
      rw [show (i + 1).toNat = i.toNat + 1 from by omega, waitTo_succ, show ((i.toNat : Nat) : Int) = i from by omega]
  · rw [chk_neg (fun m => h (chk_true.2 m))]; exact Ev.now _
end Go.Proofs.Ytcciljjnpfgaeaa.G

/- FnExactPlanCost: the program's PlanCost returns what the reference's returns, for all arguments whose lists have at most 2^20 elements together (else the statement is true at once). -/
namespace Go.Proofs.Ytcciljjnpfgaeaa.Pure
open Go.RowKit Go.Proofs.Ytcciljjnpfgaeaa.G Go.Proofs.YtcciljjnpfgaeaaW.PrintWords Go.Proofs.YtcciljjnpfgaeaaW.PrintLast
set_option linter.unusedVariables false
set_option linter.unusedSimpArgs false
theorem FnExactPlanCost : laws_FnExactPlanCost.Pure := by
  intro a0 l1 l2 w0 h1 h2
  refine Ev.rounds (g := fun k => laws_FnExactPlanCost.f k a0 l1 l2) (r := true) ?_
  unfold laws_FnExactPlanCost.f
  rw [sz_Sh l1 1048576 h1.1 (by omega) (by omega)]
  simp only [Option.bind_some]
  refine Ev.ite (fun _ => Ev.now _) (fun g1 => ?_)
  have n1 : (l1.length : Int) ≤ 1048576 := by split at g1 <;> omega
  rw [if_neg (show ¬ (1048576 - (l1.length : Int) < 0) by omega)]
  rw [sz_B l2 _ h2.1 (show 0 ≤ 1048576 - (l1.length : Int) by omega) (by omega)]
  simp only [Option.bind_some]
  refine Ev.ite (fun _ => Ev.now _) (fun g2 => ?_)
  have n2 : (l2.length : Int) ≤ 1048576 := by split at g2 <;> omega
  have m1 : ((l1.map cv_Sh).length : Int) ≤ 1048576 := by simpa using n1
  have m2 : ((l2.map cv_B).length : Int) ≤ 1048576 := by simpa using n2
  repeat' (first
    | with_reducible exact Ev.now _
    | (with_reducible refine Ev.bind (to_Sh l1 n1) ?_)
    | (with_reducible refine Ev.bind (to_B l2 n2) ?_)
    | (with_reducible refine Ev.bind (eq_Sh (l1.map cv_Sh) m1) ?_)
    | (with_reducible refine Ev.bind (eq_B (l2.map cv_B) m2) ?_)
    | (with_reducible refine Ev.bind (spec_planC a0 (l1.map cv_Sh) (l2.map cv_B) (by omega)) ?_)
    | (with_reducible refine Ev.bind (impl_planC a0 (l1.map cv_Sh) (l2.map cv_B)) ?_)
    | simp only [if_true, bne_self_eq_false, Bool.false_eq_true, if_false, Option.bind_some]
    | (simp (disch := omega) only [if_neg])
    | refine Ev.step (fun k => by rw [laws_FnExactPlanCost.j0]) ?_
    | refine Ev.step (fun k => by rw [laws_FnExactPlanCost.j1]) ?_
    | refine Ev.step (fun k => by rw [laws_FnExactPlanCost.j2]) ?_)
end Go.Proofs.Ytcciljjnpfgaeaa.Pure
