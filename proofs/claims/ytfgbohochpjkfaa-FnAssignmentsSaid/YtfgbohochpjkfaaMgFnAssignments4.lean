/- Texts of the proof of FnAssignments, joined in build order. -/
import Derived.Test.YtfgbohochpjkfaaMgFnAssignments3
import Derived.Test.YtfgbohochpjkfaaMgFnAssignments1
import Derived.Test.YtfgbohochpjkfaaMgFnAssignments2
import Derived.Deep.Slices
import Derived.ChangeArms
import Derived.WideShapes
import Derived.ChangeShapes
/- WithoutVehicle: the reference and the program answer alike, with at most 6 rows of at most 6. -/
namespace Go.Proofs.Ytfgbohochpjkfaa.G
open Go.RowKit Go.Proofs.YtfgbohochpjkfaaW.PrintWords Go.Proofs.YtfgbohochpjkfaaW.PrintLast
set_option linter.unusedVariables false
set_option linter.unusedSimpArgs false
noncomputable def without (t : List (List Int)) (v : Int) : List (List Int) × Bool := chk (Costs t ∧ 0 ≤ v ∧ v ≤ ((rd_L1 t 0).length : Int) - 1 ∧ Costs (cutAll t v)) (cutAll t v, true) ([], false)
theorem cutAll_rd (t : List (List Int)) (v : Int) (i : Int) (h0 : 0 ≤ i) (h1 : i < (t.length : Int)) : rd_L1 (cutAll t v) i = cutRow v.toNat (rd_L1 t i) := by
  unfold rd_L1 cutAll
  rw [List.getD_eq_getElem?_getD, List.getElem?_map, List.getD_eq_getElem?_getD, List.getElem?_eq_getElem (by omega)]
  rfl
theorem cutAll_len (t : List (List Int)) (v : Int) : (cutAll t v).length = t.length := List.length_map _
theorem cutRow_len (v : Nat) (r : List Int) (h : v < r.length) : (cutRow v r).length = r.length - 1 := by
  unfold cutRow
  simp
  omega
theorem impl_without (t : List (List Int)) (v : Int) : Ev (fun k => impl_WithoutVehicle.f k t v) (without t v) := by
  unfold impl_WithoutVehicle.f without
  refine Ev.bind (impl_costs0 t) ?_
  by_cases hc : Costs t
  · rw [chk_pos hc]
    simp only [if_true]
    refine Ev.ite (fun hv => ?_) (fun hv => ?_)
    · refine Ev.bind (impl_costs0 (cutAll t v)) ?_
      by_cases hd : Costs (cutAll t v)
      · rw [chk_pos hd, chk_pos ⟨hc, hv.1, hv.2, hd⟩]
        simp only [if_true]
        exact Ev.now _
      · rw [chk_neg hd, chk_neg (fun m => hd m.2.2.2)]
        simp only [Bool.false_eq_true, if_false]
        exact Ev.now _
    · rw [chk_neg (fun m => hv ⟨m.2.1, m.2.2.1⟩)]
      exact Ev.now _
  · rw [chk_neg hc, chk_neg (fun m => hc m.1)]
    simp only [Bool.false_eq_true, if_false]
    exact Ev.now _
theorem spec_without (t : List (List Int)) (v : Int) (hl : ∀ i, 0 ≤ i → i < (t.length : Int) → ((rd_L1 t i).length : Int) ≤ 1099511627776) : Ev (fun k => spec_WithoutVehicle.f k t v) (without t v) := by
  unfold spec_WithoutVehicle.f without
  refine Ev.bind (spec_costs t hl) ?_
  by_cases hc : Costs t
  · rw [chk_pos hc]
    obtain ⟨⟨n1, n2⟩, ⟨m1, m2⟩, hall⟩ := hc
    have hc : Costs t := ⟨⟨n1, n2⟩, ⟨m1, m2⟩, hall⟩
    have e1 : wrap64 (((rd_L1 t 0).length : Int) - 1) = ((rd_L1 t 0).length : Int) - 1 := wrap64_id (by omega) (by omega)
    simp only [if_true, if_pos (show 0 < (t.length : Int) by omega), spec_l1In_eq, Option.bind_some, e1]
    by_cases hv : 0 ≤ v ∧ v ≤ ((rd_L1 t 0).length : Int) - 1
    · rw [decide_eq_true hv]
      refine Ev.step (fun k => by rw [spec_WithoutVehicle.j0]) ?_
      simp only [Bool.not_true, Bool.false_eq_true, if_false]
      refine Ev.build (fun k out i => spec_WithoutVehicle.l0 k t v out i) t (cutRow v.toNat) [] _ ?_ ?_
      · refine Ev.step (fun k => by rw [spec_WithoutVehicle.l0]) ?_
        simp only [Int.lt_irrefl, if_false]
        have hlen2 : ∀ i, 0 ≤ i → i < ((cutAll t v).length : Int) → ((rd_L1 (cutAll t v) i).length : Int) ≤ 1099511627776 := fun i i0 i1 => by
          rw [cutAll_len] at i1
          have hr := (hall i i0 i1).1
          rw [cutAll_rd t v i i0 i1, cutRow_len _ _ (by omega)]
          omega
        refine Ev.bind (spec_costs (cutAll t v) hlen2) ?_
        by_cases hd : Costs (cutAll t v)
        · rw [chk_pos hd, chk_pos ⟨hc, hv.1, hv.2, hd⟩]
          simp only [if_true]
          exact Ev.now _
        · rw [chk_neg hd, chk_neg (fun m => hd m.2.2.2)]
          simp only [Bool.false_eq_true, if_false]
          exact Ev.now _
      · intro out i i0 i1 ho r hr
        refine Ev.step (fun k => by rw [spec_WithoutVehicle.l0]) ?_
        have hrow := (hall i i0 i1).1
        have e2 : wrap64 (v + 1) = v + 1 := wrap64_id (by omega) (by omega)
        have e3 : wrap64 (i + 1) = i + 1 := wrap64_id (by omega) (by omega)
        have e4 : (v + 1).toNat = v.toNat + 1 := by omega
        simp only [if_pos i1, Option.bind_some, if_pos i0, if_pos hv.1, if_pos (show v ≤ ((rd_L1 t i).length : Int) by omega), e2, e3, e4, if_pos (show 0 ≤ v + 1 by omega), if_pos (show v + 1 ≤ ((rd_L1 t i).length : Int) by omega), List.nil_append, List.length_nil]
        rw [show (fun k => if 0 + ((rd_L1 t i).take v.toNat).length < 17592186044416 then (if ((rd_L1 t i).take v.toNat).length + ((rd_L1 t i).drop (v.toNat + 1)).length < 17592186044416 then (if out.length < 5864062014805 then spec_WithoutVehicle.l0 k t v (out ++ [(rd_L1 t i).take v.toNat ++ (rd_L1 t i).drop (v.toNat + 1)]) (i + 1) else none) else none) else none) = fun k => spec_WithoutVehicle.l0 k t v (out ++ [cutRow v.toNat (rd_L1 t i)]) (i + 1) from by
          funext k
          rw [if_pos (by rw [List.length_take]; omega), if_pos (by rw [List.length_take, List.length_drop]; omega), if_pos (by omega)]
          rfl]
        exact hr
    · rw [decide_eq_false hv, chk_neg (fun m => hv ⟨m.2.1, m.2.2.1⟩)]
      refine Ev.step (fun k => by rw [spec_WithoutVehicle.j0]) ?_
      simp only [Bool.not_false, if_true]
      exact Ev.now _
  · rw [chk_neg hc, chk_neg (fun m => hc m.1)]
    simp only [Bool.false_eq_true, if_false]
    refine Ev.step (fun k => by rw [spec_WithoutVehicle.j0]) ?_
    simp only [if_true]
    exact Ev.now _
/-- The answer is small. -/
theorem without_small (t : List (List Int)) (v : Int) : ((without t v).1.length ≤ 6) ∧ ∀ i : Nat, i < (without t v).1.length → (rd_L1 (without t v).1 (i : Int)).length ≤ 6 := by
  unfold without
  by_cases h : Costs t ∧ 0 ≤ v ∧ v ≤ ((rd_L1 t 0).length : Int) - 1 ∧ Costs (cutAll t v)
  · rw [chk_pos h]
    obtain ⟨⟨n1, n2⟩, ⟨m1, m2⟩, hall⟩ := h.2.2.2
    exact ⟨by show (cutAll t v).length ≤ 6; omega, fun i hi => by
      have := (hall (i : Int) (by omega) (by show (i : Int) < ((cutAll t v).length : Int); have : i < (cutAll t v).length := hi; omega)).1
      show (rd_L1 (cutAll t v) (i : Int)).length ≤ 6
      omega⟩
  · rw [chk_neg h]
    exact ⟨by simp, fun i hi => absurd hi (by simp)⟩
end Go.Proofs.Ytfgbohochpjkfaa.G

-- Written by wip/tools/gen.py out of the translation (the kit's printer, one namespace a seat). Lean checks it.
namespace Go.Proofs.Ytfgbohochpjkfaa.G
open Go.RowKit Go.Proofs.YtfgbohochpjkfaaW.PrintWords Go.Proofs.YtfgbohochpjkfaaW.PrintLast Go.Proofs.YtfgbohochpjkfaaW.PrintMore
attribute [local go_sem] max2_int min2_int max_two min_two max_three min_three max_four min_four   -- for this text's walks alone
set_option linter.unusedVariables false
set_option linter.unusedSimpArgs false

/-! ### impl_ProvenLower_1: function 56 -/
def impl_ProvenLower_1.f (a0 : Int) : Option (Bool) := (impl_within.f a0 0 9999).bind fun t102 => (some (!t102))
set_option maxHeartbeats 8000000 in
set_option maxRecDepth 100000 in
theorem impl_ProvenLower_1.calls (a0 : Int) (r : Bool) (w : World) (h : impl_ProvenLower_1.f a0 = some r) :
  Calls Try.prog 56 #[.int .i64 a0] w fun e w' => e = .returned (.bool r) ∧ Drawn0 w w' := by
 have H : ((impl_within.f a0 0 9999).bind fun t102 => (some (!t102))) = some r := h
 clear h
 replace H := Option.bind_eq_some_iff.mp H
 obtain ⟨t102, A20, H⟩ := H
 replace H : (some (!t102)) = some r := H
 have A2 := Aside0.mk A20
 clear A20
 obtain rfl := Option.some.inj H
 go_enter Try.func56, Try.ntmps56
 go_wp2_with (first | ((with_reducible refine gate_callee (f := 50) rfl ?_); refine goesL_ (some 4) rfl rfl Try.func50 (by kernel_rfl) rfl #[.int .i64 a0, .int .i64 0, .int .i64 9999] rfl (by (try simp only [List.map_toArray, List.map_cons, List.map_nil]); first | done | rfl | (simp only [List.length_drop, List.length_take]; rfl)) ?_; (with_reducible refine (impl_within.calls a0 0 9999 t102 _ A2.out).mono ?_); rintro e w' ⟨rfl, ⟨nd, rfl⟩⟩; refine ⟨_, rfl, ?_⟩))
 go_ret
 exact ⟨by first | rfl | (simp; done) | (simp [*]; done), by repeat (first | exact Drawn0.refl _ | apply Drawn0.step)⟩

end Go.Proofs.Ytfgbohochpjkfaa.G

/- The contract of slices.ContainsFunc at the test of ProvenLower. -/
namespace Go.Proofs.Ytfgbohochpjkfaa.G
open Go.RowKit Go.Proofs.YtfgbohochpjkfaaW.PrintWords Go.Proofs.YtfgbohochpjkfaaW.PrintLast
set_option linter.unusedVariables false
set_option linter.unusedSimpArgs false
def good56 (n : Int) : Bool := decide (0 ≤ n ∧ n ≤ 9999)
def bad56 (l : List Int) : Nat → Nat → Int
  | 0, _ => -1
  | d + 1, i => if good56 (rd l i) then bad56 l d (i + 1) else i
theorem bad56_iff (l : List Int) : ∀ d i, bad56 l d i ≥ 0 ↔ ¬ ∀ j : Nat, i ≤ j → j < i + d → good56 (rd l j) = true := by
  intro d
  induction d with
  | zero => intro i; simp [bad56]; omega
  | succ d ih =>
    intro i
    unfold bad56
    split
    · rename_i h
      rw [ih (i + 1)]
      constructor
      · intro h1 h2
        exact h1 fun j a b => h2 j (by omega) (by omega)
      · intro h1 h2
        refine h1 fun j a b => ?_
        by_cases e : j = i
        · rw [e]; exact h
        · exact h2 j (by omega) (by omega)
    · rename_i h
      constructor
      · intro _ h2
        exact h (h2 i (by omega) (by omega))
      · intro _; omega
theorem lit56_eq (n : Int) : impl_ProvenLower_1.f n = some (!good56 n) := by
  unfold impl_ProvenLower_1.f impl_within.f good56
  by_cases h : n ≥ 0
  · simp [h]
  · simp [h]
set_option maxHeartbeats 2000000 in
set_option maxRecDepth 100000 in
theorem idx56 (A0 : Option Addr) (c0 : Nat) (l0 : List Int) (w : World) (hr0 : Kd.C (Kd.int .i64) w A0 l0.length l0) (hc0 : l0.length ≤ c0) :
    Calls Try.prog 75 #[.slice A0 l0.length c0, .func (.func 56) #[] #[]] w fun e w' => e = .returned (.int .i64 (bad56 l0 l0.length 0)) ∧ Drawn0 w w' := by
  have hn : l0.length ≤ 9223372036854775807 := hr0.2.1
  have HR := Aside0.mk hr0
  clear hr0
  have HN : Aside0 (bad56 l0 l0.length 0 = bad56 l0 (l0.length - 0) 0) := Aside0.mk rfl
  go_enter Try.func75, Try.ntmps75
  go_wp2
  go_loopw [8] (fun i w' => ∃ k : Nat, k ≤ l0.length ∧ i = .int .i64 k ∧ Aside0 (bad56 l0 l0.length 0 = bad56 l0 (l0.length - k) k) ∧ Drawn0 w w') (fun i _ => l0.length - (intOf i).toNat)
  case atStart => exact ⟨0, Nat.zero_le _, rfl, HN, Drawn0.refl _⟩
  case round =>
    obtain ⟨k, hk, rfl, hb, hd⟩ := hrel
    by_cases hlt : k < l0.length
    · obtain ⟨ad, rfl, hx⟩ := Kd.at_int (Kd.C_below HR.out hd.below) (k : Int) (by omega) (by omega)
      rw [Int.toNat_natCast] at hx
      by_cases hg : good56 (rd l0 k) = true
      · have hs : Aside0 (bad56 l0 l0.length 0 = bad56 l0 (l0.length - (k + 1)) (k + 1)) := Aside0.mk (by
          rw [hb.out, show l0.length - k = (l0.length - (k + 1)) + 1 from by omega]
          conv => lhs; unfold bad56
          rw [if_pos hg])
        have hf : Aside0 (impl_ProvenLower_1.f (rd l0 k) = some false) := Aside0.mk (by rw [lit56_eq, hg]; rfl)
        clear hb hg
        go_wp2_with (go_at_call 56; refine (impl_ProvenLower_1.calls _ false _ hf.out).mono ?_; rintro e w' ⟨rfl, hd2⟩)
        go_roundw
        case rel => exact ⟨k + 1, by omega, by go_num, hs, drawn_two hd hd2⟩
        case measure => simp [intOf]; omega
      · have hs : Aside0 (bad56 l0 l0.length 0 = (k : Int)) := Aside0.mk (by
          rw [hb.out, show l0.length - k = (l0.length - (k + 1)) + 1 from by omega]
          conv => lhs; unfold bad56
          rw [if_neg hg])
        have hf : Aside0 (impl_ProvenLower_1.f (rd l0 k) = some true) := Aside0.mk (by rw [lit56_eq, Bool.eq_false_iff.2 hg]; rfl)
        clear hb hg
        go_wp2_with (go_at_call 56; refine (impl_ProvenLower_1.calls _ true _ hf.out).mono ?_; rintro e w' ⟨rfl, hd2⟩)
        go_ret
        exact ⟨ret_int hs.out.symm, drawn_two hd hd2⟩
    · have hs : Aside0 (bad56 l0 l0.length 0 = -1) := Aside0.mk (by
        rw [hb.out, show l0.length - k = 0 from by omega]; rfl)
      clear hb
      go_wp2
      go_ret
      exact ⟨ret_int hs.out.symm, hd⟩
def slices_ContainsFunc_int_int_56.f (l0 : List Int) : Option Bool := some (decide (bad56 l0 l0.length 0 ≥ 0))
set_option maxHeartbeats 2000000 in
set_option maxRecDepth 100000 in
theorem slices_ContainsFunc_int_int_56.calls (A0 : Option Addr) (c0 : Nat) (l0 : List Int) (r : Bool) (w : World) (hr0 : Kd.C (Kd.int .i64) w A0 l0.length l0) (hc0 : l0.length ≤ c0) (h : slices_ContainsFunc_int_int_56.f l0 = some r) :
    Calls Try.prog 51 #[.slice A0 l0.length c0, .func (.func 56) #[] #[]] w fun e w' => e = .returned (.bool r) ∧ Drawn0 w w' := by
  obtain rfl : decide (bad56 l0 l0.length 0 ≥ 0) = r := Option.some.inj h
  have HR := Aside0.mk hr0
  clear hr0 h
  go_enter Try.func51, Try.ntmps51
  go_wp2_with (go_at_call 75; refine (idx56 A0 c0 l0 _ HR.out hc0).mono ?_; rintro e w' ⟨rfl, hd⟩)
  go_ret
  exact ⟨rfl, hd⟩
end Go.Proofs.Ytfgbohochpjkfaa.G

-- Written by wip/tools/gen.py out of the translation (the kit's printer, one namespace a seat). Lean checks it.
namespace Go.Proofs.Ytfgbohochpjkfaa.G
open Go.RowKit Go.Proofs.YtfgbohochpjkfaaW.PrintWords Go.Proofs.YtfgbohochpjkfaaW.PrintLast Go.Proofs.YtfgbohochpjkfaaW.PrintMore
attribute [local go_sem] max2_int min2_int max_two min_two max_three min_three max_four min_four   -- for this text's walks alone
set_option linter.unusedVariables false
set_option linter.unusedSimpArgs false

/-! ### impl_sumOf: function 57 -/
def impl_sumOf.l0 : Nat → Int → List Int → Int → Int → Option (Int)
 | 0, _, _, _, _ => none
 | k + 1, x3, x6, x7, x8 => if x8 < x7 then (if 0 ≤ x8 then (if x8 < (x6.length : Int) then (impl_sumOf.l0 k (wrap64 (x3 + (rd x6 x8))) x6 x7 (wrap64 (x8 + 1))) else (none)) else (none)) else (some x3)
def impl_sumOf.f (k : Nat) (l0 : List Int) : Option (Int) := impl_sumOf.l0 k 0 l0 (l0.length : Int) 0
set_option maxHeartbeats 8000000 in
set_option maxRecDepth 100000 in
theorem impl_sumOf.calls (k : Nat) (A0 : Option Addr) (c0 : Nat) (l0 : List Int) (r : Int) (w : World) (hr0 : Kd.C (Kd.int .i64) w A0 l0.length l0) (hc0 : l0.length ≤ c0) (h : impl_sumOf.f k l0 = some r) :
  Calls Try.prog 57 #[.slice A0 l0.length c0] w fun e w' => e = .returned (.int .i64 r) ∧ Drawn0 w w' := by
 have HR0 := Aside0.mk hr0
 have HC0 := Aside0.mk hc0
 clear hr0 hc0
 have H : (impl_sumOf.l0 k 0 l0 (l0.length : Int) 0) = some r := h
 clear h
 have H' := Aside0.mk H
 clear H
 go_enter Try.func57, Try.ntmps57
 go_wp2
 go_loopg [3, 8] k (fun kq v3 v8 w' => ∃ (x3_1 : Int) (x8_1 : Int), v3 = .int .i64 x3_1 ∧ v8 = .int .i64 x8_1 ∧ Aside0 (impl_sumOf.l0 kq x3_1 l0 (l0.length : Int) x8_1 = some r) ∧ Aside0 (kq ≤ k) ∧ Drawn0 w w')
 case atStart => exact ⟨(0), (0), (by first | rfl | (simp; done) | (simp [*]; done)), (by first | rfl | (simp; done) | (simp [*]; done)), H', ⟨Nat.le_refl _⟩, by repeat (first | exact Drawn0.refl _ | apply Drawn0.step)⟩
 case round =>
  clear H'
  obtain ⟨x3_1, x8_1, rfl, rfl, HA, HK1, ⟨m1, rfl⟩⟩ := hrel
  cases gk with
  | zero => exact absurd HA.out (by simp [impl_sumOf.l0])
  | succ k1 =>
   have H := HA.out
   clear HA
   simp only [impl_sumOf.l0] at H
   by_cases c2 : x8_1 < (l0.length : Int)
   ·rw [if_pos c2] at H
    have c2b0 : decide (x8_1 < (l0.length : Int)) = true := decide_eq_true c2
    clear c2
    by_cases c3 : 0 ≤ x8_1
    ·rw [if_pos c3] at H
     have c3b0 : decide (0 ≤ x8_1) = true := decide_eq_true c3
     clear c3
     by_cases c4 : x8_1 < (l0.length : Int)
     ·rw [if_pos c4] at H
      have c4b0 : decide (x8_1 < (l0.length : Int)) = true := decide_eq_true c4
      clear c4
      have H' := Aside0.mk H
      clear H
      have p208 : 0 ≤ (x8_1 : Int) := of_decide_eq_true (by first | (with_reducible assumption) | assumption)
      have q208 : x8_1 < (l0.length : Int) := of_decide_eq_true (by first | (with_reducible assumption) | assumption)
      obtain ⟨ad208, e208, hx208_0⟩ := Kd.at_int HR0.out x8_1 p208 q208
      cases e208
      replace p208 := eq_true p208
      replace q208 := eq_true q208
      go_wp2
      go_roundg k1
      case measure => have := HK1.out; omega
      case rel => exact ⟨(wrap64 (x3_1 + (rd l0 x8_1))), (wrap64 (x8_1 + 1)), (by first | rfl | (simp; done) | (simp [*]; done)), (by first | rfl | (simp; done) | (simp [*]; done)), H', ⟨by have := HK1.out; omega⟩, by repeat (first | exact Drawn0.refl _ | apply Drawn0.step)⟩
     ·rw [if_neg c4] at H
      exact absurd H (by simp)
    ·rw [if_neg c3] at H
     exact absurd H (by simp)
   ·rw [if_neg c2] at H
    have c2b0 : decide (x8_1 < (l0.length : Int)) = false := decide_eq_false c2
    clear c2
    obtain rfl := Option.some.inj H
    go_wp2
    go_ret
    exact ⟨by first | rfl | (simp; done) | (simp [*]; done), by repeat (first | exact Drawn0.refl _ | apply Drawn0.step)⟩

end Go.Proofs.Ytfgbohochpjkfaa.G

-- Written by wip/tools/gen.py out of the translation (the kit's printer, one namespace a seat). Lean checks it.
namespace Go.Proofs.Ytfgbohochpjkfaa.G
open Go.RowKit Go.Proofs.YtfgbohochpjkfaaW.PrintWords Go.Proofs.YtfgbohochpjkfaaW.PrintLast Go.Proofs.YtfgbohochpjkfaaW.PrintMore
attribute [local go_sem] max2_int min2_int max_two min_two max_three min_three max_four min_four   -- for this text's walks alone
set_option linter.unusedVariables false
set_option linter.unusedSimpArgs false

/-! ### impl_ProvenLower: function 24 -/
mutual
def impl_ProvenLower.j0 : Nat → List (List Int) → List Int → Bool → Option (Int × Bool)
 | 0, _, _, _ => none
 | k + 1, x0, x1, x28 => if x28 = true then (some (0, false)) else ((impl_sumOf.f k x1).bind fun t212 => (impl_ProvenLower.l0 k x1 (wrap64 (-t212)) x0 (x0.length : Int) 0))
def impl_ProvenLower.l0 : Nat → List Int → Int → List (List Int) → Int → Int → Option (Int × Bool)
 | 0, _, _, _, _, _ => none
 | k + 1, x1, x6, x32, x33, x34 => if x34 < x33 then (if 0 ≤ x34 then (if x34 < (x32.length : Int) then (impl_ProvenLower.l1 k x1 x6 (-1) x32 x33 x34 (rd_L1 x32 x34) ((rd_L1 x32 x34).length : Int) 0) else (none)) else (none)) else (some (x6, true))
def impl_ProvenLower.l1 : Nat → List Int → Int → Int → List (List Int) → Int → Int → List Int → Int → Int → Option (Int × Bool)
 | 0, _, _, _, _, _, _, _, _, _ => none
 | k + 1, x1, x6, x9, x32, x33, x34, x38, x39, x40 => if x40 < x39 then (if 0 ≤ x40 then (if x40 < (x38.length : Int) then (if x40 < (x1.length : Int) then (if (rd x38 x40) ≥ 0 then (if x9 < 0 then (impl_ProvenLower.l1 k x1 x6 (wrap64 ((rd x38 x40) + (rd x1 x40))) x32 x33 x34 x38 x39 (wrap64 (x40 + 1))) else (if (wrap64 ((rd x38 x40) + (rd x1 x40))) < x9 then (impl_ProvenLower.l1 k x1 x6 (wrap64 ((rd x38 x40) + (rd x1 x40))) x32 x33 x34 x38 x39 (wrap64 (x40 + 1))) else (impl_ProvenLower.l1 k x1 x6 x9 x32 x33 x34 x38 x39 (wrap64 (x40 + 1))))) else (impl_ProvenLower.l1 k x1 x6 x9 x32 x33 x34 x38 x39 (wrap64 (x40 + 1)))) else (none)) else (none)) else (none)) else (if x9 < 0 then (some (0, false)) else (impl_ProvenLower.l0 k x1 (wrap64 (x6 + x9)) x32 x33 (wrap64 (x34 + 1))))
end
def impl_ProvenLower.f (k : Nat) (l0 : List (List Int)) (l1 : List Int) : Option (Int × Bool) := (impl_IsValidCosts.f k l0).bind fun t209 => (if t209 = true then (if 0 < (l0.length : Int) then (if (l1.length : Int) = ((rd_L1 l0 0).length : Int) then ((slices_ContainsFunc_int_int_56.f l1).bind fun t211 => (impl_ProvenLower.j0 k l0 l1 t211)) else (impl_ProvenLower.j0 k l0 l1 true)) else (none)) else (impl_ProvenLower.j0 k l0 l1 true))
set_option maxHeartbeats 8000000 in
set_option maxRecDepth 100000 in
theorem impl_ProvenLower.calls (k : Nat) (A0 : Option Addr) (c0 : Nat) (l0 : List (List Int)) (A1 : Option Addr) (c1 : Nat) (l1 : List Int) (r1 : Int) (r2 : Bool) (w : World) (hr0 : Kd.C (Kd.slice 3 (Kd.int .i64)) w A0 l0.length l0) (hc0 : l0.length ≤ c0) (hr1 : Kd.C (Kd.int .i64) w A1 l1.length l1) (hc1 : l1.length ≤ c1) (h : impl_ProvenLower.f k l0 l1 = some (r1, r2)) :
  Calls Try.prog 24 #[.slice A0 l0.length c0, .slice A1 l1.length c1] w fun e w' => e = .returned (.tuple #[.int .i64 r1, .bool r2]) ∧ Drawn0 w w' := by
 have HR0 := Aside0.mk hr0
 have HC0 := Aside0.mk hc0
 clear hr0 hc0
 have HR1 := Aside0.mk hr1
 have HC1 := Aside0.mk hc1
 clear hr1 hc1
 have H : ((impl_IsValidCosts.f k l0).bind fun t209 => (if t209 = true then (if 0 < (l0.length : Int) then (if (l1.length : Int) = ((rd_L1 l0 0).length : Int) then ((slices_ContainsFunc_int_int_56.f l1).bind fun t211 => (impl_ProvenLower.j0 k l0 l1 t211)) else (impl_ProvenLower.j0 k l0 l1 true)) else (none)) else (impl_ProvenLower.j0 k l0 l1 true))) = some (r1, r2) := h
 clear h
 have HC3 := Aside0.mk H
 clear H
 go_enter Try.func24, Try.ntmps24
 go_upto_region 1 with (fail)
 go_cut [28] (fun v28 wc => ∃ (kq : Nat) (x28_2 : Bool), v28 = .bool x28_2 ∧ Aside0 (impl_ProvenLower.j0 kq l0 l1 x28_2 = some (r1, r2)) ∧ Aside0 (kq ≤ k) ∧ Drawn0 w wc)
 case first =>
  have H := HC3.out
  clear HC3
  replace H := Option.bind_eq_some_iff.mp H
  obtain ⟨t209, A40, H⟩ := H
  replace H : (if t209 = true then (if 0 < (l0.length : Int) then (if (l1.length : Int) = ((rd_L1 l0 0).length : Int) then ((slices_ContainsFunc_int_int_56.f l1).bind fun t211 => (impl_ProvenLower.j0 k l0 l1 t211)) else (impl_ProvenLower.j0 k l0 l1 true)) else (none)) else (impl_ProvenLower.j0 k l0 l1 true)) = some (r1, r2) := H
  have A4 := Aside0.mk A40
  clear A40
  by_cases c5 : t209 = true
  ·subst c5
   have H1 : (if 0 < (l0.length : Int) then (if (l1.length : Int) = ((rd_L1 l0 0).length : Int) then ((slices_ContainsFunc_int_int_56.f l1).bind fun t211 => (impl_ProvenLower.j0 k l0 l1 t211)) else (impl_ProvenLower.j0 k l0 l1 true)) else (none)) = some (r1, r2) := by rw [if_pos rfl] at H; exact H
   clear H
   have H := H1
   clear H1
   by_cases c6 : 0 < (l0.length : Int)
   ·rw [if_pos c6] at H
    have c6b0 : decide (0 < (l0.length : Int)) = true := decide_eq_true c6
    have c6b1 : decide (0 < l0.length) = true := decide_eq_true (by omega)
    clear c6
    (first | rw [c6b0] | (simp only [i64_w, i32_w]; rw [c6b0]) | skip)
    by_cases c7 : (l1.length : Int) = ((rd_L1 l0 0).length : Int)
    ·rw [if_pos c7] at H
     have c7b0 : ((l1.length : Int) == ((rd_L1 l0 0).length : Int)) = true := beq_iff_eq.mpr c7
     have c7b1 : ((l1.length : Int) != ((rd_L1 l0 0).length : Int)) = false := bne_eq_false_iff_eq.mpr c7
     have c7b2 : (l1.length == (rd_L1 l0 0).length) = true := by first | simpa using c7 | (simp at c7 ⊢; omega)
     clear c7
     replace H := Option.bind_eq_some_iff.mp H
     obtain ⟨t211, A80, H⟩ := H
     replace H : (impl_ProvenLower.j0 k l0 l1 t211) = some (r1, r2) := H
     have A8 := Aside0.mk A80
     clear A80
     have H' := Aside0.mk H
     clear H
     go_wp2_with (first | ((with_reducible refine gate_callee (f := 17) rfl ?_); refine goesL_ (some 14) rfl rfl Try.func17 (by kernel_rfl) rfl #[.slice A0 l0.length c0] rfl (by (try simp only [List.map_toArray, List.map_cons, List.map_nil]); first | done | rfl | (simp only [List.length_drop, List.length_take]; rfl)) ?_; (with_reducible refine (impl_IsValidCosts.calls k _ _ l0 true _ ?side1 ?side2 A4.out).mono ?_); (case side1 => repeat (first | exact HR0.out | (with_reducible refine Kd.C_alloc ?_ _) | (with_reducible refine Kd.C_drewN ?_ _) | (with_reducible refine Kd.C_drew ?_))); (case side2 => exact HC0.out); rintro e w' ⟨rfl, ⟨nd, rfl⟩⟩; refine ⟨_, rfl, ?_⟩; have p210 : 0 ≤ (0 : Int) := (by omega); have q210 : 0 < (l0.length : Int) := of_decide_eq_true (by first | (with_reducible assumption) | assumption); obtain ⟨ad210, A210_0, c210_0, e210, hx210_0, hl210_0, hi210_0⟩ := at_L1 HR0.out 0 p210 q210; cases e210; have qi210 : (0 < l0.length) = True := eq_true (by omega); (try rw [show ((0 : Int)).toNat = 0 from rfl] at hx210_0); (try rw [Addr.add_zero'] at hx210_0); have HR210_0 := Aside0.mk hi210_0; have HC210_0 := Aside0.mk hl210_0; clear hi210_0 hl210_0; replace p210 := eq_true p210; replace q210 := eq_true q210) | (go_at_call 51; (with_reducible refine (slices_ContainsFunc_int_int_56.calls _ _ l1  t211 _ ?side1 ?side2 A8.out).mono ?_); (case side1 => repeat (first | exact HR1.out | (with_reducible refine Kd.C_alloc ?_ _) | (with_reducible refine Kd.C_drewN ?_ _) | (with_reducible refine Kd.C_drew ?_))); (case side2 => exact HC1.out); rintro e w' ⟨rfl, ⟨nd, rfl⟩⟩))
     go_meet
     case rel => exact ⟨_, (t211), (by first | rfl | (simp; done) | (simp [*]; done)), H', ⟨by first | omega | exact Nat.le_refl _⟩, by repeat (first | exact Drawn0.refl _ | apply Drawn0.step)⟩
    ·rw [if_neg c7] at H
     have c7b0 : ((l1.length : Int) == ((rd_L1 l0 0).length : Int)) = false := beq_eq_false_iff_ne.mpr c7
     have c7b1 : ((l1.length : Int) != ((rd_L1 l0 0).length : Int)) = true := bne_iff_ne.mpr c7
     have c7b2 : (l1.length == (rd_L1 l0 0).length) = false := by first | simpa using c7 | (simp at c7 ⊢; omega)
     have H' := Aside0.mk H
     clear H
     go_wp2_with (first | ((with_reducible refine gate_callee (f := 17) rfl ?_); refine goesL_ (some 14) rfl rfl Try.func17 (by kernel_rfl) rfl #[.slice A0 l0.length c0] rfl (by (try simp only [List.map_toArray, List.map_cons, List.map_nil]); first | done | rfl | (simp only [List.length_drop, List.length_take]; rfl)) ?_; (with_reducible refine (impl_IsValidCosts.calls k _ _ l0 true _ ?side1 ?side2 A4.out).mono ?_); (case side1 => repeat (first | exact HR0.out | (with_reducible refine Kd.C_alloc ?_ _) | (with_reducible refine Kd.C_drewN ?_ _) | (with_reducible refine Kd.C_drew ?_))); (case side2 => exact HC0.out); rintro e w' ⟨rfl, ⟨nd, rfl⟩⟩; refine ⟨_, rfl, ?_⟩; have p210 : 0 ≤ (0 : Int) := (by omega); have q210 : 0 < (l0.length : Int) := of_decide_eq_true (by first | (with_reducible assumption) | assumption); obtain ⟨ad210, A210_0, c210_0, e210, hx210_0, hl210_0, hi210_0⟩ := at_L1 HR0.out 0 p210 q210; cases e210; have qi210 : (0 < l0.length) = True := eq_true (by omega); (try rw [show ((0 : Int)).toNat = 0 from rfl] at hx210_0); (try rw [Addr.add_zero'] at hx210_0); have HR210_0 := Aside0.mk hi210_0; have HC210_0 := Aside0.mk hl210_0; clear hi210_0 hl210_0; replace p210 := eq_true p210; replace q210 := eq_true q210))
     go_meet
     case rel => exact ⟨_, (true), (by first | rfl | (simp; done) | (simp [*]; done)), H', ⟨by first | omega | exact Nat.le_refl _⟩, by repeat (first | exact Drawn0.refl _ | apply Drawn0.step)⟩
   ·rw [if_neg c6] at H
    exact absurd H (by simp)
  ·replace c5 := Bool.eq_false_iff.mpr c5
   subst c5
   have H1 : (impl_ProvenLower.j0 k l0 l1 true) = some (r1, r2) := by rw [if_neg (show ¬ (false = true) by decide)] at H; exact H
   clear H
   have H := H1
   clear H1
   have H' := Aside0.mk H
   clear H
   go_wp2_with (first | ((with_reducible refine gate_callee (f := 17) rfl ?_); refine goesL_ (some 14) rfl rfl Try.func17 (by kernel_rfl) rfl #[.slice A0 l0.length c0] rfl (by (try simp only [List.map_toArray, List.map_cons, List.map_nil]); first | done | rfl | (simp only [List.length_drop, List.length_take]; rfl)) ?_; (with_reducible refine (impl_IsValidCosts.calls k _ _ l0 false _ ?side1 ?side2 A4.out).mono ?_); (case side1 => repeat (first | exact HR0.out | (with_reducible refine Kd.C_alloc ?_ _) | (with_reducible refine Kd.C_drewN ?_ _) | (with_reducible refine Kd.C_drew ?_))); (case side2 => exact HC0.out); rintro e w' ⟨rfl, ⟨nd, rfl⟩⟩; refine ⟨_, rfl, ?_⟩))
   go_meet
   case rel => exact ⟨_, (true), (by first | rfl | (simp; done) | (simp [*]; done)), H', ⟨by first | omega | exact Nat.le_refl _⟩, by repeat (first | exact Drawn0.refl _ | apply Drawn0.step)⟩
 case rest =>
  clear HC3
  try clear c1
  try clear c2
  try clear p2
  try clear q2
  try clear hx2
  try clear qi2
  try clear c5
  try clear c6
  try clear c6b0
  try clear c6b1
  try clear c7
  try clear c7b0
  try clear c7b1
  try clear c7b2
  try clear hx210_0
  try clear p210
  try clear q210
  obtain ⟨kq, x28_2, rfl, HA, HJ2, ⟨mc2, rfl⟩⟩ := hcut
  cases kq with
  | zero => exact absurd HA.out (by simp [impl_ProvenLower.j0])
  | succ kj2 =>
   have H := HA.out
   clear HA
   simp only [impl_ProvenLower.j0] at H
   by_cases c9 : x28_2 = true
   ·subst c9
    have H1 : (some (0, false)) = some (r1, r2) := by rw [if_pos rfl] at H; exact H
    clear H
    have H := H1
    clear H1
    simp only [Option.some.injEq, Prod.mk.injEq] at H
    obtain ⟨rfl, rfl⟩ := H
    go_wp2
    go_ret2
    exact ⟨by first | rfl | (simp; done) | (simp [*]; done), by repeat (first | exact Drawn0.refl _ | apply Drawn0.step)⟩
   ·replace c9 := Bool.eq_false_iff.mpr c9
    subst c9
    have H1 : ((impl_sumOf.f kj2 l1).bind fun t212 => (impl_ProvenLower.l0 kj2 l1 (wrap64 (-t212)) l0 (l0.length : Int) 0)) = some (r1, r2) := by rw [if_neg (show ¬ (false = true) by decide)] at H; exact H
    clear H
    have H := H1
    clear H1
    replace H := Option.bind_eq_some_iff.mp H
    obtain ⟨t212, A100, H⟩ := H
    replace H : (impl_ProvenLower.l0 kj2 l1 (wrap64 (-t212)) l0 (l0.length : Int) 0) = some (r1, r2) := H
    have A10 := Aside0.mk A100
    clear A100
    have H' := Aside0.mk H
    clear H
    go_wp2_with (first | ((with_reducible refine gate_callee (f := 57) rfl ?_); refine goesL_ (some 30) rfl rfl Try.func57 (by kernel_rfl) rfl #[.slice A1 l1.length c1] rfl (by (try simp only [List.map_toArray, List.map_cons, List.map_nil]); first | done | rfl | (simp only [List.length_drop, List.length_take]; rfl)) ?_; (with_reducible refine (impl_sumOf.calls kj2 _ _ l1 t212 _ ?side1 ?side2 A10.out).mono ?_); (case side1 => repeat (first | exact HR1.out | (with_reducible refine Kd.C_alloc ?_ _) | (with_reducible refine Kd.C_drewN ?_ _) | (with_reducible refine Kd.C_drew ?_))); (case side2 => exact HC1.out); rintro e w' ⟨rfl, ⟨nd, rfl⟩⟩; refine ⟨_, rfl, ?_⟩))
    go_loopg [6, 34] kj2 (fun kq v6 v34 w' => ∃ (x6_2 : Int) (x34_2 : Int), v6 = .int .i64 x6_2 ∧ v34 = .int .i64 x34_2 ∧ Aside0 (impl_ProvenLower.l0 kq l1 x6_2 l0 (l0.length : Int) x34_2 = some (r1, r2)) ∧ Aside0 (kq ≤ kj2) ∧ Drawn0 w w')
    case atStart => exact ⟨(wrap64 (-t212)), (0), (by first | rfl | (simp; done) | (simp [*]; done)), (by first | rfl | (simp; done) | (simp [*]; done)), H', ⟨Nat.le_refl _⟩, by repeat (first | exact Drawn0.refl _ | apply Drawn0.step)⟩
    case round =>
     clear H'
     try clear c1
     try clear c2
     try clear p2
     try clear q2
     try clear hx2
     try clear qi2
     try clear c5
     try clear c6
     try clear c6b0
     try clear c6b1
     try clear p6
     try clear c7
     try clear c7b0
     try clear c7b1
     try clear c7b2
     try clear c9
     try clear hx210_0
     try clear p2
     try clear p210
     try clear q2
     try clear q210
     obtain ⟨x6_2, x34_2, rfl, rfl, HA, HK2, ⟨m2, rfl⟩⟩ := hrel
     cases gk with
     | zero => exact absurd HA.out (by simp [impl_ProvenLower.l0])
     | succ k2 =>
      have H := HA.out
      clear HA
      simp only [impl_ProvenLower.l0] at H
      by_cases c11 : x34_2 < (l0.length : Int)
      ·rw [if_pos c11] at H
       have c11b0 : decide (x34_2 < (l0.length : Int)) = true := decide_eq_true c11
       clear c11
       by_cases c12 : 0 ≤ x34_2
       ·rw [if_pos c12] at H
        have c12b0 : decide (0 ≤ x34_2) = true := decide_eq_true c12
        clear c12
        by_cases c13 : x34_2 < (l0.length : Int)
        ·rw [if_pos c13] at H
         have c13b0 : decide (x34_2 < (l0.length : Int)) = true := decide_eq_true c13
         clear c13
         have H' := Aside0.mk H
         clear H
         have p213 : 0 ≤ (x34_2 : Int) := of_decide_eq_true (by first | (with_reducible assumption) | assumption)
         have q213 : x34_2 < (l0.length : Int) := of_decide_eq_true (by first | (with_reducible assumption) | assumption)
         obtain ⟨ad213, A213_0, c213_0, e213, hx213_0, hl213_0, hi213_0⟩ := at_L1 HR0.out x34_2 p213 q213
         cases e213
         have HR213_0 := Aside0.mk hi213_0
         have HC213_0 := Aside0.mk hl213_0
         clear hi213_0 hl213_0
         replace p213 := eq_true p213
         replace q213 := eq_true q213
         go_wp2
         go_loopg [9, 40] k2 (fun kq v9 v40 w' => ∃ (x9_3 : Int) (x40_3 : Int), v9 = .int .i64 x9_3 ∧ v40 = .int .i64 x40_3 ∧ Aside0 (impl_ProvenLower.l1 kq l1 x6_2 x9_3 l0 (l0.length : Int) x34_2 (rd_L1 l0 x34_2) ((rd_L1 l0 x34_2).length : Int) x40_3 = some (r1, r2)) ∧ Aside0 (kq ≤ k2) ∧ Drawn0 w w')
         case atStart => exact ⟨((-1)), (0), (by first | rfl | (simp; done) | (simp [*]; done)), (by first | rfl | (simp; done) | (simp [*]; done)), H', ⟨Nat.le_refl _⟩, by repeat (first | exact Drawn0.refl _ | apply Drawn0.step)⟩
         case round =>
          clear H'
          try clear c1
          try clear c2
          try clear p2
          try clear q2
          try clear hx2
          try clear qi2
          try clear c5
          try clear c6
          try clear c6b0
          try clear c6b1
          try clear p6
          try clear c7
          try clear c7b0
          try clear c7b1
          try clear c7b2
          try clear c9
          try clear c11
          try clear c11b0
          try clear c12
          try clear c12b0
          try clear c13
          try clear c13b0
          try clear hx210_0
          try clear hx213_0
          try clear p2
          try clear p210
          try clear p213
          try clear p6
          try clear q2
          try clear q210
          try clear q213
          obtain ⟨x9_3, x40_3, rfl, rfl, HA, HK3, ⟨m3, rfl⟩⟩ := hrel
          cases gk with
          | zero => exact absurd HA.out (by simp [impl_ProvenLower.l1])
          | succ k3 =>
           have H := HA.out
           clear HA
           simp only [impl_ProvenLower.l1] at H
           by_cases c14 : x40_3 < ((rd_L1 l0 x34_2).length : Int)
           ·rw [if_pos c14] at H
            have c14b0 : decide (x40_3 < ((rd_L1 l0 x34_2).length : Int)) = true := decide_eq_true c14
            clear c14
            by_cases c15 : 0 ≤ x40_3
            ·rw [if_pos c15] at H
             have c15b0 : decide (0 ≤ x40_3) = true := decide_eq_true c15
             clear c15
             by_cases c16 : x40_3 < ((rd_L1 l0 x34_2).length : Int)
             ·rw [if_pos c16] at H
              have c16b0 : decide (x40_3 < ((rd_L1 l0 x34_2).length : Int)) = true := decide_eq_true c16
              clear c16
              by_cases c17 : x40_3 < (l1.length : Int)
              ·rw [if_pos c17] at H
               have c17b0 : decide (x40_3 < (l1.length : Int)) = true := decide_eq_true c17
               clear c17
               by_cases c18 : (rd (rd_L1 l0 x34_2) x40_3) ≥ 0
               ·rw [if_pos c18] at H
                have c18b0 : decide (0 ≤ (rd (rd_L1 l0 x34_2) x40_3)) = true := decide_eq_true c18
                clear c18
                by_cases c19 : x9_3 < 0
                ·rw [if_pos c19] at H
                 have c19b0 : decide (x9_3 < 0) = true := decide_eq_true c19
                 clear c19
                 have H' := Aside0.mk H
                 clear H
                 have p214 : 0 ≤ (x40_3 : Int) := of_decide_eq_true (by first | (with_reducible assumption) | assumption)
                 have q214 : x40_3 < ((rd_L1 l0 x34_2).length : Int) := of_decide_eq_true (by first | (with_reducible assumption) | assumption)
                 obtain ⟨ad214, e214, hx214_0⟩ := Kd.at_int HR213_0.out x40_3 p214 q214
                 cases e214
                 replace p214 := eq_true p214
                 replace q214 := eq_true q214
                 have p215 : 0 ≤ (x40_3 : Int) := of_decide_eq_true (by first | (with_reducible assumption) | assumption)
                 have q215 : x40_3 < (l1.length : Int) := of_decide_eq_true (by first | (with_reducible assumption) | assumption)
                 obtain ⟨ad215, e215, hx215_0⟩ := Kd.at_int HR1.out x40_3 p215 q215
                 cases e215
                 replace p215 := eq_true p215
                 replace q215 := eq_true q215
                 go_wp2
                 go_roundg k3
                 case measure => have := HJ2.out; have := HK2.out; have := HK3.out; omega
                 case rel => exact ⟨(wrap64 ((rd (rd_L1 l0 x34_2) x40_3) + (rd l1 x40_3))), (wrap64 (x40_3 + 1)), (by first | rfl | (simp; done) | (simp [*]; done)), (by first | rfl | (simp; done) | (simp [*]; done)), H', ⟨by have := HJ2.out; have := HK2.out; have := HK3.out; omega⟩, by repeat (first | exact Drawn0.refl _ | apply Drawn0.step)⟩
                ·rw [if_neg c19] at H
                 have c19b0 : decide (x9_3 < 0) = false := decide_eq_false c19
                 clear c19
                 by_cases c20 : (wrap64 ((rd (rd_L1 l0 x34_2) x40_3) + (rd l1 x40_3))) < x9_3
                 ·rw [if_pos c20] at H
                  have c20b0 : decide ((wrap64 ((rd (rd_L1 l0 x34_2) x40_3) + (rd l1 x40_3))) < x9_3) = true := decide_eq_true c20
                  clear c20
                  have H' := Aside0.mk H
                  clear H
                  have p214 : 0 ≤ (x40_3 : Int) := of_decide_eq_true (by first | (with_reducible assumption) | assumption)
                  have q214 : x40_3 < ((rd_L1 l0 x34_2).length : Int) := of_decide_eq_true (by first | (with_reducible assumption) | assumption)
                  obtain ⟨ad214, e214, hx214_0⟩ := Kd.at_int HR213_0.out x40_3 p214 q214
                  cases e214
                  replace p214 := eq_true p214
                  replace q214 := eq_true q214
                  have p215 : 0 ≤ (x40_3 : Int) := of_decide_eq_true (by first | (with_reducible assumption) | assumption)
                  have q215 : x40_3 < (l1.length : Int) := of_decide_eq_true (by first | (with_reducible assumption) | assumption)
                  obtain ⟨ad215, e215, hx215_0⟩ := Kd.at_int HR1.out x40_3 p215 q215
                  cases e215
                  replace p215 := eq_true p215
                  replace q215 := eq_true q215
                  go_wp2
                  go_roundg k3
                  case measure => have := HJ2.out; have := HK2.out; have := HK3.out; omega
                  case rel => exact ⟨(wrap64 ((rd (rd_L1 l0 x34_2) x40_3) + (rd l1 x40_3))), (wrap64 (x40_3 + 1)), (by first | rfl | (simp; done) | (simp [*]; done)), (by first | rfl | (simp; done) | (simp [*]; done)), H', ⟨by have := HJ2.out; have := HK2.out; have := HK3.out; omega⟩, by repeat (first | exact Drawn0.refl _ | apply Drawn0.step)⟩
                 ·rw [if_neg c20] at H
                  have c20b0 : decide ((wrap64 ((rd (rd_L1 l0 x34_2) x40_3) + (rd l1 x40_3))) < x9_3) = false := decide_eq_false c20
                  clear c20
                  have H' := Aside0.mk H
                  clear H
                  have p214 : 0 ≤ (x40_3 : Int) := of_decide_eq_true (by first | (with_reducible assumption) | assumption)
                  have q214 : x40_3 < ((rd_L1 l0 x34_2).length : Int) := of_decide_eq_true (by first | (with_reducible assumption) | assumption)
                  obtain ⟨ad214, e214, hx214_0⟩ := Kd.at_int HR213_0.out x40_3 p214 q214
                  cases e214
                  replace p214 := eq_true p214
                  replace q214 := eq_true q214
                  have p215 : 0 ≤ (x40_3 : Int) := of_decide_eq_true (by first | (with_reducible assumption) | assumption)
                  have q215 : x40_3 < (l1.length : Int) := of_decide_eq_true (by first | (with_reducible assumption) | assumption)
                  obtain ⟨ad215, e215, hx215_0⟩ := Kd.at_int HR1.out x40_3 p215 q215
                  cases e215
                  replace p215 := eq_true p215
                  replace q215 := eq_true q215
                  go_wp2
                  go_roundg k3
                  case measure => have := HJ2.out; have := HK2.out; have := HK3.out; omega
                  case rel => exact ⟨(x9_3), (wrap64 (x40_3 + 1)), (by first | rfl | (simp; done) | (simp [*]; done)), (by first | rfl | (simp; done) | (simp [*]; done)), H', ⟨by have := HJ2.out; have := HK2.out; have := HK3.out; omega⟩, by repeat (first | exact Drawn0.refl _ | apply Drawn0.step)⟩
               ·rw [if_neg c18] at H
                have c18b0 : decide (0 ≤ (rd (rd_L1 l0 x34_2) x40_3)) = false := decide_eq_false c18
                clear c18
                have H' := Aside0.mk H
                clear H
                have p214 : 0 ≤ (x40_3 : Int) := of_decide_eq_true (by first | (with_reducible assumption) | assumption)
                have q214 : x40_3 < ((rd_L1 l0 x34_2).length : Int) := of_decide_eq_true (by first | (with_reducible assumption) | assumption)
                obtain ⟨ad214, e214, hx214_0⟩ := Kd.at_int HR213_0.out x40_3 p214 q214
                cases e214
                replace p214 := eq_true p214
                replace q214 := eq_true q214
                have p215 : 0 ≤ (x40_3 : Int) := of_decide_eq_true (by first | (with_reducible assumption) | assumption)
                have q215 : x40_3 < (l1.length : Int) := of_decide_eq_true (by first | (with_reducible assumption) | assumption)
                obtain ⟨ad215, e215, hx215_0⟩ := Kd.at_int HR1.out x40_3 p215 q215
                cases e215
                replace p215 := eq_true p215
                replace q215 := eq_true q215
                go_wp2
                go_roundg k3
                case measure => have := HJ2.out; have := HK2.out; have := HK3.out; omega
                case rel => exact ⟨(x9_3), (wrap64 (x40_3 + 1)), (by first | rfl | (simp; done) | (simp [*]; done)), (by first | rfl | (simp; done) | (simp [*]; done)), H', ⟨by have := HJ2.out; have := HK2.out; have := HK3.out; omega⟩, by repeat (first | exact Drawn0.refl _ | apply Drawn0.step)⟩
              ·rw [if_neg c17] at H
               exact absurd H (by simp)
             ·rw [if_neg c16] at H
              exact absurd H (by simp)
            ·rw [if_neg c15] at H
             exact absurd H (by simp)
           ·rw [if_neg c14] at H
            have c14b0 : decide (x40_3 < ((rd_L1 l0 x34_2).length : Int)) = false := decide_eq_false c14
            clear c14
            by_cases c21 : x9_3 < 0
            ·rw [if_pos c21] at H
             have c21b0 : decide (x9_3 < 0) = true := decide_eq_true c21
             clear c21
             simp only [Option.some.injEq, Prod.mk.injEq] at H
             obtain ⟨rfl, rfl⟩ := H
             go_wp2
             go_ret2
             exact ⟨by first | rfl | (simp; done) | (simp [*]; done), by repeat (first | exact Drawn0.refl _ | apply Drawn0.step)⟩
            ·rw [if_neg c21] at H
             have c21b0 : decide (x9_3 < 0) = false := decide_eq_false c21
             clear c21
             have H' := Aside0.mk H
             clear H
             go_wp2
             go_roundg k3
             case measure => have := HJ2.out; have := HK2.out; have := HK3.out; omega
             case rel => exact ⟨(wrap64 (x6_2 + x9_3)), (wrap64 (x34_2 + 1)), (by first | rfl | (simp; done) | (simp [*]; done)), (by first | rfl | (simp; done) | (simp [*]; done)), H', ⟨by have := HJ2.out; have := HK2.out; have := HK3.out; omega⟩, by repeat (first | exact Drawn0.refl _ | apply Drawn0.step)⟩
        ·rw [if_neg c13] at H
         exact absurd H (by simp)
       ·rw [if_neg c12] at H
        exact absurd H (by simp)
      ·rw [if_neg c11] at H
       have c11b0 : decide (x34_2 < (l0.length : Int)) = false := decide_eq_false c11
       clear c11
       simp only [Option.some.injEq, Prod.mk.injEq] at H
       obtain ⟨rfl, rfl⟩ := H
       go_wp2
       go_ret2
       exact ⟨by first | rfl | (simp; done) | (simp [*]; done), by repeat (first | exact Drawn0.refl _ | apply Drawn0.step)⟩

end Go.Proofs.Ytfgbohochpjkfaa.G

-- Written by wip/tools/gen.py out of the translation (the kit's printer, one namespace a seat). Lean checks it.
namespace Go.Proofs.Ytfgbohochpjkfaa.G
open Go.RowKit Go.Proofs.YtfgbohochpjkfaaW.PrintWords Go.Proofs.YtfgbohochpjkfaaW.PrintLast Go.Proofs.YtfgbohochpjkfaaW.PrintMore
attribute [local go_sem] max2_int min2_int max_two min_two max_three min_three max_four min_four   -- for this text's walks alone
set_option linter.unusedVariables false
set_option linter.unusedSimpArgs false

/-! ### spec_ProvenLower: function 23 -/
mutual
def spec_ProvenLower.j0 : Nat → List (List Int) → List Int → Bool → Option (Int × Bool)
 | 0, _, _, _ => none
 | k + 1, x0, x1, x23 => if x23 = true then (some (0, false)) else (spec_ProvenLower.l0 k x0 x1 0 0)
def spec_ProvenLower.l0 : Nat → List (List Int) → List Int → Int → Int → Option (Int × Bool)
 | 0, _, _, _, _ => none
 | k + 1, x0, x1, x6, x7 => if x7 < (x1.length : Int) then (if 0 ≤ x7 then ((spec_l1In.f (rd x1 x7) 0 9999).bind fun t201 => (if t201 = true then (spec_ProvenLower.l0 k x0 x1 (wrap64 (x6 - (rd x1 x7))) (wrap64 (x7 + 1))) else (some (0, false)))) else (none)) else (spec_ProvenLower.l1 k x0 x1 x6 0)
def spec_ProvenLower.l1 : Nat → List (List Int) → List Int → Int → Int → Option (Int × Bool)
 | 0, _, _, _, _ => none
 | k + 1, x0, x1, x6, x8 => if x8 < (x0.length : Int) then (spec_ProvenLower.l2 k x0 x1 x6 x8 (-1) 0) else (some (x6, true))
def spec_ProvenLower.l2 : Nat → List (List Int) → List Int → Int → Int → Int → Int → Option (Int × Bool)
 | 0, _, _, _, _, _, _ => none
 | k + 1, x0, x1, x6, x8, x9, x10 => if x10 < (x1.length : Int) then (if 0 ≤ x8 then (if x8 < (x0.length : Int) then (if 0 ≤ x10 then (if x10 < ((rd_L1 x0 x8).length : Int) then (if (rd (rd_L1 x0 x8) x10) ≥ 0 then (if x9 < 0 then (spec_ProvenLower.l2 k x0 x1 x6 x8 (wrap64 ((rd (rd_L1 x0 x8) x10) + (rd x1 x10))) (wrap64 (x10 + 1))) else (if (wrap64 ((rd (rd_L1 x0 x8) x10) + (rd x1 x10))) < x9 then (spec_ProvenLower.l2 k x0 x1 x6 x8 (wrap64 ((rd (rd_L1 x0 x8) x10) + (rd x1 x10))) (wrap64 (x10 + 1))) else (spec_ProvenLower.l2 k x0 x1 x6 x8 x9 (wrap64 (x10 + 1))))) else (spec_ProvenLower.l2 k x0 x1 x6 x8 x9 (wrap64 (x10 + 1)))) else (none)) else (none)) else (none)) else (none)) else (if x9 < 0 then (some (0, false)) else (spec_ProvenLower.l1 k x0 x1 (wrap64 (x6 + x9)) (wrap64 (x8 + 1))))
end
def spec_ProvenLower.f (k : Nat) (l0 : List (List Int)) (l1 : List Int) : Option (Int × Bool) := (spec_l17Good.f k l0).bind fun t198 => (if t198 = true then (if 0 < (l0.length : Int) then (spec_ProvenLower.j0 k l0 l1 ((l1.length : Int) != ((rd_L1 l0 0).length : Int))) else (none)) else (spec_ProvenLower.j0 k l0 l1 true))
set_option maxHeartbeats 8000000 in
set_option maxRecDepth 100000 in
theorem spec_ProvenLower.calls (k : Nat) (A0 : Option Addr) (c0 : Nat) (l0 : List (List Int)) (A1 : Option Addr) (c1 : Nat) (l1 : List Int) (r1 : Int) (r2 : Bool) (w : World) (hr0 : Kd.C (Kd.slice 3 (Kd.int .i64)) w A0 l0.length l0) (hc0 : l0.length ≤ c0) (hr1 : Kd.C (Kd.int .i64) w A1 l1.length l1) (hc1 : l1.length ≤ c1) (h : spec_ProvenLower.f k l0 l1 = some (r1, r2)) :
  Calls Try.prog 23 #[.slice A0 l0.length c0, .slice A1 l1.length c1] w fun e w' => e = .returned (.tuple #[.int .i64 r1, .bool r2]) ∧ Drawn0 w w' := by
 have HR0 := Aside0.mk hr0
 have HC0 := Aside0.mk hc0
 clear hr0 hc0
 have HR1 := Aside0.mk hr1
 have HC1 := Aside0.mk hc1
 clear hr1 hc1
 have H : ((spec_l17Good.f k l0).bind fun t198 => (if t198 = true then (if 0 < (l0.length : Int) then (spec_ProvenLower.j0 k l0 l1 ((l1.length : Int) != ((rd_L1 l0 0).length : Int))) else (none)) else (spec_ProvenLower.j0 k l0 l1 true))) = some (r1, r2) := h
 clear h
 have HC3 := Aside0.mk H
 clear H
 go_enter Try.func23, Try.ntmps23
 go_upto_region 1 with (fail)
 repeat (go_quiet (fail); go_upto_region 1 with (fail))
 go_cut [23] (fun v23 wc => ∃ (kq : Nat) (x23_2 : Bool), v23 = .bool x23_2 ∧ Aside0 (spec_ProvenLower.j0 kq l0 l1 x23_2 = some (r1, r2)) ∧ Aside0 (kq ≤ k) ∧ Drawn0 w wc)
 case first =>
  have H := HC3.out
  clear HC3
  replace H := Option.bind_eq_some_iff.mp H
  obtain ⟨t198, A40, H⟩ := H
  replace H : (if t198 = true then (if 0 < (l0.length : Int) then (spec_ProvenLower.j0 k l0 l1 ((l1.length : Int) != ((rd_L1 l0 0).length : Int))) else (none)) else (spec_ProvenLower.j0 k l0 l1 true)) = some (r1, r2) := H
  have A4 := Aside0.mk A40
  clear A40
  by_cases c5 : t198 = true
  ·subst c5
   have H1 : (if 0 < (l0.length : Int) then (spec_ProvenLower.j0 k l0 l1 ((l1.length : Int) != ((rd_L1 l0 0).length : Int))) else (none)) = some (r1, r2) := by rw [if_pos rfl] at H; exact H
   clear H
   have H := H1
   clear H1
   by_cases c6 : 0 < (l0.length : Int)
   ·rw [if_pos c6] at H
    have c6b0 : decide (0 < (l0.length : Int)) = true := decide_eq_true c6
    have c6b1 : decide (0 < l0.length) = true := decide_eq_true (by omega)
    clear c6
    (first | rw [c6b0] | (simp only [i64_w, i32_w]; rw [c6b0]) | skip)
    have H' := Aside0.mk H
    clear H
    go_wp2_with (first | (go_at_call 49; (with_reducible refine (spec_l17Good.calls k _ _ l0 true _ ?side1 ?side2 A4.out).mono ?_); (case side1 => repeat (first | exact HR0.out | (with_reducible refine Kd.C_alloc ?_ _) | (with_reducible refine Kd.C_drewN ?_ _) | (with_reducible refine Kd.C_drew ?_))); (case side2 => exact HC0.out); rintro e w' ⟨rfl, ⟨nd, rfl⟩⟩; (try first | exact ⟨rfl, _, World.drewN_drewN _ _ _⟩ | exact ⟨rfl, _, Eq.trans (World.drewN_drewN _ _ _) (congrArg (World.drewN _) (Nat.add_assoc _ _ _))⟩); have p199 : 0 ≤ (0 : Int) := (by omega); have q199 : 0 < (l0.length : Int) := of_decide_eq_true (by first | (with_reducible assumption) | assumption); obtain ⟨ad199, A199_0, c199_0, e199, hx199_0, hl199_0, hi199_0⟩ := at_L1 HR0.out 0 p199 q199; cases e199; have qi199 : (0 < l0.length) = True := eq_true (by omega); (try rw [show ((0 : Int)).toNat = 0 from rfl] at hx199_0); (try rw [Addr.add_zero'] at hx199_0); have HR199_0 := Aside0.mk hi199_0; have HC199_0 := Aside0.mk hl199_0; clear hi199_0 hl199_0; replace p199 := eq_true p199; replace q199 := eq_true q199))
    repeat (go_quiet (first | (go_at_call 49; (with_reducible refine (spec_l17Good.calls k _ _ l0 true _ ?side1 ?side2 A4.out).mono ?_); (case side1 => repeat (first | exact HR0.out | (with_reducible refine Kd.C_alloc ?_ _) | (with_reducible refine Kd.C_drewN ?_ _) | (with_reducible refine Kd.C_drew ?_))); (case side2 => exact HC0.out); rintro e w' ⟨rfl, ⟨nd, rfl⟩⟩; (try first | exact ⟨rfl, _, World.drewN_drewN _ _ _⟩ | exact ⟨rfl, _, Eq.trans (World.drewN_drewN _ _ _) (congrArg (World.drewN _) (Nat.add_assoc _ _ _))⟩); have p199 : 0 ≤ (0 : Int) := (by omega); have q199 : 0 < (l0.length : Int) := of_decide_eq_true (by first | (with_reducible assumption) | assumption); obtain ⟨ad199, A199_0, c199_0, e199, hx199_0, hl199_0, hi199_0⟩ := at_L1 HR0.out 0 p199 q199; cases e199; have qi199 : (0 < l0.length) = True := eq_true (by omega); (try rw [show ((0 : Int)).toNat = 0 from rfl] at hx199_0); (try rw [Addr.add_zero'] at hx199_0); have HR199_0 := Aside0.mk hi199_0; have HC199_0 := Aside0.mk hl199_0; clear hi199_0 hl199_0; replace p199 := eq_true p199; replace q199 := eq_true q199)); try go_wp2_with (first | (go_at_call 49; (with_reducible refine (spec_l17Good.calls k _ _ l0 true _ ?side1 ?side2 A4.out).mono ?_); (case side1 => repeat (first | exact HR0.out | (with_reducible refine Kd.C_alloc ?_ _) | (with_reducible refine Kd.C_drewN ?_ _) | (with_reducible refine Kd.C_drew ?_))); (case side2 => exact HC0.out); rintro e w' ⟨rfl, ⟨nd, rfl⟩⟩; (try first | exact ⟨rfl, _, World.drewN_drewN _ _ _⟩ | exact ⟨rfl, _, Eq.trans (World.drewN_drewN _ _ _) (congrArg (World.drewN _) (Nat.add_assoc _ _ _))⟩); have p199 : 0 ≤ (0 : Int) := (by omega); have q199 : 0 < (l0.length : Int) := of_decide_eq_true (by first | (with_reducible assumption) | assumption); obtain ⟨ad199, A199_0, c199_0, e199, hx199_0, hl199_0, hi199_0⟩ := at_L1 HR0.out 0 p199 q199; cases e199; have qi199 : (0 < l0.length) = True := eq_true (by omega); (try rw [show ((0 : Int)).toNat = 0 from rfl] at hx199_0); (try rw [Addr.add_zero'] at hx199_0); have HR199_0 := Aside0.mk hi199_0; have HC199_0 := Aside0.mk hl199_0; clear hi199_0 hl199_0; replace p199 := eq_true p199; replace q199 := eq_true q199)))
    go_meet
    case rel => exact ⟨_, (((l1.length : Int) != ((rd_L1 l0 0).length : Int))), (by first | rfl | (simp; done) | (simp [*]; done)), H', ⟨by first | omega | exact Nat.le_refl _⟩, by repeat (first | exact Drawn0.refl _ | apply Drawn0.step)⟩
   ·rw [if_neg c6] at H
    exact absurd H (by simp)
  ·replace c5 := Bool.eq_false_iff.mpr c5
   subst c5
   have H1 : (spec_ProvenLower.j0 k l0 l1 true) = some (r1, r2) := by rw [if_neg (show ¬ (false = true) by decide)] at H; exact H
   clear H
   have H := H1
   clear H1
   have H' := Aside0.mk H
   clear H
   go_wp2_with (first | (go_at_call 49; (with_reducible refine (spec_l17Good.calls k _ _ l0 false _ ?side1 ?side2 A4.out).mono ?_); (case side1 => repeat (first | exact HR0.out | (with_reducible refine Kd.C_alloc ?_ _) | (with_reducible refine Kd.C_drewN ?_ _) | (with_reducible refine Kd.C_drew ?_))); (case side2 => exact HC0.out); rintro e w' ⟨rfl, ⟨nd, rfl⟩⟩; (try first | exact ⟨rfl, _, World.drewN_drewN _ _ _⟩ | exact ⟨rfl, _, Eq.trans (World.drewN_drewN _ _ _) (congrArg (World.drewN _) (Nat.add_assoc _ _ _))⟩)))
   repeat (go_quiet (first | (go_at_call 49; (with_reducible refine (spec_l17Good.calls k _ _ l0 false _ ?side1 ?side2 A4.out).mono ?_); (case side1 => repeat (first | exact HR0.out | (with_reducible refine Kd.C_alloc ?_ _) | (with_reducible refine Kd.C_drewN ?_ _) | (with_reducible refine Kd.C_drew ?_))); (case side2 => exact HC0.out); rintro e w' ⟨rfl, ⟨nd, rfl⟩⟩; (try first | exact ⟨rfl, _, World.drewN_drewN _ _ _⟩ | exact ⟨rfl, _, Eq.trans (World.drewN_drewN _ _ _) (congrArg (World.drewN _) (Nat.add_assoc _ _ _))⟩))); try go_wp2_with (first | (go_at_call 49; (with_reducible refine (spec_l17Good.calls k _ _ l0 false _ ?side1 ?side2 A4.out).mono ?_); (case side1 => repeat (first | exact HR0.out | (with_reducible refine Kd.C_alloc ?_ _) | (with_reducible refine Kd.C_drewN ?_ _) | (with_reducible refine Kd.C_drew ?_))); (case side2 => exact HC0.out); rintro e w' ⟨rfl, ⟨nd, rfl⟩⟩; (try first | exact ⟨rfl, _, World.drewN_drewN _ _ _⟩ | exact ⟨rfl, _, Eq.trans (World.drewN_drewN _ _ _) (congrArg (World.drewN _) (Nat.add_assoc _ _ _))⟩))))
   go_meet
   case rel => exact ⟨_, (true), (by first | rfl | (simp; done) | (simp [*]; done)), H', ⟨by first | omega | exact Nat.le_refl _⟩, by repeat (first | exact Drawn0.refl _ | apply Drawn0.step)⟩
 case rest =>
  clear HC3
  try clear c1
  try clear p1
  try clear q1
  try clear hx1
  try clear qi1
  try clear c2
  try clear p2
  try clear c5
  try clear c6
  try clear c6b0
  try clear c6b1
  try clear hx199_0
  try clear p199
  try clear q199
  obtain ⟨kq, x23_2, rfl, HA, HJ2, ⟨mc2, rfl⟩⟩ := hcut
  cases kq with
  | zero => exact absurd HA.out (by simp [spec_ProvenLower.j0])
  | succ kj2 =>
   have H := HA.out
   clear HA
   simp only [spec_ProvenLower.j0] at H
   by_cases c7 : x23_2 = true
   ·subst c7
    have H1 : (some (0, false)) = some (r1, r2) := by rw [if_pos rfl] at H; exact H
    clear H
    have H := H1
    clear H1
    simp only [Option.some.injEq, Prod.mk.injEq] at H
    obtain ⟨rfl, rfl⟩ := H
    go_wp2
    repeat (go_quiet (fail); try go_wp2)
    go_ret2
    exact ⟨by first | rfl | (simp; done) | (simp [*]; done), by repeat (first | exact Drawn0.refl _ | apply Drawn0.step)⟩
   ·replace c7 := Bool.eq_false_iff.mpr c7
    subst c7
    have H1 : (spec_ProvenLower.l0 kj2 l0 l1 0 0) = some (r1, r2) := by rw [if_neg (show ¬ (false = true) by decide)] at H; exact H
    clear H
    have H := H1
    clear H1
    have H' := Aside0.mk H
    clear H
    go_wp2
    repeat (go_quiet (fail); try go_wp2)
    go_loopg [6, 7] kj2 (fun kq v6 v7 w' => ∃ (x6_2 : Int) (x7_2 : Int), v6 = .int .i64 x6_2 ∧ v7 = .int .i64 x7_2 ∧ Aside0 (spec_ProvenLower.l0 kq l0 l1 x6_2 x7_2 = some (r1, r2)) ∧ Aside0 (kq ≤ kj2) ∧ Drawn0 w w')
    case atStart => exact ⟨(0), (0), (by first | rfl | (simp; done) | (simp [*]; done)), (by first | rfl | (simp; done) | (simp [*]; done)), H', ⟨Nat.le_refl _⟩, by repeat (first | exact Drawn0.refl _ | apply Drawn0.step)⟩
    case round =>
     clear H'
     try clear c1
     try clear p1
     try clear q1
     try clear hx1
     try clear qi1
     try clear c2
     try clear p2
     try clear c5
     try clear c6
     try clear c6b0
     try clear c6b1
     try clear c7
     try clear hx199_0
     try clear p1
     try clear p199
     try clear p2
     try clear q1
     try clear q199
     obtain ⟨x6_2, x7_2, rfl, rfl, HA, HK2, ⟨m2, rfl⟩⟩ := hrel
     cases gk with
     | zero => exact absurd HA.out (by simp [spec_ProvenLower.l0])
     | succ k2 =>
      have H := HA.out
      clear HA
      simp only [spec_ProvenLower.l0] at H
      by_cases c8 : x7_2 < (l1.length : Int)
      ·rw [if_pos c8] at H
       have c8b0 : decide (x7_2 < (l1.length : Int)) = true := decide_eq_true c8
       clear c8
       by_cases c9 : 0 ≤ x7_2
       ·rw [if_pos c9] at H
        have c9b0 : decide (0 ≤ x7_2) = true := decide_eq_true c9
        clear c9
        replace H := Option.bind_eq_some_iff.mp H
        obtain ⟨t201, A100, H⟩ := H
        replace H : (if t201 = true then (spec_ProvenLower.l0 k2 l0 l1 (wrap64 (x6_2 - (rd l1 x7_2))) (wrap64 (x7_2 + 1))) else (some (0, false))) = some (r1, r2) := H
        have A10 := Aside0.mk A100
        clear A100
        by_cases c11 : t201 = true
        ·subst c11
         have H1 : (spec_ProvenLower.l0 k2 l0 l1 (wrap64 (x6_2 - (rd l1 x7_2))) (wrap64 (x7_2 + 1))) = some (r1, r2) := by rw [if_pos rfl] at H; exact H
         clear H
         have H := H1
         clear H1
         have H' := Aside0.mk H
         clear H
         have p200 : 0 ≤ (x7_2 : Int) := of_decide_eq_true (by first | (with_reducible assumption) | assumption)
         have q200 : x7_2 < (l1.length : Int) := of_decide_eq_true (by first | (with_reducible assumption) | assumption)
         obtain ⟨ad200, e200, hx200_0⟩ := Kd.at_int HR1.out x7_2 p200 q200
         cases e200
         replace p200 := eq_true p200
         replace q200 := eq_true q200
         go_wp2_with (first | (go_at_call 55; (with_reducible refine (spec_l1In.calls (rd l1 x7_2) 0 9999 true _ A10.out).mono ?_); rintro e w' ⟨rfl, ⟨nd, rfl⟩⟩; (try first | exact ⟨rfl, _, World.drewN_drewN _ _ _⟩ | exact ⟨rfl, _, Eq.trans (World.drewN_drewN _ _ _) (congrArg (World.drewN _) (Nat.add_assoc _ _ _))⟩); have p202 : 0 ≤ (x7_2 : Int) := of_decide_eq_true (by first | (with_reducible assumption) | assumption); have q202 : x7_2 < (l1.length : Int) := of_decide_eq_true (by first | (with_reducible assumption) | assumption); obtain ⟨ad202, e202, hx202_0⟩ := Kd.at_int HR1.out x7_2 p202 q202; obtain rfl : ad200 = ad202 := (by injection e202); replace p202 := eq_true p202; replace q202 := eq_true q202))
         repeat (go_quiet (first | (go_at_call 55; (with_reducible refine (spec_l1In.calls (rd l1 x7_2) 0 9999 true _ A10.out).mono ?_); rintro e w' ⟨rfl, ⟨nd, rfl⟩⟩; (try first | exact ⟨rfl, _, World.drewN_drewN _ _ _⟩ | exact ⟨rfl, _, Eq.trans (World.drewN_drewN _ _ _) (congrArg (World.drewN _) (Nat.add_assoc _ _ _))⟩); have p202 : 0 ≤ (x7_2 : Int) := of_decide_eq_true (by first | (with_reducible assumption) | assumption); have q202 : x7_2 < (l1.length : Int) := of_decide_eq_true (by first | (with_reducible assumption) | assumption); obtain ⟨ad202, e202, hx202_0⟩ := Kd.at_int HR1.out x7_2 p202 q202; obtain rfl : ad200 = ad202 := (by injection e202); replace p202 := eq_true p202; replace q202 := eq_true q202)); try go_wp2_with (first | (go_at_call 55; (with_reducible refine (spec_l1In.calls (rd l1 x7_2) 0 9999 true _ A10.out).mono ?_); rintro e w' ⟨rfl, ⟨nd, rfl⟩⟩; (try first | exact ⟨rfl, _, World.drewN_drewN _ _ _⟩ | exact ⟨rfl, _, Eq.trans (World.drewN_drewN _ _ _) (congrArg (World.drewN _) (Nat.add_assoc _ _ _))⟩); have p202 : 0 ≤ (x7_2 : Int) := of_decide_eq_true (by first | (with_reducible assumption) | assumption); have q202 : x7_2 < (l1.length : Int) := of_decide_eq_true (by first | (with_reducible assumption) | assumption); obtain ⟨ad202, e202, hx202_0⟩ := Kd.at_int HR1.out x7_2 p202 q202; obtain rfl : ad200 = ad202 := (by injection e202); replace p202 := eq_true p202; replace q202 := eq_true q202)))
         go_roundg k2
         case measure => have := HJ2.out; have := HK2.out; omega
         case rel => exact ⟨(wrap64 (x6_2 - (rd l1 x7_2))), (wrap64 (x7_2 + 1)), (by first | rfl | (simp; done) | (simp [*]; done)), (by first | rfl | (simp; done) | (simp [*]; done)), H', ⟨by have := HJ2.out; have := HK2.out; omega⟩, by repeat (first | exact Drawn0.refl _ | apply Drawn0.step)⟩
        ·replace c11 := Bool.eq_false_iff.mpr c11
         subst c11
         have H1 : (some (0, false)) = some (r1, r2) := by rw [if_neg (show ¬ (false = true) by decide)] at H; exact H
         clear H
         have H := H1
         clear H1
         simp only [Option.some.injEq, Prod.mk.injEq] at H
         obtain ⟨rfl, rfl⟩ := H
         have p200 : 0 ≤ (x7_2 : Int) := of_decide_eq_true (by first | (with_reducible assumption) | assumption)
         have q200 : x7_2 < (l1.length : Int) := of_decide_eq_true (by first | (with_reducible assumption) | assumption)
         obtain ⟨ad200, e200, hx200_0⟩ := Kd.at_int HR1.out x7_2 p200 q200
         cases e200
         replace p200 := eq_true p200
         replace q200 := eq_true q200
         go_wp2_with (first | (go_at_call 55; (with_reducible refine (spec_l1In.calls (rd l1 x7_2) 0 9999 false _ A10.out).mono ?_); rintro e w' ⟨rfl, ⟨nd, rfl⟩⟩; (try first | exact ⟨rfl, _, World.drewN_drewN _ _ _⟩ | exact ⟨rfl, _, Eq.trans (World.drewN_drewN _ _ _) (congrArg (World.drewN _) (Nat.add_assoc _ _ _))⟩)))
         repeat (go_quiet (first | (go_at_call 55; (with_reducible refine (spec_l1In.calls (rd l1 x7_2) 0 9999 false _ A10.out).mono ?_); rintro e w' ⟨rfl, ⟨nd, rfl⟩⟩; (try first | exact ⟨rfl, _, World.drewN_drewN _ _ _⟩ | exact ⟨rfl, _, Eq.trans (World.drewN_drewN _ _ _) (congrArg (World.drewN _) (Nat.add_assoc _ _ _))⟩))); try go_wp2_with (first | (go_at_call 55; (with_reducible refine (spec_l1In.calls (rd l1 x7_2) 0 9999 false _ A10.out).mono ?_); rintro e w' ⟨rfl, ⟨nd, rfl⟩⟩; (try first | exact ⟨rfl, _, World.drewN_drewN _ _ _⟩ | exact ⟨rfl, _, Eq.trans (World.drewN_drewN _ _ _) (congrArg (World.drewN _) (Nat.add_assoc _ _ _))⟩))))
         go_ret2
         exact ⟨by first | rfl | (simp; done) | (simp [*]; done), by repeat (first | exact Drawn0.refl _ | apply Drawn0.step)⟩
       ·rw [if_neg c9] at H
        exact absurd H (by simp)
      ·rw [if_neg c8] at H
       have c8b0 : decide (x7_2 < (l1.length : Int)) = false := decide_eq_false c8
       clear c8
       have H' := Aside0.mk H
       clear H
       go_wp2
       repeat (go_quiet (fail); try go_wp2)
       go_loopg [6, 8] k2 (fun kq v6 v8 w' => ∃ (x6_3 : Int) (x8_3 : Int), v6 = .int .i64 x6_3 ∧ v8 = .int .i64 x8_3 ∧ Aside0 (spec_ProvenLower.l1 kq l0 l1 x6_3 x8_3 = some (r1, r2)) ∧ Aside0 (kq ≤ k2) ∧ Drawn0 w w')
       case atStart => exact ⟨(x6_2), (0), (by first | rfl | (simp; done) | (simp [*]; done)), (by first | rfl | (simp; done) | (simp [*]; done)), H', ⟨Nat.le_refl _⟩, by repeat (first | exact Drawn0.refl _ | apply Drawn0.step)⟩
       case round =>
        clear H'
        try clear c1
        try clear p1
        try clear q1
        try clear hx1
        try clear qi1
        try clear c2
        try clear p2
        try clear q2
        try clear hx2
        try clear c5
        try clear c6
        try clear c6b0
        try clear c6b1
        try clear p6
        try clear c7
        try clear c8
        try clear c8b0
        try clear c9
        try clear c9b0
        try clear c11
        try clear hx199_0
        try clear hx200_0
        try clear hx202_0
        try clear p1
        try clear p199
        try clear p2
        try clear p200
        try clear p202
        try clear q1
        try clear q199
        try clear q200
        try clear q202
        obtain ⟨x6_3, x8_3, rfl, rfl, HA, HK3, ⟨m3, rfl⟩⟩ := hrel
        cases gk with
        | zero => exact absurd HA.out (by simp [spec_ProvenLower.l1])
        | succ k3 =>
         have H := HA.out
         clear HA
         simp only [spec_ProvenLower.l1] at H
         by_cases c12 : x8_3 < (l0.length : Int)
         ·rw [if_pos c12] at H
          have c12b0 : decide (x8_3 < (l0.length : Int)) = true := decide_eq_true c12
          clear c12
          have H' := Aside0.mk H
          clear H
          go_wp2
          repeat (go_quiet (fail); try go_wp2)
          go_loopg [9, 10] k3 (fun kq v9 v10 w' => ∃ (x9_4 : Int) (x10_4 : Int), v9 = .int .i64 x9_4 ∧ v10 = .int .i64 x10_4 ∧ Aside0 (spec_ProvenLower.l2 kq l0 l1 x6_3 x8_3 x9_4 x10_4 = some (r1, r2)) ∧ Aside0 (kq ≤ k3) ∧ Drawn0 w w')
          case atStart => exact ⟨((-1)), (0), (by first | rfl | (simp; done) | (simp [*]; done)), (by first | rfl | (simp; done) | (simp [*]; done)), H', ⟨Nat.le_refl _⟩, by repeat (first | exact Drawn0.refl _ | apply Drawn0.step)⟩
          case round =>
           clear H'
           try clear c1
           try clear p1
           try clear q1
           try clear hx1
           try clear qi1
           try clear c2
           try clear p2
           try clear q2
           try clear hx2
           try clear c5
           try clear c6
           try clear c6b0
           try clear c6b1
           try clear p6
           try clear c7
           try clear c8
           try clear c8b0
           try clear c9
           try clear c9b0
           try clear c11
           try clear c12
           try clear c12b0
           try clear hx199_0
           try clear hx200_0
           try clear hx202_0
           try clear p1
           try clear p199
           try clear p2
           try clear p200
           try clear p202
           try clear p6
           try clear q1
           try clear q199
           try clear q2
           try clear q200
           try clear q202
           obtain ⟨x9_4, x10_4, rfl, rfl, HA, HK4, ⟨m4, rfl⟩⟩ := hrel
           cases gk with
           | zero => exact absurd HA.out (by simp [spec_ProvenLower.l2])
           | succ k4 =>
            have H := HA.out
            clear HA
            simp only [spec_ProvenLower.l2] at H
            by_cases c13 : x10_4 < (l1.length : Int)
            ·rw [if_pos c13] at H
             have c13b0 : decide (x10_4 < (l1.length : Int)) = true := decide_eq_true c13
             clear c13
             by_cases c14 : 0 ≤ x8_3
             ·rw [if_pos c14] at H
              have c14b0 : decide (0 ≤ x8_3) = true := decide_eq_true c14
              clear c14
              by_cases c15 : x8_3 < (l0.length : Int)
              ·rw [if_pos c15] at H
               have c15b0 : decide (x8_3 < (l0.length : Int)) = true := decide_eq_true c15
               clear c15
               by_cases c16 : 0 ≤ x10_4
               ·rw [if_pos c16] at H
                have c16b0 : decide (0 ≤ x10_4) = true := decide_eq_true c16
                clear c16
                by_cases c17 : x10_4 < ((rd_L1 l0 x8_3).length : Int)
                ·rw [if_pos c17] at H
                 have c17b0 : decide (x10_4 < ((rd_L1 l0 x8_3).length : Int)) = true := decide_eq_true c17
                 clear c17
                 by_cases c18 : (rd (rd_L1 l0 x8_3) x10_4) ≥ 0
                 ·rw [if_pos c18] at H
                  have c18b0 : decide (0 ≤ (rd (rd_L1 l0 x8_3) x10_4)) = true := decide_eq_true c18
                  clear c18
                  by_cases c19 : x9_4 < 0
                  ·rw [if_pos c19] at H
                   have c19b0 : decide (x9_4 < 0) = true := decide_eq_true c19
                   clear c19
                   have H' := Aside0.mk H
                   clear H
                   have p203 : 0 ≤ (x8_3 : Int) := of_decide_eq_true (by first | (with_reducible assumption) | assumption)
                   have q203 : x8_3 < (l0.length : Int) := of_decide_eq_true (by first | (with_reducible assumption) | assumption)
                   obtain ⟨ad203, A203_0, c203_0, e203, hx203_0, hl203_0, hi203_0⟩ := at_L1 HR0.out x8_3 p203 q203
                   cases e203
                   have HR203_0 := Aside0.mk hi203_0
                   have HC203_0 := Aside0.mk hl203_0
                   clear hi203_0 hl203_0
                   replace p203 := eq_true p203
                   replace q203 := eq_true q203
                   have p204 : 0 ≤ (x10_4 : Int) := of_decide_eq_true (by first | (with_reducible assumption) | assumption)
                   have q204 : x10_4 < ((rd_L1 l0 x8_3).length : Int) := of_decide_eq_true (by first | (with_reducible assumption) | assumption)
                   obtain ⟨ad204, e204, hx204_0⟩ := Kd.at_int HR203_0.out x10_4 p204 q204
                   cases e204
                   replace p204 := eq_true p204
                   replace q204 := eq_true q204
                   have p205 : 0 ≤ (x10_4 : Int) := of_decide_eq_true (by first | (with_reducible assumption) | assumption)
                   have q205 : x10_4 < (l1.length : Int) := of_decide_eq_true (by first | (with_reducible assumption) | assumption)
                   obtain ⟨ad205, e205, hx205_0⟩ := Kd.at_int HR1.out x10_4 p205 q205
                   cases e205
                   replace p205 := eq_true p205
                   replace q205 := eq_true q205
                   have p206 : 0 ≤ (x8_3 : Int) := of_decide_eq_true (by first | (with_reducible assumption) | assumption)
                   have q206 : x8_3 < (l0.length : Int) := of_decide_eq_true (by first | (with_reducible assumption) | assumption)
                   obtain ⟨ad206, A206_0, c206_0, e206, hx206_0, hl206_0, hi206_0⟩ := at_L1 HR0.out x8_3 p206 q206
                   obtain rfl : ad203 = ad206 := (by injection e206)
                   have HR206_0 := Aside0.mk hi206_0
                   have HC206_0 := Aside0.mk hl206_0
                   clear hi206_0 hl206_0
                   replace p206 := eq_true p206
                   replace q206 := eq_true q206
                   have ea_ := Option.some.inj (hx203_0.symm.trans hx206_0)
                   injection ea_ with ea_ en_ ec_
                   subst ea_
                   subst ec_
                   clear en_
                   have p207 : 0 ≤ (x10_4 : Int) := of_decide_eq_true (by first | (with_reducible assumption) | assumption)
                   have q207 : x10_4 < ((rd_L1 l0 x8_3).length : Int) := of_decide_eq_true (by first | (with_reducible assumption) | assumption)
                   obtain ⟨ad207, e207, hx207_0⟩ := Kd.at_int HR206_0.out x10_4 p207 q207
                   cases e207
                   replace p207 := eq_true p207
                   replace q207 := eq_true q207
                   go_wp2
                   repeat (go_quiet (fail); try go_wp2)
                   go_roundg k4
                   case measure => have := HJ2.out; have := HK2.out; have := HK3.out; have := HK4.out; omega
                   case rel => exact ⟨(wrap64 ((rd (rd_L1 l0 x8_3) x10_4) + (rd l1 x10_4))), (wrap64 (x10_4 + 1)), (by first | rfl | (simp; done) | (simp [*]; done)), (by first | rfl | (simp; done) | (simp [*]; done)), H', ⟨by have := HJ2.out; have := HK2.out; have := HK3.out; have := HK4.out; omega⟩, by repeat (first | exact Drawn0.refl _ | apply Drawn0.step)⟩
                  ·rw [if_neg c19] at H
                   have c19b0 : decide (x9_4 < 0) = false := decide_eq_false c19
                   clear c19
                   by_cases c20 : (wrap64 ((rd (rd_L1 l0 x8_3) x10_4) + (rd l1 x10_4))) < x9_4
                   ·rw [if_pos c20] at H
                    have c20b0 : decide ((wrap64 ((rd (rd_L1 l0 x8_3) x10_4) + (rd l1 x10_4))) < x9_4) = true := decide_eq_true c20
                    clear c20
                    have H' := Aside0.mk H
                    clear H
                    have p203 : 0 ≤ (x8_3 : Int) := of_decide_eq_true (by first | (with_reducible assumption) | assumption)
                    have q203 : x8_3 < (l0.length : Int) := of_decide_eq_true (by first | (with_reducible assumption) | assumption)
                    obtain ⟨ad203, A203_0, c203_0, e203, hx203_0, hl203_0, hi203_0⟩ := at_L1 HR0.out x8_3 p203 q203
                    cases e203
                    have HR203_0 := Aside0.mk hi203_0
                    have HC203_0 := Aside0.mk hl203_0
                    clear hi203_0 hl203_0
                    replace p203 := eq_true p203
                    replace q203 := eq_true q203
                    have p204 : 0 ≤ (x10_4 : Int) := of_decide_eq_true (by first | (with_reducible assumption) | assumption)
                    have q204 : x10_4 < ((rd_L1 l0 x8_3).length : Int) := of_decide_eq_true (by first | (with_reducible assumption) | assumption)
                    obtain ⟨ad204, e204, hx204_0⟩ := Kd.at_int HR203_0.out x10_4 p204 q204
                    cases e204
                    replace p204 := eq_true p204
                    replace q204 := eq_true q204
                    have p205 : 0 ≤ (x10_4 : Int) := of_decide_eq_true (by first | (with_reducible assumption) | assumption)
                    have q205 : x10_4 < (l1.length : Int) := of_decide_eq_true (by first | (with_reducible assumption) | assumption)
                    obtain ⟨ad205, e205, hx205_0⟩ := Kd.at_int HR1.out x10_4 p205 q205
                    cases e205
                    replace p205 := eq_true p205
                    replace q205 := eq_true q205
                    have p206 : 0 ≤ (x8_3 : Int) := of_decide_eq_true (by first | (with_reducible assumption) | assumption)
                    have q206 : x8_3 < (l0.length : Int) := of_decide_eq_true (by first | (with_reducible assumption) | assumption)
                    obtain ⟨ad206, A206_0, c206_0, e206, hx206_0, hl206_0, hi206_0⟩ := at_L1 HR0.out x8_3 p206 q206
                    obtain rfl : ad203 = ad206 := (by injection e206)
                    have HR206_0 := Aside0.mk hi206_0
                    have HC206_0 := Aside0.mk hl206_0
                    clear hi206_0 hl206_0
                    replace p206 := eq_true p206
                    replace q206 := eq_true q206
                    have ea_ := Option.some.inj (hx203_0.symm.trans hx206_0)
                    injection ea_ with ea_ en_ ec_
                    subst ea_
                    subst ec_
                    clear en_
                    have p207 : 0 ≤ (x10_4 : Int) := of_decide_eq_true (by first | (with_reducible assumption) | assumption)
                    have q207 : x10_4 < ((rd_L1 l0 x8_3).length : Int) := of_decide_eq_true (by first | (with_reducible assumption) | assumption)
                    obtain ⟨ad207, e207, hx207_0⟩ := Kd.at_int HR206_0.out x10_4 p207 q207
                    cases e207
                    replace p207 := eq_true p207
                    replace q207 := eq_true q207
                    go_wp2
                    repeat (go_quiet (fail); try go_wp2)
                    go_roundg k4
                    case measure => have := HJ2.out; have := HK2.out; have := HK3.out; have := HK4.out; omega
                    case rel => exact ⟨(wrap64 ((rd (rd_L1 l0 x8_3) x10_4) + (rd l1 x10_4))), (wrap64 (x10_4 + 1)), (by first | rfl | (simp; done) | (simp [*]; done)), (by first | rfl | (simp; done) | (simp [*]; done)), H', ⟨by have := HJ2.out; have := HK2.out; have := HK3.out; have := HK4.out; omega⟩, by repeat (first | exact Drawn0.refl _ | apply Drawn0.step)⟩
                   ·rw [if_neg c20] at H
                    have c20b0 : decide ((wrap64 ((rd (rd_L1 l0 x8_3) x10_4) + (rd l1 x10_4))) < x9_4) = false := decide_eq_false c20
                    clear c20
                    have H' := Aside0.mk H
                    clear H
                    have p203 : 0 ≤ (x8_3 : Int) := of_decide_eq_true (by first | (with_reducible assumption) | assumption)
                    have q203 : x8_3 < (l0.length : Int) := of_decide_eq_true (by first | (with_reducible assumption) | assumption)
                    obtain ⟨ad203, A203_0, c203_0, e203, hx203_0, hl203_0, hi203_0⟩ := at_L1 HR0.out x8_3 p203 q203
                    cases e203
                    have HR203_0 := Aside0.mk hi203_0
                    have HC203_0 := Aside0.mk hl203_0
                    clear hi203_0 hl203_0
                    replace p203 := eq_true p203
                    replace q203 := eq_true q203
                    have p204 : 0 ≤ (x10_4 : Int) := of_decide_eq_true (by first | (with_reducible assumption) | assumption)
                    have q204 : x10_4 < ((rd_L1 l0 x8_3).length : Int) := of_decide_eq_true (by first | (with_reducible assumption) | assumption)
                    obtain ⟨ad204, e204, hx204_0⟩ := Kd.at_int HR203_0.out x10_4 p204 q204
                    cases e204
                    replace p204 := eq_true p204
                    replace q204 := eq_true q204
                    have p205 : 0 ≤ (x10_4 : Int) := of_decide_eq_true (by first | (with_reducible assumption) | assumption)
                    have q205 : x10_4 < (l1.length : Int) := of_decide_eq_true (by first | (with_reducible assumption) | assumption)
                    obtain ⟨ad205, e205, hx205_0⟩ := Kd.at_int HR1.out x10_4 p205 q205
                    cases e205
                    replace p205 := eq_true p205
                    replace q205 := eq_true q205
                    have p206 : 0 ≤ (x8_3 : Int) := of_decide_eq_true (by first | (with_reducible assumption) | assumption)
                    have q206 : x8_3 < (l0.length : Int) := of_decide_eq_true (by first | (with_reducible assumption) | assumption)
                    obtain ⟨ad206, A206_0, c206_0, e206, hx206_0, hl206_0, hi206_0⟩ := at_L1 HR0.out x8_3 p206 q206
                    obtain rfl : ad203 = ad206 := (by injection e206)
                    have HR206_0 := Aside0.mk hi206_0
                    have HC206_0 := Aside0.mk hl206_0
                    clear hi206_0 hl206_0
                    replace p206 := eq_true p206
                    replace q206 := eq_true q206
                    have ea_ := Option.some.inj (hx203_0.symm.trans hx206_0)
                    injection ea_ with ea_ en_ ec_
                    subst ea_
                    subst ec_
                    clear en_
                    have p207 : 0 ≤ (x10_4 : Int) := of_decide_eq_true (by first | (with_reducible assumption) | assumption)
                    have q207 : x10_4 < ((rd_L1 l0 x8_3).length : Int) := of_decide_eq_true (by first | (with_reducible assumption) | assumption)
                    obtain ⟨ad207, e207, hx207_0⟩ := Kd.at_int HR206_0.out x10_4 p207 q207
                    cases e207
                    replace p207 := eq_true p207
                    replace q207 := eq_true q207
                    go_wp2
                    repeat (go_quiet (fail); try go_wp2)
                    go_roundg k4
                    case measure => have := HJ2.out; have := HK2.out; have := HK3.out; have := HK4.out; omega
                    case rel => exact ⟨(x9_4), (wrap64 (x10_4 + 1)), (by first | rfl | (simp; done) | (simp [*]; done)), (by first | rfl | (simp; done) | (simp [*]; done)), H', ⟨by have := HJ2.out; have := HK2.out; have := HK3.out; have := HK4.out; omega⟩, by repeat (first | exact Drawn0.refl _ | apply Drawn0.step)⟩
                 ·rw [if_neg c18] at H
                  have c18b0 : decide (0 ≤ (rd (rd_L1 l0 x8_3) x10_4)) = false := decide_eq_false c18
                  clear c18
                  have H' := Aside0.mk H
                  clear H
                  have p203 : 0 ≤ (x8_3 : Int) := of_decide_eq_true (by first | (with_reducible assumption) | assumption)
                  have q203 : x8_3 < (l0.length : Int) := of_decide_eq_true (by first | (with_reducible assumption) | assumption)
                  obtain ⟨ad203, A203_0, c203_0, e203, hx203_0, hl203_0, hi203_0⟩ := at_L1 HR0.out x8_3 p203 q203
                  cases e203
                  have HR203_0 := Aside0.mk hi203_0
                  have HC203_0 := Aside0.mk hl203_0
                  clear hi203_0 hl203_0
                  replace p203 := eq_true p203
                  replace q203 := eq_true q203
                  have p204 : 0 ≤ (x10_4 : Int) := of_decide_eq_true (by first | (with_reducible assumption) | assumption)
                  have q204 : x10_4 < ((rd_L1 l0 x8_3).length : Int) := of_decide_eq_true (by first | (with_reducible assumption) | assumption)
                  obtain ⟨ad204, e204, hx204_0⟩ := Kd.at_int HR203_0.out x10_4 p204 q204
                  cases e204
                  replace p204 := eq_true p204
                  replace q204 := eq_true q204
                  have p205 : 0 ≤ (x10_4 : Int) := of_decide_eq_true (by first | (with_reducible assumption) | assumption)
                  have q205 : x10_4 < (l1.length : Int) := of_decide_eq_true (by first | (with_reducible assumption) | assumption)
                  obtain ⟨ad205, e205, hx205_0⟩ := Kd.at_int HR1.out x10_4 p205 q205
                  cases e205
                  replace p205 := eq_true p205
                  replace q205 := eq_true q205
                  have p206 : 0 ≤ (x8_3 : Int) := of_decide_eq_true (by first | (with_reducible assumption) | assumption)
                  have q206 : x8_3 < (l0.length : Int) := of_decide_eq_true (by first | (with_reducible assumption) | assumption)
                  obtain ⟨ad206, A206_0, c206_0, e206, hx206_0, hl206_0, hi206_0⟩ := at_L1 HR0.out x8_3 p206 q206
                  obtain rfl : ad203 = ad206 := (by injection e206)
                  have HR206_0 := Aside0.mk hi206_0
                  have HC206_0 := Aside0.mk hl206_0
                  clear hi206_0 hl206_0
                  replace p206 := eq_true p206
                  replace q206 := eq_true q206
                  have ea_ := Option.some.inj (hx203_0.symm.trans hx206_0)
                  injection ea_ with ea_ en_ ec_
                  subst ea_
                  subst ec_
                  clear en_
                  have p207 : 0 ≤ (x10_4 : Int) := of_decide_eq_true (by first | (with_reducible assumption) | assumption)
                  have q207 : x10_4 < ((rd_L1 l0 x8_3).length : Int) := of_decide_eq_true (by first | (with_reducible assumption) | assumption)
                  obtain ⟨ad207, e207, hx207_0⟩ := Kd.at_int HR206_0.out x10_4 p207 q207
                  cases e207
                  replace p207 := eq_true p207
                  replace q207 := eq_true q207
                  go_wp2
                  repeat (go_quiet (fail); try go_wp2)
                  go_roundg k4
                  case measure => have := HJ2.out; have := HK2.out; have := HK3.out; have := HK4.out; omega
                  case rel => exact ⟨(x9_4), (wrap64 (x10_4 + 1)), (by first | rfl | (simp; done) | (simp [*]; done)), (by first | rfl | (simp; done) | (simp [*]; done)), H', ⟨by have := HJ2.out; have := HK2.out; have := HK3.out; have := HK4.out; omega⟩, by repeat (first | exact Drawn0.refl _ | apply Drawn0.step)⟩
                ·rw [if_neg c17] at H
                 exact absurd H (by simp)
               ·rw [if_neg c16] at H
                exact absurd H (by simp)
              ·rw [if_neg c15] at H
               exact absurd H (by simp)
             ·rw [if_neg c14] at H
              exact absurd H (by simp)
            ·rw [if_neg c13] at H
             have c13b0 : decide (x10_4 < (l1.length : Int)) = false := decide_eq_false c13
             clear c13
             by_cases c21 : x9_4 < 0
             ·rw [if_pos c21] at H
              have c21b0 : decide (x9_4 < 0) = true := decide_eq_true c21
              clear c21
              simp only [Option.some.injEq, Prod.mk.injEq] at H
              obtain ⟨rfl, rfl⟩ := H
              go_wp2
              repeat (go_quiet (fail); try go_wp2)
              go_ret2
              exact ⟨by first | rfl | (simp; done) | (simp [*]; done), by repeat (first | exact Drawn0.refl _ | apply Drawn0.step)⟩
             ·rw [if_neg c21] at H
              have c21b0 : decide (x9_4 < 0) = false := decide_eq_false c21
              clear c21
              have H' := Aside0.mk H
              clear H
              go_wp2
              repeat (go_quiet (fail); try go_wp2)
              go_roundg k4
              case measure => have := HJ2.out; have := HK2.out; have := HK3.out; have := HK4.out; omega
              case rel => exact ⟨(wrap64 (x6_3 + x9_4)), (wrap64 (x8_3 + 1)), (by first | rfl | (simp; done) | (simp [*]; done)), (by first | rfl | (simp; done) | (simp [*]; done)), H', ⟨by have := HJ2.out; have := HK2.out; have := HK3.out; have := HK4.out; omega⟩, by repeat (first | exact Drawn0.refl _ | apply Drawn0.step)⟩
         ·rw [if_neg c12] at H
          have c12b0 : decide (x8_3 < (l0.length : Int)) = false := decide_eq_false c12
          clear c12
          simp only [Option.some.injEq, Prod.mk.injEq] at H
          obtain ⟨rfl, rfl⟩ := H
          go_wp2
          repeat (go_quiet (fail); try go_wp2)
          go_ret2
          exact ⟨by first | rfl | (simp; done) | (simp [*]; done), by repeat (first | exact Drawn0.refl _ | apply Drawn0.step)⟩

end Go.Proofs.Ytfgbohochpjkfaa.G

namespace Go.Proofs.Ytfgbohochpjkfaa.G
open Go.RowKit Go.Proofs.YtfgbohochpjkfaaW.PrintWords Go.Proofs.YtfgbohochpjkfaaW.PrintLast
set_option linter.unusedVariables false
set_option linter.unusedSimpArgs false
def priceOk (p : List Int) (j : Int) : Prop := 0 ≤ rd p j ∧ rd p j ≤ 9999
theorem cont56_eq (p : List Int) : slices_ContainsFunc_int_int_56.f p = some (chk (All (priceOk p) 0 (p.length : Int)) false true) := by
  unfold slices_ContainsFunc_int_int_56.f
  congr 1
  have hb : (bad56 p p.length 0 ≥ 0) ↔ ¬ All (priceOk p) 0 (p.length : Int) := by
    rw [bad56_iff]
    constructor
    · intro h a
      refine h fun j _ hj => ?_
      have := a (j : Int) (by omega) (by omega)
      unfold priceOk at this
      unfold good56; exact decide_eq_true this
    · intro h a
      refine h fun j h0 hj => ?_
      have := a j.toNat (by omega) (by omega)
      rw [show ((j.toNat : Nat) : Int) = j from by omega] at this
      unfold good56 at this
      have h' := of_decide_eq_true this
      exact h'
  by_cases ha : All (priceOk p) 0 (p.length : Int)
  · rw [chk_pos ha]; exact decide_eq_false (fun x => hb.1 x ha)
  · rw [chk_neg ha]; exact decide_eq_true (hb.2 ha)
def sumTo (p : List Int) : Nat → Int
  | 0 => 0
  | d + 1 => sumTo p d + rd p d
theorem sumTo_succ (p : List Int) (d : Nat) : sumTo p (d + 1) = sumTo p d + rd p d := rfl
theorem sum_bd (p : List Int) : ∀ d : Nat, (d : Int) ≤ (p.length : Int) → All (priceOk p) 0 (d : Int) → 0 ≤ sumTo p d ∧ sumTo p d ≤ 9999 * d := by
  intro d
  induction d with
  | zero => intro _ _; simp [sumTo]
  | succ d ih =>
    intro hd ha
    have := ih (by omega) (fun j a b => ha j a (by omega))
    have c := ha (d : Int) (by omega) (by omega)
    unfold priceOk at c
    rw [sumTo_succ]
    omega
/-- The lowest reduced cost of a row's first jobs, or -1. -/
def lowTo (row p : List Int) : Nat → Int
  | 0 => -1
  | d + 1 => if rd row d ≥ 0 then (if lowTo row p d < 0 then rd row d + rd p d else (if rd row d + rd p d < lowTo row p d then rd row d + rd p d else lowTo row p d)) else lowTo row p d
theorem lowTo_succ (row p : List Int) (d : Nat) : lowTo row p (d + 1) = if rd row d ≥ 0 then (if lowTo row p d < 0 then rd row d + rd p d else (if rd row d + rd p d < lowTo row p d then rd row d + rd p d else lowTo row p d)) else lowTo row p d := rfl
theorem low_bd (row p : List Int) : ∀ d : Nat, All (okC row) 0 (d : Int) → All (priceOk p) 0 (d : Int) → -1 ≤ lowTo row p d ∧ lowTo row p d ≤ 19998 := by
  intro d
  induction d with
  | zero => intro _ _; simp [lowTo]
  | succ d ih =>
    intro h1 h2
    have := ih (fun j a b => h1 j a (by omega)) (fun j a b => h2 j a (by omega))
    have c := h1 (d : Int) (by omega) (by omega)
    have e := h2 (d : Int) (by omega) (by omega)
    unfold okC at c
    unfold priceOk at e
    rw [lowTo_succ]
    split
    · split
      · omega
      · split <;> omega
    · omega
/-- The sum over the rows from i on. -/
def lowSum (t : List (List Int)) (p : List Int) : Nat → Int → Int → Int × Bool
  | 0, _, a => (a, true)
  | d + 1, i, a => if lowTo (rd_L1 t i) p p.length < 0 then (0, false) else lowSum t p d (i + 1) (a + lowTo (rd_L1 t i) p p.length)
theorem lowSum_succ (t : List (List Int)) (p : List Int) (d : Nat) (i a : Int) : lowSum t p (d + 1) i a = if lowTo (rd_L1 t i) p p.length < 0 then (0, false) else lowSum t p d (i + 1) (a + lowTo (rd_L1 t i) p p.length) := rfl
def Pr (t : List (List Int)) (p : List Int) : Prop := Costs t ∧ (p.length : Int) = ((rd_L1 t 0).length : Int) ∧ All (priceOk p) 0 (p.length : Int)
theorem impl_sum (p : List Int) (hl : (p.length : Int) ≤ 6) (ha : All (priceOk p) 0 (p.length : Int)) : Ev (fun k => impl_sumOf.f k p) (sumTo p p.length) := by
  unfold impl_sumOf.f
  refine Ev.up (fun k (s : Int) i => impl_sumOf.l0 k s p (p.length : Int) i) (fun _ _ => sumTo p p.length) (fun s i => 0 ≤ i ∧ s = sumTo p i.toNat) (p.length : Int) ?_ ?_ 0 0 ⟨by omega, rfl⟩ (by omega)
  · rintro s ⟨h0, rfl⟩
    refine Ev.step (fun k => by rw [impl_sumOf.l0]) ?_
    simp only [Int.lt_irrefl, if_false, Int.toNat_natCast]
    exact Ev.now _
  · rintro s i ⟨h0, rfl⟩ hlt ih
    have c := ha i h0 hlt
    have b := sum_bd p i.toNat (by omega) (fun j a b => ha j a (by omega))
    unfold priceOk at c
    refine Ev.step (fun k => by rw [impl_sumOf.l0]) ?_
    simp (disch := omega) only [if_pos, wrap64_id]
    refine ih _ ⟨by omega, ?_⟩
    rw [show (i + 1).toNat = i.toNat + 1 from by omega, sumTo_succ, show ((i.toNat : Nat) : Int) = i from by omega]
theorem impl_lows (t : List (List Int)) (p : List Int) (h : Pr t p) : ∀ (d : Nat) (i a : Int), 0 ≤ i → i + d = (t.length : Int) → -59994 ≤ a → a ≤ 19998 * i → Ev (fun k => impl_ProvenLower.l0 k p a t (t.length : Int) i) (lowSum t p d i a) := by
  obtain ⟨⟨h1, h2, h3⟩, hn, hp⟩ := h
  intro d
  induction d with
  | zero =>
    intro i a i0 hd a0 a1
    refine Ev.step (fun k => by rw [impl_ProvenLower.l0]) ?_
    simp (disch := omega) only [if_neg]
    exact Ev.now _
  | succ d ih =>
    intro i a i0 hd a0 a1
    have r := h3 i i0 (by omega)
    have rl := r.1
    have ro := r.2
    have lb := low_bd (rd_L1 t i) p p.length (fun j a b => ro j a (by omega)) hp
    refine Ev.step (fun k => by rw [impl_ProvenLower.l0]) ?_
    simp (disch := omega) only [if_pos]
    rw [lowSum_succ]
    refine Ev.up (fun k (s : Int) j => impl_ProvenLower.l1 k p a s t (t.length : Int) i (rd_L1 t i) ((rd_L1 t i).length : Int) j) (fun _ _ => if lowTo (rd_L1 t i) p p.length < 0 then (0, false) else lowSum t p d (i + 1) (a + lowTo (rd_L1 t i) p p.length)) (fun s j => 0 ≤ j ∧ s = lowTo (rd_L1 t i) p j.toNat) ((rd_L1 t i).length : Int) ?_ ?_ (-1) 0 ⟨by omega, rfl⟩ (by omega)
    · rintro s ⟨_, rfl⟩
      rw [show (((rd_L1 t i).length : Int)).toNat = p.length from by omega]
      refine Ev.step (fun k => by rw [impl_ProvenLower.l1]) ?_
      simp only [Int.lt_irrefl, if_false]
      refine Ev.ite (fun g => ?_) (fun g => ?_)
      · rw [if_pos g]; exact Ev.now _
      · rw [if_neg g, wrap64_id (by omega) (by omega), wrap64_id (by omega) (by omega)]
        exact ih (i + 1) _ (by omega) (by omega) (by omega) (by omega)
    · rintro s j ⟨j0, rfl⟩ jlt nx
      have c := ro j j0 jlt
      have e := hp j j0 (by omega)
      have b := low_bd (rd_L1 t i) p j.toNat (fun x a b => ro x a (by omega)) (fun x a b => hp x a (by omega))
      unfold okC at c
      unfold priceOk at e
      have su : lowTo (rd_L1 t i) p (j + 1).toNat = if rd (rd_L1 t i) j ≥ 0 then (if lowTo (rd_L1 t i) p j.toNat < 0 then rd (rd_L1 t i) j + rd p j else (if rd (rd_L1 t i) j + rd p j < lowTo (rd_L1 t i) p j.toNat then rd (rd_L1 t i) j + rd p j else lowTo (rd_L1 t i) p j.toNat)) else lowTo (rd_L1 t i) p j.toNat := by
        rw [show (j + 1).toNat = j.toNat + 1 from by omega, lowTo_succ, show ((j.toNat : Nat) : Int) = j from by omega]
      refine Ev.step (fun k => by rw [impl_ProvenLower.l1]) ?_
      simp (disch := omega) only [if_pos, wrap64_id]
      refine Ev.ite (fun g1 => ?_) (fun g1 => ?_)
      · refine Ev.ite (fun g2 => ?_) (fun g2 => ?_)
        · exact nx _ ⟨by omega, by rw [su, if_pos g1, if_pos g2]⟩
        · refine Ev.ite (fun g3 => ?_) (fun g3 => ?_)
          · exact nx _ ⟨by omega, by rw [su, if_pos g1, if_neg g2, if_pos g3]⟩
          · exact nx _ ⟨by omega, by rw [su, if_pos g1, if_neg g2, if_neg g3]⟩
      · exact nx _ ⟨by omega, by rw [su, if_neg g1]⟩
theorem spec_lows (t : List (List Int)) (p : List Int) (h : Pr t p) : ∀ (d : Nat) (i a : Int), 0 ≤ i → i + d = (t.length : Int) → -59994 ≤ a → a ≤ 19998 * i → Ev (fun k => spec_ProvenLower.l1 k t p a i) (lowSum t p d i a) := by
  obtain ⟨⟨h1, h2, h3⟩, hn, hp⟩ := h
  intro d
  induction d with
  | zero =>
    intro i a i0 hd a0 a1
    refine Ev.step (fun k => by rw [spec_ProvenLower.l1]) ?_
    simp (disch := omega) only [if_neg]
    exact Ev.now _
  | succ d ih =>
    intro i a i0 hd a0 a1
    have r := h3 i i0 (by omega)
    have rl := r.1
    have ro := r.2
    have lb := low_bd (rd_L1 t i) p p.length (fun j a b => ro j a (by omega)) hp
    refine Ev.step (fun k => by rw [spec_ProvenLower.l1]) ?_
    simp (disch := omega) only [if_pos]
    rw [lowSum_succ]
    refine Ev.up (fun k (s : Int) j => spec_ProvenLower.l2 k t p a i s j) (fun _ _ => if lowTo (rd_L1 t i) p p.length < 0 then (0, false) else lowSum t p d (i + 1) (a + lowTo (rd_L1 t i) p p.length)) (fun s j => 0 ≤ j ∧ s = lowTo (rd_L1 t i) p j.toNat) (p.length : Int) ?_ ?_ (-1) 0 ⟨by omega, rfl⟩ (by omega)
    · rintro s ⟨_, rfl⟩
      rw [Int.toNat_natCast]
      refine Ev.step (fun k => by rw [spec_ProvenLower.l2]) ?_
      simp only [Int.lt_irrefl, if_false]
      refine Ev.ite (fun g => ?_) (fun g => ?_)
      · rw [if_pos g]; exact Ev.now _
      · rw [if_neg g, wrap64_id (by omega) (by omega), wrap64_id (by omega) (by omega)]
        exact ih (i + 1) _ (by omega) (by omega) (by omega) (by omega)
    · rintro s j ⟨j0, rfl⟩ jlt nx
      have c := ro j j0 (by omega)
      have e := hp j j0 (by omega)
      have b := low_bd (rd_L1 t i) p j.toNat (fun x a b => ro x a (by omega)) (fun x a b => hp x a (by omega))
      unfold okC at c
      unfold priceOk at e
      have su : lowTo (rd_L1 t i) p (j + 1).toNat = if rd (rd_L1 t i) j ≥ 0 then (if lowTo (rd_L1 t i) p j.toNat < 0 then rd (rd_L1 t i) j + rd p j else (if rd (rd_L1 t i) j + rd p j < lowTo (rd_L1 t i) p j.toNat then rd (rd_L1 t i) j + rd p j else lowTo (rd_L1 t i) p j.toNat)) else lowTo (rd_L1 t i) p j.toNat := by
        rw [show (j + 1).toNat = j.toNat + 1 from by omega, lowTo_succ, show ((j.toNat : Nat) : Int) = j from by omega]
      refine Ev.step (fun k => by rw [spec_ProvenLower.l2]) ?_
      simp (disch := omega) only [if_pos, wrap64_id]
      refine Ev.ite (fun g1 => ?_) (fun g1 => ?_)
      · refine Ev.ite (fun g2 => ?_) (fun g2 => ?_)
        · exact nx _ ⟨by omega, by rw [su, if_pos g1, if_pos g2]⟩
        · refine Ev.ite (fun g3 => ?_) (fun g3 => ?_)
          · exact nx _ ⟨by omega, by rw [su, if_pos g1, if_neg g2, if_pos g3]⟩
          · exact nx _ ⟨by omega, by rw [su, if_pos g1, if_neg g2, if_neg g3]⟩
      · exact nx _ ⟨by omega, by rw [su, if_neg g1]⟩
noncomputable def prov (t : List (List Int)) (p : List Int) : Int × Bool := chk (Pr t p) (lowSum t p t.length 0 (-(sumTo p p.length))) (0, false)
theorem impl_Proven (t : List (List Int)) (hl : ∀ i, 0 ≤ i → i < (t.length : Int) → ((rd_L1 t i).length : Int) ≤ 1099511627776) (p : List Int) : Ev (fun k => impl_ProvenLower.f k t p) (prov t p) := by
  have no : ¬ Pr t p → Ev (fun k => impl_ProvenLower.j0 k t p true) (prov t p) := by
    intro h
    unfold prov
    rw [chk_neg h]
    refine Ev.step (fun k => by rw [impl_ProvenLower.j0]) ?_
    simp only [if_true]; exact Ev.now _
  unfold impl_ProvenLower.f
  refine Ev.bind (impl_costs t hl) ?_
  refine Ev.ite (fun hc => ?_) (fun hc => no (fun m => hc (chk_true.2 m.1)))
  have hc := chk_true.1 hc
  have h1 := hc.1
  have h2 := hc.2.1
  simp (disch := omega) only [if_pos]
  refine Ev.ite (fun hn => ?_) (fun hn => no (fun m => hn m.2.1))
  simp only [cont56_eq, Option.bind_some]
  by_cases ha : All (priceOk p) 0 (p.length : Int)
  · rw [chk_pos ha]
    refine Ev.step (fun k => by rw [impl_ProvenLower.j0]) ?_
    simp only [Bool.false_eq_true, if_false]
    refine Ev.bind (impl_sum p (by omega) ha) ?_
    have b := sum_bd p p.length (by omega) ha
    rw [wrap64_id (by omega) (by omega)]
    unfold prov
    rw [chk_pos ⟨hc, hn, ha⟩]
    exact impl_lows t p ⟨hc, hn, ha⟩ t.length 0 _ (by omega) (by omega) (by omega) (by omega)
  · rw [chk_neg ha]
    exact no (fun m => ha m.2.2)
theorem spec_Proven (t : List (List Int)) (hl : ∀ i, 0 ≤ i → i < (t.length : Int) → ((rd_L1 t i).length : Int) ≤ 1099511627776) (p : List Int) : Ev (fun k => spec_ProvenLower.f k t p) (prov t p) := by
  have no : ¬ Pr t p → Ev (fun k => spec_ProvenLower.j0 k t p true) (prov t p) := by
    intro h
    unfold prov
    rw [chk_neg h]
    refine Ev.step (fun k => by rw [spec_ProvenLower.j0]) ?_
    simp only [if_true]; exact Ev.now _
  unfold spec_ProvenLower.f
  refine Ev.bind (spec_costs t hl) ?_
  refine Ev.ite (fun hc => ?_) (fun hc => no (fun m => hc (chk_true.2 m.1)))
  have hc := chk_true.1 hc
  have h1 := hc.1
  have h2 := hc.2.1
  simp (disch := omega) only [if_pos]
  by_cases hn : (p.length : Int) = ((rd_L1 t 0).length : Int)
  · rw [show ((p.length : Int) != ((rd_L1 t 0).length : Int)) = false from by rw [hn]; exact bne_self_eq_false _]
    refine Ev.step (fun k => by rw [spec_ProvenLower.j0]) ?_
    simp only [Bool.false_eq_true, if_false]
    refine Ev.up (fun k (s : Int) i => spec_ProvenLower.l0 k t p s i) (fun _ _ => prov t p) (fun s i => 0 ≤ i ∧ All (priceOk p) 0 i ∧ s = -(sumTo p i.toNat)) (p.length : Int) ?_ ?_ 0 0 ⟨by omega, fun j a b => by omega, rfl⟩ (by omega)
    · rintro s ⟨_, ha, rfl⟩
      have b := sum_bd p p.length (by omega) ha
      refine Ev.step (fun k => by rw [spec_ProvenLower.l0]) ?_
      simp only [Int.lt_irrefl, if_false, Int.toNat_natCast]
      unfold prov
      rw [chk_pos ⟨hc, hn, ha⟩]
      exact spec_lows t p ⟨hc, hn, ha⟩ t.length 0 _ (by omega) (by omega) (by omega) (by omega)
    · rintro s i ⟨h0, ha, rfl⟩ hlt ih
      have b := sum_bd p i.toNat (by omega) (fun j x y => ha j x (by omega))
      refine Ev.step (fun k => by rw [spec_ProvenLower.l0]) ?_
      simp (disch := omega) only [if_pos, spec_l1In_eq, Option.bind_some, decide_eq_true_eq]
      refine Ev.ite (fun g => ?_) (fun g => ?_)
      · rw [wrap64_id (by omega) (by omega), wrap64_id (by omega) (by omega)]
        refine ih _ ⟨by omega, fun j x y => ?_, ?_⟩
        · by_cases e : j = i
          · rw [e]; exact g
          · exact ha j x (by omega)
        · rw [show (i + 1).toNat = i.toNat + 1 from by omega, sumTo_succ, show ((i.toNat : Nat) : Int) = i from by omega]
          omega
      · unfold prov
        rw [chk_neg (fun m : Pr t p => g (m.2.2 i h0 hlt))]
        exact Ev.now _
  · rw [show ((p.length : Int) != ((rd_L1 t 0).length : Int)) = true from by rw [bne_iff_ne]; exact hn]
    exact no (fun m => hn m.2.1)
end Go.Proofs.Ytfgbohochpjkfaa.G

/- Assignments with and without a vehicle, the cheapest ones, and bounds below them: plain facts. -/
namespace Go.Proofs.Ytfgbohochpjkfaa.G
open Go.RowKit Go.Proofs.YtfgbohochpjkfaaW.PrintWords Go.Proofs.YtfgbohochpjkfaaW.PrintLast
set_option linter.unusedVariables false
set_option linter.unusedSimpArgs false
theorem rd_get (l : List Int) (i : Nat) (h : i < l.length) : rd l (i : Int) = l[i] := by
  unfold rd
  rw [Int.toNat_natCast, List.getD_eq_getElem?_getD, List.getElem?_eq_getElem h]
  rfl
theorem has_iff (l : List Int) (x : Int) : Has l x ↔ x ∈ l := by
  constructor
  · intro h
    apply Classical.byContradiction
    intro hn
    refine h (fun j j0 j1 e => hn ?_)
    rw [← e, show j = ((j.toNat : Nat) : Int) by omega, rd_get l j.toNat (by omega)]
    exact List.getElem_mem _
  · intro h a
    obtain ⟨i, hi, e⟩ := List.mem_iff_getElem.1 h
    exact a (i : Int) (by omega) (by omega) (by rw [rd_get l i hi, e])
theorem preA_begin {t : List (List Int)} {a b : List Int} (h : PreA t (a ++ b)) : PreA t a := fun i i0 i1 => by
  have h1 := h i i0 (by rw [List.length_append]; omega)
  unfold jobOk at h1 ⊢
  rw [rd_left a b i i0 i1, List.take_append_of_le_length (by omega)] at h1
  exact h1
theorem asgs_mem {t : List (List Int)} (hc : Costs t) : ∀ (d : Nat) (jobs q : List Int), q.length = d → jobs.length + d = t.length → PreA t (jobs ++ q) → jobs ++ q ∈ asgs t d jobs := by
  intro d
  induction d with
  | zero =>
    intro jobs q hq _ _
    obtain rfl := List.length_eq_zero_iff.1 hq
    simp [asgs]
  | succ d ih =>
    intro jobs q hq hd hp
    cases q with
    | nil => simp at hq
    | cons x q =>
      have hp2 : PreA t ((jobs ++ [x]) ++ q) := by rw [List.append_assoc]; exact hp
      have hp1 := preA_begin hp2
      have hx := (hp1 (jobs.length : Int) (by omega) (by rw [List.length_append, List.length_singleton]; omega)).1
      rw [rd_last] at hx
      have hrow := (hc.2.2 (jobs.length : Int) (by omega) (by omega)).1
      have hk := (preA_snoc hc (preA_begin hp1) (by omega) x hx.1 (by omega)).1 hp1
      have h1 := ih (jobs ++ [x]) q (by simpa using hq) (by rw [List.length_append, List.length_singleton]; omega) hp2
      have go : ∀ (r : Nat) (k : Int), k ≤ x → x < k + r → jobs ++ x :: q ∈ asgIn (asgs t d) (rd_L1 t (jobs.length : Int)) jobs r k := by
        intro r
        induction r with
        | zero => intro k a b; omega
        | succ r ihr =>
          intro k a b
          rw [asgIn]
          by_cases e : k = x
          · subst e
            refine List.mem_append_left _ ?_
            rw [chk_pos hk]
            rw [List.append_assoc] at h1
            exact h1
          · exact List.mem_append_right _ (ihr (k + 1) (by omega) (by omega))
      exact go _ 0 hx.1 (by omega)
theorem asgs_iff {t : List (List Int)} (hc : Costs t) (l : List Int) : l ∈ asgs t t.length [] ↔ Asg t l := by
  constructor
  · exact asgs_asg hc t.length [] (by simp) (preA_nil t) l
  · intro h
    have := asgs_mem hc t.length [] l (by have := h.2.1; omega) (by simp) h.2.2
    rwa [List.nil_append] at this
theorem least_some (num : List Int → Int) : ∀ (ls : List (List Int)) (b : List Int), ∃ b', ls.foldl (leastStep num) (some (b, num b)) = some (b', num b') ∧ (b' = b ∨ b' ∈ ls) ∧ num b' ≤ num b ∧ ∀ l ∈ ls, num b' ≤ num l
  | [], b => ⟨b, rfl, .inl rfl, Int.le_refl _, fun l h => by cases h⟩
  | l :: ls, b => by
    rw [List.foldl_cons]
    by_cases h : num l < num b
    · rw [show leastStep num (some (b, num b)) l = some (l, num l) from if_pos h]
      obtain ⟨b', e, h1, h2, h3⟩ := least_some num ls l
      refine ⟨b', e, .inr ?_, by omega, fun x hx => ?_⟩
      · rcases h1 with rfl | h1
        · exact List.mem_cons_self
        · exact List.mem_cons_of_mem _ h1
      · rcases List.mem_cons.1 hx with rfl | hx
        · exact h2
        · exact h3 x hx
    · rw [show leastStep num (some (b, num b)) l = some (b, num b) from if_neg h]
      obtain ⟨b', e, h1, h2, h3⟩ := least_some num ls b
      refine ⟨b', e, ?_, h2, fun x hx => ?_⟩
      · rcases h1 with rfl | h1
        · exact .inl rfl
        · exact .inr (List.mem_cons_of_mem _ h1)
      · rcases List.mem_cons.1 hx with rfl | hx
        · omega
        · exact h3 x hx
theorem least_all (num : List Int → Int) (ls : List (List Int)) : (ls = [] ∧ ls.foldl (leastStep num) none = none) ∨ ∃ b ∈ ls, ls.foldl (leastStep num) none = some (b, num b) ∧ ∀ l ∈ ls, num b ≤ num l := by
  cases ls with
  | nil => exact .inl ⟨rfl, rfl⟩
  | cons l ls =>
    right
    obtain ⟨b', e, h1, h2, h3⟩ := least_some num ls l
    refine ⟨b', ?_, e, fun x hx => ?_⟩
    · rcases h1 with rfl | h1
      · exact List.mem_cons_self
      · exact List.mem_cons_of_mem _ h1
    · rcases List.mem_cons.1 hx with rfl | hx
      · exact h2
      · exact h3 x hx
/-- The number of a vehicle in the table that still has vehicle v. -/
def sh (v k : Int) : Int := if k < v then k else k + 1
theorem sh_inj {v a b : Int} (h : sh v a = sh v b) : a = b := by unfold sh at h; split at h <;> split at h <;> omega
theorem rd_cutRow (v : Nat) (r : List Int) (hv : v < r.length) (k : Int) (k0 : 0 ≤ k) : rd (cutRow v r) k = rd r (sh v k) := by
  unfold cutRow sh
  by_cases h : k < (v : Int)
  · rw [if_pos h, rd_left _ _ k k0 (by rw [List.length_take]; omega)]
    unfold rd
    rw [List.getD_eq_getElem?_getD, List.getD_eq_getElem?_getD, List.getElem?_take, if_pos (by omega)]
  · rw [if_neg h]
    unfold rd
    rw [List.getD_eq_getElem?_getD, List.getD_eq_getElem?_getD, List.getElem?_append_right (by rw [List.length_take]; omega), List.getElem?_drop, List.length_take]
    congr 2
    omega
theorem has_sh (v : Int) (l : List Int) (x : Int) : Has (l.map (sh v)) (sh v x) ↔ Has l x := by
  rw [has_iff, has_iff, List.mem_map]
  constructor
  · rintro ⟨a, ha, e⟩; rw [← sh_inj e]; exact ha
  · intro h; exact ⟨x, h, rfl⟩
section
variable {t : List (List Int)} {v : Int}
theorem less_row (hc : Costs t) (v0 : 0 ≤ v) (v1 : v ≤ ((rd_L1 t 0).length : Int) - 1) (i : Int) (i0 : 0 ≤ i) (i1 : i < (t.length : Int)) (k : Int) (k0 : 0 ≤ k) : rd (rd_L1 (cutAll t v) i) k = rd (rd_L1 t i) (sh v k) := by
  have hr := (hc.2.2 i i0 i1).1
  rw [cutAll_rd t v i i0 i1, rd_cutRow v.toNat _ (by omega) k k0, show ((v.toNat : Nat) : Int) = v by omega]
theorem less_len (hc : Costs t) (v0 : 0 ≤ v) (v1 : v ≤ ((rd_L1 t 0).length : Int) - 1) (i : Int) (i0 : 0 ≤ i) (i1 : i < (t.length : Int)) : (rd_L1 (cutAll t v) i).length + 1 = (rd_L1 t i).length := by
  have hr := (hc.2.2 i i0 i1).1
  rw [cutAll_rd t v i i0 i1, cutRow_len _ _ (by omega)]
  omega
theorem count_less (hc : Costs t) (v0 : 0 ≤ v) (v1 : v ≤ ((rd_L1 t 0).length : Int) - 1) : ∀ (d : Nat) (jobs : List Int), jobs.length + d = t.length → (asgs (cutAll t v) d jobs).length ≤ (asgs t d (jobs.map (sh v))).length := by
  intro d
  induction d with
  | zero => intro jobs _; simp [asgs]
  | succ d ih =>
    intro jobs hd
    have hll := less_len hc v0 v1 (jobs.length : Int) (by omega) (by omega)
    have hr := (hc.2.2 (jobs.length : Int) (by omega) (by omega)).1
    rw [asgs, asgs, List.length_map]
    have hrd := less_row hc v0 v1 (jobs.length : Int) (by omega) (by omega)
    generalize rd_L1 (cutAll t v) (jobs.length : Int) = row' at hll hrd ⊢
    generalize rd_L1 t (jobs.length : Int) = row at hll hrd hr ⊢
    have head : ∀ k : Int, 0 ≤ k → (chk (0 ≤ rd row' k ∧ ¬ Has jobs k) (asgs (cutAll t v) d (jobs ++ [k])) []).length ≤ (chk (0 ≤ rd row (sh v k) ∧ ¬ Has (jobs.map (sh v)) (sh v k)) (asgs t d (jobs.map (sh v) ++ [sh v k])) []).length := by
      intro k k0
      by_cases h : 0 ≤ rd row' k ∧ ¬ Has jobs k
      · rw [chk_pos h, chk_pos ⟨by rw [← hrd k k0]; exact h.1, fun m => h.2 ((has_sh v jobs k).1 m)⟩]
        have := ih (jobs ++ [k]) (by rw [List.length_append, List.length_singleton]; omega)
        rw [List.map_append] at this
        exact this
      · rw [chk_neg h]; simp
    have up : ∀ (r : Nat) (k : Int), v ≤ k → (asgIn (asgs (cutAll t v) d) row' jobs r k).length ≤ (asgIn (asgs t d) row (jobs.map (sh v)) r (k + 1)).length := by
      intro r
      induction r with
      | zero => intro k _; simp [asgIn]
      | succ r ihr =>
        intro k hk
        have h1 := head k (by omega)
        have h2 := ihr (k + 1) (by omega)
        rw [show sh v k = k + 1 from if_neg (by omega)] at h1
        rw [asgIn, asgIn, List.length_append, List.length_append]
        omega
    have main : ∀ (r : Nat) (k : Int), 0 ≤ k → k ≤ v → v ≤ k + r → (asgIn (asgs (cutAll t v) d) row' jobs r k).length ≤ (asgIn (asgs t d) row (jobs.map (sh v)) (r + 1) k).length := by
      intro r
      induction r with
      | zero => intro k _ _ _; simp [asgIn]
      | succ r ihr =>
        intro k k0 hk hv
        by_cases e : k = v
        · have h1 := up (r + 1) k (by omega)
          have e2 : asgIn (asgs t d) row (jobs.map (sh v)) (r + 1 + 1) k = chk (0 ≤ rd row k ∧ ¬ Has (jobs.map (sh v)) k) (asgs t d (jobs.map (sh v) ++ [k])) [] ++ asgIn (asgs t d) row (jobs.map (sh v)) (r + 1) (k + 1) := rfl
          rw [e2, List.length_append]
          omega
        · have h1 := head k k0
          have h2 := ihr (k + 1) (by omega) (by omega) (by omega)
          rw [show sh v k = k from if_pos (by omega)] at h1
          have e2 : asgIn (asgs t d) row (jobs.map (sh v)) (r + 1 + 1) k = chk (0 ≤ rd row k ∧ ¬ Has (jobs.map (sh v)) k) (asgs t d (jobs.map (sh v) ++ [k])) [] ++ asgIn (asgs t d) row (jobs.map (sh v)) (r + 1) (k + 1) := rfl
          have e3 : asgIn (asgs (cutAll t v) d) row' jobs (r + 1) k = chk (0 ≤ rd row' k ∧ ¬ Has jobs k) (asgs (cutAll t v) d (jobs ++ [k])) [] ++ asgIn (asgs (cutAll t v) d) row' jobs r (k + 1) := rfl
          rw [e2, e3, List.length_append, List.length_append]
          omega
    have m := main row'.length 0 (Int.le_refl _) v0 (by omega)
    rw [hll] at m
    exact m
theorem rd_mapsh (jobs : List Int) (i : Int) (i0 : 0 ≤ i) (i1 : i < (jobs.length : Int)) : rd (jobs.map (sh v)) i = sh v (rd jobs i) := by
  unfold rd
  rw [List.getD_eq_getElem?_getD, List.getD_eq_getElem?_getD, List.getElem?_map, List.getElem?_eq_getElem (by omega)]
  rfl
theorem less_asg (hc : Costs t) (v0 : 0 ≤ v) (v1 : v ≤ ((rd_L1 t 0).length : Int) - 1) {jobs : List Int} (h : Asg (cutAll t v) jobs) : Asg t (jobs.map (sh v)) := by
  obtain ⟨h1, h2, h3⟩ := h
  have hn := cutAll_len t v
  have h11 := h1.1
  refine ⟨hc, by rw [List.length_map]; omega, fun i i0 i1 => ?_⟩
  rw [List.length_map] at i1
  have j := h3 i i0 i1
  have hl0 := less_len hc v0 v1 0 (by omega) (by omega)
  unfold jobOk at j ⊢
  rw [rd_mapsh jobs i i0 i1, ← List.map_take, has_sh, ← less_row hc v0 v1 i i0 (by omega) _ j.1.1]
  refine ⟨?_, j.2.1, j.2.2⟩
  have := j.1
  unfold sh
  split <;> omega
theorem less_cost (hc : Costs t) (v0 : 0 ≤ v) (v1 : v ≤ ((rd_L1 t 0).length : Int) - 1) {jobs : List Int} (h : Asg (cutAll t v) jobs) : ∀ d : Nat, d ≤ jobs.length → costTo (cutAll t v) jobs d = costTo t (jobs.map (sh v)) d
  | 0, _ => rfl
  | d + 1, hd => by
    have hn := cutAll_len t v
    have j := (h.2.2 (d : Int) (by omega) (by omega)).1
    have h2 := h.2.1
    rw [costTo_succ, costTo_succ, less_cost hc v0 v1 h d (by omega)]
    have e : cell (cutAll t v) jobs (d : Int) = cell t (jobs.map (sh v)) (d : Int) := by
      unfold cell
      rw [rd_mapsh jobs (d : Int) (by omega) (by omega), less_row hc v0 v1 (d : Int) (by omega) (by omega) _ j.1]
    rw [e]
end
/-! A bound below every assignment. -/
def sumI : List Int → Int
  | [] => 0
  | x :: xs => x + sumI xs
theorem sumI_append : ∀ a b : List Int, sumI (a ++ b) = sumI a + sumI b
  | [], b => by simp [sumI]
  | x :: a, b => by rw [List.cons_append, sumI, sumI, sumI_append a b]; omega
theorem sumI_perm {a b : List Int} (h : a.Perm b) : sumI a = sumI b := by
  induction h with
  | nil => rfl
  | cons x _ ih => rw [sumI, sumI, ih]
  | swap x y l => simp only [sumI]; omega
  | trans _ _ i1 i2 => exact i1.trans i2
theorem some_sum (p : List Int) : ∀ (n : Nat) (o : List Int), All (priceOk p) 0 (n : Int) → o.Nodup → (∀ y ∈ o, 0 ≤ y ∧ y < (n : Int)) → sumI (o.map (rd p)) ≤ sumTo p n
  | 0, o, _, _, h => by
    cases o with
    | nil => simp [sumI, sumTo]
    | cons y o => have := h y List.mem_cons_self; omega
  | n + 1, o, hp, hd, h => by
    have hn := hp (n : Int) (by omega) (by omega)
    unfold priceOk at hn
    have hp' : All (priceOk p) 0 (n : Int) := fun j a b => hp j a (by omega)
    rw [sumTo_succ]
    by_cases m : (n : Int) ∈ o
    · have h1 := some_sum p n (o.erase (n : Int)) hp' (hd.erase _) (fun y hy => by
        have h2 := h y (List.mem_of_mem_erase hy)
        have h3 : y ≠ (n : Int) := fun e => by rw [e] at hy; exact (List.Nodup.mem_erase_iff hd).1 hy |>.1 rfl
        omega)
      rw [sumI_perm ((List.perm_cons_erase m).map (rd p)), List.map_cons, sumI]
      omega
    · have h1 := some_sum p n o hp' hd (fun y hy => by
        have h2 := h y hy
        have h3 : y ≠ (n : Int) := fun e => m (e ▸ hy)
        omega)
      omega
/-- The prices of the first d jobs. -/
def prTo (p l : List Int) : Nat → Int
  | 0 => 0
  | d + 1 => prTo p l d + rd p (rd l (d : Int))
theorem pr_take (p l : List Int) : ∀ d : Nat, d ≤ l.length → prTo p l d = sumI ((l.take d).map (rd p))
  | 0, _ => by simp [prTo, sumI]
  | d + 1, h => by
    have e : l.take (d + 1) = l.take d ++ [l[d]'(by omega)] := by rw [List.take_add_one, List.getElem?_eq_getElem (by omega)]; rfl
    rw [prTo, pr_take p l d (by omega), e, List.map_append, sumI_append, rd_get l d (by omega)]
    simp [sumI]
theorem asg_nodup {t : List (List Int)} {l : List Int} (h : Asg t l) : l.Nodup := by
  rw [List.nodup_iff_pairwise_ne, List.pairwise_iff_getElem]
  intro i j hi hj hij e
  have h1 := (h.2.2 (j : Int) (by omega) (by omega)).2.2
  rw [Int.toNat_natCast, has_iff, rd_get l j hj] at h1
  refine h1 ?_
  rw [← e, List.mem_iff_getElem]
  exact ⟨i, by rw [List.length_take]; omega, by rw [List.getElem_take]⟩
theorem low_le (row p : List Int) (k : Int) (k0 : 0 ≤ k) (hk : 0 ≤ rd row k) : ∀ d : Nat, k < (d : Int) → All (priceOk p) 0 (d : Int) → 0 ≤ lowTo row p d ∧ lowTo row p d ≤ rd row k + rd p k
  | 0, h, _ => by omega
  | d + 1, h, hp => by
    have hd := hp (d : Int) (by omega) (by omega)
    unfold priceOk at hd
    rw [lowTo_succ]
    by_cases e : k = (d : Int)
    · subst e
      rw [if_pos (show rd row (d : Int) ≥ 0 from hk)]
      split
      · omega
      · split <;> omega
    · have ih := low_le row p k k0 hk d (by omega) (fun j a b => hp j a (by omega))
      split
      · split
        · omega
        · split <;> omega
      · exact ih
theorem lowSum_le {t : List (List Int)} {p l : List Int} (hp : Pr t p) (hl : Asg t l) : ∀ (d i : Nat) (a s : Int), i + d = t.length → lowSum t p d (i : Int) a = (s, true) → s + (costTo t l i).1 + prTo p l i ≤ a + (costTo t l l.length).1 + prTo p l l.length
  | 0, i, a, s, hi, h => by
    have h2 := hl.2.1
    have e : a = s := congrArg Prod.fst h
    rw [show i = l.length by omega, e]
    omega
  | d + 1, i, a, s, hi, h => by
    have h2 := hl.2.1
    rw [lowSum_succ] at h
    have hr := (hp.1.2.2 (i : Int) (by omega) (by omega)).1
    have hpl := hp.2.1
    have c := cell_bd hl (i : Int) (by omega) (by omega)
    have hj := hl.2.2 (i : Int) (by omega) (by omega)
    have lo := low_le (rd_L1 t (i : Int)) p (rd l (i : Int)) c.1.1 (show 0 ≤ rd (rd_L1 t (i : Int)) (rd l (i : Int)) from c.2.1) p.length (by omega) hp.2.2
    rw [if_neg (by omega)] at h
    have ih := lowSum_le hp hl d (i + 1) _ s (by omega) (by rw [show (((i + 1 : Nat)) : Int) = (i : Int) + 1 by omega]; exact h)
    rw [costTo_succ, prTo] at ih
    have e : cell t l (i : Int) = rd (rd_L1 t (i : Int)) (rd l (i : Int)) := rfl
    rw [e] at ih
    dsimp only at ih
    omega
/-- A proven bound lies below every assignment. -/
theorem bound_le {t : List (List Int)} {p l : List Int} (hp : Pr t p) (hl : Asg t l) {s : Int} (h : lowSum t p t.length 0 (-(sumTo p p.length)) = (s, true)) : s ≤ sumN t l := by
  have h1 := lowSum_le hp hl t.length 0 _ s (by omega) h
  have h2 := pr_take p l l.length (Nat.le_refl _)
  rw [List.take_length] at h2
  have h3 := some_sum p p.length l hp.2.2 (asg_nodup hl) (fun y hy => by
    obtain ⟨i, hi, e⟩ := List.mem_iff_getElem.1 hy
    have hj := (hl.2.2 (i : Int) (by omega) (by omega)).1
    rw [rd_get l i hi, e] at hj
    have := hp.2.1
    omega)
  unfold sumN
  have e0 : (costTo t l 0).1 = 0 := rfl
  have e1 : prTo p l 0 = 0 := rfl
  omega
/-! Greedy assignments are assignments. -/
theorem gBest_ok (row out : List Int) : ∀ k : Nat, 0 ≤ gBest row out k → 0 ≤ rd row (gBest row out k) ∧ ¬ Has out (gBest row out k)
  | 0, h => absurd (show (0 : Int) ≤ -1 from h) (by decide)
  | k + 1, h => by
    unfold gBest at h ⊢
    by_cases g : 0 ≤ rd row (k : Int) ∧ ¬ Has out (k : Int) ∧ (gBest row out k < 0 ∨ rd row (k : Int) < rd row (gBest row out k))
    · rw [chk_pos g]; exact ⟨g.1, g.2.1⟩
    · rw [chk_neg g] at h ⊢; exact gBest_ok row out k h
theorem gFrom_asg {t : List (List Int)} (hc : Costs t) : ∀ (d i : Nat) (out r : List Int), i + d = t.length → out.length = i → PreA t out → gFrom t d i out = (r, true) → Asg t r
  | 0, i, out, r, hi, ho, hp, h => by
    obtain rfl : out = r := congrArg Prod.fst h
    exact ⟨hc, by omega, hp⟩
  | d + 1, i, out, r, hi, ho, hp, h => by
    rw [gFrom] at h
    by_cases g : gBest (rd_L1 t (i : Int)) out (rd_L1 t (i : Int)).length < 0
    · rw [chk_pos g] at h
      exact absurd (congrArg Prod.snd h) Bool.false_ne_true
    · rw [chk_neg g] at h
      have hr := (hc.2.2 (i : Int) (by omega) (by omega)).1
      have hb := gBest_bd (rd_L1 t (i : Int)) out (rd_L1 t (i : Int)).length
      have hk := gBest_ok (rd_L1 t (i : Int)) out (rd_L1 t (i : Int)).length (by omega)
      refine gFrom_asg hc d (i + 1) _ r (by omega) (by rw [List.length_append, List.length_singleton]; omega) ?_ h
      exact (preA_snoc hc hp (by omega) _ (by omega) (by omega)).2 (by rw [ho]; exact hk)
end Go.Proofs.Ytfgbohochpjkfaa.G

-- Written by wip/tools/gen.py out of the translation (the kit's printer, one namespace a seat). Lean checks it.
namespace Go.Proofs.Ytfgbohochpjkfaa.G
open Go.RowKit Go.Proofs.YtfgbohochpjkfaaW.PrintWords Go.Proofs.YtfgbohochpjkfaaW.PrintLast Go.Proofs.YtfgbohochpjkfaaW.PrintMore
attribute [local go_sem] max2_int min2_int max_two min_two max_three min_three max_four min_four   -- for this text's walks alone
set_option linter.unusedVariables false
set_option linter.unusedSimpArgs false

/-! ### laws_rBig: function 41 -/
def laws_rBig.f (l0 : List Int) : Option (Bool) := some (decide ((l0.length : Int) > 65536))
set_option maxHeartbeats 8000000 in
set_option maxRecDepth 100000 in
theorem laws_rBig.calls (A0 : Option Addr) (c0 : Nat) (l0 : List Int) (r : Bool) (w : World) (hr0 : Kd.C (Kd.int .u8) w A0 l0.length l0) (hc0 : l0.length ≤ c0) (h : laws_rBig.f l0 = some r) :
  Calls Try.prog 41 #[.slice A0 l0.length c0] w fun e w' => e = .returned (.bool r) ∧ Drawn0 w w' := by
 have HR0 := Aside0.mk hr0
 have HC0 := Aside0.mk hc0
 clear hr0 hc0
 have H : (some (decide ((l0.length : Int) > 65536))) = some r := h
 clear h
 obtain rfl := Option.some.inj H
 go_enter Try.func41, Try.ntmps41
 go_wp2
 go_ret
 exact ⟨by first | rfl | (simp; done) | (simp [*]; done), by repeat (first | exact Drawn0.refl _ | apply Drawn0.step)⟩

end Go.Proofs.Ytfgbohochpjkfaa.G

-- Written by wip/tools/gen.py out of the translation (the kit's printer, one namespace a seat). Lean checks it.
namespace Go.Proofs.Ytfgbohochpjkfaa.G
open Go.RowKit Go.Proofs.YtfgbohochpjkfaaW.PrintWords Go.Proofs.YtfgbohochpjkfaaW.PrintLast Go.Proofs.YtfgbohochpjkfaaW.PrintMore
attribute [local go_sem] max2_int min2_int max_two min_two max_three min_three max_four min_four   -- for this text's walks alone
set_option linter.unusedVariables false
set_option linter.unusedSimpArgs false

/-! ### laws_rInts: function 46 -/
def laws_rInts.l0 : Nat → List Int → List Int → Int → Option (Bool)
 | 0, _, _, _ => none
 | k + 1, x0, x1, x5 => if x5 < (x0.length : Int) then (if 0 ≤ x5 then (if x5 < (x1.length : Int) then (if (rd x0 x5) = (rd x1 x5) then (laws_rInts.l0 k x0 x1 (wrap64 (x5 + 1))) else (some false)) else (none)) else (none)) else (some true)
def laws_rInts.f (k : Nat) (l0 : List Int) (l1 : List Int) : Option (Bool) := if (l0.length : Int) = (l1.length : Int) then (laws_rInts.l0 k l0 l1 0) else (some false)
set_option maxHeartbeats 8000000 in
set_option maxRecDepth 100000 in
theorem laws_rInts.calls (k : Nat) (A0 : Option Addr) (c0 : Nat) (l0 : List Int) (A1 : Option Addr) (c1 : Nat) (l1 : List Int) (r : Bool) (w : World) (hr0 : Kd.C (Kd.int .i64) w A0 l0.length l0) (hc0 : l0.length ≤ c0) (hr1 : Kd.C (Kd.int .i64) w A1 l1.length l1) (hc1 : l1.length ≤ c1) (h : laws_rInts.f k l0 l1 = some r) :
  Calls Try.prog 46 #[.slice A0 l0.length c0, .slice A1 l1.length c1] w fun e w' => e = .returned (.bool r) ∧ Drawn0 w w' := by
 have HR0 := Aside0.mk hr0
 have HC0 := Aside0.mk hc0
 clear hr0 hc0
 have HR1 := Aside0.mk hr1
 have HC1 := Aside0.mk hc1
 clear hr1 hc1
 have H : (if (l0.length : Int) = (l1.length : Int) then (laws_rInts.l0 k l0 l1 0) else (some false)) = some r := h
 clear h
 by_cases c3 : (l0.length : Int) = (l1.length : Int)
 ·rw [if_pos c3] at H
  have c3b0 : ((l0.length : Int) == (l1.length : Int)) = true := beq_iff_eq.mpr c3
  have c3b1 : ((l0.length : Int) != (l1.length : Int)) = false := bne_eq_false_iff_eq.mpr c3
  have c3b2 : (l0.length == l1.length) = true := by first | simpa using c3 | (simp at c3 ⊢; omega)
  clear c3
  have H' := Aside0.mk H
  clear H
  go_enter Try.func46, Try.ntmps46
  go_wp2
  repeat (go_quiet (fail); try go_wp2)
  go_loopg [5] k (fun kq v5 w' => ∃ (x5_1 : Int), v5 = .int .i64 x5_1 ∧ Aside0 (laws_rInts.l0 kq l0 l1 x5_1 = some r) ∧ Aside0 (kq ≤ k) ∧ Drawn0 w w')
  case atStart => exact ⟨(0), (by first | rfl | (simp; done) | (simp [*]; done)), H', ⟨Nat.le_refl _⟩, by repeat (first | exact Drawn0.refl _ | apply Drawn0.step)⟩
  case round =>
   clear H'
   try clear c1
   try clear p2
   try clear c3
   try clear c3b0
   try clear c3b1
   try clear c3b2
   obtain ⟨x5_1, rfl, HA, HK1, ⟨m1, rfl⟩⟩ := hrel
   cases gk with
   | zero => exact absurd HA.out (by simp [laws_rInts.l0])
   | succ k1 =>
    have H := HA.out
    clear HA
    simp only [laws_rInts.l0] at H
    by_cases c4 : x5_1 < (l0.length : Int)
    ·rw [if_pos c4] at H
     have c4b0 : decide (x5_1 < (l0.length : Int)) = true := decide_eq_true c4
     clear c4
     by_cases c5 : 0 ≤ x5_1
     ·rw [if_pos c5] at H
      have c5b0 : decide (0 ≤ x5_1) = true := decide_eq_true c5
      clear c5
      by_cases c6 : x5_1 < (l1.length : Int)
      ·rw [if_pos c6] at H
       have c6b0 : decide (x5_1 < (l1.length : Int)) = true := decide_eq_true c6
       clear c6
       by_cases c7 : (rd l0 x5_1) = (rd l1 x5_1)
       ·rw [if_pos c7] at H
        have c7b0 : ((rd l0 x5_1) == (rd l1 x5_1)) = true := beq_iff_eq.mpr c7
        have c7b1 : ((rd l0 x5_1) != (rd l1 x5_1)) = false := bne_eq_false_iff_eq.mpr c7
        clear c7
        have H' := Aside0.mk H
        clear H
        have p567 : 0 ≤ (x5_1 : Int) := of_decide_eq_true (by first | (with_reducible assumption) | assumption)
        have q567 : x5_1 < (l0.length : Int) := of_decide_eq_true (by first | (with_reducible assumption) | assumption)
        obtain ⟨ad567, e567, hx567_0⟩ := Kd.at_int HR0.out x5_1 p567 q567
        cases e567
        replace p567 := eq_true p567
        replace q567 := eq_true q567
        have p568 : 0 ≤ (x5_1 : Int) := of_decide_eq_true (by first | (with_reducible assumption) | assumption)
        have q568 : x5_1 < (l1.length : Int) := of_decide_eq_true (by first | (with_reducible assumption) | assumption)
        obtain ⟨ad568, e568, hx568_0⟩ := Kd.at_int HR1.out x5_1 p568 q568
        cases e568
        replace p568 := eq_true p568
        replace q568 := eq_true q568
        go_wp2
        repeat (go_quiet (fail); try go_wp2)
        go_roundg k1
        case measure => have := HK1.out; omega
        case rel => exact ⟨(wrap64 (x5_1 + 1)), (by first | rfl | (simp; done) | (simp [*]; done)), H', ⟨by have := HK1.out; omega⟩, by repeat (first | exact Drawn0.refl _ | apply Drawn0.step)⟩
       ·rw [if_neg c7] at H
        have c7b0 : ((rd l0 x5_1) == (rd l1 x5_1)) = false := beq_eq_false_iff_ne.mpr c7
        have c7b1 : ((rd l0 x5_1) != (rd l1 x5_1)) = true := bne_iff_ne.mpr c7
        obtain rfl := Option.some.inj H
        have p567 : 0 ≤ (x5_1 : Int) := of_decide_eq_true (by first | (with_reducible assumption) | assumption)
        have q567 : x5_1 < (l0.length : Int) := of_decide_eq_true (by first | (with_reducible assumption) | assumption)
        obtain ⟨ad567, e567, hx567_0⟩ := Kd.at_int HR0.out x5_1 p567 q567
        cases e567
        replace p567 := eq_true p567
        replace q567 := eq_true q567
        have p568 : 0 ≤ (x5_1 : Int) := of_decide_eq_true (by first | (with_reducible assumption) | assumption)
        have q568 : x5_1 < (l1.length : Int) := of_decide_eq_true (by first | (with_reducible assumption) | assumption)
        obtain ⟨ad568, e568, hx568_0⟩ := Kd.at_int HR1.out x5_1 p568 q568
        cases e568
        replace p568 := eq_true p568
        replace q568 := eq_true q568
        go_wp2
        repeat (go_quiet (fail); try go_wp2)
        go_ret
        exact ⟨by first | rfl | (simp; done) | (simp [*]; done), by repeat (first | exact Drawn0.refl _ | apply Drawn0.step)⟩
      ·rw [if_neg c6] at H
       exact absurd H (by simp)
     ·rw [if_neg c5] at H
      exact absurd H (by simp)
    ·rw [if_neg c4] at H
     have c4b0 : decide (x5_1 < (l0.length : Int)) = false := decide_eq_false c4
     clear c4
     obtain rfl := Option.some.inj H
     go_wp2
     repeat (go_quiet (fail); try go_wp2)
     go_ret
     exact ⟨by first | rfl | (simp; done) | (simp [*]; done), by repeat (first | exact Drawn0.refl _ | apply Drawn0.step)⟩
 ·rw [if_neg c3] at H
  have c3b0 : ((l0.length : Int) == (l1.length : Int)) = false := beq_eq_false_iff_ne.mpr c3
  have c3b1 : ((l0.length : Int) != (l1.length : Int)) = true := bne_iff_ne.mpr c3
  have c3b2 : (l0.length == l1.length) = false := by first | simpa using c3 | (simp at c3 ⊢; omega)
  obtain rfl := Option.some.inj H
  go_enter Try.func46, Try.ntmps46
  go_wp2
  repeat (go_quiet (fail); try go_wp2)
  go_ret
  exact ⟨by first | rfl | (simp; done) | (simp [*]; done), by repeat (first | exact Drawn0.refl _ | apply Drawn0.step)⟩

end Go.Proofs.Ytfgbohochpjkfaa.G

-- Written by wip/tools/gen.py out of the translation (the kit's printer, one namespace a seat). Lean checks it.
namespace Go.Proofs.Ytfgbohochpjkfaa.G
open Go.RowKit Go.Proofs.YtfgbohochpjkfaaW.PrintWords Go.Proofs.YtfgbohochpjkfaaW.PrintLast Go.Proofs.YtfgbohochpjkfaaW.PrintMore
attribute [local go_sem] max2_int min2_int max_two min_two max_three min_three max_four min_four   -- for this text's walks alone
set_option linter.unusedVariables false
set_option linter.unusedSimpArgs false

/-! ### laws_rTable: function 43 -/
def laws_rTable.l0 : Nat → List (List Int) → List (List Int) → Int → Option (Bool)
 | 0, _, _, _ => none
 | k + 1, x0, x1, x5 => if x5 < (x0.length : Int) then (if 0 ≤ x5 then (if x5 < (x1.length : Int) then ((laws_rInts.f k (rd_L1 x0 x5) (rd_L1 x1 x5)).bind fun t571 => (if t571 = true then (laws_rTable.l0 k x0 x1 (wrap64 (x5 + 1))) else (some false))) else (none)) else (none)) else (some true)
def laws_rTable.f (k : Nat) (l0 : List (List Int)) (l1 : List (List Int)) : Option (Bool) := if (l0.length : Int) = (l1.length : Int) then (laws_rTable.l0 k l0 l1 0) else (some false)
set_option maxHeartbeats 8000000 in
set_option maxRecDepth 100000 in
theorem laws_rTable.calls (k : Nat) (A0 : Option Addr) (c0 : Nat) (l0 : List (List Int)) (A1 : Option Addr) (c1 : Nat) (l1 : List (List Int)) (r : Bool) (w : World) (hr0 : Kd.C (Kd.slice 3 (Kd.int .i64)) w A0 l0.length l0) (hc0 : l0.length ≤ c0) (hr1 : Kd.C (Kd.slice 3 (Kd.int .i64)) w A1 l1.length l1) (hc1 : l1.length ≤ c1) (h : laws_rTable.f k l0 l1 = some r) :
  Calls Try.prog 43 #[.slice A0 l0.length c0, .slice A1 l1.length c1] w fun e w' => e = .returned (.bool r) ∧ Drawn0 w w' := by
 have HR0 := Aside0.mk hr0
 have HC0 := Aside0.mk hc0
 clear hr0 hc0
 have HR1 := Aside0.mk hr1
 have HC1 := Aside0.mk hc1
 clear hr1 hc1
 have H : (if (l0.length : Int) = (l1.length : Int) then (laws_rTable.l0 k l0 l1 0) else (some false)) = some r := h
 clear h
 by_cases c3 : (l0.length : Int) = (l1.length : Int)
 ·rw [if_pos c3] at H
  have c3b0 : ((l0.length : Int) == (l1.length : Int)) = true := beq_iff_eq.mpr c3
  have c3b1 : ((l0.length : Int) != (l1.length : Int)) = false := bne_eq_false_iff_eq.mpr c3
  have c3b2 : (l0.length == l1.length) = true := by first | simpa using c3 | (simp at c3 ⊢; omega)
  clear c3
  have H' := Aside0.mk H
  clear H
  go_enter Try.func43, Try.ntmps43
  go_wp2
  repeat (go_quiet (fail); try go_wp2)
  go_loopg [5] k (fun kq v5 w' => ∃ (x5_1 : Int), v5 = .int .i64 x5_1 ∧ Aside0 (laws_rTable.l0 kq l0 l1 x5_1 = some r) ∧ Aside0 (kq ≤ k) ∧ Drawn0 w w')
  case atStart => exact ⟨(0), (by first | rfl | (simp; done) | (simp [*]; done)), H', ⟨Nat.le_refl _⟩, by repeat (first | exact Drawn0.refl _ | apply Drawn0.step)⟩
  case round =>
   clear H'
   try clear c1
   try clear p2
   try clear c3
   try clear c3b0
   try clear c3b1
   try clear c3b2
   obtain ⟨x5_1, rfl, HA, HK1, ⟨m1, rfl⟩⟩ := hrel
   cases gk with
   | zero => exact absurd HA.out (by simp [laws_rTable.l0])
   | succ k1 =>
    have H := HA.out
    clear HA
    simp only [laws_rTable.l0] at H
    by_cases c4 : x5_1 < (l0.length : Int)
    ·rw [if_pos c4] at H
     have c4b0 : decide (x5_1 < (l0.length : Int)) = true := decide_eq_true c4
     clear c4
     by_cases c5 : 0 ≤ x5_1
     ·rw [if_pos c5] at H
      have c5b0 : decide (0 ≤ x5_1) = true := decide_eq_true c5
      clear c5
      by_cases c6 : x5_1 < (l1.length : Int)
      ·rw [if_pos c6] at H
       have c6b0 : decide (x5_1 < (l1.length : Int)) = true := decide_eq_true c6
       clear c6
       replace H := Option.bind_eq_some_iff.mp H
       obtain ⟨t571, A70, H⟩ := H
       replace H : (if t571 = true then (laws_rTable.l0 k1 l0 l1 (wrap64 (x5_1 + 1))) else (some false)) = some r := H
       have A7 := Aside0.mk A70
       clear A70
       by_cases c8 : t571 = true
       ·subst c8
        have H1 : (laws_rTable.l0 k1 l0 l1 (wrap64 (x5_1 + 1))) = some r := by rw [if_pos rfl] at H; exact H
        clear H
        have H := H1
        clear H1
        have H' := Aside0.mk H
        clear H
        have p569 : 0 ≤ (x5_1 : Int) := of_decide_eq_true (by first | (with_reducible assumption) | assumption)
        have q569 : x5_1 < (l0.length : Int) := of_decide_eq_true (by first | (with_reducible assumption) | assumption)
        obtain ⟨ad569, A569_0, c569_0, e569, hx569_0, hl569_0, hi569_0⟩ := at_L1 HR0.out x5_1 p569 q569
        cases e569
        have HR569_0 := Aside0.mk hi569_0
        have HC569_0 := Aside0.mk hl569_0
        clear hi569_0 hl569_0
        replace p569 := eq_true p569
        replace q569 := eq_true q569
        have p570 : 0 ≤ (x5_1 : Int) := of_decide_eq_true (by first | (with_reducible assumption) | assumption)
        have q570 : x5_1 < (l1.length : Int) := of_decide_eq_true (by first | (with_reducible assumption) | assumption)
        obtain ⟨ad570, A570_0, c570_0, e570, hx570_0, hl570_0, hi570_0⟩ := at_L1 HR1.out x5_1 p570 q570
        cases e570
        have HR570_0 := Aside0.mk hi570_0
        have HC570_0 := Aside0.mk hl570_0
        clear hi570_0 hl570_0
        replace p570 := eq_true p570
        replace q570 := eq_true q570
        go_wp2_with (first | (go_at_call 46; (with_reducible refine (laws_rInts.calls k1 _ _ (rd_L1 l0 x5_1) _ _ (rd_L1 l1 x5_1) true _ ?side1 ?side2 ?side3 ?side4 A7.out).mono ?_); (case side1 => repeat (first | exact HR569_0.out | (with_reducible refine Kd.C_alloc ?_ _) | (with_reducible refine Kd.C_drewN ?_ _) | (with_reducible refine Kd.C_drew ?_))); (case side2 => exact HC569_0.out); (case side3 => repeat (first | exact HR570_0.out | (with_reducible refine Kd.C_alloc ?_ _) | (with_reducible refine Kd.C_drewN ?_ _) | (with_reducible refine Kd.C_drew ?_))); (case side4 => exact HC570_0.out); rintro e w' ⟨rfl, ⟨nd, rfl⟩⟩; (try first | exact ⟨rfl, _, World.drewN_drewN _ _ _⟩ | exact ⟨rfl, _, Eq.trans (World.drewN_drewN _ _ _) (congrArg (World.drewN _) (Nat.add_assoc _ _ _))⟩)))
        repeat (go_quiet (first | (go_at_call 46; (with_reducible refine (laws_rInts.calls k1 _ _ (rd_L1 l0 x5_1) _ _ (rd_L1 l1 x5_1) true _ ?side1 ?side2 ?side3 ?side4 A7.out).mono ?_); (case side1 => repeat (first | exact HR569_0.out | (with_reducible refine Kd.C_alloc ?_ _) | (with_reducible refine Kd.C_drewN ?_ _) | (with_reducible refine Kd.C_drew ?_))); (case side2 => exact HC569_0.out); (case side3 => repeat (first | exact HR570_0.out | (with_reducible refine Kd.C_alloc ?_ _) | (with_reducible refine Kd.C_drewN ?_ _) | (with_reducible refine Kd.C_drew ?_))); (case side4 => exact HC570_0.out); rintro e w' ⟨rfl, ⟨nd, rfl⟩⟩; (try first | exact ⟨rfl, _, World.drewN_drewN _ _ _⟩ | exact ⟨rfl, _, Eq.trans (World.drewN_drewN _ _ _) (congrArg (World.drewN _) (Nat.add_assoc _ _ _))⟩))); try go_wp2_with (first | (go_at_call 46; (with_reducible refine (laws_rInts.calls k1 _ _ (rd_L1 l0 x5_1) _ _ (rd_L1 l1 x5_1) true _ ?side1 ?side2 ?side3 ?side4 A7.out).mono ?_); (case side1 => repeat (first | exact HR569_0.out | (with_reducible refine Kd.C_alloc ?_ _) | (with_reducible refine Kd.C_drewN ?_ _) | (with_reducible refine Kd.C_drew ?_))); (case side2 => exact HC569_0.out); (case side3 => repeat (first | exact HR570_0.out | (with_reducible refine Kd.C_alloc ?_ _) | (with_reducible refine Kd.C_drewN ?_ _) | (with_reducible refine Kd.C_drew ?_))); (case side4 => exact HC570_0.out); rintro e w' ⟨rfl, ⟨nd, rfl⟩⟩; (try first | exact ⟨rfl, _, World.drewN_drewN _ _ _⟩ | exact ⟨rfl, _, Eq.trans (World.drewN_drewN _ _ _) (congrArg (World.drewN _) (Nat.add_assoc _ _ _))⟩))))
        go_roundg k1
        case measure => have := HK1.out; omega
        case rel => exact ⟨(wrap64 (x5_1 + 1)), (by first | rfl | (simp; done) | (simp [*]; done)), H', ⟨by have := HK1.out; omega⟩, by repeat (first | exact Drawn0.refl _ | apply Drawn0.step)⟩
       ·replace c8 := Bool.eq_false_iff.mpr c8
        subst c8
        have H1 : (some false) = some r := by rw [if_neg (show ¬ (false = true) by decide)] at H; exact H
        clear H
        have H := H1
        clear H1
        obtain rfl := Option.some.inj H
        have p569 : 0 ≤ (x5_1 : Int) := of_decide_eq_true (by first | (with_reducible assumption) | assumption)
        have q569 : x5_1 < (l0.length : Int) := of_decide_eq_true (by first | (with_reducible assumption) | assumption)
        obtain ⟨ad569, A569_0, c569_0, e569, hx569_0, hl569_0, hi569_0⟩ := at_L1 HR0.out x5_1 p569 q569
        cases e569
        have HR569_0 := Aside0.mk hi569_0
        have HC569_0 := Aside0.mk hl569_0
        clear hi569_0 hl569_0
        replace p569 := eq_true p569
        replace q569 := eq_true q569
        have p570 : 0 ≤ (x5_1 : Int) := of_decide_eq_true (by first | (with_reducible assumption) | assumption)
        have q570 : x5_1 < (l1.length : Int) := of_decide_eq_true (by first | (with_reducible assumption) | assumption)
        obtain ⟨ad570, A570_0, c570_0, e570, hx570_0, hl570_0, hi570_0⟩ := at_L1 HR1.out x5_1 p570 q570
        cases e570
        have HR570_0 := Aside0.mk hi570_0
        have HC570_0 := Aside0.mk hl570_0
        clear hi570_0 hl570_0
        replace p570 := eq_true p570
        replace q570 := eq_true q570
        go_wp2_with (first | (go_at_call 46; (with_reducible refine (laws_rInts.calls k1 _ _ (rd_L1 l0 x5_1) _ _ (rd_L1 l1 x5_1) false _ ?side1 ?side2 ?side3 ?side4 A7.out).mono ?_); (case side1 => repeat (first | exact HR569_0.out | (with_reducible refine Kd.C_alloc ?_ _) | (with_reducible refine Kd.C_drewN ?_ _) | (with_reducible refine Kd.C_drew ?_))); (case side2 => exact HC569_0.out); (case side3 => repeat (first | exact HR570_0.out | (with_reducible refine Kd.C_alloc ?_ _) | (with_reducible refine Kd.C_drewN ?_ _) | (with_reducible refine Kd.C_drew ?_))); (case side4 => exact HC570_0.out); rintro e w' ⟨rfl, ⟨nd, rfl⟩⟩; (try first | exact ⟨rfl, _, World.drewN_drewN _ _ _⟩ | exact ⟨rfl, _, Eq.trans (World.drewN_drewN _ _ _) (congrArg (World.drewN _) (Nat.add_assoc _ _ _))⟩)))
        repeat (go_quiet (first | (go_at_call 46; (with_reducible refine (laws_rInts.calls k1 _ _ (rd_L1 l0 x5_1) _ _ (rd_L1 l1 x5_1) false _ ?side1 ?side2 ?side3 ?side4 A7.out).mono ?_); (case side1 => repeat (first | exact HR569_0.out | (with_reducible refine Kd.C_alloc ?_ _) | (with_reducible refine Kd.C_drewN ?_ _) | (with_reducible refine Kd.C_drew ?_))); (case side2 => exact HC569_0.out); (case side3 => repeat (first | exact HR570_0.out | (with_reducible refine Kd.C_alloc ?_ _) | (with_reducible refine Kd.C_drewN ?_ _) | (with_reducible refine Kd.C_drew ?_))); (case side4 => exact HC570_0.out); rintro e w' ⟨rfl, ⟨nd, rfl⟩⟩; (try first | exact ⟨rfl, _, World.drewN_drewN _ _ _⟩ | exact ⟨rfl, _, Eq.trans (World.drewN_drewN _ _ _) (congrArg (World.drewN _) (Nat.add_assoc _ _ _))⟩))); try go_wp2_with (first | (go_at_call 46; (with_reducible refine (laws_rInts.calls k1 _ _ (rd_L1 l0 x5_1) _ _ (rd_L1 l1 x5_1) false _ ?side1 ?side2 ?side3 ?side4 A7.out).mono ?_); (case side1 => repeat (first | exact HR569_0.out | (with_reducible refine Kd.C_alloc ?_ _) | (with_reducible refine Kd.C_drewN ?_ _) | (with_reducible refine Kd.C_drew ?_))); (case side2 => exact HC569_0.out); (case side3 => repeat (first | exact HR570_0.out | (with_reducible refine Kd.C_alloc ?_ _) | (with_reducible refine Kd.C_drewN ?_ _) | (with_reducible refine Kd.C_drew ?_))); (case side4 => exact HC570_0.out); rintro e w' ⟨rfl, ⟨nd, rfl⟩⟩; (try first | exact ⟨rfl, _, World.drewN_drewN _ _ _⟩ | exact ⟨rfl, _, Eq.trans (World.drewN_drewN _ _ _) (congrArg (World.drewN _) (Nat.add_assoc _ _ _))⟩))))
        go_ret
        exact ⟨by first | rfl | (simp; done) | (simp [*]; done), by repeat (first | exact Drawn0.refl _ | apply Drawn0.step)⟩
      ·rw [if_neg c6] at H
       exact absurd H (by simp)
     ·rw [if_neg c5] at H
      exact absurd H (by simp)
    ·rw [if_neg c4] at H
     have c4b0 : decide (x5_1 < (l0.length : Int)) = false := decide_eq_false c4
     clear c4
     obtain rfl := Option.some.inj H
     go_wp2
     repeat (go_quiet (fail); try go_wp2)
     go_ret
     exact ⟨by first | rfl | (simp; done) | (simp [*]; done), by repeat (first | exact Drawn0.refl _ | apply Drawn0.step)⟩
 ·rw [if_neg c3] at H
  have c3b0 : ((l0.length : Int) == (l1.length : Int)) = false := beq_eq_false_iff_ne.mpr c3
  have c3b1 : ((l0.length : Int) != (l1.length : Int)) = true := bne_iff_ne.mpr c3
  have c3b2 : (l0.length == l1.length) = false := by first | simpa using c3 | (simp at c3 ⊢; omega)
  obtain rfl := Option.some.inj H
  go_enter Try.func43, Try.ntmps43
  go_wp2
  repeat (go_quiet (fail); try go_wp2)
  go_ret
  exact ⟨by first | rfl | (simp; done) | (simp [*]; done), by repeat (first | exact Drawn0.refl _ | apply Drawn0.step)⟩

end Go.Proofs.Ytfgbohochpjkfaa.G

/- What the two drawn laws of dispatch say, in plain facts. -/
namespace Go.Proofs.Ytfgbohochpjkfaa.G
open Go.RowKit Go.Proofs.YtfgbohochpjkfaaW.PrintWords Go.Proofs.YtfgbohochpjkfaaW.PrintLast
set_option linter.unusedVariables false
set_option linter.unusedSimpArgs false
theorem rInts_V (xs : List Int) (h : (xs.length : Int) ≤ 1048576) : Ev (fun k => laws_rInts.f k xs xs) true := by
  unfold laws_rInts.f
  simp only [if_true]
  refine Ev.upc (fun k i => laws_rInts.l0 k xs xs i) true (xs.length : Int) 0 ?_ ?_ 0 (by omega) (by omega)
  · refine Ev.step (fun k => by rw [laws_rInts.l0]) ?_
    simp only [Int.lt_irrefl, if_false]
    exact Ev.now _
  · intro i h0 hlt hr
    refine Ev.step (fun k => by rw [laws_rInts.l0]) ?_
    simp (disch := omega) only [wrap64_id, if_pos, if_true]
    exact hr
theorem rTable_V (xs : List (List Int)) (h : xs.length ≤ 100) (hr : ∀ i : Nat, i < xs.length → (rd_L1 xs (i : Int)).length ≤ 100) : Ev (fun k => laws_rTable.f k xs xs) true := by
  unfold laws_rTable.f
  simp only [if_true]
  refine Ev.upc (fun k i => laws_rTable.l0 k xs xs i) true (xs.length : Int) 0 ?_ ?_ 0 (by omega) (by omega)
  · refine Ev.step (fun k => by rw [laws_rTable.l0]) ?_
    simp only [Int.lt_irrefl, if_false]
    exact Ev.now _
  · intro i h0 hlt hr2
    refine Ev.step (fun k => by rw [laws_rTable.l0]) ?_
    have e9 : wrap64 (i + 1) = i + 1 := wrap64_id (by omega) (by omega)
    have h1 := hr i.toNat (by omega)
    rw [show ((i.toNat : Nat) : Int) = i by omega] at h1
    simp only [if_pos hlt, if_pos h0, e9]
    refine Ev.bind (rInts_V _ (by omega)) ?_
    simp only [if_true]
    exact hr2
abbrev Wide (t : List (List Int)) : Prop := ∀ i, 0 ≤ i → i < (t.length : Int) → ((rd_L1 t i).length : Int) ≤ 1099511627776
noncomputable def cntR (t : List (List Int)) : Int × Bool := chk (Costs t) (((asgs t t.length []).length : Int), true) (0, false)
noncomputable def chpR (fast : Bool) (t : List (List Int)) : List Int × Int × Bool := chk (Costs t) (finL ((asgs t t.length []).foldl (leastStep (numF fast t)) none)) ([], 0, false)
theorem impl_cnt (t : List (List Int)) : Ev (fun k => impl_CountAssignments.f k t) (cntR t) := by
  unfold impl_CountAssignments.f cntR
  refine Ev.bind (impl_costs0 t) ?_
  by_cases hc : Costs t
  · have h1 := hc.1
    have hlen := asgs_len hc t.length []
    have h46 : 6 ^ t.length ≤ 46656 := Nat.le_trans (Nat.pow_le_pow_right (by decide) (show t.length ≤ 6 by omega)) (by decide)
    rw [chk_pos hc, chk_pos hc]
    simp only [if_true]
    rw [fold_count _ 0 (by omega) (by omega), Int.zero_add]
    exact Ev.now _
  · rw [chk_neg hc, chk_neg hc]
    simp only [Bool.false_eq_true, if_false]
    exact Ev.now _
theorem spec_cnt (t : List (List Int)) (hl : Wide t) : Ev (fun k => spec_CountAssignments.f k t) (cntR t) := by
  unfold spec_CountAssignments.f cntR
  refine Ev.bind (spec_costs t hl) ?_
  by_cases hc : Costs t
  · rw [chk_pos hc, chk_pos hc]
    simp only [if_true]
    exact Ev.bind (spec_all hc t.length [] (by simp) (preA_nil t)) (Ev.now _)
  · rw [chk_neg hc, chk_neg hc]
    simp only [Bool.false_eq_true, if_false]
    exact Ev.now _
theorem impl_chp (t : List (List Int)) : Ev (fun k => impl_CheapestAssignment.f k t) (chpR false t) := by
  unfold impl_CheapestAssignment.f chpR
  refine Ev.bind (impl_costs0 t) ?_
  by_cases hc : Costs t
  · rw [chk_pos hc, chk_pos hc, ← leastR_fin]; exact Ev.now _
  · rw [chk_neg hc, chk_neg hc]; exact Ev.now _
theorem spec_chp (t : List (List Int)) (hl : Wide t) : Ev (fun k => spec_CheapestAssignment.f k t) (chpR false t) := by
  unfold spec_CheapestAssignment.f chpR
  by_cases hc : Costs t
  · rw [chk_pos hc]; exact Ev.bind (spec_least hc false hl) (Ev.now _)
  · rw [chk_neg hc]; exact Ev.bind (least_no hc false hl) (Ev.now _)
theorem impl_fst (t : List (List Int)) : Ev (fun k => impl_FastestAssignment.f k t) (chpR true t) := by
  unfold impl_FastestAssignment.f chpR
  refine Ev.bind (impl_costs0 t) ?_
  by_cases hc : Costs t
  · rw [chk_pos hc, chk_pos hc, ← leastR_fin]; exact Ev.now _
  · rw [chk_neg hc, chk_neg hc]; exact Ev.now _
theorem spec_fst (t : List (List Int)) (hl : Wide t) : Ev (fun k => spec_FastestAssignment.f k t) (chpR true t) := by
  unfold spec_FastestAssignment.f chpR
  by_cases hc : Costs t
  · rw [chk_pos hc]; exact Ev.bind (spec_least hc true hl) (Ev.now _)
  · rw [chk_neg hc]; exact Ev.bind (least_no hc true hl) (Ev.now _)
/-- What the least assignment is. -/
theorem chp_iff (fast : Bool) (t : List (List Int)) : ((chpR fast t).2.2 = false ∧ (chpR fast t).1 = [] ∧ (chpR fast t).2.1 = 0 ∧ ∀ l, ¬ Asg t l) ∨ ((chpR fast t).2.2 = true ∧ Asg t (chpR fast t).1 ∧ (chpR fast t).2.1 = numF fast t (chpR fast t).1 ∧ ∀ l, Asg t l → (chpR fast t).2.1 ≤ numF fast t l) := by
  by_cases hc : Costs t
  · have e : chpR fast t = finL ((asgs t t.length []).foldl (leastStep (numF fast t)) none) := chk_pos hc _ _
    rw [e]
    rcases least_all (numF fast t) (asgs t t.length []) with ⟨h0, h1⟩ | ⟨b, hb, h1, h2⟩
    · left
      rw [h1]
      refine ⟨rfl, rfl, rfl, fun l hl => ?_⟩
      have := (asgs_iff hc l).2 hl
      rw [h0] at this
      cases this
    · right
      rw [h1]
      exact ⟨rfl, (asgs_iff hc b).1 hb, rfl, fun l hl => h2 l ((asgs_iff hc l).2 hl)⟩
  · left
    have e : chpR fast t = ([], 0, false) := chk_neg hc _ _
    rw [e]
    exact ⟨rfl, rfl, rfl, fun l hl => hc hl.1⟩
theorem cnt_iff (t : List (List Int)) : (chpR false t).2.2 = decide (0 < (cntR t).1) := by
  by_cases hc : Costs t
  · have e : cntR t = (((asgs t t.length []).length : Int), true) := chk_pos hc _ _
    rw [e]
    rcases chp_iff false t with h | h
    · rw [h.1]
      cases ha : asgs t t.length [] with
      | nil => rfl
      | cons x xs => exact absurd ((asgs_iff hc x).1 (by rw [ha]; exact List.mem_cons_self)) (h.2.2.2 x)
    · rw [h.1]
      have := (asgs_iff hc _).2 h.2.1
      cases ha : asgs t t.length [] with
      | nil => rw [ha] at this; cases this
      | cons x xs => simp
  · have e : cntR t = (0, false) := chk_neg hc _ _
    have e2 : chpR false t = ([], 0, false) := chk_neg hc _ _
    rw [e, e2]
    rfl
/-- One vehicle less: the counts, the costs and the least cost. -/
theorem less_cnt {t r1 : List (List Int)} {v : Int} (h : without t v = (r1, true)) : ∃ ct cr : Int, cntR t = (ct, true) ∧ cntR r1 = (cr, true) ∧ ¬ cr > ct ∧ Costs r1 := by
  unfold without at h
  by_cases hc : Costs t ∧ 0 ≤ v ∧ v ≤ ((rd_L1 t 0).length : Int) - 1 ∧ Costs (cutAll t v)
  · rw [chk_pos hc] at h
    obtain rfl : cutAll t v = r1 := congrArg Prod.fst h
    refine ⟨_, _, chk_pos hc.1 _ _, chk_pos hc.2.2.2 _ _, ?_, hc.2.2.2⟩
    have := count_less hc.1 hc.2.1 hc.2.2.1 t.length [] (by simp)
    rw [show (cutAll t v).length = t.length from cutAll_len t v]
    simp only [List.map_nil] at this
    omega
  · rw [chk_neg hc] at h
    exact absurd (congrArg Prod.snd h) Bool.false_ne_true
theorem less_chp {t r1 : List (List Int)} {v : Int} (h : without t v = (r1, true)) (h1 : (chpR false r1).2.2 = true) : (chpR false t).2.2 = true ∧ ¬ (chpR false r1).2.1 < (chpR false t).2.1 := by
  unfold without at h
  by_cases hc : Costs t ∧ 0 ≤ v ∧ v ≤ ((rd_L1 t 0).length : Int) - 1 ∧ Costs (cutAll t v)
  · rw [chk_pos hc] at h
    obtain rfl : cutAll t v = r1 := congrArg Prod.fst h
    rcases chp_iff false (cutAll t v) with g | g
    · rw [g.1] at h1; cases h1
    · have hA := less_asg hc.1 hc.2.1 hc.2.2.1 g.2.1
      rcases chp_iff false t with f | f
      · exact absurd hA (f.2.2.2 _)
      · refine ⟨f.1, ?_⟩
        have h2 := f.2.2.2 _ hA
        have h3 := less_cost hc.1 hc.2.1 hc.2.2.1 g.2.1 (chpR false (cutAll t v)).1.length (Nat.le_refl _)
        rw [g.2.2.1]
        have e : numF false (cutAll t v) (chpR false (cutAll t v)).1 = numF false t (List.map (sh v) (chpR false (cutAll t v)).1) := by
          show (costTo _ _ _).1 = (costTo _ _ _).1
          rw [List.length_map, h3]
        omega
  · rw [chk_neg hc] at h
    exact absurd (congrArg Prod.snd h) Bool.false_ne_true
noncomputable def asgR (t : List (List Int)) (p : List Int) : Int × Int × Bool := chk (Asg t p) ((costTo t p p.length).1, (costTo t p p.length).2, true) (0, 0, false)
theorem asgR_ok {t : List (List Int)} {p : List Int} (h : Asg t p) : asgR t p = (numF false t p, numF true t p, true) := chk_pos h _ _
/-- The greedy one. -/
noncomputable def gR (t : List (List Int)) : List Int × Bool := chk (Costs t) (gFrom t t.length 0 []) ([], false)
theorem gR_asg {t : List (List Int)} (h : (gR t).2 = true) : Asg t (gR t).1 := by
  by_cases hc : Costs t
  · have e : gR t = gFrom t t.length 0 [] := chk_pos hc _ _
    rw [e] at h ⊢
    exact gFrom_asg hc t.length 0 [] _ (by omega) rfl (preA_nil t) (Prod.ext rfl h)
  · have e : gR t = ([], false) := chk_neg hc _ _
    rw [e] at h
    cases h
theorem gR_len (t : List (List Int)) (h : t.length ≤ 8) : (gR t).1.length ≤ 8 := by
  by_cases hc : Costs t
  · have e : gR t = gFrom t t.length 0 [] := chk_pos hc _ _
    rw [e]
    have := gFrom_len t t.length 0 []
    simp only [List.length_nil] at this
    omega
  · have e : gR t = ([], false) := chk_neg hc _ _
    rw [e]; simp
theorem impl_gR (t : List (List Int)) : Ev (fun k => impl_GreedyAssignment.f k t) (gR t) := by
  unfold impl_GreedyAssignment.f gR
  refine Ev.bind (impl_costs0 t) ?_
  by_cases hc : Costs t
  · rw [chk_pos hc, chk_pos hc]
    simp only [if_true]
    exact impl_greedy hc t.length 0 [] (by omega) rfl
  · rw [chk_neg hc, chk_neg hc]
    simp only [Bool.false_eq_true, if_false]
    exact Ev.now _
theorem good_gR (t : List (List Int)) (hl : Wide t) : ∃ b : Bool, Ev (fun k => spec_l17Good.f k t) b ∧ (if b = true then gFrom t t.length 0 [] else ([], false)) = gR t := by
  refine ⟨chk (Costs t) true false, spec_costs t hl, ?_⟩
  unfold gR
  by_cases hc : Costs t
  · rw [chk_pos hc, chk_pos hc]; rfl
  · rw [chk_neg hc, chk_neg hc]; rfl
theorem prov_le {t : List (List Int)} {p : List Int} {s : Int} (h : prov t p = (s, true)) (h1 : (chpR false t).2.2 = true) : ¬ (chpR false t).2.1 < s := by
  unfold prov at h
  by_cases hp : Pr t p
  · rw [chk_pos hp] at h
    rcases chp_iff false t with g | g
    · rw [g.1] at h1; cases h1
    · have := bound_le hp g.2.1 h
      rw [g.2.2.1]
      show ¬ sumN t _ < s
      omega
  · rw [chk_neg hp] at h
    exact absurd (congrArg Prod.snd h) Bool.false_ne_true
end Go.Proofs.Ytfgbohochpjkfaa.G

/- The walk of FnVehicles: on every code the law answers true. -/
namespace Go.Proofs.Ytfgbohochpjkfaa.G
open Go.RowKit Go.Proofs.YtfgbohochpjkfaaW.PrintWords Go.Proofs.YtfgbohochpjkfaaW.PrintLast Go.Proofs.YtfgbohochpjkfaaW.PrintMore
set_option linter.unusedVariables false
set_option linter.unusedSimpArgs false
theorem asgR_b (t : List (List Int)) (p : List Int) : chk (Asg t p) true false = (asgR t p).2.2 := by
  unfold asgR
  by_cases h : Asg t p
  · rw [chk_pos h, chk_pos h]
  · rw [chk_neg h, chk_neg h]
theorem wide_tab {t : List (List Int)} (h : Tab t) : Wide t := fun i i0 i1 => by have := tab_rows h i i0 i1; omega
theorem big_yes {l : List Int} (h : (l.length : Int) > 65536) : laws_rBig.f l = some true := by unfold laws_rBig.f; rw [decide_eq_true h]
theorem big_no {l : List Int} (h : ¬ (l.length : Int) > 65536) : laws_rBig.f l = some false := by unfold laws_rBig.f; rw [decide_eq_false h]
theorem small_table {t r1 : List (List Int)} {x : Int} {r2 : Bool} (h : without t x = (r1, r2)) : Ev (fun k => laws_rTable.f k r1 r1) true := by
  have s := without_small t x
  rw [h] at s
  dsimp only at s
  exact rTable_V r1 (by have := s.1; omega) (fun i hi => by have := s.2 i hi; omega)
set_option maxHeartbeats 8000000 in
set_option maxRecDepth 100000 in
theorem laws_FnVehicles.walk (A0 : Option Addr) (c0 : Nat) (l0 : List Int) (w : World) (hr0 : Kd.C (Kd.int .u8) w A0 l0.length l0) (hc0 : l0.length ≤ c0) (hw0 : (l0.length ≤ maxLen ∧ ∀ y ∈ l0, (Lit.int .u8 y).wf = true)) :
    Calls Try.prog 12 #[.slice A0 l0.length c0] w fun e w' => e = .returned (.bool true) ∧ Below w.heap.size w w' := by
  have Cc_0 := Aside0.mk hr0
  have HB0 := Aside0.mk (Below.refl w.heap.size w)
  clear hr0
  by_cases hbig : (l0.length : Int) > 65536
  · have big := Aside0.mk (big_yes hbig)
    clear hbig hw0
    go_enter Try.func12, Try.ntmps12
    go_wp2_with (first | (go_at_call 41; (with_reducible refine (laws_rBig.calls A0 c0 l0 true w Cc_0.out hc0 big.out).mono ?_); rintro e w1 ⟨rfl, hd⟩; have HB1 := Aside0.mk hd.below; clear hd))
    go_ret
    exact ⟨rfl, HB1.out⟩
  · have hcd : Cd l0 := cd_of (by omega) hw0.2
    have big := Aside0.mk (big_no hbig)
    clear hbig hw0
    go_enter Try.func12, Try.ntmps12
    go_wp2_with (first | (go_at_call 41; (with_reducible refine (laws_rBig.calls A0 c0 l0 false w Cc_0.out hc0 big.out).mono ?_); rintro e w1 ⟨rfl, hd⟩; have HB1 := Aside0.mk (below_w2 HB0.out hd.below); have Cc_1 := Aside0.mk (Kd.C_below Cc_0.out hd.below); clear hd) | (go_at_call 42; (with_reducible refine (draw42 A0 c0 l0 _ hcd Cc_1.out hc0).mono ?_); rintro e w2 ⟨vt, t, x, rfl, ht, hSt, hd⟩; have HB2 := Aside0.mk (below_w2 HB1.out hd); have Cc_2 := Aside0.mk (Kd.C_below Cc_1.out hd); obtain ⟨Azt, czt, rfl⟩ := Kd.R_slice hSt; have Ct_2 := Aside0.mk (Kd.R_reads' hSt).2.2; have Lt := Aside0.mk (Kd.R_reads' hSt).2.1; have HT := Aside0.mk ht; clear ht; clear hd hSt))
    have wd := wide_tab HT.out
    obtain ⟨⟨r1, r2⟩, hwo⟩ : ∃ y, without t x = y := ⟨_, rfl⟩
    obtain ⟨ki, hki⟩ := Ev.rounds (impl_without t x)
    rw [hwo] at hki
    have KI := Aside0.mk hki
    clear hki
    obtain ⟨ks, hks⟩ := Ev.rounds (spec_without t x wd)
    rw [hwo] at hks
    have KS := Aside0.mk hks
    clear hks
    obtain ⟨kr, hkr⟩ := Ev.rounds (small_table hwo)
    have KR := Aside0.mk hkr
    clear hkr
    have HWO := Aside0.mk hwo
    clear hwo
    cases r2 with
    | false =>
      clear wd
      go_wp2_with (first | (go_at_call 28; (with_reducible refine (impl_WithoutVehicle.calls ki _ _ t x r1 _ _ Ct_2.out Lt.out KI.out).mono ?_); rintro e w3 ⟨vr, rfl, hSr, hd⟩; have HB3 := Aside0.mk (below_w2 HB2.out hd); have Cc_3 := Aside0.mk (Kd.C_below Cc_2.out hd); have Ct_3 := Aside0.mk (Kd.C_below Ct_2.out hd); obtain ⟨Azr, czr, rfl⟩ := Kd.S_slice hSr; have Cr_3 := Aside0.mk (Kd.S_reads' hSr).2.2; have Lr := Aside0.mk (Kd.S_reads' hSr).2.1; clear hd hSr) | (go_at_call 27; (with_reducible refine (spec_WithoutVehicle.calls ks _ _ t x r1 _ _ Ct_3.out Lt.out KS.out).mono ?_); rintro e w4 ⟨vs, rfl, hSs, hd⟩; have HB4 := Aside0.mk (below_w2 HB3.out hd); have Cc_4 := Aside0.mk (Kd.C_below Cc_3.out hd); have Ct_4 := Aside0.mk (Kd.C_below Ct_3.out hd); have Cr_4 := Aside0.mk (Kd.C_below Cr_3.out hd); obtain ⟨Azs, czs, rfl⟩ := Kd.S_slice hSs; have Cs_4 := Aside0.mk (Kd.S_reads' hSs).2.2; have Ls := Aside0.mk (Kd.S_reads' hSs).2.1; clear hd hSs) | (go_at_call 43; (with_reducible refine (laws_rTable.calls kr _ _ r1 _ _ r1 true _ Cr_4.out Lr.out Cs_4.out Ls.out KR.out).mono ?_); rintro e w5 ⟨rfl, hd⟩; have HB5 := Aside0.mk (below_w2 HB4.out hd.below); have Cc_5 := Aside0.mk (Kd.C_below Cc_4.out hd.below); have Ct_5 := Aside0.mk (Kd.C_below Ct_4.out hd.below); have Cr_5 := Aside0.mk (Kd.C_below Cr_4.out hd.below); have Cs_5 := Aside0.mk (Kd.C_below Cs_4.out hd.below); clear hd) | (go_at_call 44; (with_reducible refine (draw44 A0 c0 l0 _ hcd Cc_5.out hc0).mono ?_); rintro e w6 ⟨vm, m, vp, p, rfl, ht, hSm, hSp, hl, hd⟩; have HB6 := Aside0.mk (below_w2 HB5.out hd); have Cc_6 := Aside0.mk (Kd.C_below Cc_5.out hd); obtain ⟨Azm, czm, rfl⟩ := Kd.R_slice hSm; have Cm_6 := Aside0.mk (Kd.R_reads' hSm).2.2; have Lm := Aside0.mk (Kd.R_reads' hSm).2.1; obtain ⟨Azp, czp, rfl⟩ := Kd.R_slice hSp; have Cp_6 := Aside0.mk (Kd.R_reads' hSp).2.2; have Lp := Aside0.mk (Kd.R_reads' hSp).2.1; have HM := Aside0.mk ht; clear ht hl; clear hd hSm hSp))
      have wd2 := wide_tab HM.out
      obtain ⟨⟨s1, s2, s3⟩, has⟩ : ∃ y, asgR m p = y := ⟨_, rfl⟩
      obtain ⟨ka, hka⟩ := Ev.rounds (impl_AsgCost m wd2 p)
      rw [show chk (Asg m p) ((costTo m p p.length).1, (costTo m p p.length).2, true) (0, 0, false) = asgR m p from rfl, has] at hka
      have KA := Aside0.mk hka
      clear hka
      obtain ⟨kb, hkb⟩ := Ev.rounds (spec_AsgCost m wd2 p)
      rw [show chk (Asg m p) ((costTo m p p.length).1, (costTo m p p.length).2, true) (0, 0, false) = asgR m p from rfl, has] at hkb
      have KB := Aside0.mk hkb
      clear hkb
      obtain ⟨kg, hkg⟩ := Ev.rounds (impl_asg m wd2 p)
      rw [asgR_b, has] at hkg
      have KG := Aside0.mk hkg
      clear hkg
      clear has wd2
      dsimp only at KG
      cases s3 with
      | false =>
        go_wp2_with (first | (go_at_call 26; (with_reducible refine (impl_AssignmentCost.calls ka _ _ m _ _ p _ _ _ _ Cm_6.out Lm.out Cp_6.out Lp.out KA.out).mono ?_); rintro e w7 ⟨rfl, hd⟩; have HB7 := Aside0.mk (below_w2 HB6.out hd); have Cc_7 := Aside0.mk (Kd.C_below Cc_6.out hd); have Cm_7 := Aside0.mk (Kd.C_below Cm_6.out hd); have Cp_7 := Aside0.mk (Kd.C_below Cp_6.out hd); clear hd) | (go_at_call 25; (with_reducible refine (spec_AssignmentCost.calls kb _ _ m _ _ p _ _ _ _ Cm_7.out Lm.out Cp_7.out Lp.out KB.out).mono ?_); rintro e w8 ⟨rfl, hd⟩; have HB8 := Aside0.mk (below_w2 HB7.out hd); have Cc_8 := Aside0.mk (Kd.C_below Cc_7.out hd); have Cm_8 := Aside0.mk (Kd.C_below Cm_7.out hd); have Cp_8 := Aside0.mk (Kd.C_below Cp_7.out hd); clear hd) | (go_at_call 21; (with_reducible refine (impl_IsAssignment.calls kg _ _ m _ _ p _ _ Cm_8.out Lm.out Cp_8.out Lp.out KG.out).mono ?_); rintro e w9 ⟨rfl, hd⟩; have HB9 := Aside0.mk (below_w2 HB8.out hd.below); have Cc_9 := Aside0.mk (Kd.C_below Cc_8.out hd.below); have Cm_9 := Aside0.mk (Kd.C_below Cm_8.out hd.below); have Cp_9 := Aside0.mk (Kd.C_below Cp_8.out hd.below); clear hd))
        go_ret
        exact ⟨rfl, HB9.out⟩
      | true =>
        go_wp2_with (first | (go_at_call 26; (with_reducible refine (impl_AssignmentCost.calls ka _ _ m _ _ p _ _ _ _ Cm_6.out Lm.out Cp_6.out Lp.out KA.out).mono ?_); rintro e w7 ⟨rfl, hd⟩; have HB7 := Aside0.mk (below_w2 HB6.out hd); have Cc_7 := Aside0.mk (Kd.C_below Cc_6.out hd); have Cm_7 := Aside0.mk (Kd.C_below Cm_6.out hd); have Cp_7 := Aside0.mk (Kd.C_below Cp_6.out hd); clear hd) | (go_at_call 25; (with_reducible refine (spec_AssignmentCost.calls kb _ _ m _ _ p _ _ _ _ Cm_7.out Lm.out Cp_7.out Lp.out KB.out).mono ?_); rintro e w8 ⟨rfl, hd⟩; have HB8 := Aside0.mk (below_w2 HB7.out hd); have Cc_8 := Aside0.mk (Kd.C_below Cc_7.out hd); have Cm_8 := Aside0.mk (Kd.C_below Cm_7.out hd); have Cp_8 := Aside0.mk (Kd.C_below Cp_7.out hd); clear hd) | (go_at_call 21; (with_reducible refine (impl_IsAssignment.calls kg _ _ m _ _ p _ _ Cm_8.out Lm.out Cp_8.out Lp.out KG.out).mono ?_); rintro e w9 ⟨rfl, hd⟩; have HB9 := Aside0.mk (below_w2 HB8.out hd.below); have Cc_9 := Aside0.mk (Kd.C_below Cc_8.out hd.below); have Cm_9 := Aside0.mk (Kd.C_below Cm_8.out hd.below); have Cp_9 := Aside0.mk (Kd.C_below Cp_8.out hd.below); clear hd))
        go_ret
        exact ⟨rfl, HB9.out⟩
    | true =>
      obtain ⟨ct, cr, hct, hcr, hgt, hco⟩ := less_cnt HWO.out
      have cgt : decide (ct < cr) = false := decide_eq_false (by omega)
      obtain ⟨kc, hkc⟩ := Ev.rounds (impl_cnt t)
      rw [hct] at hkc
      have KC := Aside0.mk hkc
      clear hkc
      obtain ⟨kd, hkd⟩ := Ev.rounds (impl_cnt r1)
      rw [hcr] at hkd
      have KD := Aside0.mk hkd
      clear hkd
      obtain ⟨kv, hkv⟩ := Ev.rounds (impl_costs0 r1)
      rw [chk_pos hco] at hkv
      have KV := Aside0.mk hkv
      clear hkv
      have hch := less_chp HWO.out
      obtain ⟨⟨lt, xt, ot⟩, het⟩ : ∃ y, chpR false t = y := ⟨_, rfl⟩
      obtain ⟨⟨lr, xr, orr⟩, her⟩ : ∃ y, chpR false r1 = y := ⟨_, rfl⟩
      rw [het, her] at hch
      dsimp only at hch
      obtain ⟨ke, hke⟩ := Ev.rounds (impl_chp t)
      rw [het] at hke
      have KE := Aside0.mk hke
      clear hke
      obtain ⟨kf, hkf⟩ := Ev.rounds (impl_chp r1)
      rw [her] at hkf
      have KF := Aside0.mk hkf
      clear hkf
      clear hct hcr hgt hco het her wd
      cases orr with
      | false =>
        clear hch
        go_wp2_with (first | (go_at_call 28; (with_reducible refine (impl_WithoutVehicle.calls ki _ _ t x r1 _ _ Ct_2.out Lt.out KI.out).mono ?_); rintro e w3 ⟨vr, rfl, hSr, hd⟩; have HB3 := Aside0.mk (below_w2 HB2.out hd); have Cc_3 := Aside0.mk (Kd.C_below Cc_2.out hd); have Ct_3 := Aside0.mk (Kd.C_below Ct_2.out hd); obtain ⟨Azr, czr, rfl⟩ := Kd.S_slice hSr; have Cr_3 := Aside0.mk (Kd.S_reads' hSr).2.2; have Lr := Aside0.mk (Kd.S_reads' hSr).2.1; clear hd hSr) | (go_at_call 27; (with_reducible refine (spec_WithoutVehicle.calls ks _ _ t x r1 _ _ Ct_3.out Lt.out KS.out).mono ?_); rintro e w4 ⟨vs, rfl, hSs, hd⟩; have HB4 := Aside0.mk (below_w2 HB3.out hd); have Cc_4 := Aside0.mk (Kd.C_below Cc_3.out hd); have Ct_4 := Aside0.mk (Kd.C_below Ct_3.out hd); have Cr_4 := Aside0.mk (Kd.C_below Cr_3.out hd); obtain ⟨Azs, czs, rfl⟩ := Kd.S_slice hSs; have Cs_4 := Aside0.mk (Kd.S_reads' hSs).2.2; have Ls := Aside0.mk (Kd.S_reads' hSs).2.1; clear hd hSs) | (go_at_call 43; (with_reducible refine (laws_rTable.calls kr _ _ r1 _ _ r1 true _ Cr_4.out Lr.out Cs_4.out Ls.out KR.out).mono ?_); rintro e w5 ⟨rfl, hd⟩; have HB5 := Aside0.mk (below_w2 HB4.out hd.below); have Cc_5 := Aside0.mk (Kd.C_below Cc_4.out hd.below); have Ct_5 := Aside0.mk (Kd.C_below Ct_4.out hd.below); have Cr_5 := Aside0.mk (Kd.C_below Cr_4.out hd.below); have Cs_5 := Aside0.mk (Kd.C_below Cs_4.out hd.below); clear hd) | (go_at_call 32; (with_reducible refine (impl_CountAssignments.calls kc _ _ t ct true _ Ct_5.out Lt.out KC.out).mono ?_); rintro e w6 ⟨rfl, hd⟩; have HB6 := Aside0.mk (below_w2 HB5.out hd); have Cc_6 := Aside0.mk (Kd.C_below Cc_5.out hd); have Ct_6 := Aside0.mk (Kd.C_below Ct_5.out hd); have Cr_6 := Aside0.mk (Kd.C_below Cr_5.out hd); have Cs_6 := Aside0.mk (Kd.C_below Cs_5.out hd); clear hd) | (go_at_call 32; (with_reducible refine (impl_CountAssignments.calls kd _ _ r1 cr true _ Cr_6.out Lr.out KD.out).mono ?_); rintro e w7 ⟨rfl, hd⟩; have HB7 := Aside0.mk (below_w2 HB6.out hd); have Cc_7 := Aside0.mk (Kd.C_below Cc_6.out hd); have Ct_7 := Aside0.mk (Kd.C_below Ct_6.out hd); have Cr_7 := Aside0.mk (Kd.C_below Cr_6.out hd); have Cs_7 := Aside0.mk (Kd.C_below Cs_6.out hd); clear hd) | (go_at_call 17; (with_reducible refine (impl_IsValidCosts.calls kv _ _ r1 true _ Cr_7.out Lr.out KV.out).mono ?_); rintro e w8 ⟨rfl, hd⟩; have HB8 := Aside0.mk (below_w2 HB7.out hd.below); have Cc_8 := Aside0.mk (Kd.C_below Cc_7.out hd.below); have Ct_8 := Aside0.mk (Kd.C_below Ct_7.out hd.below); have Cr_8 := Aside0.mk (Kd.C_below Cr_7.out hd.below); have Cs_8 := Aside0.mk (Kd.C_below Cs_7.out hd.below); clear hd) | (go_at_call 38; (with_reducible refine (impl_CheapestAssignment.calls ke _ _ t _ _ _ _ Ct_8.out Lt.out KE.out).mono ?_); rintro e w9 ⟨ve, rfl, hSe, hd⟩; have HB9 := Aside0.mk (below_w2 HB8.out hd); have Cc_9 := Aside0.mk (Kd.C_below Cc_8.out hd); have Ct_9 := Aside0.mk (Kd.C_below Ct_8.out hd); have Cr_9 := Aside0.mk (Kd.C_below Cr_8.out hd); have Cs_9 := Aside0.mk (Kd.C_below Cs_8.out hd); obtain ⟨Aze, cze, rfl⟩ := Kd.R_slice hSe; have Ce_9 := Aside0.mk (Kd.R_reads' hSe).2.2; have Le := Aside0.mk (Kd.R_reads' hSe).2.1; clear hd hSe) | (go_at_call 38; (with_reducible refine (impl_CheapestAssignment.calls kf _ _ r1 _ _ _ _ Cr_9.out Lr.out KF.out).mono ?_); rintro e w10 ⟨vf, rfl, hSf, hd⟩; have HB10 := Aside0.mk (below_w2 HB9.out hd); have Cc_10 := Aside0.mk (Kd.C_below Cc_9.out hd); have Ct_10 := Aside0.mk (Kd.C_below Ct_9.out hd); have Cr_10 := Aside0.mk (Kd.C_below Cr_9.out hd); have Cs_10 := Aside0.mk (Kd.C_below Cs_9.out hd); have Ce_10 := Aside0.mk (Kd.C_below Ce_9.out hd); obtain ⟨Azf, czf, rfl⟩ := Kd.R_slice hSf; have Cf_10 := Aside0.mk (Kd.R_reads' hSf).2.2; have Lf := Aside0.mk (Kd.R_reads' hSf).2.1; clear hd hSf) | (go_at_call 44; (with_reducible refine (draw44 A0 c0 l0 _ hcd Cc_10.out hc0).mono ?_); rintro e w11 ⟨vm, m, vp, p, rfl, ht, hSm, hSp, hl, hd⟩; have HB11 := Aside0.mk (below_w2 HB10.out hd); have Cc_11 := Aside0.mk (Kd.C_below Cc_10.out hd); obtain ⟨Azm, czm, rfl⟩ := Kd.R_slice hSm; have Cm_11 := Aside0.mk (Kd.R_reads' hSm).2.2; have Lm := Aside0.mk (Kd.R_reads' hSm).2.1; obtain ⟨Azp, czp, rfl⟩ := Kd.R_slice hSp; have Cp_11 := Aside0.mk (Kd.R_reads' hSp).2.2; have Lp := Aside0.mk (Kd.R_reads' hSp).2.1; have HM := Aside0.mk ht; clear ht hl; clear hd hSm hSp))
        have wd2 := wide_tab HM.out
        obtain ⟨⟨s1, s2, s3⟩, has⟩ : ∃ y, asgR m p = y := ⟨_, rfl⟩
        obtain ⟨ka, hka⟩ := Ev.rounds (impl_AsgCost m wd2 p)
        rw [show chk (Asg m p) ((costTo m p p.length).1, (costTo m p p.length).2, true) (0, 0, false) = asgR m p from rfl, has] at hka
        have KA := Aside0.mk hka
        clear hka
        obtain ⟨kb, hkb⟩ := Ev.rounds (spec_AsgCost m wd2 p)
        rw [show chk (Asg m p) ((costTo m p p.length).1, (costTo m p p.length).2, true) (0, 0, false) = asgR m p from rfl, has] at hkb
        have KB := Aside0.mk hkb
        clear hkb
        obtain ⟨kg, hkg⟩ := Ev.rounds (impl_asg m wd2 p)
        rw [asgR_b, has] at hkg
        have KG := Aside0.mk hkg
        clear hkg
        clear has wd2
        dsimp only at KG
        cases s3 with
        | false =>
          go_wp2_with (first | (go_at_call 26; (with_reducible refine (impl_AssignmentCost.calls ka _ _ m _ _ p _ _ _ _ Cm_11.out Lm.out Cp_11.out Lp.out KA.out).mono ?_); rintro e w12 ⟨rfl, hd⟩; have HB12 := Aside0.mk (below_w2 HB11.out hd); have Cc_12 := Aside0.mk (Kd.C_below Cc_11.out hd); have Cm_12 := Aside0.mk (Kd.C_below Cm_11.out hd); have Cp_12 := Aside0.mk (Kd.C_below Cp_11.out hd); clear hd) | (go_at_call 25; (with_reducible refine (spec_AssignmentCost.calls kb _ _ m _ _ p _ _ _ _ Cm_12.out Lm.out Cp_12.out Lp.out KB.out).mono ?_); rintro e w13 ⟨rfl, hd⟩; have HB13 := Aside0.mk (below_w2 HB12.out hd); have Cc_13 := Aside0.mk (Kd.C_below Cc_12.out hd); have Cm_13 := Aside0.mk (Kd.C_below Cm_12.out hd); have Cp_13 := Aside0.mk (Kd.C_below Cp_12.out hd); clear hd) | (go_at_call 21; (with_reducible refine (impl_IsAssignment.calls kg _ _ m _ _ p _ _ Cm_13.out Lm.out Cp_13.out Lp.out KG.out).mono ?_); rintro e w14 ⟨rfl, hd⟩; have HB14 := Aside0.mk (below_w2 HB13.out hd.below); have Cc_14 := Aside0.mk (Kd.C_below Cc_13.out hd.below); have Cm_14 := Aside0.mk (Kd.C_below Cm_13.out hd.below); have Cp_14 := Aside0.mk (Kd.C_below Cp_13.out hd.below); clear hd))
          go_ret
          exact ⟨rfl, HB14.out⟩
        | true =>
          go_wp2_with (first | (go_at_call 26; (with_reducible refine (impl_AssignmentCost.calls ka _ _ m _ _ p _ _ _ _ Cm_11.out Lm.out Cp_11.out Lp.out KA.out).mono ?_); rintro e w12 ⟨rfl, hd⟩; have HB12 := Aside0.mk (below_w2 HB11.out hd); have Cc_12 := Aside0.mk (Kd.C_below Cc_11.out hd); have Cm_12 := Aside0.mk (Kd.C_below Cm_11.out hd); have Cp_12 := Aside0.mk (Kd.C_below Cp_11.out hd); clear hd) | (go_at_call 25; (with_reducible refine (spec_AssignmentCost.calls kb _ _ m _ _ p _ _ _ _ Cm_12.out Lm.out Cp_12.out Lp.out KB.out).mono ?_); rintro e w13 ⟨rfl, hd⟩; have HB13 := Aside0.mk (below_w2 HB12.out hd); have Cc_13 := Aside0.mk (Kd.C_below Cc_12.out hd); have Cm_13 := Aside0.mk (Kd.C_below Cm_12.out hd); have Cp_13 := Aside0.mk (Kd.C_below Cp_12.out hd); clear hd) | (go_at_call 21; (with_reducible refine (impl_IsAssignment.calls kg _ _ m _ _ p _ _ Cm_13.out Lm.out Cp_13.out Lp.out KG.out).mono ?_); rintro e w14 ⟨rfl, hd⟩; have HB14 := Aside0.mk (below_w2 HB13.out hd.below); have Cc_14 := Aside0.mk (Kd.C_below Cc_13.out hd.below); have Cm_14 := Aside0.mk (Kd.C_below Cm_13.out hd.below); have Cp_14 := Aside0.mk (Kd.C_below Cp_13.out hd.below); clear hd))
          go_ret
          exact ⟨rfl, HB14.out⟩
      | true =>
        obtain ⟨rfl, hlt⟩ := hch rfl
        have clt : decide (xr < xt) = false := decide_eq_false hlt
        clear hch hlt
        go_wp2_with (first | (go_at_call 28; (with_reducible refine (impl_WithoutVehicle.calls ki _ _ t x r1 _ _ Ct_2.out Lt.out KI.out).mono ?_); rintro e w3 ⟨vr, rfl, hSr, hd⟩; have HB3 := Aside0.mk (below_w2 HB2.out hd); have Cc_3 := Aside0.mk (Kd.C_below Cc_2.out hd); have Ct_3 := Aside0.mk (Kd.C_below Ct_2.out hd); obtain ⟨Azr, czr, rfl⟩ := Kd.S_slice hSr; have Cr_3 := Aside0.mk (Kd.S_reads' hSr).2.2; have Lr := Aside0.mk (Kd.S_reads' hSr).2.1; clear hd hSr) | (go_at_call 27; (with_reducible refine (spec_WithoutVehicle.calls ks _ _ t x r1 _ _ Ct_3.out Lt.out KS.out).mono ?_); rintro e w4 ⟨vs, rfl, hSs, hd⟩; have HB4 := Aside0.mk (below_w2 HB3.out hd); have Cc_4 := Aside0.mk (Kd.C_below Cc_3.out hd); have Ct_4 := Aside0.mk (Kd.C_below Ct_3.out hd); have Cr_4 := Aside0.mk (Kd.C_below Cr_3.out hd); obtain ⟨Azs, czs, rfl⟩ := Kd.S_slice hSs; have Cs_4 := Aside0.mk (Kd.S_reads' hSs).2.2; have Ls := Aside0.mk (Kd.S_reads' hSs).2.1; clear hd hSs) | (go_at_call 43; (with_reducible refine (laws_rTable.calls kr _ _ r1 _ _ r1 true _ Cr_4.out Lr.out Cs_4.out Ls.out KR.out).mono ?_); rintro e w5 ⟨rfl, hd⟩; have HB5 := Aside0.mk (below_w2 HB4.out hd.below); have Cc_5 := Aside0.mk (Kd.C_below Cc_4.out hd.below); have Ct_5 := Aside0.mk (Kd.C_below Ct_4.out hd.below); have Cr_5 := Aside0.mk (Kd.C_below Cr_4.out hd.below); have Cs_5 := Aside0.mk (Kd.C_below Cs_4.out hd.below); clear hd) | (go_at_call 32; (with_reducible refine (impl_CountAssignments.calls kc _ _ t ct true _ Ct_5.out Lt.out KC.out).mono ?_); rintro e w6 ⟨rfl, hd⟩; have HB6 := Aside0.mk (below_w2 HB5.out hd); have Cc_6 := Aside0.mk (Kd.C_below Cc_5.out hd); have Ct_6 := Aside0.mk (Kd.C_below Ct_5.out hd); have Cr_6 := Aside0.mk (Kd.C_below Cr_5.out hd); have Cs_6 := Aside0.mk (Kd.C_below Cs_5.out hd); clear hd) | (go_at_call 32; (with_reducible refine (impl_CountAssignments.calls kd _ _ r1 cr true _ Cr_6.out Lr.out KD.out).mono ?_); rintro e w7 ⟨rfl, hd⟩; have HB7 := Aside0.mk (below_w2 HB6.out hd); have Cc_7 := Aside0.mk (Kd.C_below Cc_6.out hd); have Ct_7 := Aside0.mk (Kd.C_below Ct_6.out hd); have Cr_7 := Aside0.mk (Kd.C_below Cr_6.out hd); have Cs_7 := Aside0.mk (Kd.C_below Cs_6.out hd); clear hd) | (go_at_call 17; (with_reducible refine (impl_IsValidCosts.calls kv _ _ r1 true _ Cr_7.out Lr.out KV.out).mono ?_); rintro e w8 ⟨rfl, hd⟩; have HB8 := Aside0.mk (below_w2 HB7.out hd.below); have Cc_8 := Aside0.mk (Kd.C_below Cc_7.out hd.below); have Ct_8 := Aside0.mk (Kd.C_below Ct_7.out hd.below); have Cr_8 := Aside0.mk (Kd.C_below Cr_7.out hd.below); have Cs_8 := Aside0.mk (Kd.C_below Cs_7.out hd.below); clear hd) | (go_at_call 38; (with_reducible refine (impl_CheapestAssignment.calls ke _ _ t _ _ _ _ Ct_8.out Lt.out KE.out).mono ?_); rintro e w9 ⟨ve, rfl, hSe, hd⟩; have HB9 := Aside0.mk (below_w2 HB8.out hd); have Cc_9 := Aside0.mk (Kd.C_below Cc_8.out hd); have Ct_9 := Aside0.mk (Kd.C_below Ct_8.out hd); have Cr_9 := Aside0.mk (Kd.C_below Cr_8.out hd); have Cs_9 := Aside0.mk (Kd.C_below Cs_8.out hd); obtain ⟨Aze, cze, rfl⟩ := Kd.R_slice hSe; have Ce_9 := Aside0.mk (Kd.R_reads' hSe).2.2; have Le := Aside0.mk (Kd.R_reads' hSe).2.1; clear hd hSe) | (go_at_call 38; (with_reducible refine (impl_CheapestAssignment.calls kf _ _ r1 _ _ _ _ Cr_9.out Lr.out KF.out).mono ?_); rintro e w10 ⟨vf, rfl, hSf, hd⟩; have HB10 := Aside0.mk (below_w2 HB9.out hd); have Cc_10 := Aside0.mk (Kd.C_below Cc_9.out hd); have Ct_10 := Aside0.mk (Kd.C_below Ct_9.out hd); have Cr_10 := Aside0.mk (Kd.C_below Cr_9.out hd); have Cs_10 := Aside0.mk (Kd.C_below Cs_9.out hd); have Ce_10 := Aside0.mk (Kd.C_below Ce_9.out hd); obtain ⟨Azf, czf, rfl⟩ := Kd.R_slice hSf; have Cf_10 := Aside0.mk (Kd.R_reads' hSf).2.2; have Lf := Aside0.mk (Kd.R_reads' hSf).2.1; clear hd hSf) | (go_at_call 44; (with_reducible refine (draw44 A0 c0 l0 _ hcd Cc_10.out hc0).mono ?_); rintro e w11 ⟨vm, m, vp, p, rfl, ht, hSm, hSp, hl, hd⟩; have HB11 := Aside0.mk (below_w2 HB10.out hd); have Cc_11 := Aside0.mk (Kd.C_below Cc_10.out hd); obtain ⟨Azm, czm, rfl⟩ := Kd.R_slice hSm; have Cm_11 := Aside0.mk (Kd.R_reads' hSm).2.2; have Lm := Aside0.mk (Kd.R_reads' hSm).2.1; obtain ⟨Azp, czp, rfl⟩ := Kd.R_slice hSp; have Cp_11 := Aside0.mk (Kd.R_reads' hSp).2.2; have Lp := Aside0.mk (Kd.R_reads' hSp).2.1; have HM := Aside0.mk ht; clear ht hl; clear hd hSm hSp))
        have wd2 := wide_tab HM.out
        obtain ⟨⟨s1, s2, s3⟩, has⟩ : ∃ y, asgR m p = y := ⟨_, rfl⟩
        obtain ⟨ka, hka⟩ := Ev.rounds (impl_AsgCost m wd2 p)
        rw [show chk (Asg m p) ((costTo m p p.length).1, (costTo m p p.length).2, true) (0, 0, false) = asgR m p from rfl, has] at hka
        have KA := Aside0.mk hka
        clear hka
        obtain ⟨kb, hkb⟩ := Ev.rounds (spec_AsgCost m wd2 p)
        rw [show chk (Asg m p) ((costTo m p p.length).1, (costTo m p p.length).2, true) (0, 0, false) = asgR m p from rfl, has] at hkb
        have KB := Aside0.mk hkb
        clear hkb
        obtain ⟨kg, hkg⟩ := Ev.rounds (impl_asg m wd2 p)
        rw [asgR_b, has] at hkg
        have KG := Aside0.mk hkg
        clear hkg
        clear has wd2
        dsimp only at KG
        cases s3 with
        | false =>
          go_wp2_with (first | (go_at_call 26; (with_reducible refine (impl_AssignmentCost.calls ka _ _ m _ _ p _ _ _ _ Cm_11.out Lm.out Cp_11.out Lp.out KA.out).mono ?_); rintro e w12 ⟨rfl, hd⟩; have HB12 := Aside0.mk (below_w2 HB11.out hd); have Cc_12 := Aside0.mk (Kd.C_below Cc_11.out hd); have Cm_12 := Aside0.mk (Kd.C_below Cm_11.out hd); have Cp_12 := Aside0.mk (Kd.C_below Cp_11.out hd); clear hd) | (go_at_call 25; (with_reducible refine (spec_AssignmentCost.calls kb _ _ m _ _ p _ _ _ _ Cm_12.out Lm.out Cp_12.out Lp.out KB.out).mono ?_); rintro e w13 ⟨rfl, hd⟩; have HB13 := Aside0.mk (below_w2 HB12.out hd); have Cc_13 := Aside0.mk (Kd.C_below Cc_12.out hd); have Cm_13 := Aside0.mk (Kd.C_below Cm_12.out hd); have Cp_13 := Aside0.mk (Kd.C_below Cp_12.out hd); clear hd) | (go_at_call 21; (with_reducible refine (impl_IsAssignment.calls kg _ _ m _ _ p _ _ Cm_13.out Lm.out Cp_13.out Lp.out KG.out).mono ?_); rintro e w14 ⟨rfl, hd⟩; have HB14 := Aside0.mk (below_w2 HB13.out hd.below); have Cc_14 := Aside0.mk (Kd.C_below Cc_13.out hd.below); have Cm_14 := Aside0.mk (Kd.C_below Cm_13.out hd.below); have Cp_14 := Aside0.mk (Kd.C_below Cp_13.out hd.below); clear hd))
          go_ret
          exact ⟨rfl, HB14.out⟩
        | true =>
          go_wp2_with (first | (go_at_call 26; (with_reducible refine (impl_AssignmentCost.calls ka _ _ m _ _ p _ _ _ _ Cm_11.out Lm.out Cp_11.out Lp.out KA.out).mono ?_); rintro e w12 ⟨rfl, hd⟩; have HB12 := Aside0.mk (below_w2 HB11.out hd); have Cc_12 := Aside0.mk (Kd.C_below Cc_11.out hd); have Cm_12 := Aside0.mk (Kd.C_below Cm_11.out hd); have Cp_12 := Aside0.mk (Kd.C_below Cp_11.out hd); clear hd) | (go_at_call 25; (with_reducible refine (spec_AssignmentCost.calls kb _ _ m _ _ p _ _ _ _ Cm_12.out Lm.out Cp_12.out Lp.out KB.out).mono ?_); rintro e w13 ⟨rfl, hd⟩; have HB13 := Aside0.mk (below_w2 HB12.out hd); have Cc_13 := Aside0.mk (Kd.C_below Cc_12.out hd); have Cm_13 := Aside0.mk (Kd.C_below Cm_12.out hd); have Cp_13 := Aside0.mk (Kd.C_below Cp_12.out hd); clear hd) | (go_at_call 21; (with_reducible refine (impl_IsAssignment.calls kg _ _ m _ _ p _ _ Cm_13.out Lm.out Cp_13.out Lp.out KG.out).mono ?_); rintro e w14 ⟨rfl, hd⟩; have HB14 := Aside0.mk (below_w2 HB13.out hd.below); have Cc_14 := Aside0.mk (Kd.C_below Cc_13.out hd.below); have Cm_14 := Aside0.mk (Kd.C_below Cm_13.out hd.below); have Cp_14 := Aside0.mk (Kd.C_below Cp_13.out hd.below); clear hd))
          go_ret
          exact ⟨rfl, HB14.out⟩
end Go.Proofs.Ytfgbohochpjkfaa.G

/- The walk of FnAssignments: on every code the law answers true. -/
namespace Go.Proofs.Ytfgbohochpjkfaa.G
open Go.RowKit Go.Proofs.YtfgbohochpjkfaaW.PrintWords Go.Proofs.YtfgbohochpjkfaaW.PrintLast Go.Proofs.YtfgbohochpjkfaaW.PrintMore
set_option linter.unusedVariables false
set_option linter.unusedSimpArgs false
theorem greedy_at (k0 : Nat) (b0 : Bool) (At : Option Addr) (ct : Nat) (t : List (List Int)) (gl : List Int) (gk : Bool) (w : World) (hC : Kd.C (Kd.slice 3 (Kd.int .i64)) w At t.length t) (hct : t.length ≤ ct) (ht : Tab t) (hg : spec_l17Good.f k0 t = some b0) (he : (if b0 = true then gFrom t t.length 0 [] else ([], false)) = (gl, gk)) :
    Calls Try.prog 33 #[.slice At t.length ct] w fun e w' => ∃ v : Value, e = .returned (.tuple #[v, .bool gk]) ∧ Kd.R (Kd.int .i64) 3 w' w.heap.size (fun _ => True) v gl ∧ Below w.heap.size w w' := by
  have h := greedy_spec k0 b0 At ct t w hC hct (by have := ht.1; omega) (fun i i0 i1 => by have := tab_rows ht i i0 i1; omega) hg
  rw [he] at h
  refine h.mono ?_
  rintro e w' ⟨v, rfl, hr, hb⟩
  exact ⟨v, rfl, Kd.R_mono hr (fun _ _ => trivial), hb⟩
theorem chp_len {fast : Bool} {t : List (List Int)} (h : Tab t) : ((chpR fast t).1.length : Int) ≤ 1048576 := by
  rcases chp_iff fast t with g | g
  · rw [g.2.1]; simp
  · have := g.2.1.2.1
    have := h.1
    omega
set_option maxHeartbeats 8000000 in
set_option maxRecDepth 100000 in
theorem laws_FnAssignments.walk (A0 : Option Addr) (c0 : Nat) (l0 : List Int) (w : World) (hr0 : Kd.C (Kd.int .u8) w A0 l0.length l0) (hc0 : l0.length ≤ c0) (hw0 : (l0.length ≤ maxLen ∧ ∀ y ∈ l0, (Lit.int .u8 y).wf = true)) :
    Calls Try.prog 13 #[.slice A0 l0.length c0] w fun e w' => e = .returned (.bool true) ∧ Below w.heap.size w w' := by
  have Cc_0 := Aside0.mk hr0
  have HB0 := Aside0.mk (Below.refl w.heap.size w)
  clear hr0
  by_cases hbig : (l0.length : Int) > 65536
  · have big := Aside0.mk (big_yes hbig)
    clear hbig hw0
    go_enter Try.func13, Try.ntmps13
    go_wp2_with (first | (go_at_call 41; (with_reducible refine (laws_rBig.calls A0 c0 l0 true w Cc_0.out hc0 big.out).mono ?_); rintro e w1 ⟨rfl, hd⟩; have HB1 := Aside0.mk hd.below; clear hd))
    go_ret
    exact ⟨rfl, HB1.out⟩
  · have hcd : Cd l0 := cd_of (by omega) hw0.2
    have big := Aside0.mk (big_no hbig)
    clear hbig hw0
    go_enter Try.func13, Try.ntmps13
    go_wp2_with (first | (go_at_call 41; (with_reducible refine (laws_rBig.calls A0 c0 l0 false w Cc_0.out hc0 big.out).mono ?_); rintro e w1 ⟨rfl, hd⟩; have HB1 := Aside0.mk (below_w2 HB0.out hd.below); have Cc_1 := Aside0.mk (Kd.C_below Cc_0.out hd.below); clear hd) | (go_at_call 45; (with_reducible refine (draw45 A0 c0 l0 _ hcd Cc_1.out hc0).mono ?_); rintro e w2 ⟨vt, t, rfl, ht, hSt, hd⟩; have HB2 := Aside0.mk (below_w2 HB1.out hd); have Cc_2 := Aside0.mk (Kd.C_below Cc_1.out hd); obtain ⟨Azt, czt, rfl⟩ := Kd.R_slice hSt; have Ct_2 := Aside0.mk (Kd.R_reads' hSt).2.2; have Lt := Aside0.mk (Kd.R_reads' hSt).2.1; have HT := Aside0.mk ht; clear ht; clear hd hSt))
    have wd := wide_tab HT.out
    have hci := chp_iff false t
    have hfi := chp_iff true t
    have hgi := @gR_asg t
    have hni := cnt_iff t
    have hlc := chp_len (fast := false) HT.out
    have hlf := chp_len (fast := true) HT.out
    have hlg := gR_len t HT.out.1
    obtain ⟨⟨lc, xc, oc⟩, hec⟩ : ∃ y, chpR false t = y := ⟨_, rfl⟩
    obtain ⟨⟨lf, xf, of⟩, hef⟩ : ∃ y, chpR true t = y := ⟨_, rfl⟩
    obtain ⟨⟨n, on⟩, hen⟩ : ∃ y, cntR t = y := ⟨_, rfl⟩
    obtain ⟨⟨gl, gk⟩, heg⟩ : ∃ y, gR t = y := ⟨_, rfl⟩
    rw [hec] at hci hni hlc
    rw [hef] at hfi hlf
    rw [hen] at hni
    rw [heg] at hgi hlg
    dsimp only at hci hni hlc hfi hlf hgi hlg
    obtain ⟨kc, hkc⟩ := Ev.rounds (impl_chp t)
    rw [hec] at hkc
    have KC := Aside0.mk hkc
    clear hkc
    obtain ⟨ks, hks⟩ := Ev.rounds (spec_chp t wd)
    rw [hec] at hks
    have KS := Aside0.mk hks
    clear hks
    obtain ⟨kf, hkf⟩ := Ev.rounds (impl_fst t)
    rw [hef] at hkf
    have KF := Aside0.mk hkf
    clear hkf
    obtain ⟨kg, hkg⟩ := Ev.rounds (spec_fst t wd)
    rw [hef] at hkg
    have KG := Aside0.mk hkg
    clear hkg
    obtain ⟨kn, hkn⟩ := Ev.rounds (impl_cnt t)
    rw [hen] at hkn
    have KN := Aside0.mk hkn
    clear hkn
    obtain ⟨km, hkm⟩ := Ev.rounds (spec_cnt t wd)
    rw [hen] at hkm
    have KM := Aside0.mk hkm
    clear hkm
    obtain ⟨kr, hkr⟩ := Ev.rounds (rInts_V lc hlc)
    have KR := Aside0.mk hkr
    clear hkr
    obtain ⟨kq, hkq⟩ := Ev.rounds (rInts_V lf hlf)
    have KQ := Aside0.mk hkq
    clear hkq
    obtain ⟨kz, hkz⟩ := Ev.rounds (rInts_V gl (by omega))
    have KZ := Aside0.mk hkz
    clear hkz
    obtain ⟨kh, hkh⟩ := Ev.rounds (impl_gR t)
    rw [heg] at hkh
    have KH := Aside0.mk hkh
    clear hkh
    obtain ⟨bg, hbg, hbe⟩ := good_gR t wd
    rw [heg] at hbe
    have HBE := Aside0.mk hbe
    obtain ⟨kb, hkb⟩ := Ev.rounds (hbg)
    have KB := Aside0.mk hkb
    clear hkb
    obtain ⟨⟨sg, mg, og⟩, hgg⟩ : ∃ y, asgR t gl = y := ⟨_, rfl⟩
    obtain ⟨kw, hkw⟩ := Ev.rounds (impl_AsgCost t wd gl)
    rw [show chk (Asg t gl) ((costTo t gl gl.length).1, (costTo t gl gl.length).2, true) (0, 0, false) = asgR t gl from rfl, hgg] at hkw
    have KW := Aside0.mk hkw
    clear hkw
    clear hec hef hen heg hlc hlf hlg hbg hbe
    cases oc with
    | false =>
      have c1 : decide (0 < n) = false := hni.symm
      clear hni hfi hgi hci
      go_wp2_with (first | (go_at_call 38; (with_reducible refine (impl_CheapestAssignment.calls kc _ _ t _ _ _ _ Ct_2.out Lt.out KC.out).mono ?_); rintro e w3 ⟨v1, rfl, hSa, hd⟩; have HB3 := Aside0.mk (below_w2 HB2.out hd); have Cc_3 := Aside0.mk (Kd.C_below Cc_2.out hd); have Ct_3 := Aside0.mk (Kd.C_below Ct_2.out hd); obtain ⟨Aza, cza, rfl⟩ := Kd.R_slice hSa; have Ca_3 := Aside0.mk (Kd.R_reads' hSa).2.2; have La := Aside0.mk (Kd.R_reads' hSa).2.1; clear hd hSa) | (go_at_call 37; (with_reducible refine (spec_CheapestAssignment.calls ks _ _ t _ _ _ _ Ct_3.out Lt.out KS.out).mono ?_); rintro e w4 ⟨v2, rfl, hSb, hd⟩; have HB4 := Aside0.mk (below_w2 HB3.out hd); have Cc_4 := Aside0.mk (Kd.C_below Cc_3.out hd); have Ct_4 := Aside0.mk (Kd.C_below Ct_3.out hd); have Ca_4 := Aside0.mk (Kd.C_below Ca_3.out hd); obtain ⟨Azb, czb, rfl⟩ := Kd.V_slice hSb; have Cb_4 := Aside0.mk (Kd.V_reads' hSb).2.2; have Lb := Aside0.mk (Kd.V_reads' hSb).2.1; clear hd hSb) | (go_at_call 46; (with_reducible refine (laws_rInts.calls kr _ _ lc _ _ lc true _ Ca_4.out La.out Cb_4.out Lb.out KR.out).mono ?_); rintro e w5 ⟨rfl, hd⟩; have HB5 := Aside0.mk (below_w2 HB4.out hd.below); have Cc_5 := Aside0.mk (Kd.C_below Cc_4.out hd.below); have Ct_5 := Aside0.mk (Kd.C_below Ct_4.out hd.below); have Ca_5 := Aside0.mk (Kd.C_below Ca_4.out hd.below); have Cb_5 := Aside0.mk (Kd.C_below Cb_4.out hd.below); clear hd) | (go_at_call 32; (with_reducible refine (impl_CountAssignments.calls kn _ _ t _ _ _ Ct_5.out Lt.out KN.out).mono ?_); rintro e w6 ⟨rfl, hd⟩; have HB6 := Aside0.mk (below_w2 HB5.out hd); have Cc_6 := Aside0.mk (Kd.C_below Cc_5.out hd); have Ct_6 := Aside0.mk (Kd.C_below Ct_5.out hd); have Ca_6 := Aside0.mk (Kd.C_below Ca_5.out hd); have Cb_6 := Aside0.mk (Kd.C_below Cb_5.out hd); clear hd) | (go_at_call 31; (with_reducible refine (spec_CountAssignments.calls km _ _ t _ _ _ Ct_6.out Lt.out KM.out).mono ?_); rintro e w7 ⟨rfl, hd⟩; have HB7 := Aside0.mk (below_w2 HB6.out hd); have Cc_7 := Aside0.mk (Kd.C_below Cc_6.out hd); have Ct_7 := Aside0.mk (Kd.C_below Ct_6.out hd); have Ca_7 := Aside0.mk (Kd.C_below Ca_6.out hd); have Cb_7 := Aside0.mk (Kd.C_below Cb_6.out hd); clear hd) | (go_at_call 47; (with_reducible refine (draw47 A0 c0 l0 _ hcd Cc_7.out hc0).mono ?_); rintro e w8 ⟨vm, m, vp, p, rfl, ht, hSm, hSp, hl, hd⟩; have HB8 := Aside0.mk (below_w2 HB7.out hd); have Cc_8 := Aside0.mk (Kd.C_below Cc_7.out hd); obtain ⟨Azm, czm, rfl⟩ := Kd.R_slice hSm; have Cm_8 := Aside0.mk (Kd.R_reads' hSm).2.2; have Lm := Aside0.mk (Kd.R_reads' hSm).2.1; obtain ⟨Azp, czp, rfl⟩ := Kd.R_slice hSp; have Cp_8 := Aside0.mk (Kd.R_reads' hSp).2.2; have Lp := Aside0.mk (Kd.R_reads' hSp).2.1; have HM := Aside0.mk ht; clear ht hl; clear hd hSm hSp))
      have wd2 := wide_tab HM.out
      have hpl := fun s => @prov_le m p s
      obtain ⟨⟨s, os⟩, hep⟩ : ∃ y, prov m p = y := ⟨_, rfl⟩
      obtain ⟨⟨lm, xm, om⟩, hem⟩ : ∃ y, chpR false m = y := ⟨_, rfl⟩
      rw [hep, hem] at hpl
      dsimp only at hpl
      obtain ⟨ip, hip⟩ := Ev.rounds (impl_Proven m wd2 p)
      rw [hep] at hip
      have IP := Aside0.mk hip
      clear hip
      obtain ⟨sp, hsp⟩ := Ev.rounds (spec_Proven m wd2 p)
      rw [hep] at hsp
      have SP := Aside0.mk hsp
      clear hsp
      obtain ⟨im, him⟩ := Ev.rounds (impl_chp m)
      rw [hem] at him
      have IM := Aside0.mk him
      clear him
      clear hep hem wd2
      cases om with
      | false =>
        clear hpl
        go_wp2_with (first | (go_at_call 24; (with_reducible refine (impl_ProvenLower.calls ip _ _ m _ _ p _ _ _ Cm_8.out Lm.out Cp_8.out Lp.out IP.out).mono ?_); rintro e w9 ⟨rfl, hd⟩; have HB9 := Aside0.mk (below_w2 HB8.out hd.below); have Cc_9 := Aside0.mk (Kd.C_below Cc_8.out hd.below); have Cm_9 := Aside0.mk (Kd.C_below Cm_8.out hd.below); have Cp_9 := Aside0.mk (Kd.C_below Cp_8.out hd.below); clear hd) | (go_at_call 23; (with_reducible refine (spec_ProvenLower.calls sp _ _ m _ _ p _ _ _ Cm_9.out Lm.out Cp_9.out Lp.out SP.out).mono ?_); rintro e w10 ⟨rfl, hd⟩; have HB10 := Aside0.mk (below_w2 HB9.out hd.below); have Cc_10 := Aside0.mk (Kd.C_below Cc_9.out hd.below); have Cm_10 := Aside0.mk (Kd.C_below Cm_9.out hd.below); have Cp_10 := Aside0.mk (Kd.C_below Cp_9.out hd.below); clear hd) | (go_at_call 38; (with_reducible refine (impl_CheapestAssignment.calls im _ _ m _ _ _ _ Cm_10.out Lm.out IM.out).mono ?_); rintro e w11 ⟨v7, rfl, hSk, hd⟩; have HB11 := Aside0.mk (below_w2 HB10.out hd); have Cc_11 := Aside0.mk (Kd.C_below Cc_10.out hd); have Cm_11 := Aside0.mk (Kd.C_below Cm_10.out hd); have Cp_11 := Aside0.mk (Kd.C_below Cp_10.out hd); obtain ⟨Azk, czk, rfl⟩ := Kd.R_slice hSk; have Ck_11 := Aside0.mk (Kd.R_reads' hSk).2.2; have Lk := Aside0.mk (Kd.R_reads' hSk).2.1; clear hd hSk))
        go_ret
        exact ⟨rfl, HB11.out⟩
      | true =>
        cases os with
        | false =>
          clear hpl
          go_wp2_with (first | (go_at_call 24; (with_reducible refine (impl_ProvenLower.calls ip _ _ m _ _ p _ _ _ Cm_8.out Lm.out Cp_8.out Lp.out IP.out).mono ?_); rintro e w9 ⟨rfl, hd⟩; have HB9 := Aside0.mk (below_w2 HB8.out hd.below); have Cc_9 := Aside0.mk (Kd.C_below Cc_8.out hd.below); have Cm_9 := Aside0.mk (Kd.C_below Cm_8.out hd.below); have Cp_9 := Aside0.mk (Kd.C_below Cp_8.out hd.below); clear hd) | (go_at_call 23; (with_reducible refine (spec_ProvenLower.calls sp _ _ m _ _ p _ _ _ Cm_9.out Lm.out Cp_9.out Lp.out SP.out).mono ?_); rintro e w10 ⟨rfl, hd⟩; have HB10 := Aside0.mk (below_w2 HB9.out hd.below); have Cc_10 := Aside0.mk (Kd.C_below Cc_9.out hd.below); have Cm_10 := Aside0.mk (Kd.C_below Cm_9.out hd.below); have Cp_10 := Aside0.mk (Kd.C_below Cp_9.out hd.below); clear hd) | (go_at_call 38; (with_reducible refine (impl_CheapestAssignment.calls im _ _ m _ _ _ _ Cm_10.out Lm.out IM.out).mono ?_); rintro e w11 ⟨v7, rfl, hSk, hd⟩; have HB11 := Aside0.mk (below_w2 HB10.out hd); have Cc_11 := Aside0.mk (Kd.C_below Cc_10.out hd); have Cm_11 := Aside0.mk (Kd.C_below Cm_10.out hd); have Cp_11 := Aside0.mk (Kd.C_below Cp_10.out hd); obtain ⟨Azk, czk, rfl⟩ := Kd.R_slice hSk; have Ck_11 := Aside0.mk (Kd.R_reads' hSk).2.2; have Lk := Aside0.mk (Kd.R_reads' hSk).2.1; clear hd hSk))
          go_ret
          exact ⟨rfl, HB11.out⟩
        | true =>
          have c3 : decide (xm < s) = false := decide_eq_false (hpl s rfl rfl)
          clear hpl
          go_wp2_with (first | (go_at_call 24; (with_reducible refine (impl_ProvenLower.calls ip _ _ m _ _ p _ _ _ Cm_8.out Lm.out Cp_8.out Lp.out IP.out).mono ?_); rintro e w9 ⟨rfl, hd⟩; have HB9 := Aside0.mk (below_w2 HB8.out hd.below); have Cc_9 := Aside0.mk (Kd.C_below Cc_8.out hd.below); have Cm_9 := Aside0.mk (Kd.C_below Cm_8.out hd.below); have Cp_9 := Aside0.mk (Kd.C_below Cp_8.out hd.below); clear hd) | (go_at_call 23; (with_reducible refine (spec_ProvenLower.calls sp _ _ m _ _ p _ _ _ Cm_9.out Lm.out Cp_9.out Lp.out SP.out).mono ?_); rintro e w10 ⟨rfl, hd⟩; have HB10 := Aside0.mk (below_w2 HB9.out hd.below); have Cc_10 := Aside0.mk (Kd.C_below Cc_9.out hd.below); have Cm_10 := Aside0.mk (Kd.C_below Cm_9.out hd.below); have Cp_10 := Aside0.mk (Kd.C_below Cp_9.out hd.below); clear hd) | (go_at_call 38; (with_reducible refine (impl_CheapestAssignment.calls im _ _ m _ _ _ _ Cm_10.out Lm.out IM.out).mono ?_); rintro e w11 ⟨v7, rfl, hSk, hd⟩; have HB11 := Aside0.mk (below_w2 HB10.out hd); have Cc_11 := Aside0.mk (Kd.C_below Cc_10.out hd); have Cm_11 := Aside0.mk (Kd.C_below Cm_10.out hd); have Cp_11 := Aside0.mk (Kd.C_below Cp_10.out hd); obtain ⟨Azk, czk, rfl⟩ := Kd.R_slice hSk; have Ck_11 := Aside0.mk (Kd.R_reads' hSk).2.2; have Lk := Aside0.mk (Kd.R_reads' hSk).2.1; clear hd hSk))
          go_ret
          exact ⟨rfl, HB11.out⟩
    | true =>
      have c1 : decide (0 < n) = true := hni.symm
      have hci := hci.resolve_left (fun h => Bool.false_ne_true h.1.symm)
      have hfi := hfi.resolve_left (fun h => h.2.2.2 lc hci.2.1)
      obtain ⟨rfl, hfa, hfx, hfl⟩ := hfi
      obtain ⟨_, hca, hcx, hcl⟩ := hci
      obtain ⟨ml, hml⟩ : ∃ y, numF true t lc = y := ⟨_, rfl⟩
      obtain ⟨sf, hsf⟩ : ∃ y, numF false t lf = y := ⟨_, rfl⟩
      have equ := asgR_ok hca
      rw [hml, ← hcx] at equ
      have eqv := asgR_ok hfa
      rw [hsf, ← hfx] at eqv
      obtain ⟨ku, hku⟩ := Ev.rounds (impl_AsgCost t wd lc)
      rw [show chk (Asg t lc) ((costTo t lc lc.length).1, (costTo t lc lc.length).2, true) (0, 0, false) = asgR t lc from rfl, equ] at hku
      have KU := Aside0.mk hku
      clear hku
      obtain ⟨kv, hkv⟩ := Ev.rounds (impl_AsgCost t wd lf)
      rw [show chk (Asg t lf) ((costTo t lf lf.length).1, (costTo t lf lf.length).2, true) (0, 0, false) = asgR t lf from rfl, eqv] at hkv
      have KV := Aside0.mk hkv
      clear hkv
      obtain ⟨ki, hki⟩ := Ev.rounds (impl_asg t wd lc)
      rw [chk_pos hca] at hki
      have KI := Aside0.mk hki
      clear hki
      have c2 : decide (ml < xf) = false := decide_eq_false (by have := hfl lc hca; omega)
      have c4 : decide (sf < xc) = false := decide_eq_false (by have := hcl lf hfa; omega)
      clear hni hml hsf equ eqv hfa hfx hfl hcx hca
      cases gk with
      | false =>
        clear hgi hcl hgg
        go_wp2_with (first | (go_at_call 38; (with_reducible refine (impl_CheapestAssignment.calls kc _ _ t _ _ _ _ Ct_2.out Lt.out KC.out).mono ?_); rintro e w3 ⟨v1, rfl, hSa, hd⟩; have HB3 := Aside0.mk (below_w2 HB2.out hd); have Cc_3 := Aside0.mk (Kd.C_below Cc_2.out hd); have Ct_3 := Aside0.mk (Kd.C_below Ct_2.out hd); obtain ⟨Aza, cza, rfl⟩ := Kd.R_slice hSa; have Ca_3 := Aside0.mk (Kd.R_reads' hSa).2.2; have La := Aside0.mk (Kd.R_reads' hSa).2.1; clear hd hSa) | (go_at_call 37; (with_reducible refine (spec_CheapestAssignment.calls ks _ _ t _ _ _ _ Ct_3.out Lt.out KS.out).mono ?_); rintro e w4 ⟨v2, rfl, hSb, hd⟩; have HB4 := Aside0.mk (below_w2 HB3.out hd); have Cc_4 := Aside0.mk (Kd.C_below Cc_3.out hd); have Ct_4 := Aside0.mk (Kd.C_below Ct_3.out hd); have Ca_4 := Aside0.mk (Kd.C_below Ca_3.out hd); obtain ⟨Azb, czb, rfl⟩ := Kd.V_slice hSb; have Cb_4 := Aside0.mk (Kd.V_reads' hSb).2.2; have Lb := Aside0.mk (Kd.V_reads' hSb).2.1; clear hd hSb) | (go_at_call 46; (with_reducible refine (laws_rInts.calls kr _ _ lc _ _ lc true _ Ca_4.out La.out Cb_4.out Lb.out KR.out).mono ?_); rintro e w5 ⟨rfl, hd⟩; have HB5 := Aside0.mk (below_w2 HB4.out hd.below); have Cc_5 := Aside0.mk (Kd.C_below Cc_4.out hd.below); have Ct_5 := Aside0.mk (Kd.C_below Ct_4.out hd.below); have Ca_5 := Aside0.mk (Kd.C_below Ca_4.out hd.below); have Cb_5 := Aside0.mk (Kd.C_below Cb_4.out hd.below); clear hd) | (go_at_call 32; (with_reducible refine (impl_CountAssignments.calls kn _ _ t _ _ _ Ct_5.out Lt.out KN.out).mono ?_); rintro e w6 ⟨rfl, hd⟩; have HB6 := Aside0.mk (below_w2 HB5.out hd); have Cc_6 := Aside0.mk (Kd.C_below Cc_5.out hd); have Ct_6 := Aside0.mk (Kd.C_below Ct_5.out hd); have Ca_6 := Aside0.mk (Kd.C_below Ca_5.out hd); have Cb_6 := Aside0.mk (Kd.C_below Cb_5.out hd); clear hd) | (go_at_call 31; (with_reducible refine (spec_CountAssignments.calls km _ _ t _ _ _ Ct_6.out Lt.out KM.out).mono ?_); rintro e w7 ⟨rfl, hd⟩; have HB7 := Aside0.mk (below_w2 HB6.out hd); have Cc_7 := Aside0.mk (Kd.C_below Cc_6.out hd); have Ct_7 := Aside0.mk (Kd.C_below Ct_6.out hd); have Ca_7 := Aside0.mk (Kd.C_below Ca_6.out hd); have Cb_7 := Aside0.mk (Kd.C_below Cb_6.out hd); clear hd) | (go_at_call 26; (with_reducible refine (impl_AssignmentCost.calls ku _ _ t _ _ lc _ _ _ _ Ct_7.out Lt.out Ca_7.out La.out KU.out).mono ?_); rintro e w8 ⟨rfl, hd⟩; have HB8 := Aside0.mk (below_w2 HB7.out hd); have Cc_8 := Aside0.mk (Kd.C_below Cc_7.out hd); have Ct_8 := Aside0.mk (Kd.C_below Ct_7.out hd); have Ca_8 := Aside0.mk (Kd.C_below Ca_7.out hd); have Cb_8 := Aside0.mk (Kd.C_below Cb_7.out hd); clear hd) | (go_at_call 40; (with_reducible refine (impl_FastestAssignment.calls kf _ _ t _ _ _ _ Ct_8.out Lt.out KF.out).mono ?_); rintro e w9 ⟨v3, rfl, hSd, hd⟩; have HB9 := Aside0.mk (below_w2 HB8.out hd); have Cc_9 := Aside0.mk (Kd.C_below Cc_8.out hd); have Ct_9 := Aside0.mk (Kd.C_below Ct_8.out hd); have Ca_9 := Aside0.mk (Kd.C_below Ca_8.out hd); have Cb_9 := Aside0.mk (Kd.C_below Cb_8.out hd); obtain ⟨Azd, czd, rfl⟩ := Kd.R_slice hSd; have Cd_9 := Aside0.mk (Kd.R_reads' hSd).2.2; have Ld := Aside0.mk (Kd.R_reads' hSd).2.1; clear hd hSd) | (go_at_call 39; (with_reducible refine (spec_FastestAssignment.calls kg _ _ t _ _ _ _ Ct_9.out Lt.out KG.out).mono ?_); rintro e w10 ⟨v4, rfl, hSe, hd⟩; have HB10 := Aside0.mk (below_w2 HB9.out hd); have Cc_10 := Aside0.mk (Kd.C_below Cc_9.out hd); have Ct_10 := Aside0.mk (Kd.C_below Ct_9.out hd); have Ca_10 := Aside0.mk (Kd.C_below Ca_9.out hd); have Cb_10 := Aside0.mk (Kd.C_below Cb_9.out hd); have Cd_10 := Aside0.mk (Kd.C_below Cd_9.out hd); obtain ⟨Aze, cze, rfl⟩ := Kd.V_slice hSe; have Ce_10 := Aside0.mk (Kd.V_reads' hSe).2.2; have Le := Aside0.mk (Kd.V_reads' hSe).2.1; clear hd hSe) | (go_at_call 26; (with_reducible refine (impl_AssignmentCost.calls kv _ _ t _ _ lf _ _ _ _ Ct_10.out Lt.out Cd_10.out Ld.out KV.out).mono ?_); rintro e w11 ⟨rfl, hd⟩; have HB11 := Aside0.mk (below_w2 HB10.out hd); have Cc_11 := Aside0.mk (Kd.C_below Cc_10.out hd); have Ct_11 := Aside0.mk (Kd.C_below Ct_10.out hd); have Ca_11 := Aside0.mk (Kd.C_below Ca_10.out hd); have Cb_11 := Aside0.mk (Kd.C_below Cb_10.out hd); have Cd_11 := Aside0.mk (Kd.C_below Cd_10.out hd); have Ce_11 := Aside0.mk (Kd.C_below Ce_10.out hd); clear hd) | (go_at_call 46; (with_reducible refine (laws_rInts.calls kq _ _ lf _ _ lf true _ Cd_11.out Ld.out Ce_11.out Le.out KQ.out).mono ?_); rintro e w12 ⟨rfl, hd⟩; have HB12 := Aside0.mk (below_w2 HB11.out hd.below); have Cc_12 := Aside0.mk (Kd.C_below Cc_11.out hd.below); have Ct_12 := Aside0.mk (Kd.C_below Ct_11.out hd.below); have Ca_12 := Aside0.mk (Kd.C_below Ca_11.out hd.below); have Cb_12 := Aside0.mk (Kd.C_below Cb_11.out hd.below); have Cd_12 := Aside0.mk (Kd.C_below Cd_11.out hd.below); have Ce_12 := Aside0.mk (Kd.C_below Ce_11.out hd.below); clear hd) | (go_at_call 21; (with_reducible refine (impl_IsAssignment.calls ki _ _ t _ _ lc _ _ Ct_12.out Lt.out Ca_12.out La.out KI.out).mono ?_); rintro e w13 ⟨rfl, hd⟩; have HB13 := Aside0.mk (below_w2 HB12.out hd.below); have Cc_13 := Aside0.mk (Kd.C_below Cc_12.out hd.below); have Ct_13 := Aside0.mk (Kd.C_below Ct_12.out hd.below); have Ca_13 := Aside0.mk (Kd.C_below Ca_12.out hd.below); have Cb_13 := Aside0.mk (Kd.C_below Cb_12.out hd.below); have Cd_13 := Aside0.mk (Kd.C_below Cd_12.out hd.below); have Ce_13 := Aside0.mk (Kd.C_below Ce_12.out hd.below); clear hd) | (go_at_call 34; (with_reducible refine (impl_GreedyAssignment.calls kh _ _ t _ _ _ Ct_13.out Lt.out KH.out).mono ?_); rintro e w14 ⟨v5, rfl, hSg, hd⟩; have HB14 := Aside0.mk (below_w2 HB13.out hd); have Cc_14 := Aside0.mk (Kd.C_below Cc_13.out hd); have Ct_14 := Aside0.mk (Kd.C_below Ct_13.out hd); have Ca_14 := Aside0.mk (Kd.C_below Ca_13.out hd); have Cb_14 := Aside0.mk (Kd.C_below Cb_13.out hd); have Cd_14 := Aside0.mk (Kd.C_below Cd_13.out hd); have Ce_14 := Aside0.mk (Kd.C_below Ce_13.out hd); obtain ⟨Azg, czg, rfl⟩ := Kd.R_slice hSg; have Cg_14 := Aside0.mk (Kd.R_reads' hSg).2.2; have Lg := Aside0.mk (Kd.R_reads' hSg).2.1; clear hd hSg) | (go_at_call 33; (with_reducible refine (greedy_at kb bg _ _ t gl _ _ Ct_14.out Lt.out HT.out KB.out HBE.out).mono ?_); rintro e w15 ⟨v6, rfl, hSh, hd⟩; have HB15 := Aside0.mk (below_w2 HB14.out hd); have Cc_15 := Aside0.mk (Kd.C_below Cc_14.out hd); have Ct_15 := Aside0.mk (Kd.C_below Ct_14.out hd); have Ca_15 := Aside0.mk (Kd.C_below Ca_14.out hd); have Cb_15 := Aside0.mk (Kd.C_below Cb_14.out hd); have Cd_15 := Aside0.mk (Kd.C_below Cd_14.out hd); have Ce_15 := Aside0.mk (Kd.C_below Ce_14.out hd); have Cg_15 := Aside0.mk (Kd.C_below Cg_14.out hd); obtain ⟨Azh, czh, rfl⟩ := Kd.R_slice hSh; have Ch_15 := Aside0.mk (Kd.R_reads' hSh).2.2; have Lh := Aside0.mk (Kd.R_reads' hSh).2.1; clear hd hSh) | (go_at_call 46; (with_reducible refine (laws_rInts.calls kz _ _ gl _ _ gl true _ Cg_15.out Lg.out Ch_15.out Lh.out KZ.out).mono ?_); rintro e w16 ⟨rfl, hd⟩; have HB16 := Aside0.mk (below_w2 HB15.out hd.below); have Cc_16 := Aside0.mk (Kd.C_below Cc_15.out hd.below); have Ct_16 := Aside0.mk (Kd.C_below Ct_15.out hd.below); have Ca_16 := Aside0.mk (Kd.C_below Ca_15.out hd.below); have Cb_16 := Aside0.mk (Kd.C_below Cb_15.out hd.below); have Cd_16 := Aside0.mk (Kd.C_below Cd_15.out hd.below); have Ce_16 := Aside0.mk (Kd.C_below Ce_15.out hd.below); have Cg_16 := Aside0.mk (Kd.C_below Cg_15.out hd.below); have Ch_16 := Aside0.mk (Kd.C_below Ch_15.out hd.below); clear hd) | (go_at_call 26; (with_reducible refine (impl_AssignmentCost.calls kw _ _ t _ _ gl _ _ _ _ Ct_16.out Lt.out Cg_16.out Lg.out KW.out).mono ?_); rintro e w17 ⟨rfl, hd⟩; have HB17 := Aside0.mk (below_w2 HB16.out hd); have Cc_17 := Aside0.mk (Kd.C_below Cc_16.out hd); have Ct_17 := Aside0.mk (Kd.C_below Ct_16.out hd); have Ca_17 := Aside0.mk (Kd.C_below Ca_16.out hd); have Cb_17 := Aside0.mk (Kd.C_below Cb_16.out hd); have Cd_17 := Aside0.mk (Kd.C_below Cd_16.out hd); have Ce_17 := Aside0.mk (Kd.C_below Ce_16.out hd); have Cg_17 := Aside0.mk (Kd.C_below Cg_16.out hd); have Ch_17 := Aside0.mk (Kd.C_below Ch_16.out hd); clear hd) | (go_at_call 47; (with_reducible refine (draw47 A0 c0 l0 _ hcd Cc_17.out hc0).mono ?_); rintro e w18 ⟨vm, m, vp, p, rfl, ht, hSm, hSp, hl, hd⟩; have HB18 := Aside0.mk (below_w2 HB17.out hd); have Cc_18 := Aside0.mk (Kd.C_below Cc_17.out hd); obtain ⟨Azm, czm, rfl⟩ := Kd.R_slice hSm; have Cm_18 := Aside0.mk (Kd.R_reads' hSm).2.2; have Lm := Aside0.mk (Kd.R_reads' hSm).2.1; obtain ⟨Azp, czp, rfl⟩ := Kd.R_slice hSp; have Cp_18 := Aside0.mk (Kd.R_reads' hSp).2.2; have Lp := Aside0.mk (Kd.R_reads' hSp).2.1; have HM := Aside0.mk ht; clear ht hl; clear hd hSm hSp))
        have wd2 := wide_tab HM.out
        have hpl := fun s => @prov_le m p s
        obtain ⟨⟨s, os⟩, hep⟩ : ∃ y, prov m p = y := ⟨_, rfl⟩
        obtain ⟨⟨lm, xm, om⟩, hem⟩ : ∃ y, chpR false m = y := ⟨_, rfl⟩
        rw [hep, hem] at hpl
        dsimp only at hpl
        obtain ⟨ip, hip⟩ := Ev.rounds (impl_Proven m wd2 p)
        rw [hep] at hip
        have IP := Aside0.mk hip
        clear hip
        obtain ⟨sp, hsp⟩ := Ev.rounds (spec_Proven m wd2 p)
        rw [hep] at hsp
        have SP := Aside0.mk hsp
        clear hsp
        obtain ⟨im, him⟩ := Ev.rounds (impl_chp m)
        rw [hem] at him
        have IM := Aside0.mk him
        clear him
        clear hep hem wd2
        cases om with
        | false =>
          clear hpl
          go_wp2_with (first | (go_at_call 24; (with_reducible refine (impl_ProvenLower.calls ip _ _ m _ _ p _ _ _ Cm_18.out Lm.out Cp_18.out Lp.out IP.out).mono ?_); rintro e w19 ⟨rfl, hd⟩; have HB19 := Aside0.mk (below_w2 HB18.out hd.below); have Cc_19 := Aside0.mk (Kd.C_below Cc_18.out hd.below); have Cm_19 := Aside0.mk (Kd.C_below Cm_18.out hd.below); have Cp_19 := Aside0.mk (Kd.C_below Cp_18.out hd.below); clear hd) | (go_at_call 23; (with_reducible refine (spec_ProvenLower.calls sp _ _ m _ _ p _ _ _ Cm_19.out Lm.out Cp_19.out Lp.out SP.out).mono ?_); rintro e w20 ⟨rfl, hd⟩; have HB20 := Aside0.mk (below_w2 HB19.out hd.below); have Cc_20 := Aside0.mk (Kd.C_below Cc_19.out hd.below); have Cm_20 := Aside0.mk (Kd.C_below Cm_19.out hd.below); have Cp_20 := Aside0.mk (Kd.C_below Cp_19.out hd.below); clear hd) | (go_at_call 38; (with_reducible refine (impl_CheapestAssignment.calls im _ _ m _ _ _ _ Cm_20.out Lm.out IM.out).mono ?_); rintro e w21 ⟨v7, rfl, hSk, hd⟩; have HB21 := Aside0.mk (below_w2 HB20.out hd); have Cc_21 := Aside0.mk (Kd.C_below Cc_20.out hd); have Cm_21 := Aside0.mk (Kd.C_below Cm_20.out hd); have Cp_21 := Aside0.mk (Kd.C_below Cp_20.out hd); obtain ⟨Azk, czk, rfl⟩ := Kd.R_slice hSk; have Ck_21 := Aside0.mk (Kd.R_reads' hSk).2.2; have Lk := Aside0.mk (Kd.R_reads' hSk).2.1; clear hd hSk))
          go_ret
          exact ⟨rfl, HB21.out⟩
        | true =>
          cases os with
          | false =>
            clear hpl
            go_wp2_with (first | (go_at_call 24; (with_reducible refine (impl_ProvenLower.calls ip _ _ m _ _ p _ _ _ Cm_18.out Lm.out Cp_18.out Lp.out IP.out).mono ?_); rintro e w19 ⟨rfl, hd⟩; have HB19 := Aside0.mk (below_w2 HB18.out hd.below); have Cc_19 := Aside0.mk (Kd.C_below Cc_18.out hd.below); have Cm_19 := Aside0.mk (Kd.C_below Cm_18.out hd.below); have Cp_19 := Aside0.mk (Kd.C_below Cp_18.out hd.below); clear hd) | (go_at_call 23; (with_reducible refine (spec_ProvenLower.calls sp _ _ m _ _ p _ _ _ Cm_19.out Lm.out Cp_19.out Lp.out SP.out).mono ?_); rintro e w20 ⟨rfl, hd⟩; have HB20 := Aside0.mk (below_w2 HB19.out hd.below); have Cc_20 := Aside0.mk (Kd.C_below Cc_19.out hd.below); have Cm_20 := Aside0.mk (Kd.C_below Cm_19.out hd.below); have Cp_20 := Aside0.mk (Kd.C_below Cp_19.out hd.below); clear hd) | (go_at_call 38; (with_reducible refine (impl_CheapestAssignment.calls im _ _ m _ _ _ _ Cm_20.out Lm.out IM.out).mono ?_); rintro e w21 ⟨v7, rfl, hSk, hd⟩; have HB21 := Aside0.mk (below_w2 HB20.out hd); have Cc_21 := Aside0.mk (Kd.C_below Cc_20.out hd); have Cm_21 := Aside0.mk (Kd.C_below Cm_20.out hd); have Cp_21 := Aside0.mk (Kd.C_below Cp_20.out hd); obtain ⟨Azk, czk, rfl⟩ := Kd.R_slice hSk; have Ck_21 := Aside0.mk (Kd.R_reads' hSk).2.2; have Lk := Aside0.mk (Kd.R_reads' hSk).2.1; clear hd hSk))
            go_ret
            exact ⟨rfl, HB21.out⟩
          | true =>
            have c3 : decide (xm < s) = false := decide_eq_false (hpl s rfl rfl)
            clear hpl
            go_wp2_with (first | (go_at_call 24; (with_reducible refine (impl_ProvenLower.calls ip _ _ m _ _ p _ _ _ Cm_18.out Lm.out Cp_18.out Lp.out IP.out).mono ?_); rintro e w19 ⟨rfl, hd⟩; have HB19 := Aside0.mk (below_w2 HB18.out hd.below); have Cc_19 := Aside0.mk (Kd.C_below Cc_18.out hd.below); have Cm_19 := Aside0.mk (Kd.C_below Cm_18.out hd.below); have Cp_19 := Aside0.mk (Kd.C_below Cp_18.out hd.below); clear hd) | (go_at_call 23; (with_reducible refine (spec_ProvenLower.calls sp _ _ m _ _ p _ _ _ Cm_19.out Lm.out Cp_19.out Lp.out SP.out).mono ?_); rintro e w20 ⟨rfl, hd⟩; have HB20 := Aside0.mk (below_w2 HB19.out hd.below); have Cc_20 := Aside0.mk (Kd.C_below Cc_19.out hd.below); have Cm_20 := Aside0.mk (Kd.C_below Cm_19.out hd.below); have Cp_20 := Aside0.mk (Kd.C_below Cp_19.out hd.below); clear hd) | (go_at_call 38; (with_reducible refine (impl_CheapestAssignment.calls im _ _ m _ _ _ _ Cm_20.out Lm.out IM.out).mono ?_); rintro e w21 ⟨v7, rfl, hSk, hd⟩; have HB21 := Aside0.mk (below_w2 HB20.out hd); have Cc_21 := Aside0.mk (Kd.C_below Cc_20.out hd); have Cm_21 := Aside0.mk (Kd.C_below Cm_20.out hd); have Cp_21 := Aside0.mk (Kd.C_below Cp_20.out hd); obtain ⟨Azk, czk, rfl⟩ := Kd.R_slice hSk; have Ck_21 := Aside0.mk (Kd.R_reads' hSk).2.2; have Lk := Aside0.mk (Kd.R_reads' hSk).2.1; clear hd hSk))
            go_ret
            exact ⟨rfl, HB21.out⟩
      | true =>
        have hga := hgi rfl
        have e := asgR_ok hga
        rw [hgg] at e
        injection e with e1 e2
        injection e2 with e2 e3
        subst e3
        have c5 : decide (sg < xc) = false := decide_eq_false (by have := hcl gl hga; omega)
        clear hgi hga e1 e2 hcl hgg
        go_wp2_with (first | (go_at_call 38; (with_reducible refine (impl_CheapestAssignment.calls kc _ _ t _ _ _ _ Ct_2.out Lt.out KC.out).mono ?_); rintro e w3 ⟨v1, rfl, hSa, hd⟩; have HB3 := Aside0.mk (below_w2 HB2.out hd); have Cc_3 := Aside0.mk (Kd.C_below Cc_2.out hd); have Ct_3 := Aside0.mk (Kd.C_below Ct_2.out hd); obtain ⟨Aza, cza, rfl⟩ := Kd.R_slice hSa; have Ca_3 := Aside0.mk (Kd.R_reads' hSa).2.2; have La := Aside0.mk (Kd.R_reads' hSa).2.1; clear hd hSa) | (go_at_call 37; (with_reducible refine (spec_CheapestAssignment.calls ks _ _ t _ _ _ _ Ct_3.out Lt.out KS.out).mono ?_); rintro e w4 ⟨v2, rfl, hSb, hd⟩; have HB4 := Aside0.mk (below_w2 HB3.out hd); have Cc_4 := Aside0.mk (Kd.C_below Cc_3.out hd); have Ct_4 := Aside0.mk (Kd.C_below Ct_3.out hd); have Ca_4 := Aside0.mk (Kd.C_below Ca_3.out hd); obtain ⟨Azb, czb, rfl⟩ := Kd.V_slice hSb; have Cb_4 := Aside0.mk (Kd.V_reads' hSb).2.2; have Lb := Aside0.mk (Kd.V_reads' hSb).2.1; clear hd hSb) | (go_at_call 46; (with_reducible refine (laws_rInts.calls kr _ _ lc _ _ lc true _ Ca_4.out La.out Cb_4.out Lb.out KR.out).mono ?_); rintro e w5 ⟨rfl, hd⟩; have HB5 := Aside0.mk (below_w2 HB4.out hd.below); have Cc_5 := Aside0.mk (Kd.C_below Cc_4.out hd.below); have Ct_5 := Aside0.mk (Kd.C_below Ct_4.out hd.below); have Ca_5 := Aside0.mk (Kd.C_below Ca_4.out hd.below); have Cb_5 := Aside0.mk (Kd.C_below Cb_4.out hd.below); clear hd) | (go_at_call 32; (with_reducible refine (impl_CountAssignments.calls kn _ _ t _ _ _ Ct_5.out Lt.out KN.out).mono ?_); rintro e w6 ⟨rfl, hd⟩; have HB6 := Aside0.mk (below_w2 HB5.out hd); have Cc_6 := Aside0.mk (Kd.C_below Cc_5.out hd); have Ct_6 := Aside0.mk (Kd.C_below Ct_5.out hd); have Ca_6 := Aside0.mk (Kd.C_below Ca_5.out hd); have Cb_6 := Aside0.mk (Kd.C_below Cb_5.out hd); clear hd) | (go_at_call 31; (with_reducible refine (spec_CountAssignments.calls km _ _ t _ _ _ Ct_6.out Lt.out KM.out).mono ?_); rintro e w7 ⟨rfl, hd⟩; have HB7 := Aside0.mk (below_w2 HB6.out hd); have Cc_7 := Aside0.mk (Kd.C_below Cc_6.out hd); have Ct_7 := Aside0.mk (Kd.C_below Ct_6.out hd); have Ca_7 := Aside0.mk (Kd.C_below Ca_6.out hd); have Cb_7 := Aside0.mk (Kd.C_below Cb_6.out hd); clear hd) | (go_at_call 26; (with_reducible refine (impl_AssignmentCost.calls ku _ _ t _ _ lc _ _ _ _ Ct_7.out Lt.out Ca_7.out La.out KU.out).mono ?_); rintro e w8 ⟨rfl, hd⟩; have HB8 := Aside0.mk (below_w2 HB7.out hd); have Cc_8 := Aside0.mk (Kd.C_below Cc_7.out hd); have Ct_8 := Aside0.mk (Kd.C_below Ct_7.out hd); have Ca_8 := Aside0.mk (Kd.C_below Ca_7.out hd); have Cb_8 := Aside0.mk (Kd.C_below Cb_7.out hd); clear hd) | (go_at_call 40; (with_reducible refine (impl_FastestAssignment.calls kf _ _ t _ _ _ _ Ct_8.out Lt.out KF.out).mono ?_); rintro e w9 ⟨v3, rfl, hSd, hd⟩; have HB9 := Aside0.mk (below_w2 HB8.out hd); have Cc_9 := Aside0.mk (Kd.C_below Cc_8.out hd); have Ct_9 := Aside0.mk (Kd.C_below Ct_8.out hd); have Ca_9 := Aside0.mk (Kd.C_below Ca_8.out hd); have Cb_9 := Aside0.mk (Kd.C_below Cb_8.out hd); obtain ⟨Azd, czd, rfl⟩ := Kd.R_slice hSd; have Cd_9 := Aside0.mk (Kd.R_reads' hSd).2.2; have Ld := Aside0.mk (Kd.R_reads' hSd).2.1; clear hd hSd) | (go_at_call 39; (with_reducible refine (spec_FastestAssignment.calls kg _ _ t _ _ _ _ Ct_9.out Lt.out KG.out).mono ?_); rintro e w10 ⟨v4, rfl, hSe, hd⟩; have HB10 := Aside0.mk (below_w2 HB9.out hd); have Cc_10 := Aside0.mk (Kd.C_below Cc_9.out hd); have Ct_10 := Aside0.mk (Kd.C_below Ct_9.out hd); have Ca_10 := Aside0.mk (Kd.C_below Ca_9.out hd); have Cb_10 := Aside0.mk (Kd.C_below Cb_9.out hd); have Cd_10 := Aside0.mk (Kd.C_below Cd_9.out hd); obtain ⟨Aze, cze, rfl⟩ := Kd.V_slice hSe; have Ce_10 := Aside0.mk (Kd.V_reads' hSe).2.2; have Le := Aside0.mk (Kd.V_reads' hSe).2.1; clear hd hSe) | (go_at_call 26; (with_reducible refine (impl_AssignmentCost.calls kv _ _ t _ _ lf _ _ _ _ Ct_10.out Lt.out Cd_10.out Ld.out KV.out).mono ?_); rintro e w11 ⟨rfl, hd⟩; have HB11 := Aside0.mk (below_w2 HB10.out hd); have Cc_11 := Aside0.mk (Kd.C_below Cc_10.out hd); have Ct_11 := Aside0.mk (Kd.C_below Ct_10.out hd); have Ca_11 := Aside0.mk (Kd.C_below Ca_10.out hd); have Cb_11 := Aside0.mk (Kd.C_below Cb_10.out hd); have Cd_11 := Aside0.mk (Kd.C_below Cd_10.out hd); have Ce_11 := Aside0.mk (Kd.C_below Ce_10.out hd); clear hd) | (go_at_call 46; (with_reducible refine (laws_rInts.calls kq _ _ lf _ _ lf true _ Cd_11.out Ld.out Ce_11.out Le.out KQ.out).mono ?_); rintro e w12 ⟨rfl, hd⟩; have HB12 := Aside0.mk (below_w2 HB11.out hd.below); have Cc_12 := Aside0.mk (Kd.C_below Cc_11.out hd.below); have Ct_12 := Aside0.mk (Kd.C_below Ct_11.out hd.below); have Ca_12 := Aside0.mk (Kd.C_below Ca_11.out hd.below); have Cb_12 := Aside0.mk (Kd.C_below Cb_11.out hd.below); have Cd_12 := Aside0.mk (Kd.C_below Cd_11.out hd.below); have Ce_12 := Aside0.mk (Kd.C_below Ce_11.out hd.below); clear hd) | (go_at_call 21; (with_reducible refine (impl_IsAssignment.calls ki _ _ t _ _ lc _ _ Ct_12.out Lt.out Ca_12.out La.out KI.out).mono ?_); rintro e w13 ⟨rfl, hd⟩; have HB13 := Aside0.mk (below_w2 HB12.out hd.below); have Cc_13 := Aside0.mk (Kd.C_below Cc_12.out hd.below); have Ct_13 := Aside0.mk (Kd.C_below Ct_12.out hd.below); have Ca_13 := Aside0.mk (Kd.C_below Ca_12.out hd.below); have Cb_13 := Aside0.mk (Kd.C_below Cb_12.out hd.below); have Cd_13 := Aside0.mk (Kd.C_below Cd_12.out hd.below); have Ce_13 := Aside0.mk (Kd.C_below Ce_12.out hd.below); clear hd) | (go_at_call 34; (with_reducible refine (impl_GreedyAssignment.calls kh _ _ t _ _ _ Ct_13.out Lt.out KH.out).mono ?_); rintro e w14 ⟨v5, rfl, hSg, hd⟩; have HB14 := Aside0.mk (below_w2 HB13.out hd); have Cc_14 := Aside0.mk (Kd.C_below Cc_13.out hd); have Ct_14 := Aside0.mk (Kd.C_below Ct_13.out hd); have Ca_14 := Aside0.mk (Kd.C_below Ca_13.out hd); have Cb_14 := Aside0.mk (Kd.C_below Cb_13.out hd); have Cd_14 := Aside0.mk (Kd.C_below Cd_13.out hd); have Ce_14 := Aside0.mk (Kd.C_below Ce_13.out hd); obtain ⟨Azg, czg, rfl⟩ := Kd.R_slice hSg; have Cg_14 := Aside0.mk (Kd.R_reads' hSg).2.2; have Lg := Aside0.mk (Kd.R_reads' hSg).2.1; clear hd hSg) | (go_at_call 33; (with_reducible refine (greedy_at kb bg _ _ t gl _ _ Ct_14.out Lt.out HT.out KB.out HBE.out).mono ?_); rintro e w15 ⟨v6, rfl, hSh, hd⟩; have HB15 := Aside0.mk (below_w2 HB14.out hd); have Cc_15 := Aside0.mk (Kd.C_below Cc_14.out hd); have Ct_15 := Aside0.mk (Kd.C_below Ct_14.out hd); have Ca_15 := Aside0.mk (Kd.C_below Ca_14.out hd); have Cb_15 := Aside0.mk (Kd.C_below Cb_14.out hd); have Cd_15 := Aside0.mk (Kd.C_below Cd_14.out hd); have Ce_15 := Aside0.mk (Kd.C_below Ce_14.out hd); have Cg_15 := Aside0.mk (Kd.C_below Cg_14.out hd); obtain ⟨Azh, czh, rfl⟩ := Kd.R_slice hSh; have Ch_15 := Aside0.mk (Kd.R_reads' hSh).2.2; have Lh := Aside0.mk (Kd.R_reads' hSh).2.1; clear hd hSh) | (go_at_call 46; (with_reducible refine (laws_rInts.calls kz _ _ gl _ _ gl true _ Cg_15.out Lg.out Ch_15.out Lh.out KZ.out).mono ?_); rintro e w16 ⟨rfl, hd⟩; have HB16 := Aside0.mk (below_w2 HB15.out hd.below); have Cc_16 := Aside0.mk (Kd.C_below Cc_15.out hd.below); have Ct_16 := Aside0.mk (Kd.C_below Ct_15.out hd.below); have Ca_16 := Aside0.mk (Kd.C_below Ca_15.out hd.below); have Cb_16 := Aside0.mk (Kd.C_below Cb_15.out hd.below); have Cd_16 := Aside0.mk (Kd.C_below Cd_15.out hd.below); have Ce_16 := Aside0.mk (Kd.C_below Ce_15.out hd.below); have Cg_16 := Aside0.mk (Kd.C_below Cg_15.out hd.below); have Ch_16 := Aside0.mk (Kd.C_below Ch_15.out hd.below); clear hd) | (go_at_call 26; (with_reducible refine (impl_AssignmentCost.calls kw _ _ t _ _ gl _ _ _ _ Ct_16.out Lt.out Cg_16.out Lg.out KW.out).mono ?_); rintro e w17 ⟨rfl, hd⟩; have HB17 := Aside0.mk (below_w2 HB16.out hd); have Cc_17 := Aside0.mk (Kd.C_below Cc_16.out hd); have Ct_17 := Aside0.mk (Kd.C_below Ct_16.out hd); have Ca_17 := Aside0.mk (Kd.C_below Ca_16.out hd); have Cb_17 := Aside0.mk (Kd.C_below Cb_16.out hd); have Cd_17 := Aside0.mk (Kd.C_below Cd_16.out hd); have Ce_17 := Aside0.mk (Kd.C_below Ce_16.out hd); have Cg_17 := Aside0.mk (Kd.C_below Cg_16.out hd); have Ch_17 := Aside0.mk (Kd.C_below Ch_16.out hd); clear hd) | (go_at_call 47; (with_reducible refine (draw47 A0 c0 l0 _ hcd Cc_17.out hc0).mono ?_); rintro e w18 ⟨vm, m, vp, p, rfl, ht, hSm, hSp, hl, hd⟩; have HB18 := Aside0.mk (below_w2 HB17.out hd); have Cc_18 := Aside0.mk (Kd.C_below Cc_17.out hd); obtain ⟨Azm, czm, rfl⟩ := Kd.R_slice hSm; have Cm_18 := Aside0.mk (Kd.R_reads' hSm).2.2; have Lm := Aside0.mk (Kd.R_reads' hSm).2.1; obtain ⟨Azp, czp, rfl⟩ := Kd.R_slice hSp; have Cp_18 := Aside0.mk (Kd.R_reads' hSp).2.2; have Lp := Aside0.mk (Kd.R_reads' hSp).2.1; have HM := Aside0.mk ht; clear ht hl; clear hd hSm hSp))
        have wd2 := wide_tab HM.out
        have hpl := fun s => @prov_le m p s
        obtain ⟨⟨s, os⟩, hep⟩ : ∃ y, prov m p = y := ⟨_, rfl⟩
        obtain ⟨⟨lm, xm, om⟩, hem⟩ : ∃ y, chpR false m = y := ⟨_, rfl⟩
        rw [hep, hem] at hpl
        dsimp only at hpl
        obtain ⟨ip, hip⟩ := Ev.rounds (impl_Proven m wd2 p)
        rw [hep] at hip
        have IP := Aside0.mk hip
        clear hip
        obtain ⟨sp, hsp⟩ := Ev.rounds (spec_Proven m wd2 p)
        rw [hep] at hsp
        have SP := Aside0.mk hsp
        clear hsp
        obtain ⟨im, him⟩ := Ev.rounds (impl_chp m)
        rw [hem] at him
        have IM := Aside0.mk him
        clear him
        clear hep hem wd2
        cases om with
        | false =>
          clear hpl
          go_wp2_with (first | (go_at_call 24; (with_reducible refine (impl_ProvenLower.calls ip _ _ m _ _ p _ _ _ Cm_18.out Lm.out Cp_18.out Lp.out IP.out).mono ?_); rintro e w19 ⟨rfl, hd⟩; have HB19 := Aside0.mk (below_w2 HB18.out hd.below); have Cc_19 := Aside0.mk (Kd.C_below Cc_18.out hd.below); have Cm_19 := Aside0.mk (Kd.C_below Cm_18.out hd.below); have Cp_19 := Aside0.mk (Kd.C_below Cp_18.out hd.below); clear hd) | (go_at_call 23; (with_reducible refine (spec_ProvenLower.calls sp _ _ m _ _ p _ _ _ Cm_19.out Lm.out Cp_19.out Lp.out SP.out).mono ?_); rintro e w20 ⟨rfl, hd⟩; have HB20 := Aside0.mk (below_w2 HB19.out hd.below); have Cc_20 := Aside0.mk (Kd.C_below Cc_19.out hd.below); have Cm_20 := Aside0.mk (Kd.C_below Cm_19.out hd.below); have Cp_20 := Aside0.mk (Kd.C_below Cp_19.out hd.below); clear hd) | (go_at_call 38; (with_reducible refine (impl_CheapestAssignment.calls im _ _ m _ _ _ _ Cm_20.out Lm.out IM.out).mono ?_); rintro e w21 ⟨v7, rfl, hSk, hd⟩; have HB21 := Aside0.mk (below_w2 HB20.out hd); have Cc_21 := Aside0.mk (Kd.C_below Cc_20.out hd); have Cm_21 := Aside0.mk (Kd.C_below Cm_20.out hd); have Cp_21 := Aside0.mk (Kd.C_below Cp_20.out hd); obtain ⟨Azk, czk, rfl⟩ := Kd.R_slice hSk; have Ck_21 := Aside0.mk (Kd.R_reads' hSk).2.2; have Lk := Aside0.mk (Kd.R_reads' hSk).2.1; clear hd hSk))
          go_ret
          exact ⟨rfl, HB21.out⟩
        | true =>
          cases os with
          | false =>
            clear hpl
            go_wp2_with (first | (go_at_call 24; (with_reducible refine (impl_ProvenLower.calls ip _ _ m _ _ p _ _ _ Cm_18.out Lm.out Cp_18.out Lp.out IP.out).mono ?_); rintro e w19 ⟨rfl, hd⟩; have HB19 := Aside0.mk (below_w2 HB18.out hd.below); have Cc_19 := Aside0.mk (Kd.C_below Cc_18.out hd.below); have Cm_19 := Aside0.mk (Kd.C_below Cm_18.out hd.below); have Cp_19 := Aside0.mk (Kd.C_below Cp_18.out hd.below); clear hd) | (go_at_call 23; (with_reducible refine (spec_ProvenLower.calls sp _ _ m _ _ p _ _ _ Cm_19.out Lm.out Cp_19.out Lp.out SP.out).mono ?_); rintro e w20 ⟨rfl, hd⟩; have HB20 := Aside0.mk (below_w2 HB19.out hd.below); have Cc_20 := Aside0.mk (Kd.C_below Cc_19.out hd.below); have Cm_20 := Aside0.mk (Kd.C_below Cm_19.out hd.below); have Cp_20 := Aside0.mk (Kd.C_below Cp_19.out hd.below); clear hd) | (go_at_call 38; (with_reducible refine (impl_CheapestAssignment.calls im _ _ m _ _ _ _ Cm_20.out Lm.out IM.out).mono ?_); rintro e w21 ⟨v7, rfl, hSk, hd⟩; have HB21 := Aside0.mk (below_w2 HB20.out hd); have Cc_21 := Aside0.mk (Kd.C_below Cc_20.out hd); have Cm_21 := Aside0.mk (Kd.C_below Cm_20.out hd); have Cp_21 := Aside0.mk (Kd.C_below Cp_20.out hd); obtain ⟨Azk, czk, rfl⟩ := Kd.R_slice hSk; have Ck_21 := Aside0.mk (Kd.R_reads' hSk).2.2; have Lk := Aside0.mk (Kd.R_reads' hSk).2.1; clear hd hSk))
            go_ret
            exact ⟨rfl, HB21.out⟩
          | true =>
            have c3 : decide (xm < s) = false := decide_eq_false (hpl s rfl rfl)
            clear hpl
            go_wp2_with (first | (go_at_call 24; (with_reducible refine (impl_ProvenLower.calls ip _ _ m _ _ p _ _ _ Cm_18.out Lm.out Cp_18.out Lp.out IP.out).mono ?_); rintro e w19 ⟨rfl, hd⟩; have HB19 := Aside0.mk (below_w2 HB18.out hd.below); have Cc_19 := Aside0.mk (Kd.C_below Cc_18.out hd.below); have Cm_19 := Aside0.mk (Kd.C_below Cm_18.out hd.below); have Cp_19 := Aside0.mk (Kd.C_below Cp_18.out hd.below); clear hd) | (go_at_call 23; (with_reducible refine (spec_ProvenLower.calls sp _ _ m _ _ p _ _ _ Cm_19.out Lm.out Cp_19.out Lp.out SP.out).mono ?_); rintro e w20 ⟨rfl, hd⟩; have HB20 := Aside0.mk (below_w2 HB19.out hd.below); have Cc_20 := Aside0.mk (Kd.C_below Cc_19.out hd.below); have Cm_20 := Aside0.mk (Kd.C_below Cm_19.out hd.below); have Cp_20 := Aside0.mk (Kd.C_below Cp_19.out hd.below); clear hd) | (go_at_call 38; (with_reducible refine (impl_CheapestAssignment.calls im _ _ m _ _ _ _ Cm_20.out Lm.out IM.out).mono ?_); rintro e w21 ⟨v7, rfl, hSk, hd⟩; have HB21 := Aside0.mk (below_w2 HB20.out hd); have Cc_21 := Aside0.mk (Kd.C_below Cc_20.out hd); have Cm_21 := Aside0.mk (Kd.C_below Cm_20.out hd); have Cp_21 := Aside0.mk (Kd.C_below Cp_20.out hd); obtain ⟨Azk, czk, rfl⟩ := Kd.R_slice hSk; have Ck_21 := Aside0.mk (Kd.R_reads' hSk).2.2; have Lk := Aside0.mk (Kd.R_reads' hSk).2.1; clear hd hSk))
            go_ret
            exact ⟨rfl, HB21.out⟩
end Go.Proofs.Ytfgbohochpjkfaa.G

-- Written by wip/tools/gen.py out of the translation (the kit's printer, one namespace a seat). Lean checks it.
namespace Go.Proofs.Ytfgbohochpjkfaa.G
open Go.RowKit Go.ChangeShapes Go.WideShapes Go.Deep Go.Proofs.YtfgbohochpjkfaaW.PrintWords Go.Proofs.YtfgbohochpjkfaaW.PrintLast
set_option linter.unusedVariables false
/-! Opening the arguments of a law: whatever reads as data of type t reads as a value of kind d, within what its type allows. -/
def Opens {α : Type} (P : Program) (t : TypeId) (d : Kd α) (Wf : α → Prop) : Prop :=
  ∀ {H : Type} {enc : TypeId × Value → H} {W : World} {spare : Nat → Bool} {held : Bool} {fuel : Nat} {cs : List Value} {x : DataW H × List MemPlace},
    DataW.trod enc P W 0 spare held fuel t cs = some x → ∃ a, d.K W a cs ∧ Wf a
theorem opens_int {P : Program} {t : TypeId} {k : IntKind} (ht : P.underlying t = some (.int k)) : Opens P t (Kd.int k) (fun x => (Lit.int k x).wf = true) := by
  intro H enc W spare held fuel cs x h
  obtain ⟨n, rfl, _, hw⟩ := DataW.trod_int ht h
  exact ⟨n, rfl, hw⟩
theorem opens_row {α : Type} {d : Kd α} {Wf : α → Prop} {W : World} (Q : Nat → List Value → Prop) (hq : ∀ i cs, Q i cs → ∃ a, d.K W a cs ∧ Wf a) (n : Nat) (h : ∀ i, i < n → ∃ cs, Q i cs) :
    ∃ xs : List α, xs.length = n ∧ (∀ y ∈ xs, Wf y) ∧ ∀ j p, xs[j]? = some p → ∃ cs, Q j cs ∧ d.K W p cs := by
  induction n with
  | zero => exact ⟨[], rfl, fun y hy => by simp at hy, fun j p hp => by simp at hp⟩
  | succ n ih =>
    obtain ⟨xs, hl, hw, hx⟩ := ih (fun i hi => h i (by omega))
    obtain ⟨cs, hcs⟩ := h n (by omega)
    obtain ⟨a, ha, hwa⟩ := hq n cs hcs
    refine ⟨xs ++ [a], by simp [hl], fun y hy => ?_, fun j p hp => ?_⟩
    · rcases List.mem_append.1 hy with hy | hy
      · exact hw y hy
      · rw [List.mem_singleton.1 hy]; exact hwa
    · rcases Nat.lt_or_ge j xs.length with hj | hj
      · rw [List.getElem?_append_left hj] at hp
        exact hx j p hp
      · rw [List.getElem?_append_right hj] at hp
        have h0 : j - xs.length = 0 := by
          rcases Nat.eq_zero_or_pos (j - xs.length) with h0 | h0
          · exact h0
          · rw [List.getElem?_eq_none (by simp; omega)] at hp; cases hp
        rw [h0] at hp
        simp at hp
        subst hp
        have : j = n := by omega
        subst this
        exact ⟨cs, hcs, ha⟩
theorem opens_slice {α : Type} {P : Program} {t e : TypeId} {d : Kd α} {Wf : α → Prop} (ht : P.underlying t = some (.slice e)) (hC : P.cellsOf e = d.sz) (ho : Opens P e d Wf) :
    Opens P t (Kd.slice e d) (fun xs => xs.length ≤ maxLen ∧ ∀ y ∈ xs, Wf y) := by
  intro H enc W spare held fuel cs x h
  rcases open_slice ht h with ⟨rfl, _⟩ | ⟨a, len, cap, m, n, D, Pl, rfl, _, hl, hm, hmm, _, hi⟩
  · exact ⟨[], ⟨none, 0, rfl, Nat.le_refl _, rfl, by simp, fun h => by simp at h⟩, by simp [maxLen], fun y hy => by simp at hy⟩
  · have hml : len ≤ m := by rw [hmm]; split <;> omega
    obtain ⟨xs, hxl, hw, hx⟩ := opens_row (W := W) (d := d) (Wf := Wf) (fun i cs' => W.cells? 0 (a.add (i * P.cellsOf e)) (P.cellsOf e) = some cs' ∧ DataW.trod enc P W 0 spare held n e cs' = some (D i, Pl i))
      (fun i cs' hq => ho hq.2) len (fun i hi' => hi i (by omega))
    refine ⟨xs, ⟨some a, cap, by rw [hxl], by omega, rfl, ?_, fun _ => ⟨a, rfl, fun j p hj => ?_⟩⟩, by omega, hw⟩
    · simp only [maxLen] at hm
      omega
    · obtain ⟨cs', ⟨hc, _⟩, hK⟩ := hx j p hj
      obtain ⟨_, hcl, hat⟩ := World.cells?_some hc
      refine ⟨cs', d.K_len hK, hK, fun i u hu => ?_⟩
      have hil : i < cs'.length := (List.getElem?_eq_some_iff.1 hu).1
      have h1 := hat i (by omega)
      rw [hC] at h1
      rw [← Go.Deep.add_add, h1, hu]
section
variable {α β γ δ : Type} {P : Program} {t : TypeId} {f0 f1 f2 f3 : Field} {d0 : Kd α} {d1 : Kd β} {d2 : Kd γ} {d3 : Kd δ} {W0 : α → Prop} {W1 : β → Prop} {W2 : γ → Prop} {W3 : δ → Prop}
end
theorem opens_arg {α : Type} {P : Program} {t e : TypeId} {d : Kd α} {Wf : List α → Prop} (ho : Opens P t (Kd.slice e d) Wf) {H : Type} {enc : TypeId × Value → H} {W : World} {spare : Nat → Bool} {held : Bool} {a : Option Addr} {len cap : Nat} {dd : DataW H} {p : List MemPlace}
    (h : DataW.Trod enc P W 0 spare held t (.slice a len cap) dd p) : ∃ l : List α, len = l.length ∧ l.length ≤ cap ∧ Kd.C d W a l.length l ∧ Wf l := by
  obtain ⟨fuel, hf⟩ := h
  obtain ⟨l, ⟨A, c, he, hl, hC⟩, hw⟩ := ho hf
  simp [Value.cells] at he
  obtain ⟨rfl, rfl, rfl⟩ := he
  exact ⟨l, rfl, hl, hC, hw⟩
end Go.Proofs.Ytfgbohochpjkfaa.G
