/- Texts of the proof of FnExactGreedyAssignment, joined in build order. -/
import Derived.Test.YtfgbohochpjkfaaGx0
import Derived.Test.YtfgbohochpjkfaaMgFnExactGreedyAssignment0
-- Written by wip/tools/gen.py out of the translation (the kit's printer, one namespace a seat). Lean checks it.
namespace Go.Proofs.Ytfgbohochpjkfaa.G
open Go.RowKit Go.Proofs.YtfgbohochpjkfaaW.PrintWords Go.Proofs.YtfgbohochpjkfaaW.PrintLast Go.Proofs.YtfgbohochpjkfaaW.PrintMore
attribute [local go_sem] max2_int min2_int max_two min_two max_three min_three max_four min_four   -- for this text's walks alone
set_option linter.unusedVariables false
set_option linter.unusedSimpArgs false

/-! ### laws_eqIntSS: function 18 -/
def laws_eqIntSS.l0 : Nat → List (List Int) → List (List Int) → Int → Option (Bool)
  | 0, _, _, _ => none
  | k + 1, x0, x1, x5 => if x5 < (x0.length : Int) then (if 0 ≤ x5 then (if x5 < (x1.length : Int) then ((laws_eqIntS.f k (rd_L1 x0 x5) (rd_L1 x1 x5)).bind fun t138 => (if t138 = true then (laws_eqIntSS.l0 k x0 x1 (wrap64 (x5 + 1))) else (some false))) else (none)) else (none)) else (some true)
def laws_eqIntSS.f (k : Nat) (l0 : List (List Int)) (l1 : List (List Int)) : Option (Bool) := if (l0.length : Int) = (l1.length : Int) then (laws_eqIntSS.l0 k l0 l1 0) else (some false)
theorem laws_eqIntSS.mono_l : ∀ k, (∀ y0 y1 y2, LeO (laws_eqIntSS.l0 k y0 y1 y2) (laws_eqIntSS.l0 (k + 1) y0 y1 y2))
  | 0 => fun _ _ _ r h => by simp [laws_eqIntSS.l0] at h
  | k + 1 => by
    have ih0 := laws_eqIntSS.mono_l k
    · intro y0 y1 y2
      unfold laws_eqIntSS.l0
      repeat' first
      | (with_reducible exact ih0 _ _ _)
      | (with_reducible exact laws_eqIntS.mono _ _ _)
      | (with_reducible exact LeO.refl _)
      | (with_reducible exact LeO.none _)
      | (with_reducible refine LeO.ite ?_ ?_)
      | (with_reducible refine LeO.bind ?_ (fun _ => ?_))
      | exact ih0 _ _ _
      | exact laws_eqIntS.mono _ _ _
      | exact LeO.none _
      | refine LeO.ite ?_ ?_
      | refine LeO.bind ?_ (fun _ => ?_)
theorem laws_eqIntSS.mono : ∀ a0 a1 k, LeO (laws_eqIntSS.f k a0 a1) (laws_eqIntSS.f (k + 1) a0 a1) := by
  intro a0 a1 k
  have ih0 := laws_eqIntSS.mono_l k
  unfold laws_eqIntSS.f
  repeat' first
      | (with_reducible exact ih0 _ _ _)
      | (with_reducible exact laws_eqIntS.mono _ _ _)
      | (with_reducible exact LeO.refl _)
      | (with_reducible exact LeO.none _)
      | (with_reducible refine LeO.ite ?_ ?_)
      | (with_reducible refine LeO.bind ?_ (fun _ => ?_))
      | exact ih0 _ _ _
      | exact laws_eqIntS.mono _ _ _
      | exact LeO.none _
      | refine LeO.ite ?_ ?_
      | refine LeO.bind ?_ (fun _ => ?_)
set_option maxHeartbeats 8000000 in
set_option maxRecDepth 100000 in
theorem laws_eqIntSS.calls (k : Nat) (A0 : Option Addr) (c0 : Nat) (l0 : List (List Int)) (A1 : Option Addr) (c1 : Nat) (l1 : List (List Int)) (r : Bool) (w : World) (hr0 : Kd.C (Kd.slice 3 (Kd.int .i64)) w A0 l0.length l0) (hc0 : l0.length ≤ c0) (hr1 : Kd.C (Kd.slice 3 (Kd.int .i64)) w A1 l1.length l1) (hc1 : l1.length ≤ c1) (h : laws_eqIntSS.f k l0 l1 = some r) :
    Calls Try.prog 18 #[.slice A0 l0.length c0, .slice A1 l1.length c1] w fun e w' => e = .returned (.bool r) ∧ Drawn0 w w' := by
  have HR0 := Aside0.mk hr0
  have HC0 := Aside0.mk hc0
  clear hr0 hc0
  have HR1 := Aside0.mk hr1
  have HC1 := Aside0.mk hc1
  clear hr1 hc1
  have H : (if (l0.length : Int) = (l1.length : Int) then (laws_eqIntSS.l0 k l0 l1 0) else (some false)) = some r := h
  clear h
  by_cases c3 : (l0.length : Int) = (l1.length : Int)
  · rw [if_pos c3] at H
    have c3b0 : ((l0.length : Int) == (l1.length : Int)) = true := beq_iff_eq.mpr c3
    have c3b1 : ((l0.length : Int) != (l1.length : Int)) = false := bne_eq_false_iff_eq.mpr c3
    have c3b2 : (l0.length == l1.length) = true := by first | simpa using c3 | (simp at c3 ⊢; omega)
    clear c3
    have H' := Aside0.mk H
    clear H
    go_enter Try.func18, Try.ntmps18
    go_wp2
    repeat (go_quiet (fail); try go_wp2)
    go_loopg [5] k (fun kq v5 w' => ∃ (x5_1 : Int), v5 = .int .i64 x5_1 ∧ Aside0 (laws_eqIntSS.l0 kq l0 l1 x5_1 = some r) ∧ Aside0 (kq ≤ k) ∧ Drawn0 w w')
    case atStart => exact ⟨(0), (by first | rfl | (simp; done) | (simp [*]; done)), H', ⟨Nat.le_refl _⟩, by repeat (first | exact Drawn0.refl _ | apply Drawn0.step)⟩
    case round =>
      clear H'
      try clear c1
      try clear p2
      try clear c3
      try clear c3b0
      try clear c3b1
      try clear c3b2
      obtain ⟨x5_1, rfl, HA, HK1, ⟨m1, rfl⟩⟩ := hrel
      cases gk with
      | zero => exact absurd HA.out (by simp [laws_eqIntSS.l0])
      | succ k1 =>
        have H := HA.out
        clear HA
        simp only [laws_eqIntSS.l0] at H
        by_cases c4 : x5_1 < (l0.length : Int)
        · rw [if_pos c4] at H
          have c4b0 : decide (x5_1 < (l0.length : Int)) = true := decide_eq_true c4
          clear c4
          by_cases c5 : 0 ≤ x5_1
          · rw [if_pos c5] at H
            have c5b0 : decide (0 ≤ x5_1) = true := decide_eq_true c5
            clear c5
            by_cases c6 : x5_1 < (l1.length : Int)
            · rw [if_pos c6] at H
              have c6b0 : decide (x5_1 < (l1.length : Int)) = true := decide_eq_true c6
              clear c6
              replace H := Option.bind_eq_some_iff.mp H
              obtain ⟨t138, A70, H⟩ := H
              replace H : (if t138 = true then (laws_eqIntSS.l0 k1 l0 l1 (wrap64 (x5_1 + 1))) else (some false)) = some r := H
              have A7 := Aside0.mk A70
              clear A70
              by_cases c8 : t138 = true
              · subst c8
                have H1 : (laws_eqIntSS.l0 k1 l0 l1 (wrap64 (x5_1 + 1))) = some r := by rw [if_pos rfl] at H; exact H
                clear H
                have H := H1
                clear H1
                have H' := Aside0.mk H
                clear H
                have p136 : 0 ≤ (x5_1 : Int) := of_decide_eq_true (by first | (with_reducible assumption) | assumption)
                have q136 : x5_1 < (l0.length : Int) := of_decide_eq_true (by first | (with_reducible assumption) | assumption)
                obtain ⟨ad136, A136_0, c136_0, e136, hx136_0, hl136_0, hi136_0⟩ := at_L1 HR0.out x5_1 p136 q136
                cases e136
                have HR136_0 := Aside0.mk hi136_0
                have HC136_0 := Aside0.mk hl136_0
                clear hi136_0 hl136_0
                replace p136 := eq_true p136
                replace q136 := eq_true q136
                have p137 : 0 ≤ (x5_1 : Int) := of_decide_eq_true (by first | (with_reducible assumption) | assumption)
                have q137 : x5_1 < (l1.length : Int) := of_decide_eq_true (by first | (with_reducible assumption) | assumption)
                obtain ⟨ad137, A137_0, c137_0, e137, hx137_0, hl137_0, hi137_0⟩ := at_L1 HR1.out x5_1 p137 q137
                cases e137
                have HR137_0 := Aside0.mk hi137_0
                have HC137_0 := Aside0.mk hl137_0
                clear hi137_0 hl137_0
                replace p137 := eq_true p137
                replace q137 := eq_true q137
                go_wp2_with (first | (go_at_call 22; (with_reducible refine (laws_eqIntS.calls k1 _ _ (rd_L1 l0 x5_1) _ _ (rd_L1 l1 x5_1) true _ ?side1 ?side2 ?side3 ?side4 A7.out).mono ?_); (case side1 => repeat (first | exact HR136_0.out | (with_reducible refine Kd.C_alloc ?_ _) | (with_reducible refine Kd.C_drewN ?_ _) | (with_reducible refine Kd.C_drew ?_))); (case side2 => exact HC136_0.out); (case side3 => repeat (first | exact HR137_0.out | (with_reducible refine Kd.C_alloc ?_ _) | (with_reducible refine Kd.C_drewN ?_ _) | (with_reducible refine Kd.C_drew ?_))); (case side4 => exact HC137_0.out); rintro e w' ⟨rfl, ⟨nd, rfl⟩⟩; (try first | exact ⟨rfl, _, World.drewN_drewN _ _ _⟩ | exact ⟨rfl, _, Eq.trans (World.drewN_drewN _ _ _) (congrArg (World.drewN _) (Nat.add_assoc _ _ _))⟩)))
                repeat (go_quiet (first | (go_at_call 22; (with_reducible refine (laws_eqIntS.calls k1 _ _ (rd_L1 l0 x5_1) _ _ (rd_L1 l1 x5_1) true _ ?side1 ?side2 ?side3 ?side4 A7.out).mono ?_); (case side1 => repeat (first | exact HR136_0.out | (with_reducible refine Kd.C_alloc ?_ _) | (with_reducible refine Kd.C_drewN ?_ _) | (with_reducible refine Kd.C_drew ?_))); (case side2 => exact HC136_0.out); (case side3 => repeat (first | exact HR137_0.out | (with_reducible refine Kd.C_alloc ?_ _) | (with_reducible refine Kd.C_drewN ?_ _) | (with_reducible refine Kd.C_drew ?_))); (case side4 => exact HC137_0.out); rintro e w' ⟨rfl, ⟨nd, rfl⟩⟩; (try first | exact ⟨rfl, _, World.drewN_drewN _ _ _⟩ | exact ⟨rfl, _, Eq.trans (World.drewN_drewN _ _ _) (congrArg (World.drewN _) (Nat.add_assoc _ _ _))⟩))); try go_wp2_with (first | (go_at_call 22; (with_reducible refine (laws_eqIntS.calls k1 _ _ (rd_L1 l0 x5_1) _ _ (rd_L1 l1 x5_1) true _ ?side1 ?side2 ?side3 ?side4 A7.out).mono ?_); (case side1 => repeat (first | exact HR136_0.out | (with_reducible refine Kd.C_alloc ?_ _) | (with_reducible refine Kd.C_drewN ?_ _) | (with_reducible refine Kd.C_drew ?_))); (case side2 => exact HC136_0.out); (case side3 => repeat (first | exact HR137_0.out | (with_reducible refine Kd.C_alloc ?_ _) | (with_reducible refine Kd.C_drewN ?_ _) | (with_reducible refine Kd.C_drew ?_))); (case side4 => exact HC137_0.out); rintro e w' ⟨rfl, ⟨nd, rfl⟩⟩; (try first | exact ⟨rfl, _, World.drewN_drewN _ _ _⟩ | exact ⟨rfl, _, Eq.trans (World.drewN_drewN _ _ _) (congrArg (World.drewN _) (Nat.add_assoc _ _ _))⟩))))
                go_roundg k1
                case measure => have := HK1.out; omega
                case rel => exact ⟨(wrap64 (x5_1 + 1)), (by first | rfl | (simp; done) | (simp [*]; done)), H', ⟨by have := HK1.out; omega⟩, by repeat (first | exact Drawn0.refl _ | apply Drawn0.step)⟩
              · replace c8 := Bool.eq_false_iff.mpr c8
                subst c8
                have H1 : (some false) = some r := by rw [if_neg (show ¬ (false = true) by decide)] at H; exact H
                clear H
                have H := H1
                clear H1
                obtain rfl := Option.some.inj H
                have p136 : 0 ≤ (x5_1 : Int) := of_decide_eq_true (by first | (with_reducible assumption) | assumption)
                have q136 : x5_1 < (l0.length : Int) := of_decide_eq_true (by first | (with_reducible assumption) | assumption)
                obtain ⟨ad136, A136_0, c136_0, e136, hx136_0, hl136_0, hi136_0⟩ := at_L1 HR0.out x5_1 p136 q136
                cases e136
                have HR136_0 := Aside0.mk hi136_0
                have HC136_0 := Aside0.mk hl136_0
                clear hi136_0 hl136_0
                replace p136 := eq_true p136
                replace q136 := eq_true q136
                have p137 : 0 ≤ (x5_1 : Int) := of_decide_eq_true (by first | (with_reducible assumption) | assumption)
                have q137 : x5_1 < (l1.length : Int) := of_decide_eq_true (by first | (with_reducible assumption) | assumption)
                obtain ⟨ad137, A137_0, c137_0, e137, hx137_0, hl137_0, hi137_0⟩ := at_L1 HR1.out x5_1 p137 q137
                cases e137
                have HR137_0 := Aside0.mk hi137_0
                have HC137_0 := Aside0.mk hl137_0
                clear hi137_0 hl137_0
                replace p137 := eq_true p137
                replace q137 := eq_true q137
                go_wp2_with (first | (go_at_call 22; (with_reducible refine (laws_eqIntS.calls k1 _ _ (rd_L1 l0 x5_1) _ _ (rd_L1 l1 x5_1) false _ ?side1 ?side2 ?side3 ?side4 A7.out).mono ?_); (case side1 => repeat (first | exact HR136_0.out | (with_reducible refine Kd.C_alloc ?_ _) | (with_reducible refine Kd.C_drewN ?_ _) | (with_reducible refine Kd.C_drew ?_))); (case side2 => exact HC136_0.out); (case side3 => repeat (first | exact HR137_0.out | (with_reducible refine Kd.C_alloc ?_ _) | (with_reducible refine Kd.C_drewN ?_ _) | (with_reducible refine Kd.C_drew ?_))); (case side4 => exact HC137_0.out); rintro e w' ⟨rfl, ⟨nd, rfl⟩⟩; (try first | exact ⟨rfl, _, World.drewN_drewN _ _ _⟩ | exact ⟨rfl, _, Eq.trans (World.drewN_drewN _ _ _) (congrArg (World.drewN _) (Nat.add_assoc _ _ _))⟩)))
                repeat (go_quiet (first | (go_at_call 22; (with_reducible refine (laws_eqIntS.calls k1 _ _ (rd_L1 l0 x5_1) _ _ (rd_L1 l1 x5_1) false _ ?side1 ?side2 ?side3 ?side4 A7.out).mono ?_); (case side1 => repeat (first | exact HR136_0.out | (with_reducible refine Kd.C_alloc ?_ _) | (with_reducible refine Kd.C_drewN ?_ _) | (with_reducible refine Kd.C_drew ?_))); (case side2 => exact HC136_0.out); (case side3 => repeat (first | exact HR137_0.out | (with_reducible refine Kd.C_alloc ?_ _) | (with_reducible refine Kd.C_drewN ?_ _) | (with_reducible refine Kd.C_drew ?_))); (case side4 => exact HC137_0.out); rintro e w' ⟨rfl, ⟨nd, rfl⟩⟩; (try first | exact ⟨rfl, _, World.drewN_drewN _ _ _⟩ | exact ⟨rfl, _, Eq.trans (World.drewN_drewN _ _ _) (congrArg (World.drewN _) (Nat.add_assoc _ _ _))⟩))); try go_wp2_with (first | (go_at_call 22; (with_reducible refine (laws_eqIntS.calls k1 _ _ (rd_L1 l0 x5_1) _ _ (rd_L1 l1 x5_1) false _ ?side1 ?side2 ?side3 ?side4 A7.out).mono ?_); (case side1 => repeat (first | exact HR136_0.out | (with_reducible refine Kd.C_alloc ?_ _) | (with_reducible refine Kd.C_drewN ?_ _) | (with_reducible refine Kd.C_drew ?_))); (case side2 => exact HC136_0.out); (case side3 => repeat (first | exact HR137_0.out | (with_reducible refine Kd.C_alloc ?_ _) | (with_reducible refine Kd.C_drewN ?_ _) | (with_reducible refine Kd.C_drew ?_))); (case side4 => exact HC137_0.out); rintro e w' ⟨rfl, ⟨nd, rfl⟩⟩; (try first | exact ⟨rfl, _, World.drewN_drewN _ _ _⟩ | exact ⟨rfl, _, Eq.trans (World.drewN_drewN _ _ _) (congrArg (World.drewN _) (Nat.add_assoc _ _ _))⟩))))
                go_ret
                exact ⟨by first | rfl | (simp; done) | (simp [*]; done), by repeat (first | exact Drawn0.refl _ | apply Drawn0.step)⟩
            · rw [if_neg c6] at H
              exact absurd H (by simp)
          · rw [if_neg c5] at H
            exact absurd H (by simp)
        · rw [if_neg c4] at H
          have c4b0 : decide (x5_1 < (l0.length : Int)) = false := decide_eq_false c4
          clear c4
          obtain rfl := Option.some.inj H
          go_wp2
          repeat (go_quiet (fail); try go_wp2)
          go_ret
          exact ⟨by first | rfl | (simp; done) | (simp [*]; done), by repeat (first | exact Drawn0.refl _ | apply Drawn0.step)⟩
  · rw [if_neg c3] at H
    have c3b0 : ((l0.length : Int) == (l1.length : Int)) = false := beq_eq_false_iff_ne.mpr c3
    have c3b1 : ((l0.length : Int) != (l1.length : Int)) = true := bne_iff_ne.mpr c3
    have c3b2 : (l0.length == l1.length) = false := by first | simpa using c3 | (simp at c3 ⊢; omega)
    obtain rfl := Option.some.inj H
    go_enter Try.func18, Try.ntmps18
    go_wp2
    repeat (go_quiet (fail); try go_wp2)
    go_ret
    exact ⟨by first | rfl | (simp; done) | (simp [*]; done), by repeat (first | exact Drawn0.refl _ | apply Drawn0.step)⟩

end Go.Proofs.Ytfgbohochpjkfaa.G

namespace Go.Proofs.Ytfgbohochpjkfaa.G
open Go.RowKit Go.Proofs.YtfgbohochpjkfaaW.PrintWords Go.Proofs.YtfgbohochpjkfaaW.PrintLast
set_option linter.unusedVariables false
set_option linter.unusedSimpArgs false
theorem to_I (xs : List Int) (h : (xs.length : Int) ≤ 1048576) : Ev (fun k => laws_toIntS.f k xs) xs := by
  unfold laws_toIntS.f
  simp (disch := omega) only [if_pos]
  simp only [Int.toNat_natCast]
  have := Ev.fill (fun k out i => laws_toIntS.l0 k xs out i) xs (fun x => x) (0 : Int) (0 : Int) (by
    intro out
    refine Ev.step (fun k => by rw [laws_toIntS.l0]) ?_
    simp only [Int.lt_irrefl, if_false]
    exact Ev.now _) (by
    intro out i hl h0 hlt r hr
    refine Ev.step (fun k => by rw [laws_toIntS.l0]) ?_
    simp (disch := omega) only [wrap64_id, if_pos, Option.bind_some, hl]
    exact hr)
  rwa [List.map_id'] at this
theorem eq_I (xs : List Int) (h : (xs.length : Int) ≤ 1048576) : Ev (fun k => laws_eqIntS.f k xs xs) true := by
  unfold laws_eqIntS.f
  simp only [if_true]
  refine Ev.upc (fun k i => laws_eqIntS.l0 k xs xs i) true (xs.length : Int) 0 ?_ ?_ 0 (by omega) (by omega)
  · refine Ev.step (fun k => by rw [laws_eqIntS.l0]) ?_
    simp only [Int.lt_irrefl, if_false]
    exact Ev.now _
  · intro i h0 hlt hr
    refine Ev.step (fun k => by rw [laws_eqIntS.l0]) ?_
    simp (disch := omega) only [wrap64_id, if_pos, Option.bind_some, if_true]
    exact hr

theorem rdL_mem (xs : List (List Int)) (i : Int) (h0 : 0 ≤ i) (h1 : i < (xs.length : Int)) : rd_L1 xs i ∈ xs := by
  unfold rd_L1
  rw [List.getD_eq_getElem?_getD, List.getElem?_eq_getElem (show i.toNat < xs.length by omega)]
  exact List.getElem_mem _
/-- What the sizes say: all lists are small, or the count falls below 0. -/
def Small (xs : List (List Int)) : Prop := (xs.length : Int) ≤ 1048576 ∧ All (fun i => ((rd_L1 xs i).length : Int) ≤ 1048576) 0 (xs.length : Int)
theorem sz_SS (xs : List (List Int)) (h : xs.length ≤ maxLen) (hr : ∀ y ∈ xs, y.length ≤ maxLen) : ∃ v, Ev (fun k => laws_szIntSS.f k xs 1048576) v ∧ (0 ≤ v → Small xs) := by
  unfold maxLen at h hr
  unfold laws_szIntSS.f
  rw [wrap64_id (by omega) (by omega)]
  by_cases h0 : 1048576 - (xs.length : Int) < 0
  · refine ⟨-1, ?_, fun h => by omega⟩
    simp only [if_pos h0]; exact Ev.now _
  · simp only [if_neg h0]
    have main : ∀ (d : Nat) (i a : Int), 0 ≤ i → i + d = (xs.length : Int) → 0 ≤ a → a ≤ 1048576 → All (fun i => ((rd_L1 xs i).length : Int) ≤ 1048576) 0 i → ∃ v, Ev (fun k => laws_szIntSS.l0 k xs a i) v ∧ (0 ≤ v → Small xs) := by
      intro d
      induction d with
      | zero =>
        intro i a i0 hd a0 a1 hs
        refine ⟨a, ?_, fun _ => ⟨by omega, by rwa [show i = (xs.length : Int) from by omega] at hs⟩⟩
        refine Ev.step (fun k => by rw [laws_szIntSS.l0]) ?_
        simp (disch := omega) only [if_neg]
        exact Ev.now _
      | succ d ih =>
        intro i a i0 hd a0 a1 hs
        have hm := hr _ (rdL_mem xs i i0 (by omega))
        have e : laws_szIntS.f (rd_L1 xs i) a = some (if a - ((rd_L1 xs i).length : Int) < 0 then -1 else a - ((rd_L1 xs i).length : Int)) := by
          unfold laws_szIntS.f
          rw [wrap64_id (by omega) (by omega)]
          split <;> rfl
        by_cases hc : a - ((rd_L1 xs i).length : Int) < 0
        · refine ⟨-1, ?_, fun h => by omega⟩
          refine Ev.step (fun k => by rw [laws_szIntSS.l0]) ?_
          simp (disch := omega) only [if_pos, e, Option.bind_some]
          exact Ev.now _
        · obtain ⟨v, hv, hs'⟩ := ih (i + 1) (a - ((rd_L1 xs i).length : Int)) (by omega) (by omega) (by omega) (by omega) (fun j h1 h2 => by
            by_cases e2 : j = i
            · rw [e2]; show ((rd_L1 xs i).length : Int) ≤ 1048576; omega
            · exact hs j h1 (by omega))
          refine ⟨v, ?_, hs'⟩
          refine Ev.step (fun k => by rw [laws_szIntSS.l0]) ?_
          simp (disch := omega) only [if_pos, if_neg, e, Option.bind_some, wrap64_id]
          exact hv
    exact main xs.length 0 _ (by omega) (by omega) (by omega) (by omega) (fun j h1 h2 => by omega)
theorem to_SS (xs : List (List Int)) (h : Small xs) : Ev (fun k => laws_toIntSS.f k xs) xs := by
  have hl := h.1
  unfold laws_toIntSS.f
  simp (disch := omega) only [if_pos]
  simp only [Int.toNat_natCast]
  have := Ev.fill (fun k out i => laws_toIntSS.l0 k xs out i) xs (fun x => x) ([] : List Int) ([] : List Int) (by
    intro out
    refine Ev.step (fun k => by rw [laws_toIntSS.l0]) ?_
    simp only [Int.lt_irrefl, if_false]
    exact Ev.now _) (by
    intro out i hl h0 hlt r hr
    refine Ev.step (fun k => by rw [laws_toIntSS.l0]) ?_
    simp (disch := omega) only [wrap64_id, if_pos, hl]
    refine Ev.bind (to_I _ (h.2 i h0 hlt)) ?_
    exact hr)
  rwa [List.map_id'] at this
theorem eq_SS (xs : List (List Int)) (h : Small xs) : Ev (fun k => laws_eqIntSS.f k xs xs) true := by
  have hl := h.1
  unfold laws_eqIntSS.f
  simp only [if_true]
  refine Ev.upc (fun k i => laws_eqIntSS.l0 k xs xs i) true (xs.length : Int) 0 ?_ ?_ 0 (by omega) (by omega)
  · refine Ev.step (fun k => by rw [laws_eqIntSS.l0]) ?_
    simp only [Int.lt_irrefl, if_false]
    exact Ev.now _
  · intro i h0 hlt hr
    refine Ev.step (fun k => by rw [laws_eqIntSS.l0]) ?_
    simp (disch := omega) only [wrap64_id, if_pos]
    refine Ev.bind (eq_I _ (h.2 i h0 hlt)) ?_
    simp only [if_true]
    exact hr
end Go.Proofs.Ytfgbohochpjkfaa.G

/- The walk of FnExactGreedyAssignment: on every argument the law answers true. -/
namespace Go.Proofs.Ytfgbohochpjkfaa.G
open Go.RowKit Go.Proofs.YtfgbohochpjkfaaW.PrintWords Go.Proofs.YtfgbohochpjkfaaW.PrintLast Go.Proofs.YtfgbohochpjkfaaW.PrintMore
set_option linter.unusedVariables false
set_option linter.unusedSimpArgs false
theorem keeps_below {ok : Nat → Prop} {w w8 w9 : World} (h : Below w.heap.size w w8) (k : Keeps ok w8 w9) (hok : ∀ b, ok b → w.heap.size ≤ b) : Below w.heap.size w w9 :=
  ⟨k.os.trans h.os, k.tape.trans h.tape, k.output.trans h.output, Nat.le_trans h.size k.size, fun i hi => (k.block i (Nat.lt_of_lt_of_le hi h.size) (fun e => by have := hok i e; omega)).trans (h.block i hi)⟩
theorem tot_le {xs : List (List Int)} (hs : Small xs) : ∀ i : Nat, i ≤ xs.length → totTo xs i ≤ (i : Int) * 1048576 := by
  intro i
  induction i with
  | zero => intro _; simp [totTo]
  | succ i ih =>
    intro h
    have h1 := ih (by omega)
    have h2 : ((rd_L1 xs (i : Int)).length : Int) ≤ 1048576 := hs.2 (i : Int) (by omega) (by omega)
    unfold totTo
    omega
theorem held_at (k : Nat) (A : Option Addr) (c : Nat) (l : List Int) (n : Nat) (a r : Int) (w : World) (hn : l.length = n) (hC : Kd.C (Kd.int .i64) w A l.length l) (hc : n ≤ c) (h : laws_heldIntS.f k l a = some r) :
    Calls Try.prog 36 #[.slice A n c, .int .i64 a] w fun e w' => e = .returned (.int .i64 r) ∧ Drawn0 w w' := by
  subst hn
  exact laws_heldIntS.calls k A c l a r w hC hc h
set_option maxHeartbeats 8000000 in
set_option maxRecDepth 100000 in
theorem laws_FnExactGreedyAssignment.walk (A0 : Option Addr) (c0 : Nat) (l0 : List (List Int)) (w : World) (hr0 : Kd.C (Kd.slice 3 (Kd.int .i64)) w A0 l0.length l0) (hc0 : l0.length ≤ c0) (hw0 : (l0.length ≤ maxLen ∧ ∀ y ∈ l0, (y.length ≤ maxLen ∧ ∀ yy ∈ y, (Lit.int .i64 yy).wf = true))) :
    Calls Try.prog 9 #[.slice A0 l0.length c0] w fun e w' => e = .returned (.bool true) ∧ Below w.heap.size w w' := by
  obtain ⟨v, hv, hs⟩ := sz_SS l0 hw0.1 (fun y hy => (hw0.2 y hy).1)
  obtain ⟨ks, hks⟩ := Ev.rounds hv
  have KS := Aside0.mk hks
  have HC := Aside0.mk hr0
  clear hv hks hw0 hr0
  by_cases h0 : v < 0
  · clear hs
    go_enter Try.func9, Try.ntmps9
    go_wp2_with (first | ((with_reducible refine gate_callee (f := 14) rfl ?_); refine goesL_ (some 16) rfl rfl Try.func14 (by kernel_rfl) rfl #[.slice A0 l0.length c0, .int .i64 1048576] rfl (by (try simp only [List.map_toArray, List.map_cons, List.map_nil]); first | done | rfl) ?_; refine (laws_szIntSS.calls ks A0 c0 l0 1048576 v _ HC.out hc0 KS.out).mono ?_; rintro e w1 ⟨rfl, hd⟩; refine ⟨_, rfl, ?_⟩; have HB1 := Aside0.mk hd.below; clear hd))
    go_ret
    exact ⟨rfl, HB1.out⟩
  · have hs := hs (by omega)
    have hl : ∀ i, 0 ≤ i → i < (l0.length : Int) → ((rd_L1 l0 i).length : Int) ≤ 1099511627776 := fun i a b => by
      have : ((rd_L1 l0 i).length : Int) ≤ 1048576 := hs.2 i a b
      omega
    obtain ⟨bg, ⟨r1, r2⟩, hres, hq, hsp, hi⟩ := greedy_R l0 hl
    have HRES := Aside0.mk hres
    have HLEN0 : Aside0 (l0.length ≤ 1048576) := Aside0.mk (by have := hs.1; omega)
    have HROW0 : Aside0 (∀ i : Int, 0 ≤ i → i < l0.length → (rd_L1 l0 i).length ≤ 1048576) := Aside0.mk (fun i a b => by
      have : ((rd_L1 l0 i).length : Int) ≤ 1048576 := hs.2 i a b
      omega)
    clear hres
    have hq : (r1.length : Int) ≤ 1048576 := hq
    obtain ⟨ki, hki⟩ := Ev.rounds hi
    obtain ⟨kp, hkp⟩ := Ev.rounds hsp
    obtain ⟨kt, hkt⟩ := Ev.rounds (to_SS l0 hs)
    obtain ⟨ke, hke⟩ := Ev.rounds (eq_SS l0 hs)
    obtain ⟨kei, hkei⟩ := Ev.rounds (eq_I r1 hq)
    obtain ⟨ys, hm, hh, hyl⟩ := mark_I r1 hq 1 (by omega) (by omega)
    have HLEN : Aside0 (ys.length = r1.length) := Aside0.mk (by omega)
    clear hyl
    obtain ⟨km, hkm⟩ := Ev.rounds hm
    obtain ⟨kh, hkh⟩ := Ev.rounds hh
    have KI := Aside0.mk hki
    have KP := Aside0.mk hkp
    have KT := Aside0.mk hkt
    have KE := Aside0.mk hke
    have KEI := Aside0.mk hkei
    have KM := Aside0.mk hkm
    have KH := Aside0.mk hkh
    have ht0 := totTo_mono l0 l0.length
    have HTO : Aside0 (1 + totTo l0 l0.length ≤ 4611686018427387904) := Aside0.mk (by
      have h1 := tot_le hs l0.length (Nat.le_refl _)
      have h2 := hs.1
      omega)
    have h0' : 0 ≤ v := by omega
    clear hki hkp hkt hke hkei hkm hkh hi hsp hm hh hs hl h0
    go_enter Try.func9, Try.ntmps9
    go_wp2_with (first | ((with_reducible refine gate_callee (f := 14) rfl ?_); refine goesL_ (some 16) rfl rfl Try.func14 (by kernel_rfl) rfl #[.slice A0 l0.length c0, .int .i64 1048576] rfl (by (try simp only [List.map_toArray, List.map_cons, List.map_nil]); first | done | rfl) ?_; refine (laws_szIntSS.calls ks A0 c0 l0 1048576 v _ HC.out hc0 KS.out).mono ?_; rintro e w1 ⟨rfl, hd⟩; refine ⟨_, rfl, ?_⟩; have HB1 := Aside0.mk hd.below; clear hd) | ((with_reducible refine gate_callee (f := 16) rfl ?_); refine goesL_ (some 21) rfl rfl Try.func16 (by kernel_rfl) rfl #[.slice A0 l0.length c0] rfl (by (try simp only [List.map_toArray, List.map_cons, List.map_nil]); first | done | rfl) ?_; refine (laws_toIntSS.calls kt A0 c0 l0 l0 _ (Kd.C_below HC.out HB1.out) hc0 KT.out).mono ?_; rintro e w2 ⟨v2, rfl, hS, hB⟩; refine ⟨_, rfl, ?_⟩; obtain ⟨A2, c2, rfl⟩ := Kd.S_slice hS; have HS2 := Aside0.mk hS; have HB2 := Aside0.mk (below_trans3 HB1.out hB); clear hS hB) | ((with_reducible refine gate_callee (f := 33) rfl ?_); refine goesL_ (some 22) rfl rfl Try.func33 (by kernel_rfl) rfl #[.slice A2 l0.length c2] rfl (by (try simp only [List.map_toArray, List.map_cons, List.map_nil]); first | done | rfl) ?_; refine (greedy_spec kp bg A2 c2 l0 _ (Kd.S_reads' HS2.out).2.2 (Kd.S_reads' HS2.out).2.1 HLEN0.out HROW0.out KP.out).mono ?_; rw [HRES.out]; rintro e w3 ⟨v3, rfl, hR, hB⟩; refine ⟨_, rfl, ?_⟩; obtain ⟨A3, c3, rfl⟩ := Kd.R_slice hR; have HF3 := Aside0.mk (Kd.R_mono (Kd.R_bound hR) (fun k hk => (⟨hk.2.1, hk.2.2.1⟩ : w2.heap.size ≤ k ∧ k < w3.heap.size))); have HC3 := Aside0.mk (Kd.R_reads' hR).2.1; have HB3 := Aside0.mk (below_trans3 HB2.out hB); clear hR hB) | ((with_reducible refine gate_callee (f := 16) rfl ?_); refine goesL_ (some 26) rfl rfl Try.func16 (by kernel_rfl) rfl #[.slice A0 l0.length c0] rfl (by (try simp only [List.map_toArray, List.map_cons, List.map_nil]); first | done | rfl) ?_; refine (laws_toIntSS.calls kt A0 c0 l0 l0 _ (Kd.C_below HC.out HB3.out) hc0 KT.out).mono ?_; rintro e w4 ⟨v4, rfl, hS, hB⟩; refine ⟨_, rfl, ?_⟩; obtain ⟨A4, c4, rfl⟩ := Kd.S_slice hS; have HX4 := Aside0.mk (Kd.R_mono (Kd.R_bound (Kd.S_R hS)) (fun k hk => (⟨hk.2.1, hk.2.2.1⟩ : w3.heap.size ≤ k ∧ k < w4.heap.size))); have HB4 := Aside0.mk (below_trans3 HB3.out hB); have HF4 := Aside0.mk (Kd.R_below HF3.out hB); have HS4 := Aside0.mk hB.size; clear hS hB) | ((with_reducible refine gate_callee (f := 34) rfl ?_); refine goesL_ (some 29) rfl rfl Try.func34 (by kernel_rfl) rfl #[.slice A4 l0.length c4] rfl (by (try simp only [List.map_toArray, List.map_cons, List.map_nil]); first | done | rfl) ?_; refine (impl_GreedyAssignment.calls ki A4 c4 l0 r1 r2 _ (Kd.R_reads' HX4.out).2.2 (Kd.R_reads' HX4.out).2.1 KI.out).mono ?_; rintro e w5 ⟨v5, rfl, hR, hB⟩; refine ⟨_, rfl, ?_⟩; obtain ⟨A5, c5, rfl⟩ := Kd.R_slice hR; have HG5 := Aside0.mk (Kd.R_mono (Kd.R_bound hR) (fun k hk => (⟨hk.2.1, hk.2.2.1⟩ : w4.heap.size ≤ k ∧ k < w5.heap.size))); have HB5 := Aside0.mk (below_trans3 HB4.out hB); have HF5 := Aside0.mk (Kd.R_below HF4.out hB); have HX5 := Aside0.mk (Kd.R_below HX4.out hB); clear hR hB) | ((with_reducible refine gate_callee (f := 22) rfl ?_); refine goesL_ (some 34) rfl rfl Try.func22 (by kernel_rfl) rfl #[.slice A5 r1.length c5, .slice A3 r1.length c3] rfl (by (try simp only [List.map_toArray, List.map_cons, List.map_nil]); first | done | rfl) ?_; refine (laws_eqIntS.calls kei A5 c5 r1 A3 c3 r1 true _ (Kd.R_reads' HG5.out).2.2 (Kd.R_reads' HG5.out).2.1 (Kd.R_reads' HF5.out).2.2 HC3.out KEI.out).mono ?_; rintro e w6 ⟨rfl, hd⟩; refine ⟨_, rfl, ?_⟩; have HB6 := Aside0.mk (below_trans3 HB5.out hd.below); have HF6 := Aside0.mk (Kd.R_below HF5.out hd.below); have HG6 := Aside0.mk (Kd.R_below HG5.out hd.below); have HX6 := Aside0.mk (Kd.R_below HX5.out hd.below); clear hd) | ((with_reducible refine gate_callee (f := 16) rfl ?_); refine goesL_ (some 43) rfl rfl Try.func16 (by kernel_rfl) rfl #[.slice A0 l0.length c0] rfl (by (try simp only [List.map_toArray, List.map_cons, List.map_nil]); first | done | rfl) ?_; refine (laws_toIntSS.calls kt A0 c0 l0 l0 _ (Kd.C_below HC.out HB6.out) hc0 KT.out).mono ?_; rintro e w7 ⟨v7, rfl, hS, hB⟩; refine ⟨_, rfl, ?_⟩; obtain ⟨A7, c7, rfl⟩ := Kd.S_slice hS; have HS7 := Aside0.mk hS; have HB7 := Aside0.mk (below_trans3 HB6.out hB); have HF7 := Aside0.mk (Kd.R_below HF6.out hB); have HG7 := Aside0.mk (Kd.R_below HG6.out hB); have HX7 := Aside0.mk (Kd.R_below HX6.out hB); clear hS hB) | ((with_reducible refine gate_callee (f := 18) rfl ?_); refine goesL_ (some 44) rfl rfl Try.func18 (by kernel_rfl) rfl #[.slice A4 l0.length c4, .slice A7 l0.length c7] rfl (by (try simp only [List.map_toArray, List.map_cons, List.map_nil]); first | done | rfl) ?_; refine (laws_eqIntSS.calls ke A4 c4 l0 A7 c7 l0 true _ (Kd.R_reads' HX7.out).2.2 (Kd.R_reads' HX7.out).2.1 (Kd.S_reads' HS7.out).2.2 (Kd.S_reads' HS7.out).2.1 KE.out).mono ?_; rintro e w8 ⟨rfl, hd⟩; refine ⟨_, rfl, ?_⟩; have HB8 := Aside0.mk (below_trans3 HB7.out hd.below); have HF8 := Aside0.mk (Kd.R_below HF7.out hd.below); have HG8 := Aside0.mk (Kd.R_below HG7.out hd.below); have HX8 := Aside0.mk (Kd.R_below HX7.out hd.below); clear hd) | ((with_reducible refine gate_callee (f := 29) rfl ?_); refine goesL_ (some 48) rfl rfl Try.func29 (by kernel_rfl) rfl #[.slice A4 l0.length c4, .int .i64 1] rfl (by (try simp only [List.map_toArray, List.map_cons, List.map_nil]); first | done | rfl) ?_; refine (markSS_own A4 c4 l0 1 _ HX8.out (by decide) HTO.out).mono ?_; rintro e w9 ⟨rfl, hk⟩; refine ⟨_, rfl, ?_⟩; have HB9 := Aside0.mk (keeps_below HB8.out hk (fun k hk2 => Nat.le_trans HB3.out.size hk2.1)); have HF9 := Aside0.mk (Kd.R_step HF8.out (fun k hk2 hl => hk.block k hl (fun h => by have := hk2.2; have := h.1; omega))); have HG9 := Aside0.mk (Kd.R_step HG8.out (fun k hk2 hl => hk.block k hl (fun h => by have := hk2.1; have := h.2; omega))); clear hk) | ((with_reducible refine gate_callee (f := 35) rfl ?_); refine goesL_ (some 64) rfl rfl Try.func35 (by kernel_rfl) rfl #[.slice A5 r1.length c5, .int .i64 1] rfl (by (try simp only [List.map_toArray, List.map_cons, List.map_nil]); first | done | rfl) ?_; refine (laws_markIntS.calls km _ _ r1 1 _ ys w _ HB10.out (Kd.R_lower HG10.out HB4.out.size) KM.out).mono ?_; rintro e w11 ⟨rfl, hR, hB, hk⟩; refine ⟨_, rfl, ?_⟩; obtain ⟨Aq, cq, eq_⟩ := Kd.R_slice hR; injection eq_ with f1_ f2_ f3_; have f4_ := f1_.symm; have f5_ := f3_.symm; subst f4_; subst f5_; have HL := Aside0.mk f2_; have HM11 := Aside0.mk hR; have HB11 := Aside0.mk hB; have HF11 := Aside0.mk (Kd.R_step HF10.out (fun k hk2 hl => hk.2 k hl (fun h => by have := hk2.2; have := h.1; have := HS4.out; omega))); clear hR hB hk f1_ f2_ f3_) | ((with_reducible refine gate_callee (f := 36) rfl ?_); refine goesL_ (some 67) rfl rfl Try.func36 (by kernel_rfl) rfl #[.slice Aq r1.length cq, .int .i64 1] rfl (by (try simp only [List.map_toArray, List.map_cons, List.map_nil]); first | done | rfl) ?_; refine (held_at kh Aq cq ys r1.length 1 _ _ HLEN.out (Kd.R_reads' HM11.out).2.2 (Kd.R_reads' HM11.out).2.1 KH.out).mono ?_; rintro e w12 ⟨rfl, hd⟩; refine ⟨_, rfl, ?_⟩; have HB12 := Aside0.mk (below_trans3 HB11.out hd.below); have HF12 := Aside0.mk (Kd.R_below HF11.out hd.below); have HM12 := Aside0.mk (Kd.R_below HM11.out hd.below); clear hd) | ((with_reducible refine gate_callee (f := 16) rfl ?_); refine goesL_ (some 75) rfl rfl Try.func16 (by kernel_rfl) rfl #[.slice A0 l0.length c0] rfl (by (try simp only [List.map_toArray, List.map_cons, List.map_nil]); first | done | rfl) ?_; refine (laws_toIntSS.calls kt A0 c0 l0 l0 _ (Kd.C_below HC.out HB12.out) hc0 KT.out).mono ?_; rintro e w13 ⟨v13, rfl, hS, hB⟩; refine ⟨_, rfl, ?_⟩; obtain ⟨A13, c13, rfl⟩ := Kd.S_slice hS; have HS13 := Aside0.mk hS; have HB13 := Aside0.mk (below_trans3 HB12.out hB); have HF13 := Aside0.mk (Kd.R_below HF12.out hB); have HM13 := Aside0.mk (Kd.R_below HM12.out hB); clear hS hB) | ((with_reducible refine gate_callee (f := 34) rfl ?_); refine goesL_ (some 76) rfl rfl Try.func34 (by kernel_rfl) rfl #[.slice A13 l0.length c13] rfl (by (try simp only [List.map_toArray, List.map_cons, List.map_nil]); first | done | rfl) ?_; refine (impl_GreedyAssignment.calls ki A13 c13 l0 r1 r2 _ (Kd.S_reads' HS13.out).2.2 (Kd.S_reads' HS13.out).2.1 KI.out).mono ?_; rintro e w14 ⟨v14, rfl, hR, hB⟩; refine ⟨_, rfl, ?_⟩; obtain ⟨A14, c14, rfl⟩ := Kd.R_slice hR; have HH14 := Aside0.mk hR; have HB14 := Aside0.mk (below_trans3 HB13.out hB); have HF14 := Aside0.mk (Kd.R_below HF13.out hB); have HM14 := Aside0.mk (Kd.R_below HM13.out hB); clear hR hB) | ((with_reducible refine gate_callee (f := 22) rfl ?_); refine goesL_ (some 81) rfl rfl Try.func22 (by kernel_rfl) rfl #[.slice A14 r1.length c14, .slice A3 r1.length c3] rfl (by (try simp only [List.map_toArray, List.map_cons, List.map_nil]); first | done | rfl) ?_; refine (laws_eqIntS.calls kei A14 c14 r1 A3 c3 r1 true _ (Kd.R_reads' HH14.out).2.2 (Kd.R_reads' HH14.out).2.1 (Kd.R_reads' HF14.out).2.2 HC3.out KEI.out).mono ?_; rintro e w15 ⟨rfl, hd⟩; refine ⟨_, rfl, ?_⟩; have HB15 := Aside0.mk (below_trans3 HB14.out hd.below); have HM15 := Aside0.mk (Kd.R_below HM14.out hd.below); clear hd) | ((with_reducible refine gate_callee (f := 36) rfl ?_); refine goesL_ (some 90) rfl rfl Try.func36 (by kernel_rfl) rfl #[.slice Aq r1.length cq, .int .i64 1] rfl (by (try simp only [List.map_toArray, List.map_cons, List.map_nil]); first | done | rfl) ?_; refine (held_at kh Aq cq ys r1.length 1 _ _ HLEN.out (Kd.R_reads' HM15.out).2.2 (Kd.R_reads' HM15.out).2.1 KH.out).mono ?_; rintro e w16 ⟨rfl, hd⟩; refine ⟨_, rfl, ?_⟩; have HB16 := Aside0.mk (below_trans3 HB15.out hd.below); clear hd) | (go_at_call 22; refine (laws_eqIntS.calls kei A5 c5 r1 A3 c3 r1 true _ (Kd.R_reads' HG9.out).2.2 (Kd.R_reads' HG9.out).2.1 (Kd.R_reads' HF9.out).2.2 HC3.out KEI.out).mono ?_; rintro e w10 ⟨rfl, hd⟩; have HB10 := Aside0.mk (below_trans3 HB9.out hd.below); have HF10 := Aside0.mk (Kd.R_below HF9.out hd.below); have HG10 := Aside0.mk (Kd.R_below HG9.out hd.below); clear hd))
    go_ret
    exact ⟨rfl, HB16.out⟩
end Go.Proofs.Ytfgbohochpjkfaa.G
