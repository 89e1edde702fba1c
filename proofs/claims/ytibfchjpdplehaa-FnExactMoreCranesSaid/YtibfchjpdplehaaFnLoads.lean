import Derived.Test.YtibfchjpdplehaaWork
import Derived.Test.YtibfchjpdplehaaGx36
import Derived.Test.YtibfchjpdplehaaGx40
import Derived.Test.YtibfchjpdplehaaGx34
import Derived.Test.YtibfchjpdplehaaGx38
import Derived.Test.YtibfchjpdplehaaGx35
import Derived.Test.YtibfchjpdplehaaGx39
import Derived.Test.YtibfchjpdplehaaGx33
import Derived.Test.YtibfchjpdplehaaGx37
namespace Go.Proofs.Ytibfchjpdplehaa.G
open Go.RowKit Go.Proofs.YtibfchjpdplehaaW.PrintWords Go.Proofs.YtibfchjpdplehaaW.PrintLast
set_option linter.unusedVariables false
set_option linter.unusedSimpArgs false
def okD (n : Int) (dv : List Int) (i : Int) : Prop := (0 ≤ rd dv i ∧ rd dv i ≤ n) ∧ (0 < i → rd dv (i - 1) ≤ rd dv i)
def DivOk (xs : List Int) (c : Int) (dv : List Int) : Prop := WorkOk xs c ∧ (dv.length : Int) = c - 1 ∧ All (okD (xs.length : Int) dv) 0 (dv.length : Int)
theorem spec_div (xs : List Int) (c : Int) (dv : List Int) (hc : 1 ≤ c ∧ c ≤ 3) (hb : (dv.length : Int) ≤ 1099511627776) : Ev (fun k => spec_l13Division.f k xs c dv) (chk ((dv.length : Int) = c - 1 ∧ All (okD (xs.length : Int) dv) 0 (dv.length : Int)) true false) := by
  unfold spec_l13Division.f
  have h := Ev.check (fun k i => spec_l13Division.l0 k xs c dv i) (dv.length : Int) (okD (xs.length : Int) dv) (decide ((dv.length : Int) = c - 1)) false 0 (by
    refine Ev.step (fun k => by rw [spec_l13Division.l0]) ?_
    simp only [Int.lt_irrefl, if_false]
    rw [wrap64_id (by omega) (by omega)]
    refine Ev.val ?_
    rw [Bool.eq_iff_iff]; simp) (by
    intro i h0 hlt r hr
    refine Ev.step (fun k => by rw [spec_l13Division.l0]) ?_
    simp (disch := omega) only [wrap64_id, if_pos, spec_l1In_eq, Option.bind_some, decide_eq_true_eq]
    repeat' (refine Ev.ite (fun h => ?_) (fun h => ?_))
    all_goals first
      | (exfalso; omega)
      | (rw [chk_pos (by unfold okD; omega)]; exact hr)
      | (rw [chk_neg (by unfold okD; omega)]; exact Ev.now _)) 0 (by omega) (by omega)
  refine Ev.eq h ?_
  by_cases ha : All (okD (xs.length : Int) dv) 0 (dv.length : Int)
  · rw [chk_pos ha]
    by_cases hl : (dv.length : Int) = c - 1
    · rw [chk_pos ⟨hl, ha⟩]; exact decide_eq_true hl
    · rw [chk_neg (fun m => hl m.1)]; exact decide_eq_false hl
  · rw [chk_neg ha, chk_neg (fun m => ha m.2)]
theorem impl_div (xs : List Int) (c : Int) (dv : List Int) : Ev (fun k => impl_isDivision.f k xs c dv) (chk (DivOk xs c dv) true false) := by
  have no : ¬ DivOk xs c dv → Ev (fun k => impl_isDivision.j0 k xs dv true) (chk (DivOk xs c dv) true false) := by
    intro h
    rw [chk_neg h]
    refine Ev.step (fun k => by rw [impl_isDivision.j0]) ?_
    simp only [if_true]; exact Ev.now _
  unfold impl_isDivision.f
  simp only [isWork_chk, Option.bind_some]
  refine Ev.ite (fun h => ?_) (fun h => no (fun m => h (chk_true.2 m.1)))
  have h := chk_true.1 h
  have hc := h.2.1
  rw [wrap64_id (x := c - 1) (by omega) (by omega)]
  by_cases hl : (dv.length : Int) = c - 1
  · rw [hl, bne_self_eq_false]
    refine Ev.step (fun k => by rw [impl_isDivision.j0]) ?_
    simp only [Bool.false_eq_true, if_false]
    rw [chk_congr (show DivOk xs c dv ↔ All (okD (xs.length : Int) dv) 0 (dv.length : Int) from ⟨fun m => m.2.2, fun m => ⟨h, hl, m⟩⟩)]
    refine Ev.check (fun k i => impl_isDivision.l0 k xs dv dv (dv.length : Int) i) (dv.length : Int) (okD (xs.length : Int) dv) true false 0 ?_ ?_ 0 (by omega) (by omega)
    · refine Ev.step (fun k => by rw [impl_isDivision.l0]) ?_
      simp only [Int.lt_irrefl, if_false]
      exact Ev.now _
    · intro i h0 hlt r hr
      refine Ev.step (fun k => by rw [impl_isDivision.l0]) ?_
      simp (disch := omega) only [wrap64_id, if_pos, impl_within_eq, Option.bind_some, decide_eq_true_eq]
      repeat' (refine Ev.ite (fun h => ?_) (fun h => ?_))
      all_goals first
        | (exfalso; omega)
        | (rw [chk_pos (by unfold okD; omega)]; exact hr)
        | (rw [chk_neg (by unfold okD; omega)]; exact Ev.now _)
  · rw [show ((dv.length : Int) != c - 1) = true from by rw [bne_iff_ne]; exact hl]
    exact no (fun m => hl m.2.1)
/-- The first bay of crane c and the one behind its last. -/
def fromOf (dv : List Int) (c : Int) : Int := if c > 0 then rd dv (c - 1) else 0
def toOf (n : Int) (dv : List Int) (c : Int) : Int := if c < (dv.length : Int) then rd dv c else n
theorem spec_range (xs dv : List Int) (c : Int) (h0 : 0 ≤ c) (h1 : c ≤ (dv.length : Int)) (hb : (dv.length : Int) ≤ 1099511627776) : spec_l13Range.f xs dv c = some (fromOf dv c, toOf (xs.length : Int) dv c) := by
  unfold spec_l13Range.f fromOf toOf
  by_cases a : c > 0
  · by_cases b : c < (dv.length : Int)
    · simp (disch := omega) only [if_pos, wrap64_id]
    · simp (disch := omega) only [if_pos, if_neg, wrap64_id]
  · by_cases b : c < (dv.length : Int)
    · simp (disch := omega) only [if_pos, if_neg, wrap64_id]
    · simp (disch := omega) only [if_pos, if_neg, wrap64_id]
theorem impl_bays (xs dv : List Int) (c : Int) (h0 : 0 ≤ c) (h1 : c ≤ (dv.length : Int)) (hb : (dv.length : Int) ≤ 1099511627776) : impl_baysOf.f xs dv c = some (fromOf dv c, toOf (xs.length : Int) dv c) := by
  unfold impl_baysOf.f fromOf toOf
  by_cases a : c > 0
  · by_cases b : c < (dv.length : Int)
    · simp (disch := omega) only [if_pos, wrap64_id]
    · simp (disch := omega) only [if_pos, if_neg, wrap64_id]
  · by_cases b : c < (dv.length : Int)
    · simp (disch := omega) only [if_pos, if_neg, wrap64_id]
    · simp (disch := omega) only [if_pos, if_neg, wrap64_id]
theorem range_bd {xs : List Int} {c : Int} {dv : List Int} (hd : DivOk xs c dv) (i : Int) (h0 : 0 ≤ i) (h1 : i ≤ (dv.length : Int)) : 0 ≤ fromOf dv i ∧ fromOf dv i ≤ toOf (xs.length : Int) dv i ∧ toOf (xs.length : Int) dv i ≤ (xs.length : Int) := by
  unfold fromOf toOf
  by_cases a : i > 0
  · have o := hd.2.2 (i - 1) (by omega) (by omega)
    unfold okD at o
    rw [if_pos a]
    by_cases b : i < (dv.length : Int)
    · have o2 := hd.2.2 i (by omega) (by omega)
      unfold okD at o2
      rw [if_pos b]; omega
    · rw [if_neg b]; omega
  · rw [if_neg a]
    by_cases b : i < (dv.length : Int)
    · have o2 := hd.2.2 i (by omega) (by omega)
      unfold okD at o2
      rw [if_pos b]; omega
    · rw [if_neg b]; omega
def loadAt (xs dv : List Int) (i : Int) : Int := sumTo xs (fromOf dv i) (toOf (xs.length : Int) dv i - fromOf dv i).toNat
def loadsTo (xs dv : List Int) : Nat → List Int
  | 0 => []
  | d + 1 => loadsTo xs dv d ++ [loadAt xs dv d]
theorem loadsTo_succ (xs dv : List Int) (d : Nat) : loadsTo xs dv (d + 1) = loadsTo xs dv d ++ [loadAt xs dv d] := rfl
theorem loadsTo_len (xs dv : List Int) : ∀ d, (loadsTo xs dv d).length = d
  | 0 => rfl
  | d + 1 => by unfold loadsTo; rw [List.length_append, loadsTo_len xs dv d]; rfl
theorem sum_cut (xs : List Int) (a b : Nat) (hab : a ≤ b) (hb : b ≤ xs.length) : ∀ d : Nat, a + d ≤ b → sumTo ((xs.take b).drop a) 0 d = sumTo xs (a : Int) d := by
  intro d
  induction d with
  | zero => intro _; rfl
  | succ d ih =>
    intro h
    unfold sumTo
    rw [ih (by omega)]
    congr 1
    unfold rd
    rw [show ((0 : Int) + (d : Int)).toNat = d from by omega, show ((a : Int) + (d : Int)).toNat = a + d from by omega, List.getD_eq_getElem?_getD, List.getD_eq_getElem?_getD, List.getElem?_drop, List.getElem?_take, if_pos (by omega)]
theorem impl_loads {xs : List Int} {c : Int} {dv : List Int} (hd : DivOk xs c dv) : Ev (fun k => impl_loadsOf.f k xs dv) (loadsTo xs dv (dv.length + 1)) := by
  obtain ⟨hl, hc, hw⟩ := hd.1
  have hdl := hd.2.1
  unfold impl_loadsOf.f
  rw [wrap64_id (by omega) (by omega)]
  refine Ev.up (fun k out i => impl_loadsOf.l0 k xs dv out ((dv.length : Int) + 1) i) (fun _ _ => loadsTo xs dv (dv.length + 1)) (fun out i => 0 ≤ i ∧ out = loadsTo xs dv i.toNat) ((dv.length : Int) + 1) ?_ ?_ [] 0 ⟨by omega, rfl⟩ (by omega)
  · rintro out ⟨h0, rfl⟩
    refine Ev.step (fun k => by rw [impl_loadsOf.l0]) ?_
    simp only [Int.lt_irrefl, if_false]
    refine Ev.val ?_
    congr 1
  · rintro out i ⟨h0, ho⟩ hlt ih
    have ol := loadsTo_len xs dv i.toNat
    rw [← ho] at ol
    have rb := range_bd hd i h0 (by omega)
    refine Ev.step (fun k => by rw [impl_loadsOf.l0]) ?_
    simp (disch := omega) only [if_pos, impl_bays, Option.bind_some, wrap64_id]
    have e1 : (((xs.take (toOf (xs.length : Int) dv i).toNat).drop (fromOf dv i).toNat).length : Int) = toOf (xs.length : Int) dv i - fromOf dv i := by
      rw [List.length_drop, List.length_take]; omega
    have sm := impl_sum ((xs.take (toOf (xs.length : Int) dv i).toNat).drop (fromOf dv i).toNat) (by omega) (fun j j0 j1 => by
      have o := hw (fromOf dv i + j) (by omega) (by omega)
      unfold okW rd at o
      unfold rd
      rw [List.getD_eq_getElem?_getD, List.getElem?_drop, List.getElem?_take, if_pos (by omega), ← List.getD_eq_getElem?_getD, show (fromOf dv i).toNat + j.toNat = (fromOf dv i + j).toNat from by omega]
      omega)
    refine Ev.bind sm ?_
    refine ih _ ⟨by omega, ?_⟩
    rw [show (i + 1).toNat = i.toNat + 1 from by omega, ho]
    rw [loadsTo_succ]
    unfold loadAt
    rw [show ((i.toNat : Nat) : Int) = i from by omega, sum_cut xs _ _ (by omega) (by omega) _ (by omega)]
    congr 3
    · omega
    · omega
theorem spec_loads {xs : List Int} {c : Int} {dv : List Int} (hd : DivOk xs c dv) : Ev (fun k => spec_l13Loads.f k xs dv) (loadsTo xs dv (dv.length + 1)) := by
  obtain ⟨hl, hc, hw⟩ := hd.1
  have hdl := hd.2.1
  unfold spec_l13Loads.f
  refine Ev.up (fun k out i => spec_l13Loads.l0 k xs dv out i) (fun _ _ => loadsTo xs dv (dv.length + 1)) (fun out i => 0 ≤ i ∧ out = loadsTo xs dv i.toNat) ((dv.length : Int) + 1) ?_ ?_ [] 0 ⟨by omega, rfl⟩ (by omega)
  · rintro out ⟨h0, rfl⟩
    refine Ev.step (fun k => by rw [spec_l13Loads.l0]) ?_
    simp (disch := omega) only [if_neg]
    refine Ev.val ?_
    congr 1
  · rintro out i ⟨h0, ho⟩ hlt ih
    have ol := loadsTo_len xs dv i.toNat
    rw [← ho] at ol
    have rb := range_bd hd i h0 (by omega)
    refine Ev.step (fun k => by rw [spec_l13Loads.l0]) ?_
    simp (disch := omega) only [if_pos, spec_range, Option.bind_some, wrap64_id]
    refine Ev.up (fun k (s : Int) j => spec_l13Loads.l1 k xs dv out i (toOf (xs.length : Int) dv i) s j) (fun _ _ => loadsTo xs dv (dv.length + 1)) (fun s j => fromOf dv i ≤ j ∧ s = sumTo xs (fromOf dv i) (j - fromOf dv i).toNat) (toOf (xs.length : Int) dv i) ?_ ?_ 0 (fromOf dv i) ⟨by omega, by rw [Int.sub_self]; rfl⟩ (by omega)
    · rintro s ⟨j0, rfl⟩
      refine Ev.step (fun k => by rw [spec_l13Loads.l1]) ?_
      simp (disch := omega) only [Int.lt_irrefl, if_false, if_pos, wrap64_id]
      refine ih _ ⟨by omega, ?_⟩
      rw [show (i + 1).toNat = i.toNat + 1 from by omega, ho]
      rw [loadsTo_succ]
      unfold loadAt
      rw [show ((i.toNat : Nat) : Int) = i from by omega]
    · rintro s j ⟨j0, hs⟩ jlt ih2
      have sb := sumTo_bd hw (fromOf dv i) (by omega) (j - fromOf dv i).toNat (by omega)
      rw [← hs] at sb
      have o := hw j (by omega) (by omega)
      unfold okW at o
      refine Ev.step (fun k => by rw [spec_l13Loads.l1]) ?_
      simp (disch := omega) only [if_pos, wrap64_id]
      refine ih2 _ ⟨by omega, ?_⟩
      rw [show (j + 1 - fromOf dv i).toNat = (j - fromOf dv i).toNat + 1 from by omega, hs, sumTo_succ, show fromOf dv i + (((j - fromOf dv i).toNat : Nat) : Int) = j from by omega]
theorem impl_LoadsOf_eq (xs : List Int) (c : Int) (dv : List Int) : Ev (fun k => impl_LoadsOf.f k xs c dv) (chk (DivOk xs c dv) (loadsTo xs dv (dv.length + 1), true) ([], false)) := by
  unfold impl_LoadsOf.f
  refine Ev.bind (impl_div xs c dv) ?_
  refine Ev.ite (fun h => ?_) (fun h => ?_)
  · have h := chk_true.1 h
    rw [chk_pos h]
    exact Ev.bind (impl_loads h) (Ev.now _)
  · rw [chk_neg (fun m => h (chk_true.2 m))]; exact Ev.now _
theorem spec_LoadsOf_eq (xs : List Int) (hb : (xs.length : Int) ≤ 1099511627776) (c : Int) (dv : List Int) (hb2 : (dv.length : Int) ≤ 1099511627776) : Ev (fun k => spec_LoadsOf.f k xs c dv) (chk (DivOk xs c dv) (loadsTo xs dv (dv.length + 1), true) ([], false)) := by
  unfold spec_LoadsOf.f
  refine Ev.bind (spec_asked xs hb c) ?_
  refine Ev.ite (fun h => ?_) (fun h => ?_)
  · have h := chk_true.1 h
    refine Ev.bind (spec_div xs c dv h.2.1 hb2) ?_
    refine Ev.ite (fun g => ?_) (fun g => ?_)
    · have g := chk_true.1 g
      rw [chk_pos ⟨h, g⟩]
      exact Ev.bind (spec_loads ⟨h, g⟩) (Ev.now _)
    · rw [chk_neg (fun m => g (chk_true.2 m.2))]; exact Ev.now _
  · rw [chk_neg (fun m => h (chk_true.2 m.1))]; exact Ev.now _
theorem loads_both (xs : List Int) (hb : (xs.length : Int) ≤ 1099511627776) (c : Int) (dv : List Int) (hb2 : (dv.length : Int) ≤ 1099511627776) : ∃ r : List Int × Bool, (r.1.length : Int) ≤ 1048576 ∧ Ev (fun k => spec_LoadsOf.f k xs c dv) r ∧ Ev (fun k => impl_LoadsOf.f k xs c dv) r := by
  refine ⟨_, ?_, spec_LoadsOf_eq xs hb c dv hb2, impl_LoadsOf_eq xs c dv⟩
  by_cases h : DivOk xs c dv
  · rw [chk_pos h]
    have := loadsTo_len xs dv (dv.length + 1)
    have := h.2.1
    have := h.1.2.1
    dsimp only
    omega
  · rw [chk_neg h]; simp
end Go.Proofs.Ytibfchjpdplehaa.G
