/- Texts of the proof of FnClashes, joined in build order. -/
import Derived.Test.YtibfchjpdplehaaMgFnClashes2
import Derived.Test.YtibfchjpdplehaaMgFnClashes1
namespace Go.Proofs.Ytibfchjpdplehaa.G
open Go.RowKit Go.Proofs.YtibfchjpdplehaaW.PrintWords Go.Proofs.YtibfchjpdplehaaW.PrintLast
set_option linter.unusedVariables false
set_option linter.unusedSimpArgs false
def okD (n : Int) (dv : List Int) (i : Int) : Prop := (0 ≤ rd dv i ∧ rd dv i ≤ n) ∧ (0 < i → rd dv (i - 1) ≤ rd dv i)
def DivOk (xs : List Int) (c : Int) (dv : List Int) : Prop := WorkOk xs c ∧ (dv.length : Int) = c - 1 ∧ All (okD (xs.length : Int) dv) 0 (dv.length : Int)
theorem spec_div (xs : List Int) (c : Int) (dv : List Int) (hc : 1 ≤ c ∧ c ≤ 3) (hb : (dv.length : Int) ≤ 1099511627776) : Ev (fun k => spec_l13Division.f k xs c dv) (chk ((dv.length : Int) = c - 1 ∧ All (okD (xs.length : Int) dv) 0 (dv.length : Int)) true false) := by
  unfold spec_l13Division.f
  have h := Ev.check (fun k i => spec_l13Division.l0 k xs c dv i) (dv.length : Int) (okD (xs.length : Int) dv) (decide ((dv.length : Int) = c - 1)) false 0 (by
    refine Ev.step (fun k => by rw [spec_l13Division.l0]) ?_
    simp only [Int.lt_irrefl, if_false]
    rw [wrap64_id (by omega) (by omega)]
    refine Ev.val ?_
    rw [Bool.eq_iff_iff]; simp) (by
    intro i h0 hlt r hr
    refine Ev.step (fun k => by rw [spec_l13Division.l0]) ?_
    simp (disch := omega) only [wrap64_id, if_pos, spec_l1In_eq, Option.bind_some, decide_eq_true_eq]
    repeat' (refine Ev.ite (fun h => ?_) (fun h => ?_))
    all_goals first
      | (exfalso; omega)
      | (rw [chk_pos (by unfold okD; omega)]; exact hr)
      | (rw [chk_neg (by unfold okD; omega)]; exact Ev.now _)) 0 (by omega) (by omega)
  refine Ev.eq h ?_
  by_cases ha : All (okD (xs.length : Int) dv) 0 (dv.length : Int)
  · rw [chk_pos ha]
    by_cases hl : (dv.length : Int) = c - 1
    · rw [chk_pos ⟨hl, ha⟩]; exact decide_eq_true hl
    · rw [chk_neg (fun m => hl m.1)]; exact decide_eq_false hl
  · rw [chk_neg ha, chk_neg (fun m => ha m.2)]
theorem impl_div (xs : List Int) (c : Int) (dv : List Int) : Ev (fun k => impl_isDivision.f k xs c dv) (chk (DivOk xs c dv) true false) := by
  have no : ¬ DivOk xs c dv → Ev (fun k => impl_isDivision.j0 k xs dv true) (chk (DivOk xs c dv) true false) := by
    intro h
    rw [chk_neg h]
    refine Ev.step (fun k => by rw [impl_isDivision.j0]) ?_
    simp only [if_true]; exact Ev.now _
  unfold impl_isDivision.f
  simp only [isWork_chk, Option.bind_some]
  refine Ev.ite (fun h => ?_) (fun h => no (fun m => h (chk_true.2 m.1)))
  have h := chk_true.1 h
  have hc := h.2.1
  rw [wrap64_id (x := c - 1) (by omega) (by omega)]
  by_cases hl : (dv.length : Int) = c - 1
  · rw [hl, bne_self_eq_false]
    refine Ev.step (fun k => by rw [impl_isDivision.j0]) ?_
    simp only [Bool.false_eq_true, if_false]
    rw [chk_congr (show DivOk xs c dv ↔ All (okD (xs.length : Int) dv) 0 (dv.length : Int) from ⟨fun m => m.2.2, fun m => ⟨h, hl, m⟩⟩)]
    refine Ev.check (fun k i => impl_isDivision.l0 k xs dv dv (dv.length : Int) i) (dv.length : Int) (okD (xs.length : Int) dv) true false 0 ?_ ?_ 0 (by omega) (by omega)
    · refine Ev.step (fun k => by rw [impl_isDivision.l0]) ?_
      simp only [Int.lt_irrefl, if_false]
      exact Ev.now _
    · intro i h0 hlt r hr
      refine Ev.step (fun k => by rw [impl_isDivision.l0]) ?_
      simp (disch := omega) only [wrap64_id, if_pos, impl_within_eq, Option.bind_some, decide_eq_true_eq]
      repeat' (refine Ev.ite (fun h => ?_) (fun h => ?_))
      all_goals first
        | (exfalso; omega)
        | (rw [chk_pos (by unfold okD; omega)]; exact hr)
        | (rw [chk_neg (by unfold okD; omega)]; exact Ev.now _)
  · rw [show ((dv.length : Int) != c - 1) = true from by rw [bne_iff_ne]; exact hl]
    exact no (fun m => hl m.2.1)
/-- The first bay of crane c and the one behind its last. -/
def fromOf (dv : List Int) (c : Int) : Int := if c > 0 then rd dv (c - 1) else 0
def toOf (n : Int) (dv : List Int) (c : Int) : Int := if c < (dv.length : Int) then rd dv c else n
theorem spec_range (xs dv : List Int) (c : Int) (h0 : 0 ≤ c) (h1 : c ≤ (dv.length : Int)) (hb : (dv.length : Int) ≤ 1099511627776) : spec_l13Range.f xs dv c = some (fromOf dv c, toOf (xs.length : Int) dv c) := by
  unfold spec_l13Range.f fromOf toOf
  by_cases a : c > 0
  · by_cases b : c < (dv.length : Int)
    · simp (disch := omega) only [if_pos, wrap64_id]
    · simp (disch := omega) only [if_pos, if_neg, wrap64_id]
  · by_cases b : c < (dv.length : Int)
    · simp (disch := omega) only [if_pos, if_neg, wrap64_id]
    · simp (disch := omega) only [if_pos, if_neg, wrap64_id]
theorem impl_bays (xs dv : List Int) (c : Int) (h0 : 0 ≤ c) (h1 : c ≤ (dv.length : Int)) (hb : (dv.length : Int) ≤ 1099511627776) : impl_baysOf.f xs dv c = some (fromOf dv c, toOf (xs.length : Int) dv c) := by
  unfold impl_baysOf.f fromOf toOf
  by_cases a : c > 0
  · by_cases b : c < (dv.length : Int)
    · simp (disch := omega) only [if_pos, wrap64_id]
    · simp (disch := omega) only [if_pos, if_neg, wrap64_id]
  · by_cases b : c < (dv.length : Int)
    · simp (disch := omega) only [if_pos, if_neg, wrap64_id]
    · simp (disch := omega) only [if_pos, if_neg, wrap64_id]
theorem range_bd {xs : List Int} {c : Int} {dv : List Int} (hd : DivOk xs c dv) (i : Int) (h0 : 0 ≤ i) (h1 : i ≤ (dv.length : Int)) : 0 ≤ fromOf dv i ∧ fromOf dv i ≤ toOf (xs.length : Int) dv i ∧ toOf (xs.length : Int) dv i ≤ (xs.length : Int) := by
  unfold fromOf toOf
  by_cases a : i > 0
  · have o := hd.2.2 (i - 1) (by omega) (by omega)
    unfold okD at o
    rw [if_pos a]
    by_cases b : i < (dv.length : Int)
    · have o2 := hd.2.2 i (by omega) (by omega)
      unfold okD at o2
      rw [if_pos b]; omega
    · rw [if_neg b]; omega
  · rw [if_neg a]
    by_cases b : i < (dv.length : Int)
    · have o2 := hd.2.2 i (by omega) (by omega)
      unfold okD at o2
      rw [if_pos b]; omega
    · rw [if_neg b]; omega
def loadAt (xs dv : List Int) (i : Int) : Int := sumTo xs (fromOf dv i) (toOf (xs.length : Int) dv i - fromOf dv i).toNat
def loadsTo (xs dv : List Int) : Nat → List Int
  | 0 => []
  | d + 1 => loadsTo xs dv d ++ [loadAt xs dv d]
theorem loadsTo_succ (xs dv : List Int) (d : Nat) : loadsTo xs dv (d + 1) = loadsTo xs dv d ++ [loadAt xs dv d] := rfl
theorem loadsTo_len (xs dv : List Int) : ∀ d, (loadsTo xs dv d).length = d
  | 0 => rfl
  | d + 1 => by unfold loadsTo; rw [List.length_append, loadsTo_len xs dv d]; rfl
theorem sum_cut (xs : List Int) (a b : Nat) (hab : a ≤ b) (hb : b ≤ xs.length) : ∀ d : Nat, a + d ≤ b → sumTo ((xs.take b).drop a) 0 d = sumTo xs (a : Int) d := by
  intro d
  induction d with
  | zero => intro _; rfl
  | succ d ih =>
    intro h
    unfold sumTo
    rw [ih (by omega)]
    congr 1
    unfold rd
    rw [show ((0 : Int) + (d : Int)).toNat = d from by omega, show ((a : Int) + (d : Int)).toNat = a + d from by omega, List.getD_eq_getElem?_getD, List.getD_eq_getElem?_getD, List.getElem?_drop, List.getElem?_take, if_pos (by omega)]
theorem impl_loads {xs : List Int} {c : Int} {dv : List Int} (hd : DivOk xs c dv) : Ev (fun k => impl_loadsOf.f k xs dv) (loadsTo xs dv (dv.length + 1)) := by
  obtain ⟨hl, hc, hw⟩ := hd.1
  have hdl := hd.2.1
  unfold impl_loadsOf.f
  rw [wrap64_id (by omega) (by omega)]
  refine Ev.up (fun k out i => impl_loadsOf.l0 k xs dv out ((dv.length : Int) + 1) i) (fun _ _ => loadsTo xs dv (dv.length + 1)) (fun out i => 0 ≤ i ∧ out = loadsTo xs dv i.toNat) ((dv.length : Int) + 1) ?_ ?_ [] 0 ⟨by omega, rfl⟩ (by omega)
  · rintro out ⟨h0, rfl⟩
    refine Ev.step (fun k => by rw [impl_loadsOf.l0]) ?_
    simp only [Int.lt_irrefl, if_false]
    refine Ev.val ?_
    congr 1
  · rintro out i ⟨h0, ho⟩ hlt ih
    have ol := loadsTo_len xs dv i.toNat
    rw [← ho] at ol
    have rb := range_bd hd i h0 (by omega)
    refine Ev.step (fun k => by rw [impl_loadsOf.l0]) ?_
    simp (disch := omega) only [if_pos, impl_bays, Option.bind_some, wrap64_id]
    have e1 : (((xs.take (toOf (xs.length : Int) dv i).toNat).drop (fromOf dv i).toNat).length : Int) = toOf (xs.length : Int) dv i - fromOf dv i := by
      rw [List.length_drop, List.length_take]; omega
    have sm := impl_sum ((xs.take (toOf (xs.length : Int) dv i).toNat).drop (fromOf dv i).toNat) (by omega) (fun j j0 j1 => by
      have o := hw (fromOf dv i + j) (by omega) (by omega)
      unfold okW rd at o
      unfold rd
      rw [List.getD_eq_getElem?_getD, List.getElem?_drop, List.getElem?_take, if_pos (by omega), ← List.getD_eq_getElem?_getD, show (fromOf dv i).toNat + j.toNat = (fromOf dv i + j).toNat from by omega]
      omega)
    refine Ev.bind sm ?_
    refine ih _ ⟨by omega, ?_⟩
    rw [show (i + 1).toNat = i.toNat + 1 from by omega, ho]
    rw [loadsTo_succ]
    unfold loadAt
    rw [show ((i.toNat : Nat) : Int) = i from by omega, sum_cut xs _ _ (by omega) (by omega) _ (by omega)]
    congr 3
    · omega
    · omega
theorem spec_loads {xs : List Int} {c : Int} {dv : List Int} (hd : DivOk xs c dv) : Ev (fun k => spec_l13Loads.f k xs dv) (loadsTo xs dv (dv.length + 1)) := by
  obtain ⟨hl, hc, hw⟩ := hd.1
  have hdl := hd.2.1
  unfold spec_l13Loads.f
  refine Ev.up (fun k out i => spec_l13Loads.l0 k xs dv out i) (fun _ _ => loadsTo xs dv (dv.length + 1)) (fun out i => 0 ≤ i ∧ out = loadsTo xs dv i.toNat) ((dv.length : Int) + 1) ?_ ?_ [] 0 ⟨by omega, rfl⟩ (by omega)
  · rintro out ⟨h0, rfl⟩
    refine Ev.step (fun k => by rw [spec_l13Loads.l0]) ?_
    simp (disch := omega) only [if_neg]
    refine Ev.val ?_
    congr 1
  · rintro out i ⟨h0, ho⟩ hlt ih
    have ol := loadsTo_len xs dv i.toNat
    rw [← ho] at ol
    have rb := range_bd hd i h0 (by omega)
    refine Ev.step (fun k => by rw [spec_l13Loads.l0]) ?_
    simp (disch := omega) only [if_pos, spec_range, Option.bind_some, wrap64_id]
    refine Ev.up (fun k (s : Int) j => spec_l13Loads.l1 k xs dv out i (toOf (xs.length : Int) dv i) s j) (fun _ _ => loadsTo xs dv (dv.length + 1)) (fun s j => fromOf dv i ≤ j ∧ s = sumTo xs (fromOf dv i) (j - fromOf dv i).toNat) (toOf (xs.length : Int) dv i) ?_ ?_ 0 (fromOf dv i) ⟨by omega, by rw [Int.sub_self]; rfl⟩ (by omega)
    · rintro s ⟨j0, rfl⟩
      refine Ev.step (fun k => by rw [spec_l13Loads.l1]) ?_
      simp (disch := omega) only [Int.lt_irrefl, if_false, if_pos, wrap64_id]
      refine ih _ ⟨by omega, ?_⟩
      rw [show (i + 1).toNat = i.toNat + 1 from by omega, ho]
      rw [loadsTo_succ]
      unfold loadAt
      rw [show ((i.toNat : Nat) : Int) = i from by omega]
    · rintro s j ⟨j0, hs⟩ jlt ih2
      have sb := sumTo_bd hw (fromOf dv i) (by omega) (j - fromOf dv i).toNat (by omega)
      rw [← hs] at sb
      have o := hw j (by omega) (by omega)
      unfold okW at o
      refine Ev.step (fun k => by rw [spec_l13Loads.l1]) ?_
      simp (disch := omega) only [if_pos, wrap64_id]
      refine ih2 _ ⟨by omega, ?_⟩
      rw [show (j + 1 - fromOf dv i).toNat = (j - fromOf dv i).toNat + 1 from by omega, hs, sumTo_succ, show fromOf dv i + (((j - fromOf dv i).toNat : Nat) : Int) = j from by omega]
theorem impl_LoadsOf_eq (xs : List Int) (c : Int) (dv : List Int) : Ev (fun k => impl_LoadsOf.f k xs c dv) (chk (DivOk xs c dv) (loadsTo xs dv (dv.length + 1), true) ([], false)) := by
  unfold impl_LoadsOf.f
  refine Ev.bind (impl_div xs c dv) ?_
  refine Ev.ite (fun h => ?_) (fun h => ?_)
  · have h := chk_true.1 h
    rw [chk_pos h]
    exact Ev.bind (impl_loads h) (Ev.now _)
  · rw [chk_neg (fun m => h (chk_true.2 m))]; exact Ev.now _
theorem spec_LoadsOf_eq (xs : List Int) (hb : (xs.length : Int) ≤ 1099511627776) (c : Int) (dv : List Int) (hb2 : (dv.length : Int) ≤ 1099511627776) : Ev (fun k => spec_LoadsOf.f k xs c dv) (chk (DivOk xs c dv) (loadsTo xs dv (dv.length + 1), true) ([], false)) := by
  unfold spec_LoadsOf.f
  refine Ev.bind (spec_asked xs hb c) ?_
  refine Ev.ite (fun h => ?_) (fun h => ?_)
  · have h := chk_true.1 h
    refine Ev.bind (spec_div xs c dv h.2.1 hb2) ?_
    refine Ev.ite (fun g => ?_) (fun g => ?_)
    · have g := chk_true.1 g
      rw [chk_pos ⟨h, g⟩]
      exact Ev.bind (spec_loads ⟨h, g⟩) (Ev.now _)
    · rw [chk_neg (fun m => g (chk_true.2 m.2))]; exact Ev.now _
  · rw [chk_neg (fun m => h (chk_true.2 m.1))]; exact Ev.now _
theorem loads_both (xs : List Int) (hb : (xs.length : Int) ≤ 1099511627776) (c : Int) (dv : List Int) (hb2 : (dv.length : Int) ≤ 1099511627776) : ∃ r : List Int × Bool, (r.1.length : Int) ≤ 1048576 ∧ Ev (fun k => spec_LoadsOf.f k xs c dv) r ∧ Ev (fun k => impl_LoadsOf.f k xs c dv) r := by
  refine ⟨_, ?_, spec_LoadsOf_eq xs hb c dv hb2, impl_LoadsOf_eq xs c dv⟩
  by_cases h : DivOk xs c dv
  · rw [chk_pos h]
    have := loadsTo_len xs dv (dv.length + 1)
    have := h.2.1
    have := h.1.2.1
    dsimp only
    omega
  · rw [chk_neg h]; simp
end Go.Proofs.Ytibfchjpdplehaa.G

namespace Go.Proofs.Ytibfchjpdplehaa.G
open Go.RowKit Go.Proofs.YtibfchjpdplehaaW.PrintWords Go.Proofs.YtibfchjpdplehaaW.PrintLast
set_option linter.unusedVariables false
set_option linter.unusedSimpArgs false
def mostOf (xs dv : List Int) : Int := topTo (loadsTo xs dv (dv.length + 1)) (dv.length + 1)
def better (s o : List Int × Int) : List Int × Int := if s.2 < 0 ∨ o.2 < s.2 then o else s
def bestIn (f : List Int → List Int × Int) (dv : List Int) : Nat → Int → List Int × Int → List Int × Int
  | 0, _, s => s
  | r + 1, k, s => bestIn f dv r (k + 1) (better s (f (dv ++ [k])))
def lastOf (dv : List Int) : Int := if 0 < (dv.length : Int) then rd dv ((dv.length : Int) - 1) else 0
def bestOf (xs : List Int) : Nat → List Int → List Int × Int
  | 0, dv => (dv, mostOf xs dv)
  | d + 1, dv => bestIn (bestOf xs d) dv ((xs.length : Int) + 1 - lastOf dv).toNat (lastOf dv) ([], -1)
noncomputable def stepB (xs : List Int) (c : Int) (s : List Int × Int) (l : List Int) : List Int × Int := chk (DivOk xs c l) (better s (l, mostOf xs l)) s
theorem top_nonneg (xs : List Int) : ∀ d : Nat, 0 ≤ topTo xs d
  | 0 => Int.le_refl _
  | d + 1 => by
    have := top_nonneg xs d
    rw [topTo_succ]
    unfold mx
    split <;> omega
theorem better_assoc (s a b : List Int × Int) (ha : 0 ≤ a.2) (hb : 0 ≤ b.2) : better (better s a) b = better s (better a b) := by
  unfold better
  by_cases h1 : s.2 < 0 ∨ a.2 < s.2
  · rw [if_pos h1]
    by_cases h2 : a.2 < 0 ∨ b.2 < a.2
    · rw [if_pos h2, if_pos (by omega)]
    · rw [if_neg h2, if_pos h1]
  · rw [if_neg h1]
    by_cases h2 : a.2 < 0 ∨ b.2 < a.2
    · rw [if_pos h2]
    · rw [if_neg h2, if_neg h1, if_neg (by omega)]
theorem better_nonneg {a b : List Int × Int} (ha : 0 ≤ a.2) (hb : 0 ≤ b.2) : 0 ≤ (better a b).2 := by
  unfold better; split <;> assumption
/-- The prefix is one of a division. -/
def Pre (xs dv : List Int) : Prop := All (okD (xs.length : Int) dv) 0 (dv.length : Int)
theorem pre_app {xs dv q : List Int} (h : Pre xs (dv ++ q)) : Pre xs dv := by
  intro i h0 h1
  have := h i h0 (by rw [List.length_append]; omega)
  unfold okD at this ⊢
  rw [rd_left dv q i h0 h1] at this
  refine ⟨this.1, fun hp => ?_⟩
  have h2 := this.2 hp
  rwa [rd_left dv q (i - 1) (by omega) (by omega)] at h2
theorem pre_snoc {xs dv : List Int} (h : Pre xs dv) (k : Int) : Pre xs (dv ++ [k]) ↔ (0 ≤ k ∧ k ≤ (xs.length : Int)) ∧ lastOf dv ≤ k := by
  have hl : ((dv ++ [k]).length : Int) = (dv.length : Int) + 1 := by simp
  constructor
  · intro m
    have := m (dv.length : Int) (by omega) (by omega)
    unfold okD at this
    rw [rd_last] at this
    refine ⟨this.1, ?_⟩
    unfold lastOf
    split
    · rename_i hp
      have h2 := this.2 hp
      rwa [rd_left dv [k] _ (by omega) (by omega)] at h2
    · exact this.1.1
  · rintro ⟨a, b⟩ i h0 h1
    show okD _ _ _
    by_cases e : i < (dv.length : Int)
    · have := h i h0 e
      unfold okD at this ⊢
      rw [rd_left dv [k] i h0 e]
      refine ⟨this.1, fun hp => ?_⟩
      rw [rd_left dv [k] (i - 1) (by omega) (by omega)]
      exact this.2 hp
    · obtain rfl : i = (dv.length : Int) := by omega
      unfold okD
      rw [rd_last]
      refine ⟨a, fun hp => ?_⟩
      rw [rd_left dv [k] _ (by omega) (by omega)]
      unfold lastOf at b
      rwa [if_pos hp] at b
theorem last_bd {xs dv : List Int} (h : Pre xs dv) : 0 ≤ lastOf dv ∧ lastOf dv ≤ (xs.length : Int) := by
  unfold lastOf
  split
  · have := h ((dv.length : Int) - 1) (by omega) (by omega)
    unfold okD at this
    exact this.1
  · omega
theorem fold_skip {xs : List Int} {c : Int} (ls : List (List Int)) (h : ∀ l ∈ ls, ¬ DivOk xs c l) : ∀ s, ls.foldl (stepB xs c) s = s := by
  induction ls with
  | nil => intro s; rfl
  | cons l ls ih =>
    intro s
    rw [List.foldl_cons]
    unfold stepB
    rw [chk_neg (h l List.mem_cons_self)]
    exact ih (fun l hl => h l (List.mem_cons_of_mem _ hl)) s
theorem fold_best {xs : List Int} {c : Int} (hW : WorkOk xs c) : ∀ (d : Nat) (dv : List Int), (dv.length : Int) + d = c - 1 → Pre xs dv →
    0 ≤ (bestOf xs d dv).2 ∧ ∀ s, (chs (xs.length + 1) d dv).foldl (stepB xs c) s = better s (bestOf xs d dv) := by
  intro d
  induction d with
  | zero =>
    intro dv hd hp
    refine ⟨top_nonneg _ _, fun s => ?_⟩
    show stepB xs c s dv = _
    unfold stepB
    rw [chk_pos ⟨hW, by omega, hp⟩]
    rfl
  | succ d ih =>
    intro dv hd hp
    have hb := last_bd hp
    have hlen : ∀ k : Int, ((dv ++ [k]).length : Int) + d = c - 1 := fun k => by
      rw [List.length_append, List.length_cons, List.length_nil]; omega
    have skip : ∀ k : Int, k < lastOf dv → ∀ s, (chs (xs.length + 1) d (dv ++ [k])).foldl (stepB xs c) s = s := by
      intro k hk
      refine fold_skip _ (fun l hl hD => ?_)
      obtain ⟨q, e, _⟩ := chs_begin _ _ _ _ hl
      rw [e] at hD
      have := ((pre_snoc hp k).1 (pre_app hD.2.2)).2
      omega
    have take : ∀ k : Int, lastOf dv ≤ k → k ≤ (xs.length : Int) → 0 ≤ (bestOf xs d (dv ++ [k])).2 ∧ ∀ s, (chs (xs.length + 1) d (dv ++ [k])).foldl (stepB xs c) s = better s (bestOf xs d (dv ++ [k])) :=
      fun k k0 k1 => ih _ (hlen k) ((pre_snoc hp k).2 ⟨⟨by omega, k1⟩, k0⟩)
    have c1 : ∀ (r : Nat) (k : Int), k + r = (xs.length : Int) + 1 → lastOf dv ≤ k → ∀ s, (chIn (chs (xs.length + 1) d) dv r k).foldl (stepB xs c) s = bestIn (bestOf xs d) dv r k s := by
      intro r
      induction r with
      | zero => intro k _ _ s; rfl
      | succ r ihr =>
        intro k hk k0 s
        unfold chIn bestIn
        rw [List.foldl_append, (take k k0 (by omega)).2]
        exact ihr (k + 1) (by omega) (by omega) _
    have c0 : ∀ (r : Nat) (k : Int), k + r = (xs.length : Int) + 1 → k ≤ lastOf dv → ∀ s, (chIn (chs (xs.length + 1) d) dv r k).foldl (stepB xs c) s = bestIn (bestOf xs d) dv ((xs.length : Int) + 1 - lastOf dv).toNat (lastOf dv) s := by
      intro r
      induction r with
      | zero => intro k hk k0 s; omega
      | succ r ihr =>
        intro k hk k0 s
        by_cases e : k = lastOf dv
        · rw [c1 (r + 1) k hk (by omega) s, ← e, show ((xs.length : Int) + 1 - k).toNat = r + 1 from by omega]
        · unfold chIn
          rw [List.foldl_append, skip k (by omega)]
          exact ihr (k + 1) (by omega) (by omega) s
    have c2 : ∀ (r : Nat) (k : Int), k + r = (xs.length : Int) + 1 → lastOf dv ≤ k → ∀ a, 0 ≤ a.2 → 0 ≤ (bestIn (bestOf xs d) dv r k a).2 ∧ ∀ s, bestIn (bestOf xs d) dv r k (better s a) = better s (bestIn (bestOf xs d) dv r k a) := by
      intro r
      induction r with
      | zero => intro k _ _ a ha; exact ⟨ha, fun s => rfl⟩
      | succ r ihr =>
        intro k hk k0 a ha
        have t := (take k k0 (by omega)).1
        have m := ihr (k + 1) (by omega) (by omega) (better a (bestOf xs d (dv ++ [k]))) (better_nonneg ha t)
        unfold bestIn
        refine ⟨m.1, fun s => ?_⟩
        rw [better_assoc s a _ ha t]
        exact m.2 s
    obtain ⟨r, hr⟩ : ∃ r : Nat, ((xs.length : Int) + 1 - lastOf dv).toNat = r + 1 := ⟨((xs.length : Int) - lastOf dv).toNat, by omega⟩
    have t := (take (lastOf dv) (by omega) (by omega)).1
    have m := c2 r (lastOf dv + 1) (by omega) (by omega) (bestOf xs d (dv ++ [lastOf dv])) t
    have e0 : bestOf xs (d + 1) dv = bestIn (bestOf xs d) dv r (lastOf dv + 1) (bestOf xs d (dv ++ [lastOf dv])) := by
      show bestIn (bestOf xs d) dv ((xs.length : Int) + 1 - lastOf dv).toNat (lastOf dv) ([], -1) = _
      rw [hr]
      show bestIn (bestOf xs d) dv r (lastOf dv + 1) (better ([], -1) (bestOf xs d (dv ++ [lastOf dv]))) = _
      rw [show better ([], -1) (bestOf xs d (dv ++ [lastOf dv])) = bestOf xs d (dv ++ [lastOf dv]) from if_pos (Or.inl (by decide))]
    refine ⟨by rw [e0]; exact m.1, fun s => ?_⟩
    show (chIn (chs (xs.length + 1) d) dv (xs.length + 1) 0).foldl (stepB xs c) s = _
    rw [c0 (xs.length + 1) 0 (by omega) hb.1 s, hr, e0]
    exact m.2 s
end Go.Proofs.Ytibfchjpdplehaa.G

/- The contract of bestDivision: of valid work and cranes, the first division whose greatest load is smallest, and this load. -/
namespace Go.Proofs.Ytibfchjpdplehaa.G
open Go.RowKit Go.Proofs.YtibfchjpdplehaaW.PrintWords Go.Proofs.YtibfchjpdplehaaW.PrintLast
set_option linter.unusedVariables false
set_option linter.unusedSimpArgs false
theorem max_topN {xs : List Int} (hw : ∀ i : Int, 0 ≤ rd xs i) : ∀ d : Nat, 1 ≤ d → maxTo xs d = topTo xs d := by
  intro d
  induction d with
  | zero => intro h; omega
  | succ d ih =>
    intro _
    unfold maxTo topTo
    rcases Nat.eq_zero_or_pos d with rfl | hd
    · have o := hw 0
      show mx (rd xs 0) (rd xs 0) = mx 0 (rd xs 0)
      unfold mx
      split <;> split <;> omega
    · rw [ih hd]
theorem rd_out (xs : List Int) (i : Int) (h : (xs.length : Int) ≤ i) : rd xs i = 0 := by
  unfold rd
  rw [List.getD_eq_getElem?_getD, List.getElem?_eq_none (by omega)]
  rfl
theorem loads_nonneg {xs : List Int} {c : Int} {dv : List Int} (hd : DivOk xs c dv) : ∀ (d : Nat), d ≤ dv.length + 1 → ∀ i : Int, 0 ≤ i → 0 ≤ rd (loadsTo xs dv d) i := by
  intro d
  induction d with
  | zero => intro _ i _; rw [rd_out _ _ (by simp [loadsTo]; omega)]; exact Int.le_refl _
  | succ d ih =>
    intro hle i h0
    have hl := loadsTo_len xs dv d
    rw [loadsTo_succ]
    by_cases h : i < (d : Int)
    · rw [rd_left _ _ i h0 (by omega)]; exact ih (by omega) i h0
    · by_cases e : i = (d : Int)
      · have r := rd_last (loadsTo xs dv d) (loadAt xs dv d)
        rw [hl] at r
        rw [e, r]
        have b := range_bd hd (d : Int) (by omega) (by omega)
        exact (sumTo_bd hd.1.2.2 _ b.1 _ (by omega)).1
      · rw [rd_out _ _ (by rw [List.length_append, hl]; simp only [List.length_cons, List.length_nil]; omega)]; exact Int.le_refl _
theorem rd_neg (xs : List Int) (i : Int) (h : i < 0) : rd xs i = rd xs 0 := by
  unfold rd
  rw [show i.toNat = 0 from by omega]
  rfl
theorem max_loads {xs : List Int} {c : Int} {dv : List Int} (hd : DivOk xs c dv) : slices_Max_int_int.f (loadsTo xs dv (dv.length + 1)) = some (mostOf xs dv) := by
  have hl := loadsTo_len xs dv (dv.length + 1)
  have hn : ∀ i : Int, 0 ≤ rd (loadsTo xs dv (dv.length + 1)) i := fun i => by
    by_cases h : 0 ≤ i
    · exact loads_nonneg hd _ (Nat.le_refl _) i h
    · rw [rd_neg _ _ (by omega)]; exact loads_nonneg hd _ (Nat.le_refl _) 0 (Int.le_refl _)
  unfold slices_Max_int_int.f mostOf
  rw [if_pos (by omega), hl, max_topN hn _ (by omega)]
/-- How the best division and its load stand in their boxes; what was there at wc stays. -/
structure BestI (wc : World) (xs : List Int) (c : Int) (Aw : Option Addr) (cw : Nat) (Bw Bk Bl Bb : Nat) (ok : Nat → Prop) (w : World) (s : List Int × Int) : Prop where
  old : Below wc.heap.size wc w
  cw_ : w.cell? ⟨Bw, 0, none⟩ = some (.slice Aw xs.length cw)
  ck : w.cell? ⟨Bk, 0, none⟩ = some (.int .i64 c)
  bl : w.heap[Bl]? = some (.cells #[.int .i64 s.2] 3 (0, 0))
  bb : ∃ v, w.heap[Bb]? = some (.cells #[v] 22 (0, 0)) ∧ Kd.R (Kd.int .i64) 3 w wc.heap.size ok v s.1
/-- The boxes' places: below B, from wc on, and told apart. -/
structure Places (wc : World) (B Bw Bk Bl Bb : Nat) : Prop where
  b : wc.heap.size ≤ B
  w : Bw < B
  k : Bk < B
  l : wc.heap.size ≤ Bl ∧ Bl < B
  bb : wc.heap.size ≤ Bb ∧ Bb < B
  n1 : Bw ≠ Bl ∧ Bw ≠ Bb ∧ Bk ≠ Bl ∧ Bk ≠ Bb ∧ Bl ≠ Bb
theorem BestI.stay {wc : World} {xs : List Int} {c : Int} {Aw : Option Addr} {cw B Bw Bk Bl Bb : Nat} (hp : Places wc B Bw Bk Bl Bb) {ok : Nat → Prop} {w w' : World} {s : List Int × Int} {T : Nat → Prop} (h : BestI wc xs c Aw cw Bw Bk Bl Bb ok w s) (k : Keeps T w w') (hT : ∀ b, T b → B ≤ b ∧ ¬ ok b) : BestI wc xs c Aw cw Bw Bk Bl Bb ok w' s := by
  obtain ⟨p1, p2, p3, p4, p5, _⟩ := hp
  have no : ∀ b, b < B → ¬ T b := fun b hb ht => by have := (hT b ht).1; omega
  obtain ⟨v, hv, hr⟩ := h.bb
  exact ⟨⟨k.os.trans h.old.os, k.tape.trans h.old.tape, k.output.trans h.old.output, Nat.le_trans h.old.size k.size, fun i hi => (k.block i (Nat.lt_of_lt_of_le hi h.old.size) (no i (by omega))).trans (h.old.block i hi)⟩,
    k.cell h.cw_ (no _ p2), k.cell h.ck (no _ p3), (k.block _ (blk_lt h.bl) (no _ p4.2)).trans h.bl, v, (k.block _ (blk_lt hv) (no _ p5.2)).trans hv, Kd.R_step hr (fun b ho hl => k.block b hl (fun ht => (hT b ht).2 ho))⟩
theorem Keeps.of_set (w : World) (g i : Nat) (u : Value) : Keeps (fun k => k = g) w (w.setCell ⟨g, i, none⟩ u) := ⟨rfl, rfl, rfl, by simp [World.setCell], fun k hk hn => Below.heap_setCell w ⟨g, i, none⟩ u k hn⟩
theorem BestI.put {wc : World} {xs : List Int} {c : Int} {Aw : Option Addr} {cw B Bw Bk Bl Bb : Nat} (hp : Places wc B Bw Bk Bl Bb) {ok : Nat → Prop} {w : World} {s : List Int × Int} (h : BestI wc xs c Aw cw Bw Bk Bl Bb ok w s) {v : Value} {l : List Int} (hR : Kd.R (Kd.int .i64) 3 w B ok v l) (m : Int) :
    BestI wc xs c Aw cw Bw Bk Bl Bb ok ((w.setCell ⟨Bb, 0, none⟩ v).setCell ⟨Bl, 0, none⟩ (.int .i64 m)) (l, m) ∧ Keeps (fun k => k = Bl ∨ k = Bb) w ((w.setCell ⟨Bb, 0, none⟩ v).setCell ⟨Bl, 0, none⟩ (.int .i64 m)) := by
  obtain ⟨p1, p2, p3, p4, p5, q1, q2, q3, q4, q5⟩ := hp
  have k : Keeps (fun k => k = Bl ∨ k = Bb) w ((w.setCell ⟨Bb, 0, none⟩ v).setCell ⟨Bl, 0, none⟩ (.int .i64 m)) := ((Keeps.of_set w Bb 0 v).mono (fun _ _ h => .inr h)).trans ((Keeps.of_set _ Bl 0 _).mono (fun _ _ h => .inl h))
  obtain ⟨v0, hv, hr⟩ := h.bb
  refine ⟨⟨⟨k.os.trans h.old.os, k.tape.trans h.old.tape, k.output.trans h.old.output, Nat.le_trans h.old.size k.size, fun i hi => (k.block i (Nat.lt_of_lt_of_le hi h.old.size) (fun e => by omega)).trans (h.old.block i hi)⟩,
    k.cell h.cw_ (fun e => e.elim q1 q2), k.cell h.ck (fun e => e.elim q3 q4), ?_, v, ?_, ?_⟩, k⟩
  · exact blk_set ((Below.heap_setCell w ⟨Bb, 0, none⟩ v Bl q5).trans h.bl) 0 _
  · exact (Below.heap_setCell _ ⟨Bl, 0, none⟩ _ Bb (fun e => q5 e.symm)).trans (blk_set hv 0 v)
  · refine Kd.R_lower (Kd.R_mono (Kd.R_step (Kd.R_bound hR) (fun b hb hl => k.block b hl (fun e => by have := hb.2.1; omega))) (fun _ h => h.1)) p1
set_option maxHeartbeats 4000000 in
set_option maxRecDepth 100000 in
theorem best_call {wc : World} {xs : List Int} {c : Int} {Aw : Option Addr} {cw B Bw Bk Bl Bb : Nat} (hp : Places wc B Bw Bk Bl Bb) (hCw : Kd.C (Kd.int .i64) wc Aw xs.length xs) (hcw : xs.length ≤ cw) (ok : Nat → Prop) (w : World) (s : List Int × Int) (v : Value) (l : List Int) (hI : BestI wc xs c Aw cw Bw Bk Bl Bb ok w s) (hR : Kd.R (Kd.int .i64) 3 w B ok v l) :
    Calls Try.prog 74 (#[v] ++ #[.pointer (some ⟨Bw, 0, none⟩), .pointer (some ⟨Bk, 0, none⟩), .pointer (some ⟨Bl, 0, none⟩), .pointer (some ⟨Bb, 0, none⟩)]) w fun e w' => e = .returned (.tuple #[]) ∧ BestI wc xs c Aw cw Bw Bk Bl Bb ok w' (stepB xs c s l) ∧ Keeps (fun k => k = Bl ∨ k = Bb) w w' := by
  obtain ⟨A, c1, rfl⟩ := Kd.R_slice hR
  obtain ⟨best, least⟩ := s
  have hc1 : l.length ≤ c1 := (Kd.R_reads' hR).2.1
  obtain ⟨kd, hkd⟩ : ∃ k, impl_isDivision.f k xs c l = some (chk (DivOk xs c l) true false) := Ev.rounds (impl_div xs c l)
  have hw := hI.cw_
  have hk := hI.ck
  have HI := Aside0.mk hI
  have HR := Aside0.mk hR
  have HP := Aside0.mk hp
  have HCW := Aside0.mk (Kd.C_below hCw hI.old)
  have hz : w.cell? ⟨Bl, 0, none⟩ = some (.int .i64 least) := (blk_cell hI.bl 0).trans rfl
  have hz2 := blk_frozen hI.bl 0
  clear hI hR hp hCw
  show Calls Try.prog 74 #[.slice A l.length c1, .pointer (some ⟨Bw, 0, none⟩), .pointer (some ⟨Bk, 0, none⟩), .pointer (some ⟨Bl, 0, none⟩), .pointer (some ⟨Bb, 0, none⟩)] w _
  by_cases hD : DivOk xs c l
  · rw [chk_pos hD] at hkd
    have HD := Aside0.mk hD
    have HK := Aside0.mk hkd
    obtain ⟨kl, hkl⟩ : ∃ k, impl_loadsOf.f k xs l = some (loadsTo xs l (l.length + 1)) := Ev.rounds (impl_loads hD)
    have HL := Aside0.mk hkl
    clear hD hkd hkl
    obtain ⟨m, hm⟩ : ∃ m, mostOf xs l = m := ⟨_, rfl⟩
    have HM : Aside0 (slices_Max_int_int.f (loadsTo xs l (l.length + 1)) = some m) := Aside0.mk (by rw [← hm]; exact max_loads HD.out)
    have HSB : Aside0 (stepB xs c (best, least) l = better (best, least) (l, m)) := Aside0.mk (by unfold stepB; rw [chk_pos HD.out, hm])
    clear hm
    by_cases h0 : least < 0
    · have HS : Aside0 (stepB xs c (best, least) l = (l, m)) := Aside0.mk (by rw [HSB.out]; exact if_pos (.inl h0))
      go_enter Try.func74, Try.ntmps74
      go_wp2_with (first | (go_at_call 59; refine (impl_isDivision.calls kd Aw cw xs c A c1 l true _ HCW.out hcw (Kd.R_reads' HR.out).2.2 hc1 HK.out).mono ?_; rintro e w1 ⟨rfl, hd1⟩; have HB1 := Aside0.mk hd1.below; have hw1 := (Keeps.of_below (S := fun _ => False) hd1.below).cell hw (fun h => h); clear hd1) | (go_at_call 60; refine (impl_loadsOf.calls kl Aw cw xs A c1 l _ _ (Kd.C_below HCW.out HB1.out) hcw (Kd.C_below (Kd.R_reads' HR.out).2.2 HB1.out) hc1 HL.out).mono ?_; rintro e w2 ⟨vl, rfl, hRl, hBl⟩; obtain ⟨Al, cl, rfl⟩ := Kd.R_slice hRl; have HRL := Aside0.mk hRl; have HB2 := Aside0.mk (below_step HB1.out hBl); clear hRl hBl) | (go_at_call 46; refine (slices_Max_int_int.calls Al cl _ m _ (Kd.R_reads' HRL.out).2.2 (Kd.R_reads' HRL.out).2.1 HM.out).mono ?_; rintro e w3 ⟨rfl, hd3⟩; have HB3 := Aside0.mk (below_step HB2.out hd3.below); have HI3 := Aside0.mk (HI.out.stay HP.out (Keeps.of_below (S := fun _ => False) HB3.out) (fun _ h => h.elim)); have hz3 : w3.cell? ⟨Bl, 0, none⟩ = some (.int .i64 least) := (blk_cell HI3.out.bl 0).trans rfl; have hz4 := blk_frozen HI3.out.bl 0; obtain ⟨vb, hvb, _⟩ := HI3.out.bb; have hz5 : w3.cell? ⟨Bb, 0, none⟩ = some vb := (blk_cell hvb 0).trans rfl; have hz6 := blk_frozen hvb 0; have hz7 : (w3.setCell ⟨Bb, 0, none⟩ (.slice A l.length c1)).cell? ⟨Bl, 0, none⟩ = some (.int .i64 least) := (cell_far (p := ⟨Bb, 0, none⟩) HP.out.n1.2.2.2.2 _).trans hz3; have hz8 : (w3.setCell ⟨Bb, 0, none⟩ (.slice A l.length c1)).frozen? ⟨Bl, 0, none⟩ = false := blk_frozen ((Below.heap_setCell w3 ⟨Bb, 0, none⟩ (.slice A l.length c1) Bl HP.out.n1.2.2.2.2).trans HI3.out.bl) 0; clear hvb; clear hd3))
      go_end0
      have r := HI3.out.put HP.out (Kd.R_below HR.out HB3.out) m
      rw [HS.out]
      exact ⟨rfl, r.1, (Keeps.of_below HB3.out).trans r.2⟩
    · have h0' : 0 ≤ least := by omega
      by_cases h1 : m < least
      · have HS : Aside0 (stepB xs c (best, least) l = (l, m)) := Aside0.mk (by rw [HSB.out]; exact if_pos (.inr h1))
        go_enter Try.func74, Try.ntmps74
        go_wp2_with (first | (go_at_call 59; refine (impl_isDivision.calls kd Aw cw xs c A c1 l true _ HCW.out hcw (Kd.R_reads' HR.out).2.2 hc1 HK.out).mono ?_; rintro e w1 ⟨rfl, hd1⟩; have HB1 := Aside0.mk hd1.below; have hw1 := (Keeps.of_below (S := fun _ => False) hd1.below).cell hw (fun h => h); clear hd1) | (go_at_call 60; refine (impl_loadsOf.calls kl Aw cw xs A c1 l _ _ (Kd.C_below HCW.out HB1.out) hcw (Kd.C_below (Kd.R_reads' HR.out).2.2 HB1.out) hc1 HL.out).mono ?_; rintro e w2 ⟨vl, rfl, hRl, hBl⟩; obtain ⟨Al, cl, rfl⟩ := Kd.R_slice hRl; have HRL := Aside0.mk hRl; have HB2 := Aside0.mk (below_step HB1.out hBl); clear hRl hBl) | (go_at_call 46; refine (slices_Max_int_int.calls Al cl _ m _ (Kd.R_reads' HRL.out).2.2 (Kd.R_reads' HRL.out).2.1 HM.out).mono ?_; rintro e w3 ⟨rfl, hd3⟩; have HB3 := Aside0.mk (below_step HB2.out hd3.below); have HI3 := Aside0.mk (HI.out.stay HP.out (Keeps.of_below (S := fun _ => False) HB3.out) (fun _ h => h.elim)); have hz3 : w3.cell? ⟨Bl, 0, none⟩ = some (.int .i64 least) := (blk_cell HI3.out.bl 0).trans rfl; have hz4 := blk_frozen HI3.out.bl 0; obtain ⟨vb, hvb, _⟩ := HI3.out.bb; have hz5 : w3.cell? ⟨Bb, 0, none⟩ = some vb := (blk_cell hvb 0).trans rfl; have hz6 := blk_frozen hvb 0; have hz7 : (w3.setCell ⟨Bb, 0, none⟩ (.slice A l.length c1)).cell? ⟨Bl, 0, none⟩ = some (.int .i64 least) := (cell_far (p := ⟨Bb, 0, none⟩) HP.out.n1.2.2.2.2 _).trans hz3; have hz8 : (w3.setCell ⟨Bb, 0, none⟩ (.slice A l.length c1)).frozen? ⟨Bl, 0, none⟩ = false := blk_frozen ((Below.heap_setCell w3 ⟨Bb, 0, none⟩ (.slice A l.length c1) Bl HP.out.n1.2.2.2.2).trans HI3.out.bl) 0; clear hvb; clear hd3))
        go_end0
        have r := HI3.out.put HP.out (Kd.R_below HR.out HB3.out) m
        rw [HS.out]
        exact ⟨rfl, r.1, (Keeps.of_below HB3.out).trans r.2⟩
      · have HS : Aside0 (stepB xs c (best, least) l = (best, least)) := Aside0.mk (by rw [HSB.out]; exact if_neg (fun h => h.elim h0 h1))
        have h1' : least ≤ m := by omega
        go_enter Try.func74, Try.ntmps74
        go_wp2_with (first | (go_at_call 59; refine (impl_isDivision.calls kd Aw cw xs c A c1 l true _ HCW.out hcw (Kd.R_reads' HR.out).2.2 hc1 HK.out).mono ?_; rintro e w1 ⟨rfl, hd1⟩; have HB1 := Aside0.mk hd1.below; have hw1 := (Keeps.of_below (S := fun _ => False) hd1.below).cell hw (fun h => h); clear hd1) | (go_at_call 60; refine (impl_loadsOf.calls kl Aw cw xs A c1 l _ _ (Kd.C_below HCW.out HB1.out) hcw (Kd.C_below (Kd.R_reads' HR.out).2.2 HB1.out) hc1 HL.out).mono ?_; rintro e w2 ⟨vl, rfl, hRl, hBl⟩; obtain ⟨Al, cl, rfl⟩ := Kd.R_slice hRl; have HRL := Aside0.mk hRl; have HB2 := Aside0.mk (below_step HB1.out hBl); clear hRl hBl) | (go_at_call 46; refine (slices_Max_int_int.calls Al cl _ m _ (Kd.R_reads' HRL.out).2.2 (Kd.R_reads' HRL.out).2.1 HM.out).mono ?_; rintro e w3 ⟨rfl, hd3⟩; have HB3 := Aside0.mk (below_step HB2.out hd3.below); have HI3 := Aside0.mk (HI.out.stay HP.out (Keeps.of_below (S := fun _ => False) HB3.out) (fun _ h => h.elim)); have hz3 : w3.cell? ⟨Bl, 0, none⟩ = some (.int .i64 least) := (blk_cell HI3.out.bl 0).trans rfl; have hz4 := blk_frozen HI3.out.bl 0; clear hd3))
        go_end0
        rw [HS.out]
        exact ⟨rfl, HI3.out, Keeps.of_below HB3.out⟩
  · rw [chk_neg hD] at hkd
    have HK := Aside0.mk hkd
    have HS : Aside0 (stepB xs c (best, least) l = (best, least)) := Aside0.mk (by unfold stepB; exact chk_neg hD _ _)
    clear hD hkd
    go_enter Try.func74, Try.ntmps74
    go_wp2_with (go_at_call 59; refine (impl_isDivision.calls kd Aw cw xs c A c1 l false _ HCW.out hcw (Kd.R_reads' HR.out).2.2 hc1 HK.out).mono ?_; rintro e w1 ⟨rfl, hd⟩)
    refine bodyPost_ret (results_none rfl _ _ _) rfl ?_
    rw [HS.out]
    exact ⟨rfl, HI.out.stay HP.out (Keeps.of_below (S := fun _ => False) hd.below) (fun _ h => h.elim), Keeps.of_below hd.below⟩
theorem best_back {wc : World} {xs : List Int} {c : Int} {Aw : Option Addr} {cw B Bw Bk Bl Bb : Nat} (hp : Places wc B Bw Bk Bl Bb) (hCw : Kd.C (Kd.int .i64) wc Aw xs.length xs) (hcw : xs.length ≤ cw) :
    Back (σ := List Int × Int) 74 #[.pointer (some ⟨Bw, 0, none⟩), .pointer (some ⟨Bk, 0, none⟩), .pointer (some ⟨Bl, 0, none⟩), .pointer (some ⟨Bb, 0, none⟩)] (fun k => k = Bl ∨ k = Bb) B (BestI wc xs c Aw cw Bw Bk Bl Bb) (fun _ => True) (stepB xs c) where
  enters := fun args w => enters_ Try.func74 (by kernel_rfl) rfl args w
  call := fun ok w s v l hI _ hR => best_call hp hCw hcw ok w s v l hI hR
  stay := fun ok w w' s T hI k hT => hI.stay hp k hT
  mono := fun ok ok' w s hI h => by
    obtain ⟨v, hv, hr⟩ := hI.bb
    exact ⟨hI.old, hI.cw_, hI.ck, hI.bl, v, hv, Kd.R_mono (Kd.R_bound hr) (fun k hk => h k hk.2.2.1 hk.1)⟩
  low := fun k hk => hk.elim (fun e => by rw [e]; exact hp.l.2) (fun e => by rw [e]; exact hp.bb.2)
theorem best_boxes {w w1 w2 w3 w4 : World} {g1 g2 g3 g4 : Nat} (A0 : Option Addr) (c0 : Nat) (l0 : List Int) (n : Nat)
    (h1 : g1 = w.heap.size) (x1 : w1.heap[g1]? = some (.cells #[.slice A0 l0.length c0] 22 (0, 0))) (b1 : Below w.heap.size w w1)
    (h2 : g2 = w1.heap.size) (x2 : w2.heap[g2]? = some (.cells #[.int .i64 ((n : Int) + 1)] 3 (0, 0))) (b2 : Below w1.heap.size w1 w2)
    (h3 : g3 = w2.heap.size) (x3 : w3.heap[g3]? = some (.cells #[.slice none 0 0] 22 (0, 0))) (b3 : Below w2.heap.size w2 w3)
    (h4 : g4 = w3.heap.size) (x4 : w4.heap[g4]? = some (.cells #[.int .i64 0] 3 (0, 0))) (b4 : Below w3.heap.size w3 w4) :
    Places w (w4.setCell ⟨g4, 0, none⟩ (.int .i64 (-1))).heap.size g1 g2 g4 g3 ∧ BestI w l0 ((n : Int) + 1) A0 c0 g1 g2 g4 g3 (fun _ => True) (w4.setCell ⟨g4, 0, none⟩ (.int .i64 (-1))) ([], -1) ∧ Below w.heap.size w (w4.setCell ⟨g4, 0, none⟩ (.int .i64 (-1))) := by
  have s1 := b1.size
  have s2 := b2.size
  have s3 := b3.size
  have s4 := b4.size
  have l1 := blk_lt x1
  have l2 := blk_lt x2
  have l3 := blk_lt x3
  have l4 := blk_lt x4
  have hz : (w4.setCell ⟨g4, 0, none⟩ (.int .i64 (-1))).heap.size = w4.heap.size := by simp [World.setCell]
  have hB : Below w.heap.size w (w4.setCell ⟨g4, 0, none⟩ (.int .i64 (-1))) := Below.setCell (below_step b1 (below_step b2 (below_step b3 b4))) (by show w.heap.size ≤ g4; omega) _
  have y1 := blk_below (blk_below (blk_below x1 b2) b3) b4
  have y2 := blk_below (blk_below x2 b3) b4
  have y3 := blk_below x3 b4
  refine ⟨⟨by omega, by omega, by omega, by omega, by omega, by omega⟩, ⟨hB, ?_, ?_, blk_set x4 0 _, .slice none 0 0, ?_, Kd.R_nil _ _ _ _ _⟩, hB⟩
  · exact (cell_far (p := ⟨g4, 0, none⟩) (by show g1 ≠ g4; omega) _).trans ((blk_cell y1 0).trans rfl)
  · exact (cell_far (p := ⟨g4, 0, none⟩) (by show g2 ≠ g4; omega) _).trans ((blk_cell y2 0).trans rfl)
  · exact (Below.heap_setCell w4 ⟨g4, 0, none⟩ _ g3 (by show g3 ≠ g4; omega)).trans y3
theorem best_below {w w4 w5 : World} {a b : Nat} (h : Below w.heap.size w w4) (k : Keeps (fun k => k = a ∨ k = b) w4 w5) (ha : w.heap.size ≤ a) (hb : w.heap.size ≤ b) : Below w.heap.size w w5 :=
  ⟨k.os.trans h.os, k.tape.trans h.tape, k.output.trans h.output, Nat.le_trans h.size k.size, fun i hi => (k.block i (Nat.lt_of_lt_of_le hi h.size) (fun e => by omega)).trans (h.block i hi)⟩
noncomputable def bestFold (xs : List Int) (c : Int) : List Int × Int := (chs (xs.length + 1) (c - 1).toNat []).foldl (stepB xs c) ([], -1)
noncomputable def impl_bestDivision.f (l0 : List Int) (a1 : Int) : Option (List Int × Int) := chk (WorkOk l0 a1) (some (bestFold l0 a1)) none
set_option maxHeartbeats 4000000 in
set_option maxRecDepth 100000 in
theorem impl_bestDivision.calls (A0 : Option Addr) (c0 : Nat) (l0 : List Int) (a1 : Int) (r1 : List Int) (r2 : Int) (w : World) (hr0 : Kd.C (Kd.int .i64) w A0 l0.length l0) (hc0 : l0.length ≤ c0) (h : impl_bestDivision.f l0 a1 = some (r1, r2)) :
    Calls Try.prog 64 #[.slice A0 l0.length c0, .int .i64 a1] w fun e w' => ∃ v0_ : Value, e = .returned (.tuple #[v0_, .int .i64 r2]) ∧ Kd.R (Kd.int .i64) 3 w' w.heap.size (fun _ => True) v0_ r1 ∧ Below w.heap.size w w' := by
  unfold impl_bestDivision.f at h
  by_cases hW : WorkOk l0 a1
  · rw [chk_pos hW] at h
    have h := Option.some.inj h
    have HW := Aside0.mk hW
    obtain ⟨n, rfl⟩ : ∃ n : Nat, a1 = (n : Int) + 1 := ⟨(a1 - 1).toNat, by have := hW.2.1; omega⟩
    have hn3 : n ≤ 2 := by have := hW.2.1; omega
    have hl10 : l0.length ≤ 10 := by have := hW.1; omega
    have HF : Aside0 ((chs (l0.length + 1) n []).foldl (stepB l0 ((n : Int) + 1)) ([], -1) = (r1, r2)) := Aside0.mk (by
      rw [← h]; unfold bestFold; rw [show ((n : Int) + 1 - 1).toNat = n from by omega])
    have HR := Aside0.mk hr0
    clear h hW hr0
    go_enter Try.func64, Try.ntmps64
    go_wp2_with (first | ((with_reducible refine gate_dst (N := 2) rfl ?_); refine box_event ?hg2 (N := 2) ?hd2 (cs := #[.slice A0 l0.length c0]) (t := 22) ?hr2 ?_; (case hd2 => rfl); (case hg2 => rfl); (case hr2 => first | (go_simp; done) | (go_simp; rfl)); intro g1 hgg1 w1 hboxg1 hbg1; have HG1 := Aside0.mk hgg1; have HX1 := Aside0.mk hboxg1; have HB1 := Aside0.mk hbg1; clear hgg1 hboxg1 hbg1) | ((with_reducible refine gate_dst (N := 3) rfl ?_); refine box_event ?hg3 (N := 3) ?hd3 (cs := #[.int .i64 ((n : Int) + 1)]) (t := 3) ?hr3 ?_; (case hd3 => rfl); (case hg3 => rfl); (case hr3 => first | (go_simp; done) | (go_simp; rfl)); intro g2 hgg2 w2 hboxg2 hbg2; have HG2 := Aside0.mk hgg2; have HX2 := Aside0.mk hboxg2; have HB2 := Aside0.mk hbg2; clear hgg2 hboxg2 hbg2) | ((with_reducible refine gate_dst (N := 6) rfl ?_); refine box_event ?hg6 (N := 6) ?hd6 (cs := #[.slice none 0 0]) (t := 22) ?hr6 ?_; (case hd6 => rfl); (case hg6 => rfl); (case hr6 => first | (go_simp; done) | (go_simp; rfl)); intro g3 hgg3 w3 hboxg3 hbg3; have HG3 := Aside0.mk hgg3; have HX3 := Aside0.mk hboxg3; have HB3 := Aside0.mk hbg3; clear hgg3 hboxg3 hbg3) | ((with_reducible refine gate_dst (N := 7) rfl ?_); refine box_event ?hg7 (N := 7) ?hd7 (cs := #[.int .i64 0]) (t := 3) ?hr7 ?_; (case hd7 => rfl); (case hg7 => rfl); (case hr7 => first | (go_simp; done) | (go_simp; rfl)); intro g4 hgg4 w4 hboxg4 hbg4; have HG4 := Aside0.mk hgg4; have HX4 := Aside0.mk hboxg4; have HB4 := Aside0.mk hbg4; have hz1 : w4.cell? ⟨g4, 0, none⟩ = some (.int .i64 0) := (blk_cell hboxg4 0).trans rfl; have hz2 := blk_frozen hboxg4 0; have hz3 := (best_boxes A0 c0 l0 n HG1.out HX1.out HB1.out HG2.out HX2.out HB2.out HG3.out HX3.out HB3.out HG4.out HX4.out HB4.out).2.1.cw_; have hz4 := (best_boxes A0 c0 l0 n HG1.out HX1.out HB1.out HG2.out HX2.out HB2.out HG3.out HX3.out HB3.out HG4.out HX4.out HB4.out).2.1.ck; clear hgg4 hboxg4 hbg4) | (go_at_call 73; refine calls_of_args (args' := #[.int .i64 n, .int .i64 ((l0.length + 1 : Nat) : Int), .func (.func 74) #[] #[.pointer (some ⟨g1, 0, none⟩), .pointer (some ⟨g2, 0, none⟩), .pointer (some ⟨g4, 0, none⟩), .pointer (some ⟨g3, 0, none⟩)]]) ?ca ?_; (case ca => (first | rfl | (simp; done) | (simp; omega))); refine (choices_any (best_back (best_boxes A0 c0 l0 n HG1.out HX1.out HB1.out HG2.out HX2.out HB2.out HG3.out HX3.out HB3.out HG4.out HX4.out HB4.out).1 HR.out hc0) n (l0.length + 1) (by omega) (by omega) _ ([], -1) (fun _ => True) (fun _ _ => trivial) (Nat.le_refl _) (best_boxes A0 c0 l0 n HG1.out HX1.out HB1.out HG2.out HX2.out HB2.out HG3.out HX3.out HB3.out HG4.out HX4.out HB4.out).2.1 (fun _ _ => trivial)).mono ?_; rintro e w5 ⟨rfl, hI5, hK5⟩; have HB5 := Aside0.mk (best_below (best_boxes A0 c0 l0 n HG1.out HX1.out HB1.out HG2.out HX2.out HB2.out HG3.out HX3.out HB3.out HG4.out HX4.out HB4.out).2.2 hK5 (best_boxes A0 c0 l0 n HG1.out HX1.out HB1.out HG2.out HX2.out HB2.out HG3.out HX3.out HB3.out HG4.out HX4.out HB4.out).1.l.1 (best_boxes A0 c0 l0 n HG1.out HX1.out HB1.out HG2.out HX2.out HB2.out HG3.out HX3.out HB3.out HG4.out HX4.out HB4.out).1.bb.1); rw [HF.out] at hI5; obtain ⟨v5, hv5, hr5⟩ := hI5.bb; have HR5 := Aside0.mk hr5; have hz5 : w5.cell? ⟨g4, 0, none⟩ = some (.int .i64 r2) := (blk_cell hI5.bl 0).trans rfl; have hz6 : w5.cell? ⟨g3, 0, none⟩ = some v5 := (blk_cell hv5 0).trans rfl; clear hI5 hv5 hr5 hK5))
    repeat (go_quiet (fail); try go_wp2)
    go_ret2
    exact ⟨_, rfl, by (with_reducible repeat (first | apply Kd.R_alloc | apply Kd.R_drewN | apply Kd.R_drew)); exact HR5.out, by repeat (first | (with_reducible first | exact HB5.out | apply below_alloc | apply pw_below_drewN | apply below_drew1) | exact HB5.out)⟩
  · rw [chk_neg hW] at h
    cases h
end Go.Proofs.Ytibfchjpdplehaa.G

-- Written by wip/tools/gen.py out of the translation (the kit's printer, one namespace a seat). Lean checks it.
namespace Go.Proofs.Ytibfchjpdplehaa.G
open Go.RowKit Go.Proofs.YtibfchjpdplehaaW.PrintWords Go.Proofs.YtibfchjpdplehaaW.PrintLast Go.Proofs.YtibfchjpdplehaaW.PrintMore
attribute [local go_sem] max2_int min2_int max_two min_two max_three min_three max_four min_four   -- for this text's walks alone
set_option linter.unusedVariables false
set_option linter.unusedSimpArgs false

/-! ### impl_MoreCranes: function 34 -/
noncomputable def impl_MoreCranes.l0 : Nat → List Int → List Int → Int → Option (List Int × Bool)
 | 0, _, _, _ => none
 | k + 1, x0, x4, x5 => if x5 ≤ 3 then ((impl_bestDivision.f x0 x5).bind fun bt497 => (if x4.length < 17592186044416 then (impl_MoreCranes.l0 k x0 (x4 ++ [bt497.2]) (wrap64 (x5 + 1))) else (none))) else (some (x4, true))
noncomputable def impl_MoreCranes.f (k : Nat) (l0 : List Int) : Option (List Int × Bool) := (impl_isWork.f l0 1).bind fun t493 => (if t493 = true then (impl_MoreCranes.l0 k l0 (([] : List Int)) 1) else (some (([] : List Int), false)))
theorem impl_MoreCranes.mono_l : ∀ k, (∀ y0 y1 y2, LeO (impl_MoreCranes.l0 k y0 y1 y2) (impl_MoreCranes.l0 (k + 1) y0 y1 y2))
 | 0 => fun _ _ _ r h => by simp [impl_MoreCranes.l0] at h
 | k + 1 => by
  have ih0 := impl_MoreCranes.mono_l k
  ·intro y0 y1 y2
   unfold impl_MoreCranes.l0
   repeat' first
   | (with_reducible exact ih0 _ _ _)
   | (with_reducible exact LeO.refl _)
   | (with_reducible exact LeO.none _)
   | (with_reducible refine LeO.ite ?_ ?_)
   | (with_reducible refine LeO.bind ?_ (fun _ => ?_))
   | exact ih0 _ _ _
   | exact LeO.none _
   | refine LeO.ite ?_ ?_
   | refine LeO.bind ?_ (fun _ => ?_)
theorem impl_MoreCranes.mono : ∀ a0 k, LeO (impl_MoreCranes.f k a0) (impl_MoreCranes.f (k + 1) a0) := by
 intro a0 k
 have ih0 := impl_MoreCranes.mono_l k
 unfold impl_MoreCranes.f
 repeat' first
   | (with_reducible exact ih0 _ _ _)
   | (with_reducible exact LeO.refl _)
   | (with_reducible exact LeO.none _)
   | (with_reducible refine LeO.ite ?_ ?_)
   | (with_reducible refine LeO.bind ?_ (fun _ => ?_))
   | exact ih0 _ _ _
   | exact LeO.none _
   | refine LeO.ite ?_ ?_
   | refine LeO.bind ?_ (fun _ => ?_)
set_option maxHeartbeats 8000000 in
set_option maxRecDepth 100000 in
theorem impl_MoreCranes.calls (k : Nat) (A0 : Option Addr) (c0 : Nat) (l0 : List Int) (r1 : List Int) (r2 : Bool) (w : World) (hr0 : Kd.C (Kd.int .i64) w A0 l0.length l0) (hc0 : l0.length ≤ c0) (h : impl_MoreCranes.f k l0 = some (r1, r2)) :
  Calls Try.prog 34 #[.slice A0 l0.length c0] w fun e w' => ∃ v0_ : Value, e = .returned (.tuple #[v0_, .bool r2]) ∧ Kd.R (Kd.int .i64) 3 w' w.heap.size (fun _ => True) v0_ r1 ∧ Below w.heap.size w w' := by
 have HR0 := Aside0.mk hr0
 have HC0 := Aside0.mk hc0
 clear hr0 hc0
 have HB := Aside0.mk (Below.refl w.heap.size w)
 have H : ((impl_isWork.f l0 1).bind fun t493 => (if t493 = true then (impl_MoreCranes.l0 k l0 (([] : List Int)) 1) else (some (([] : List Int), false)))) = some (r1, r2) := h
 clear h
 replace H := Option.bind_eq_some_iff.mp H
 obtain ⟨t493, A20, H⟩ := H
 replace H : (if t493 = true then (impl_MoreCranes.l0 k l0 (([] : List Int)) 1) else (some (([] : List Int), false))) = some (r1, r2) := H
 have A2 := Aside0.mk A20
 clear A20
 by_cases c3 : t493 = true
 ·subst c3
  have H1 : (impl_MoreCranes.l0 k l0 (([] : List Int)) 1) = some (r1, r2) := by rw [if_pos rfl] at H; exact H
  clear H
  have H := H1
  clear H1
  obtain ⟨y494, hy494⟩ : ∃ y_ : List Int, y_ = (([] : List Int)) := ⟨_, rfl⟩
  replace H : (impl_MoreCranes.l0 k l0 y494 1) = some (r1, r2) := by first | (rw [hy494]; with_reducible exact H) | (have H2_ := (Option.bind_some _ _).symm.trans H; rw [hy494]; with_reducible exact H2_) | (have H2_ := (Option.bind_some _ _).symm.trans H; with_reducible exact H2_) | with_reducible exact H | (rw [hy494]; exact H) | exact H
  have Ny494 := Aside0.mk hy494
  clear hy494
  have H' := Aside0.mk H
  clear H
  go_enter Try.func34, Try.ntmps34
  go_wp2_with (first | ((with_reducible refine gate_callee (f := 45) rfl ?_); refine goesL_ (some 9) rfl rfl Try.func45 (by kernel_rfl) rfl #[.slice A0 l0.length c0, .int .i64 1] rfl (by (try simp only [List.map_toArray, List.map_cons, List.map_nil]); first | done | rfl | (simp only [List.length_drop, List.length_take]; rfl)) ?_; (with_reducible refine (impl_isWork.calls _ _ l0 1 true _ ?side1 ?side2 A2.out).mono ?_); (case side1 => repeat (first | exact HR0.out | (with_reducible refine Kd.C_alloc ?_ _) | (with_reducible refine Kd.C_drewN ?_ _) | (with_reducible refine Kd.C_drew ?_))); (case side2 => exact HC0.out); rintro e w' ⟨rfl, ⟨nd, rfl⟩⟩; refine ⟨_, rfl, ?_⟩) | ((with_reducible refine gate_dst (N := 11) rfl ?_); refine Kd.R_lit (Kd.int .i64) _ 3 ?hg (N := 11) ?hd (xs := ([] : List Int)) (inner := []) (ok := fun _ => True) (okp := fun _ => True) ?hr ?hp (fun _ hk => hk) trivial (Below.refl _ _) (Nat.le_refl _) (by simp) ?_; (case hd => rfl); (case hg => rfl); (case hr => first | (go_simp; done) | (go_simp; rfl)); (case hp => exact (Reps.none _ _)); intro v495 w4 ho5 hb hg_ hnew_; clear hg_ hnew_; (first | rw [← Ny494.out] at ho5 | (simp only [Int.reduceToNat] at ho5; rw [← Ny494.out] at ho5)); have n0_ := Aside0.mk (Kd.R_lower ho5 (below_size (by repeat (first | (with_reducible first | exact HB.out | apply below_alloc | apply pw_below_drewN | apply below_drew1) | exact HB.out)))); have n1_ := Aside0.mk (below_step (by repeat (first | (with_reducible first | exact HB.out | apply below_alloc | apply pw_below_drewN | apply below_drew1) | exact HB.out)) hb); clear HB; have HO496 := n0_; have HB := n1_; clear n0_ n1_; clear hb ho5))
  go_loopg [4, 5] k (fun kq v4 v5 w' => ∃ (x4_1 : List Int) (x5_1 : Int), v5 = .int .i64 x5_1 ∧ Aside0 (impl_MoreCranes.l0 kq l0 x4_1 x5_1 = some (r1, r2)) ∧ Aside0 (kq ≤ k) ∧ Aside0 (Kd.R (Kd.int .i64) 3 w' w.heap.size (fun _ => True) v4 x4_1) ∧ Aside0 (Below w.heap.size w w'))
  case atStart => exact ⟨(y494), (1), (by first | rfl | (simp; done) | (simp [*]; done)), H', ⟨Nat.le_refl _⟩, ⟨by (with_reducible repeat (first | apply Kd.R_alloc | apply Kd.R_drewN | apply Kd.R_drew)); exact HO496.out⟩, ⟨by repeat (first | (with_reducible first | exact HB.out | apply below_alloc | apply pw_below_drewN | apply below_drew1) | exact HB.out)⟩⟩
  case round =>
   clear H'
   try clear p2
   try clear c3
   try clear c4
   obtain ⟨x4_1, x5_1, rfl, HA, HK1, HO_4, HB⟩ := hrel
   cases gk with
   | zero => exact absurd HA.out (by simp [impl_MoreCranes.l0])
   | succ k1 =>
    have H := HA.out
    clear HA
    simp only [impl_MoreCranes.l0] at H
    by_cases c6 : x5_1 ≤ 3
    ·rw [if_pos c6] at H
     have c6b0 : decide (x5_1 ≤ 3) = true := decide_eq_true c6
     clear c6
     replace H := Option.bind_eq_some_iff.mp H
     obtain ⟨⟨t497, t498⟩, A70, H⟩ := H
     replace H : (if x4_1.length < 17592186044416 then (impl_MoreCranes.l0 k1 l0 (x4_1 ++ [t498]) (wrap64 (x5_1 + 1))) else (none)) = some (r1, r2) := H
     have A7 := Aside0.mk A70
     clear A70
     by_cases c8 : x4_1.length < 17592186044416
     ·rw [if_pos c8] at H
      have LMc8 := Aside0.mk c8
      clear c8
      obtain ⟨y501, hy501⟩ : ∃ y_ : List Int, y_ = (x4_1 ++ [t498]) := ⟨_, rfl⟩
      replace H : (impl_MoreCranes.l0 k1 l0 y501 (wrap64 (x5_1 + 1))) = some (r1, r2) := by first | (rw [hy501]; with_reducible exact H) | (have H2_ := (Option.bind_some _ _).symm.trans H; rw [hy501]; with_reducible exact H2_) | (have H2_ := (Option.bind_some _ _).symm.trans H; with_reducible exact H2_) | with_reducible exact H | (rw [hy501]; exact H) | exact H
      have Ny501 := Aside0.mk hy501
      clear hy501
      have H' := Aside0.mk H
      clear H
      go_wp2_with (first | ((with_reducible refine gate_callee (f := 64) rfl ?_); refine goesL_ (some 19) rfl rfl Try.func64 (by kernel_rfl) rfl #[.slice A0 l0.length c0, .int .i64 x5_1] rfl (by (try simp only [List.map_toArray, List.map_cons, List.map_nil]); first | done | rfl | (simp only [List.length_drop, List.length_take]; rfl)) ?_; (with_reducible refine (impl_bestDivision.calls _ _ l0 x5_1 t497 t498 _ ?side1 ?side2 A7.out).mono ?_); (case side1 => repeat (first | exact (Kd.C_below HR0.out HB.out) | (with_reducible refine Kd.C_alloc ?_ _) | (with_reducible refine Kd.C_drewN ?_ _) | (with_reducible refine Kd.C_drew ?_))); (case side2 => exact HC0.out); rintro e w9 ⟨v499, rfl, ho0, hb⟩; refine ⟨_, rfl, ?_⟩; have n0_ := Aside0.mk (Kd.R_elder' (by (with_reducible repeat (first | apply Kd.R_alloc | apply Kd.R_drewN | apply Kd.R_drew)); exact HO_4.out) (Kd.R_base ho0) hb); have n1_ := Aside0.mk (Kd.R_lower (Kd.R_new' ho0 (Kd.R_lt (by (with_reducible repeat (first | apply Kd.R_alloc | apply Kd.R_drewN | apply Kd.R_drew)); exact HO_4.out))) (below_size (by repeat (first | (with_reducible first | exact HB.out | apply below_alloc | apply pw_below_drewN | apply below_drew1) | exact HB.out)))); have n2_ := Aside0.mk (below_step (by repeat (first | (with_reducible first | exact HB.out | apply below_alloc | apply pw_below_drewN | apply below_drew1) | exact HB.out)) hb); clear HO_4; clear HB; have HO_4 := n0_; have HO500 := n1_; have HB := n2_; clear n0_ n1_ n2_; (try clear hb); (try clear hb2); (try clear hk); (try clear hi); (try clear ho0)) | ((with_reducible refine gate_builtin (b := .append) (xs := #[.tmp 22, .tmp 24]) rfl ?_); at_builtin; refine Kd.R_append (Kd.int .i64) (w0 := w) w.heap.size rfl (.tmp 22) (.tmp 24) 22 3 (.int .i64 0) 8 rfl Try.underlying22 info3 rfl (by decide) (by omega) u4 x4_1 t498 [.int .i64 t498] (fun k_ => some k_ ≠ (v499 : Value).ownBlock) (fun _ => False) rfl rfl ?aP (fun _ hk => hk.elim) ?aF ?aO ?aB ?aS ?aL ?_; (case aP => exact rfl); (case aB => exact (by repeat (first | (with_reducible first | exact HB.out | apply below_alloc | apply pw_below_drewN | apply below_drew1) | exact HB.out))); (case aF => exact (fun k_ hk => Kd.fresh' (Kd.R_lt (by (with_reducible repeat (first | apply Kd.R_alloc | apply Kd.R_drewN | apply Kd.R_drew)); exact HO500.out)) k_ hk)); (case aO => exact (by (with_reducible repeat (first | apply Kd.R_alloc | apply Kd.R_drewN | apply Kd.R_drew)); exact Kd.R_mono HO_4.out (fun _ hk => hk.2))); (case aS => exact (below_size (by repeat (first | (with_reducible first | exact HB.out | apply below_alloc | apply pw_below_drewN | apply below_drew1) | exact HB.out)))); (case aL => have := LMc8.out; omega); intro v502 w10 ho hb hg hat; rw [← Ny501.out] at ho; have n0_ := Aside0.mk (Kd.R_after (ok := (fun _ => True)) (by (with_reducible repeat (first | apply Kd.R_alloc | apply Kd.R_drewN | apply Kd.R_drew)); exact HO500.out) hg hat); have n1_ := Aside0.mk (hb); have n2_ := Aside0.mk (ho); clear HO500; clear HB; clear HO_4; have HO500 := n0_; have HB := n1_; have HO503 := n2_; clear n0_ n1_ n2_; clear ho hb hg hat))
      go_roundg k1
      case measure => have := HK1.out; omega
      case rel => exact ⟨(y501), (wrap64 (x5_1 + 1)), (by first | rfl | (simp; done) | (simp [*]; done)), H', ⟨by have := HK1.out; omega⟩, ⟨by (with_reducible repeat (first | apply Kd.R_alloc | apply Kd.R_drewN | apply Kd.R_drew)); exact Kd.R_mono HO503.out (fun _ hk => trivial)⟩, ⟨by repeat (first | (with_reducible first | exact HB.out | apply below_alloc | apply pw_below_drewN | apply below_drew1) | exact HB.out)⟩⟩
     ·rw [if_neg c8] at H
      exact absurd H (by simp)
    ·rw [if_neg c6] at H
     have c6b0 : decide (x5_1 ≤ 3) = false := decide_eq_false c6
     clear c6
     simp only [Option.some.injEq, Prod.mk.injEq] at H
     obtain ⟨rfl, rfl⟩ := H
     go_wp2
     go_ret2
     exact ⟨_, by first | rfl | (simp [errW_none, errW_some] <;> rfl) | (simp [*, errW_none, errW_some] <;> rfl), by (with_reducible repeat (first | apply Kd.R_alloc | apply Kd.R_drewN | apply Kd.R_drew)); exact HO_4.out, by repeat (first | (with_reducible first | exact HB.out | apply below_alloc | apply pw_below_drewN | apply below_drew1) | exact HB.out)⟩
 ·replace c3 := Bool.eq_false_iff.mpr c3
  subst c3
  have H1 : (some (([] : List Int), false)) = some (r1, r2) := by rw [if_neg (show ¬ (false = true) by decide)] at H; exact H
  clear H
  have H := H1
  clear H1
  simp only [Option.some.injEq, Prod.mk.injEq] at H
  obtain ⟨rfl, rfl⟩ := H
  go_enter Try.func34, Try.ntmps34
  go_wp2_with (first | ((with_reducible refine gate_callee (f := 45) rfl ?_); refine goesL_ (some 9) rfl rfl Try.func45 (by kernel_rfl) rfl #[.slice A0 l0.length c0, .int .i64 1] rfl (by (try simp only [List.map_toArray, List.map_cons, List.map_nil]); first | done | rfl | (simp only [List.length_drop, List.length_take]; rfl)) ?_; (with_reducible refine (impl_isWork.calls _ _ l0 1 false _ ?side1 ?side2 A2.out).mono ?_); (case side1 => repeat (first | exact HR0.out | (with_reducible refine Kd.C_alloc ?_ _) | (with_reducible refine Kd.C_drewN ?_ _) | (with_reducible refine Kd.C_drew ?_))); (case side2 => exact HC0.out); rintro e w' ⟨rfl, ⟨nd, rfl⟩⟩; refine ⟨_, rfl, ?_⟩))
  go_ret2
  exact ⟨_, by first | rfl | (simp [errW_none, errW_some] <;> rfl) | (simp [*, errW_none, errW_some] <;> rfl), by first | exact Kd.R_nil _ _ _ _ _ | exact Kd.N_nil _ _ _ _ _ | exact Kd.V_nil _ _ _ _ _ | exact Kd.Q_nil _ _ _ _ _ | exact Kd.S_nil _ _ _ _ _, by repeat (first | (with_reducible first | exact HB.out | apply below_alloc | apply pw_below_drewN | apply below_drew1) | exact HB.out)⟩

end Go.Proofs.Ytibfchjpdplehaa.G

-- Written by wip/tools/gen.py out of the translation (the kit's printer, one namespace a seat). Lean checks it.
namespace Go.Proofs.Ytibfchjpdplehaa.G
open Go.RowKit Go.Proofs.YtibfchjpdplehaaW.PrintWords Go.Proofs.YtibfchjpdplehaaW.PrintLast Go.Proofs.YtibfchjpdplehaaW.PrintMore
attribute [local go_sem] max2_int min2_int max_two min_two max_three min_three max_four min_four   -- for this text's walks alone
set_option linter.unusedVariables false
set_option linter.unusedSimpArgs false

/-! ### laws_vBig: function 35 -/
def laws_vBig.f (l0 : List Int) : Option (Bool) := some (decide ((l0.length : Int) > 65536))
set_option maxHeartbeats 8000000 in
set_option maxRecDepth 100000 in
theorem laws_vBig.calls (A0 : Option Addr) (c0 : Nat) (l0 : List Int) (r : Bool) (w : World) (hr0 : Kd.C (Kd.int .u8) w A0 l0.length l0) (hc0 : l0.length ≤ c0) (h : laws_vBig.f l0 = some r) :
  Calls Try.prog 35 #[.slice A0 l0.length c0] w fun e w' => e = .returned (.bool r) ∧ Drawn0 w w' := by
 have HR0 := Aside0.mk hr0
 have HC0 := Aside0.mk hc0
 clear hr0 hc0
 have H : (some (decide ((l0.length : Int) > 65536))) = some r := h
 clear h
 obtain rfl := Option.some.inj H
 go_enter Try.func35, Try.ntmps35
 go_wp2
 go_ret
 exact ⟨by first | rfl | (simp; done) | (simp [*]; done), by repeat (first | exact Drawn0.refl _ | apply Drawn0.step)⟩

end Go.Proofs.Ytibfchjpdplehaa.G

-- Written by wip/tools/gen.py out of the translation (the kit's printer, one namespace a seat). Lean checks it.
namespace Go.Proofs.Ytibfchjpdplehaa.G
open Go.RowKit Go.Proofs.YtibfchjpdplehaaW.PrintWords Go.Proofs.YtibfchjpdplehaaW.PrintLast Go.Proofs.YtibfchjpdplehaaW.PrintMore
attribute [local go_sem] max2_int min2_int max_two min_two max_three min_three max_four min_four   -- for this text's walks alone
set_option linter.unusedVariables false
set_option linter.unusedSimpArgs false

/-! ### laws_vInts: function 37 -/
def laws_vInts.l0 : Nat → List Int → List Int → Int → Option (Bool)
 | 0, _, _, _ => none
 | k + 1, x0, x1, x5 => if x5 < (x0.length : Int) then (if 0 ≤ x5 then (if x5 < (x1.length : Int) then (if (rd x0 x5) = (rd x1 x5) then (laws_vInts.l0 k x0 x1 (wrap64 (x5 + 1))) else (some false)) else (none)) else (none)) else (some true)
def laws_vInts.f (k : Nat) (l0 : List Int) (l1 : List Int) : Option (Bool) := if (l0.length : Int) = (l1.length : Int) then (laws_vInts.l0 k l0 l1 0) else (some false)
theorem laws_vInts.mono_l : ∀ k, (∀ y0 y1 y2, LeO (laws_vInts.l0 k y0 y1 y2) (laws_vInts.l0 (k + 1) y0 y1 y2))
 | 0 => fun _ _ _ r h => by simp [laws_vInts.l0] at h
 | k + 1 => by
  have ih0 := laws_vInts.mono_l k
  ·intro y0 y1 y2
   unfold laws_vInts.l0
   repeat' first
   | (with_reducible exact ih0 _ _ _)
   | (with_reducible exact LeO.refl _)
   | (with_reducible exact LeO.none _)
   | (with_reducible refine LeO.ite ?_ ?_)
   | (with_reducible refine LeO.bind ?_ (fun _ => ?_))
   | exact ih0 _ _ _
   | exact LeO.none _
   | refine LeO.ite ?_ ?_
   | refine LeO.bind ?_ (fun _ => ?_)
theorem laws_vInts.mono : ∀ a0 a1 k, LeO (laws_vInts.f k a0 a1) (laws_vInts.f (k + 1) a0 a1) := by
 intro a0 a1 k
 have ih0 := laws_vInts.mono_l k
 unfold laws_vInts.f
 repeat' first
   | (with_reducible exact ih0 _ _ _)
   | (with_reducible exact LeO.refl _)
   | (with_reducible exact LeO.none _)
   | (with_reducible refine LeO.ite ?_ ?_)
   | (with_reducible refine LeO.bind ?_ (fun _ => ?_))
   | exact ih0 _ _ _
   | exact LeO.none _
   | refine LeO.ite ?_ ?_
   | refine LeO.bind ?_ (fun _ => ?_)
set_option maxHeartbeats 8000000 in
set_option maxRecDepth 100000 in
theorem laws_vInts.calls (k : Nat) (A0 : Option Addr) (c0 : Nat) (l0 : List Int) (A1 : Option Addr) (c1 : Nat) (l1 : List Int) (r : Bool) (w : World) (hr0 : Kd.C (Kd.int .i64) w A0 l0.length l0) (hc0 : l0.length ≤ c0) (hr1 : Kd.C (Kd.int .i64) w A1 l1.length l1) (hc1 : l1.length ≤ c1) (h : laws_vInts.f k l0 l1 = some r) :
  Calls Try.prog 37 #[.slice A0 l0.length c0, .slice A1 l1.length c1] w fun e w' => e = .returned (.bool r) ∧ Drawn0 w w' := by
 have HR0 := Aside0.mk hr0
 have HC0 := Aside0.mk hc0
 clear hr0 hc0
 have HR1 := Aside0.mk hr1
 have HC1 := Aside0.mk hc1
 clear hr1 hc1
 have H : (if (l0.length : Int) = (l1.length : Int) then (laws_vInts.l0 k l0 l1 0) else (some false)) = some r := h
 clear h
 by_cases c3 : (l0.length : Int) = (l1.length : Int)
 ·rw [if_pos c3] at H
  have c3b0 : ((l0.length : Int) == (l1.length : Int)) = true := beq_iff_eq.mpr c3
  have c3b1 : ((l0.length : Int) != (l1.length : Int)) = false := bne_eq_false_iff_eq.mpr c3
  have c3b2 : (l0.length == l1.length) = true := by first | simpa using c3 | (simp at c3 ⊢; omega)
  clear c3
  have H' := Aside0.mk H
  clear H
  go_enter Try.func37, Try.ntmps37
  go_wp2
  repeat (go_quiet (fail); try go_wp2)
  go_loopg [5] k (fun kq v5 w' => ∃ (x5_1 : Int), v5 = .int .i64 x5_1 ∧ Aside0 (laws_vInts.l0 kq l0 l1 x5_1 = some r) ∧ Aside0 (kq ≤ k) ∧ Drawn0 w w')
  case atStart => exact ⟨(0), (by first | rfl | (simp; done) | (simp [*]; done)), H', ⟨Nat.le_refl _⟩, by repeat (first | exact Drawn0.refl _ | apply Drawn0.step)⟩
  case round =>
   clear H'
   try clear c1
   try clear p2
   try clear c3
   try clear c3b0
   try clear c3b1
   try clear c3b2
   obtain ⟨x5_1, rfl, HA, HK1, ⟨m1, rfl⟩⟩ := hrel
   cases gk with
   | zero => exact absurd HA.out (by simp [laws_vInts.l0])
   | succ k1 =>
    have H := HA.out
    clear HA
    simp only [laws_vInts.l0] at H
    by_cases c4 : x5_1 < (l0.length : Int)
    ·rw [if_pos c4] at H
     have c4b0 : decide (x5_1 < (l0.length : Int)) = true := decide_eq_true c4
     clear c4
     by_cases c5 : 0 ≤ x5_1
     ·rw [if_pos c5] at H
      have c5b0 : decide (0 ≤ x5_1) = true := decide_eq_true c5
      clear c5
      by_cases c6 : x5_1 < (l1.length : Int)
      ·rw [if_pos c6] at H
       have c6b0 : decide (x5_1 < (l1.length : Int)) = true := decide_eq_true c6
       clear c6
       by_cases c7 : (rd l0 x5_1) = (rd l1 x5_1)
       ·rw [if_pos c7] at H
        have c7b0 : ((rd l0 x5_1) == (rd l1 x5_1)) = true := beq_iff_eq.mpr c7
        have c7b1 : ((rd l0 x5_1) != (rd l1 x5_1)) = false := bne_eq_false_iff_eq.mpr c7
        clear c7
        have H' := Aside0.mk H
        clear H
        have p620 : 0 ≤ (x5_1 : Int) := of_decide_eq_true (by first | (with_reducible assumption) | assumption)
        have q620 : x5_1 < (l0.length : Int) := of_decide_eq_true (by first | (with_reducible assumption) | assumption)
        obtain ⟨ad620, e620, hx620_0⟩ := Kd.at_int HR0.out x5_1 p620 q620
        cases e620
        replace p620 := eq_true p620
        replace q620 := eq_true q620
        have p621 : 0 ≤ (x5_1 : Int) := of_decide_eq_true (by first | (with_reducible assumption) | assumption)
        have q621 : x5_1 < (l1.length : Int) := of_decide_eq_true (by first | (with_reducible assumption) | assumption)
        obtain ⟨ad621, e621, hx621_0⟩ := Kd.at_int HR1.out x5_1 p621 q621
        cases e621
        replace p621 := eq_true p621
        replace q621 := eq_true q621
        go_wp2
        repeat (go_quiet (fail); try go_wp2)
        go_roundg k1
        case measure => have := HK1.out; omega
        case rel => exact ⟨(wrap64 (x5_1 + 1)), (by first | rfl | (simp; done) | (simp [*]; done)), H', ⟨by have := HK1.out; omega⟩, by repeat (first | exact Drawn0.refl _ | apply Drawn0.step)⟩
       ·rw [if_neg c7] at H
        have c7b0 : ((rd l0 x5_1) == (rd l1 x5_1)) = false := beq_eq_false_iff_ne.mpr c7
        have c7b1 : ((rd l0 x5_1) != (rd l1 x5_1)) = true := bne_iff_ne.mpr c7
        obtain rfl := Option.some.inj H
        have p620 : 0 ≤ (x5_1 : Int) := of_decide_eq_true (by first | (with_reducible assumption) | assumption)
        have q620 : x5_1 < (l0.length : Int) := of_decide_eq_true (by first | (with_reducible assumption) | assumption)
        obtain ⟨ad620, e620, hx620_0⟩ := Kd.at_int HR0.out x5_1 p620 q620
        cases e620
        replace p620 := eq_true p620
        replace q620 := eq_true q620
        have p621 : 0 ≤ (x5_1 : Int) := of_decide_eq_true (by first | (with_reducible assumption) | assumption)
        have q621 : x5_1 < (l1.length : Int) := of_decide_eq_true (by first | (with_reducible assumption) | assumption)
        obtain ⟨ad621, e621, hx621_0⟩ := Kd.at_int HR1.out x5_1 p621 q621
        cases e621
        replace p621 := eq_true p621
        replace q621 := eq_true q621
        go_wp2
        repeat (go_quiet (fail); try go_wp2)
        go_ret
        exact ⟨by first | rfl | (simp; done) | (simp [*]; done), by repeat (first | exact Drawn0.refl _ | apply Drawn0.step)⟩
      ·rw [if_neg c6] at H
       exact absurd H (by simp)
     ·rw [if_neg c5] at H
      exact absurd H (by simp)
    ·rw [if_neg c4] at H
     have c4b0 : decide (x5_1 < (l0.length : Int)) = false := decide_eq_false c4
     clear c4
     obtain rfl := Option.some.inj H
     go_wp2
     repeat (go_quiet (fail); try go_wp2)
     go_ret
     exact ⟨by first | rfl | (simp; done) | (simp [*]; done), by repeat (first | exact Drawn0.refl _ | apply Drawn0.step)⟩
 ·rw [if_neg c3] at H
  have c3b0 : ((l0.length : Int) == (l1.length : Int)) = false := beq_eq_false_iff_ne.mpr c3
  have c3b1 : ((l0.length : Int) != (l1.length : Int)) = true := bne_iff_ne.mpr c3
  have c3b2 : (l0.length == l1.length) = false := by first | simpa using c3 | (simp at c3 ⊢; omega)
  obtain rfl := Option.some.inj H
  go_enter Try.func37, Try.ntmps37
  go_wp2
  repeat (go_quiet (fail); try go_wp2)
  go_ret
  exact ⟨by first | rfl | (simp; done) | (simp [*]; done), by repeat (first | exact Drawn0.refl _ | apply Drawn0.step)⟩

end Go.Proofs.Ytibfchjpdplehaa.G

-- Written by wip/tools/gen.py out of the translation (the kit's printer, one namespace a seat). Lean checks it.
namespace Go.Proofs.Ytibfchjpdplehaa.G
open Go.RowKit Go.Proofs.YtibfchjpdplehaaW.PrintWords Go.Proofs.YtibfchjpdplehaaW.PrintLast Go.Proofs.YtibfchjpdplehaaW.PrintMore
attribute [local go_sem] max2_int min2_int max_two min_two max_three min_three max_four min_four   -- for this text's walks alone
set_option linter.unusedVariables false
set_option linter.unusedSimpArgs false

/-- A state of type 73 at block g of W; what its slices lead to came in by w0. -/
def IsS73 (w0 W : World) (g : Nat) (f0 : List Int) (f1 : Int) (f2 : Int) : Prop := ∃ A0 c0, W.heap[g]? = some (.cells #[.slice A0 f0.length c0, .int .i64 f1, .int .u64 f2] 73 (0, 0)) ∧ w0.heap.size ≤ g ∧ Kd.C (Kd.int .u8) w0 A0 f0.length f0
theorem IsS73.grown {w0 W : World} {g : Nat} {f0 : List Int} {f1 : Int} {f2 : Int} {W1 : World} {row : Option Nat} (h : IsS73 w0 W g f0 f1 f2) (hw : W.grownBy W1 row) (hne : some g ≠ row) : IsS73 w0 W1 g f0 f1 f2 := by
 obtain ⟨A0, c0, hb, hg, hr0⟩ := h
 exact ⟨A0, c0, blk_grown hb hw hne, hg, hr0⟩
theorem IsS73.own_neN {w0 W : World} {g : Nat} {f0 : List Int} {f1 : Int} {f2 : Int} {α : Type} {d : Kd α} {e : Nat} {base : Nat} {ok : Nat → Prop} {v : Value} {xs : List α} (h : IsS73 w0 W g f0 f1 f2) (ho : Kd.N d e W base ok v xs) (ht : e ≠ 73) : some g ≠ v.ownBlock := by
 obtain ⟨A0, c0, hb, hg, hr0⟩ := h
 exact Kd.N_ne ho hb ht
theorem IsS73.fresh {w0 W : World} {g : Nat} {f0 : List Int} {f1 : Int} {f2 : Int} (h : IsS73 w0 W g f0 f1 f2) : ∀ k, W.heap.size ≤ k → k ≠ g := by
 obtain ⟨A0, c0, hb, hg, hr0⟩ := h
 exact Kd.freshB hb
theorem IsS73.kept {w0 W : World} {g : Nat} {f0 : List Int} {f1 : Int} {f2 : Int} {W1 : World} {S : Nat → Prop} (h : IsS73 w0 W g f0 f1 f2) (hk : Kept W W1 S) (hne : ¬ S g) : IsS73 w0 W1 g f0 f1 f2 := by
 obtain ⟨A0, c0, hb, hg, hr0⟩ := h
 exact ⟨A0, c0, blk_kept hb hk hne, hg, hr0⟩
theorem IsS73.below {w0 W : World} {g : Nat} {f0 : List Int} {f1 : Int} {f2 : Int} {W1 : World} (h : IsS73 w0 W g f0 f1 f2) (hw : Below W.heap.size W W1) : IsS73 w0 W1 g f0 f1 f2 := h.grown (grown_of_below hw none) (by simp)
theorem IsS73.alloc {w0 W : World} {g : Nat} {f0 : List Int} {f1 : Int} {f2 : Int} (h : IsS73 w0 W g f0 f1 f2) (o : Obj) : IsS73 w0 (W.alloc o) g f0 f1 f2 := h.below (below_alloc (Below.refl _ _) o)
theorem IsS73.drewN {w0 W : World} {g : Nat} {f0 : List Int} {f1 : Int} {f2 : Int} (h : IsS73 w0 W g f0 f1 f2) (m : Nat) : IsS73 w0 (W.drewN m) g f0 f1 f2 := h
theorem IsS73.drew {w0 W : World} {g : Nat} {f0 : List Int} {f1 : Int} {f2 : Int} (h : IsS73 w0 W g f0 f1 f2) : IsS73 w0 W.drew g f0 f1 f2 := h
theorem IsS73.at_ {w0 W : World} {g : Nat} {f0 : List Int} {f1 : Int} {f2 : Int} {w' : World} {m : Nat} (hq : W.drewN m = w') (h : IsS73 w0 W g f0 f1 f2) : IsS73 w0 w' g f0 f1 f2 := by subst hq; exact IsS73.drewN h m
theorem IsS73.apart {w0 W : World} {g : Nat} {f0 : List Int} {f1 : Int} {f2 : Int} {α : Type} {d : Kd α} {e : Nat} {base : Nat} {ok : Nat → Prop} {v : Value} {xs : List α} (h : IsS73 w0 W g f0 f1 f2) (ho : d.R e W base ok v xs) (ht : ∀ q, q ∈ e :: d.E → q ≠ 73) : d.R e W base (fun k => ok k ∧ k ≠ g) v xs := by
 obtain ⟨A0, c0, hb, hg, hr0⟩ := h
 exact Kd.R_types ho hb ht
theorem IsS73.own_ne {w0 W : World} {g : Nat} {f0 : List Int} {f1 : Int} {f2 : Int} {α : Type} {d : Kd α} {e : Nat} {base : Nat} {ok : Nat → Prop} {v : Value} {xs : List α} (h : IsS73 w0 W g f0 f1 f2) (ho : d.R e W base ok v xs) (ht : e ≠ 73) : some g ≠ v.ownBlock := by
 obtain ⟨A0, c0, hb, hg, hr0⟩ := h
 exact Kd.R_ne ho hb ht
theorem IsS73.apartQ {w0 W : World} {g : Nat} {f0 : List Int} {f1 : Int} {f2 : Int} {α : Type} {d : Kd α} {e : Nat} {base : Nat} {ok : Nat → Prop} {v : Value} {xs : List α} (h : IsS73 w0 W g f0 f1 f2) (ho : d.Q e W base ok v xs) (ht : ∀ q, q ∈ e :: d.E → q ≠ 73) : d.Q e W base (fun k => ok k ∧ k ≠ g) v xs := by
 obtain ⟨A0, c0, hb, hg, hr0⟩ := h
 exact Kd.Q_types ho hb ht
theorem IsS73.own_neQ {w0 W : World} {g : Nat} {f0 : List Int} {f1 : Int} {f2 : Int} {α : Type} {d : Kd α} {e : Nat} {base : Nat} {ok : Nat → Prop} {v : Value} {xs : List α} (h : IsS73 w0 W g f0 f1 f2) (ho : d.Q e W base ok v xs) (ht : e ≠ 73) : some g ≠ v.ownBlock := by
 obtain ⟨A0, c0, hb, hg, hr0⟩ := h
 exact Kd.Q_ne ho hb ht
theorem IsS73.apartS {w0 W : World} {g : Nat} {f0 : List Int} {f1 : Int} {f2 : Int} {α : Type} {d : Kd α} {e : Nat} {base : Nat} {ok : Nat → Prop} {v : Value} {xs : List α} (h : IsS73 w0 W g f0 f1 f2) (ho : d.S e W base ok v xs) (ht : ∀ q, q ∈ e :: d.E → q ≠ 73) : d.S e W base (fun k => ok k ∧ k ≠ g) v xs := by
 obtain ⟨A0, c0, hb, hg, hr0⟩ := h
 exact Kd.S_types ho hb ht
theorem IsS73.own_neS {w0 W : World} {g : Nat} {f0 : List Int} {f1 : Int} {f2 : Int} {α : Type} {d : Kd α} {e : Nat} {base : Nat} {ok : Nat → Prop} {v : Value} {xs : List α} (h : IsS73 w0 W g f0 f1 f2) (ho : d.S e W base ok v xs) (ht : e ≠ 73) : some g ≠ v.ownBlock := by
 obtain ⟨A0, c0, hb, hg, hr0⟩ := h
 exact Kd.S_ne ho hb ht
theorem IsS73.lt {w0 W : World} {g : Nat} {f0 : List Int} {f1 : Int} {f2 : Int} (h : IsS73 w0 W g f0 f1 f2) : g < W.heap.size := by
 obtain ⟨A0, c0, hb, hg, hr0⟩ := h
 exact blk_lt hb
theorem IsS73.ge {w0 W : World} {g : Nat} {f0 : List Int} {f1 : Int} {f2 : Int} (h : IsS73 w0 W g f0 f1 f2) : w0.heap.size ≤ g := by
 obtain ⟨A0, c0, hb, hg, hr0⟩ := h
 exact hg
theorem IsS73.ne_blk {w0 W : World} {g : Nat} {f0 : List Int} {f1 : Int} {f2 : Int} {a : Nat} {cs : Array Value} {t : TypeId} {fr : Nat × Nat} (h : IsS73 w0 W g f0 f1 f2) (hb2 : W.heap[a]? = some (.cells cs t fr)) (ht : t ≠ 73) : g ≠ a := by
 obtain ⟨A0, c0, hb, hg, hr0⟩ := h
 rintro rfl
 rw [hb] at hb2
 injection hb2 with hb2
 injection hb2 with _ ht2
 exact ht ht2.symm
theorem IsS73.far {w0 W : World} {g : Nat} {f0 : List Int} {f1 : Int} {f2 : Int} {p : Addr} (h : IsS73 w0 W g f0 f1 f2) (hne : g ≠ p.block) (u : Value) : IsS73 w0 (W.setCell p u) g f0 f1 f2 := by
 obtain ⟨A0, c0, hb, hg, hr0⟩ := h
 exact ⟨A0, c0, blk_far hb hne u, hg, hr0⟩
theorem cellS73_0 {W : World} {g : Nat} {A0 : Option Addr} {c0 : Nat} {f0 : List Int} {f1 : Int} {f2 : Int} (h : W.heap[g]? = some (.cells #[.slice A0 f0.length c0, .int .i64 f1, .int .u64 f2] 73 (0, 0))) : W.cell? ⟨g, 0, none⟩ = some (.slice A0 f0.length c0) := (blk_cell h 0).trans rfl
theorem cellS73_1 {W : World} {g : Nat} {A0 : Option Addr} {c0 : Nat} {f0 : List Int} {f1 : Int} {f2 : Int} (h : W.heap[g]? = some (.cells #[.slice A0 f0.length c0, .int .i64 f1, .int .u64 f2] 73 (0, 0))) : W.cell? ⟨g, 1, none⟩ = some (.int .i64 f1) := (blk_cell h 1).trans rfl
theorem IsS73.set_1 {w0 W : World} {g : Nat} {f0 : List Int} {f1 : Int} {f2 : Int} (h : IsS73 w0 W g f0 f1 f2) (x : Int) : IsS73 w0 (W.setCell ⟨g, 1, none⟩ (.int .i64 x)) g f0 x f2 := by
 obtain ⟨A0, c0, hb, hg, hr0⟩ := h
 exact ⟨A0, c0, by simpa using blk_set hb 1 (.int .i64 x), hg, hr0⟩
theorem cellS73_2 {W : World} {g : Nat} {A0 : Option Addr} {c0 : Nat} {f0 : List Int} {f1 : Int} {f2 : Int} (h : W.heap[g]? = some (.cells #[.slice A0 f0.length c0, .int .i64 f1, .int .u64 f2] 73 (0, 0))) : W.cell? ⟨g, 2, none⟩ = some (.int .u64 f2) := (blk_cell h 2).trans rfl
theorem IsS73.set_2 {w0 W : World} {g : Nat} {f0 : List Int} {f1 : Int} {f2 : Int} (h : IsS73 w0 W g f0 f1 f2) (x : Int) : IsS73 w0 (W.setCell ⟨g, 2, none⟩ (.int .u64 x)) g f0 f1 x := by
 obtain ⟨A0, c0, hb, hg, hr0⟩ := h
 exact ⟨A0, c0, by simpa using blk_set hb 2 (.int .u64 x), hg, hr0⟩
theorem IsS73.new (w0 W : World) (A0 : Option Addr) (c0 : Nat) (f0 : List Int) (f1 : Int) (f2 : Int) (hB : Below w0.heap.size w0 W) (hr0 : Kd.C (Kd.int .u8) w0 A0 f0.length f0) : IsS73 w0 (W.alloc (.cells #[.slice A0 f0.length c0, .int .i64 f1, .int .u64 f2] 73)) W.heap.size f0 f1 f2 := ⟨A0, c0, by simpa using heap_alloc_new W _, hB.size, hr0⟩

/-! ### spec_l1Cur_next: function 76 -/
def spec_l1Cur_next.f (s0_0 : List Int) (s0_1 : Int) (s0_2 : Int) : Option (Int × Int × Int) := if s0_1 < (s0_0.length : Int) then (if 0 ≤ s0_1 then (if (wrap64 (s0_1 + 1)) ≤ (s0_0.length : Int) then (some (wrap64 (rd s0_0 s0_1), wrap64 (s0_1 + 1), IntKind.u64.wrap ((IntKind.u64.wrap ((IntKind.u64.wrap (s0_2 * 6364136223846793005)) + (IntKind.u64.wrap (wrap64 (rd s0_0 s0_1))))) + 906906))) else (some (wrap64 (Go.bits .and .u64 ((IntKind.u64.wrap ((IntKind.u64.wrap ((IntKind.u64.wrap (s0_2 * 6364136223846793005)) + (IntKind.u64.wrap (wrap64 (rd s0_0 s0_1))))) + 906906)) / 1099511627776) 255), wrap64 (s0_1 + 1), IntKind.u64.wrap ((IntKind.u64.wrap ((IntKind.u64.wrap (s0_2 * 6364136223846793005)) + (IntKind.u64.wrap (wrap64 (rd s0_0 s0_1))))) + 906906)))) else (none)) else (if (wrap64 (s0_1 + 1)) ≤ (s0_0.length : Int) then (some (0, wrap64 (s0_1 + 1), IntKind.u64.wrap ((IntKind.u64.wrap (IntKind.u64.wrap (s0_2 * 6364136223846793005))) + 906906))) else (some (wrap64 (Go.bits .and .u64 ((IntKind.u64.wrap ((IntKind.u64.wrap (IntKind.u64.wrap (s0_2 * 6364136223846793005))) + 906906)) / 1099511627776) 255), wrap64 (s0_1 + 1), IntKind.u64.wrap ((IntKind.u64.wrap (IntKind.u64.wrap (s0_2 * 6364136223846793005))) + 906906))))
set_option maxHeartbeats 8000000 in
set_option maxRecDepth 100000 in
theorem spec_l1Cur_next.calls (g : Nat) (s0_0 : List Int) (s0_1 : Int) (s0_2 : Int) (r1 : Int) (r2 : Int) (r3 : Int) (w0 w : World) (hI : IsS73 w0 w g s0_0 s0_1 s0_2) (hB : Below w0.heap.size w0 w) (h : spec_l1Cur_next.f s0_0 s0_1 s0_2 = some (r1, r2, r3)) :
  Calls Try.prog 76 #[.pointer (some ⟨g, 0, none⟩)] w fun e w' => e = .returned (.int .i64 r1) ∧ IsS73 w0 w' g s0_0 r2 r3 ∧ Below w0.heap.size w0 w' ∧ KeepBut w w' g none := by
 have HI0 := Aside0.mk hI
 have HK := Aside0.mk (KeepBut.refl w g none)
 have HL := Aside0.mk hB.size
 clear hI
 have HW0 := Aside0.mk hB.size
 have HB := Aside0.mk hB
 clear hB
 have H : (if s0_1 < (s0_0.length : Int) then (if 0 ≤ s0_1 then (if (wrap64 (s0_1 + 1)) ≤ (s0_0.length : Int) then (some (wrap64 (rd s0_0 s0_1), wrap64 (s0_1 + 1), IntKind.u64.wrap ((IntKind.u64.wrap ((IntKind.u64.wrap (s0_2 * 6364136223846793005)) + (IntKind.u64.wrap (wrap64 (rd s0_0 s0_1))))) + 906906))) else (some (wrap64 (Go.bits .and .u64 ((IntKind.u64.wrap ((IntKind.u64.wrap ((IntKind.u64.wrap (s0_2 * 6364136223846793005)) + (IntKind.u64.wrap (wrap64 (rd s0_0 s0_1))))) + 906906)) / 1099511627776) 255), wrap64 (s0_1 + 1), IntKind.u64.wrap ((IntKind.u64.wrap ((IntKind.u64.wrap (s0_2 * 6364136223846793005)) + (IntKind.u64.wrap (wrap64 (rd s0_0 s0_1))))) + 906906)))) else (none)) else (if (wrap64 (s0_1 + 1)) ≤ (s0_0.length : Int) then (some (0, wrap64 (s0_1 + 1), IntKind.u64.wrap ((IntKind.u64.wrap (IntKind.u64.wrap (s0_2 * 6364136223846793005))) + 906906))) else (some (wrap64 (Go.bits .and .u64 ((IntKind.u64.wrap ((IntKind.u64.wrap (IntKind.u64.wrap (s0_2 * 6364136223846793005))) + 906906)) / 1099511627776) 255), wrap64 (s0_1 + 1), IntKind.u64.wrap ((IntKind.u64.wrap (IntKind.u64.wrap (s0_2 * 6364136223846793005))) + 906906))))) = some (r1, r2, r3) := h
 clear h
 by_cases c2 : s0_1 < (s0_0.length : Int)
 ·rw [if_pos c2] at H
  have c2b0 : decide (s0_1 < (s0_0.length : Int)) = true := decide_eq_true c2
  clear c2
  by_cases c3 : 0 ≤ s0_1
  ·rw [if_pos c3] at H
   have c3b0 : decide (0 ≤ s0_1) = true := decide_eq_true c3
   clear c3
   by_cases c4 : (wrap64 (s0_1 + 1)) ≤ (s0_0.length : Int)
   ·rw [if_pos c4] at H
    have c4b0 : decide ((wrap64 (s0_1 + 1)) ≤ (s0_0.length : Int)) = true := decide_eq_true c4
    clear c4
    simp only [Option.some.injEq, Prod.mk.injEq] at H
    obtain ⟨rfl, rfl, rfl⟩ := H
    obtain ⟨ASz5_0, cSz5_0, HGz5, hgz5, HSz5_0⟩ := HI0.out
    have hcz5_0 := cellS73_0 HGz5
    have hcz5_1 := cellS73_1 HGz5
    have hcz5_2 := cellS73_2 HGz5
    have hfz5_1 := blk_frozen HGz5 1
    have hfz5_2 := blk_frozen HGz5 2
    clear HGz5 hgz5
    have p538 : 0 ≤ (s0_1 : Int) := of_decide_eq_true (by first | (with_reducible assumption) | assumption)
    have q538 : s0_1 < (s0_0.length : Int) := of_decide_eq_true (by first | (with_reducible assumption) | assumption)
    obtain ⟨ad538, e538, hx538_0⟩ := Kd.at_int HSz5_0 s0_1 p538 q538
    cases e538
    replace hx538_0 := pw_cell_below HB.out hx538_0
    replace p538 := eq_true p538
    replace q538 := eq_true q538
    go_enter Try.func76, Try.ntmps76
    go_wp2
    repeat (go_quiet (fail); try go_wp2)
    go_ret
    exact ⟨by first | rfl | (simp [errW_none, errW_some] <;> rfl) | (simp [*, errW_none, errW_some] <;> rfl), by repeat (first | (with_reducible first | exact HI0.out | apply IsS73.alloc | apply IsS73.drewN | apply IsS73.drew | apply IsS73.set_1 | apply IsS73.set_2) | exact HI0.out), by repeat (first | (with_reducible first | exact HB.out | apply below_alloc | apply pw_below_drewN | apply below_drew1 | refine below_set ?_ (IsS73.ge HI0.out)) | exact HB.out), by repeat (first | (with_reducible first | exact HK.out | apply KeepBut.set_ | apply keep_drewN | apply keep_drew | apply keep_alloc) | exact HK.out)⟩
   ·rw [if_neg c4] at H
    have c4b0 : decide ((wrap64 (s0_1 + 1)) ≤ (s0_0.length : Int)) = false := decide_eq_false c4
    clear c4
    simp only [Option.some.injEq, Prod.mk.injEq] at H
    obtain ⟨rfl, rfl, rfl⟩ := H
    obtain ⟨ASz6_0, cSz6_0, HGz6, hgz6, HSz6_0⟩ := HI0.out
    have hcz6_0 := cellS73_0 HGz6
    have hcz6_1 := cellS73_1 HGz6
    have hcz6_2 := cellS73_2 HGz6
    have hfz6_1 := blk_frozen HGz6 1
    have hfz6_2 := blk_frozen HGz6 2
    clear HGz6 hgz6
    have p538 : 0 ≤ (s0_1 : Int) := of_decide_eq_true (by first | (with_reducible assumption) | assumption)
    have q538 : s0_1 < (s0_0.length : Int) := of_decide_eq_true (by first | (with_reducible assumption) | assumption)
    obtain ⟨ad538, e538, hx538_0⟩ := Kd.at_int HSz6_0 s0_1 p538 q538
    cases e538
    replace hx538_0 := pw_cell_below HB.out hx538_0
    replace p538 := eq_true p538
    replace q538 := eq_true q538
    go_enter Try.func76, Try.ntmps76
    go_wp2
    repeat (go_quiet (fail); try go_wp2)
    go_ret
    exact ⟨by first | rfl | (simp [errW_none, errW_some] <;> rfl) | (simp [*, errW_none, errW_some] <;> rfl), by repeat (first | (with_reducible first | exact HI0.out | apply IsS73.alloc | apply IsS73.drewN | apply IsS73.drew | apply IsS73.set_1 | apply IsS73.set_2) | exact HI0.out), by repeat (first | (with_reducible first | exact HB.out | apply below_alloc | apply pw_below_drewN | apply below_drew1 | refine below_set ?_ (IsS73.ge HI0.out)) | exact HB.out), by repeat (first | (with_reducible first | exact HK.out | apply KeepBut.set_ | apply keep_drewN | apply keep_drew | apply keep_alloc) | exact HK.out)⟩
  ·rw [if_neg c3] at H
   exact absurd H (by simp)
 ·rw [if_neg c2] at H
  have c2b0 : decide (s0_1 < (s0_0.length : Int)) = false := decide_eq_false c2
  clear c2
  by_cases c7 : (wrap64 (s0_1 + 1)) ≤ (s0_0.length : Int)
  ·rw [if_pos c7] at H
   have c7b0 : decide ((wrap64 (s0_1 + 1)) ≤ (s0_0.length : Int)) = true := decide_eq_true c7
   clear c7
   simp only [Option.some.injEq, Prod.mk.injEq] at H
   obtain ⟨rfl, rfl, rfl⟩ := H
   obtain ⟨ASz8_0, cSz8_0, HGz8, hgz8, HSz8_0⟩ := HI0.out
   have hcz8_0 := cellS73_0 HGz8
   have hcz8_1 := cellS73_1 HGz8
   have hcz8_2 := cellS73_2 HGz8
   have hfz8_1 := blk_frozen HGz8 1
   have hfz8_2 := blk_frozen HGz8 2
   clear HGz8 hgz8
   go_enter Try.func76, Try.ntmps76
   go_wp2
   repeat (go_quiet (fail); try go_wp2)
   go_ret
   exact ⟨by first | rfl | (simp [errW_none, errW_some] <;> rfl) | (simp [*, errW_none, errW_some] <;> rfl), by repeat (first | (with_reducible first | exact HI0.out | apply IsS73.alloc | apply IsS73.drewN | apply IsS73.drew | apply IsS73.set_1 | apply IsS73.set_2) | exact HI0.out), by repeat (first | (with_reducible first | exact HB.out | apply below_alloc | apply pw_below_drewN | apply below_drew1 | refine below_set ?_ (IsS73.ge HI0.out)) | exact HB.out), by repeat (first | (with_reducible first | exact HK.out | apply KeepBut.set_ | apply keep_drewN | apply keep_drew | apply keep_alloc) | exact HK.out)⟩
  ·rw [if_neg c7] at H
   have c7b0 : decide ((wrap64 (s0_1 + 1)) ≤ (s0_0.length : Int)) = false := decide_eq_false c7
   clear c7
   simp only [Option.some.injEq, Prod.mk.injEq] at H
   obtain ⟨rfl, rfl, rfl⟩ := H
   obtain ⟨ASz9_0, cSz9_0, HGz9, hgz9, HSz9_0⟩ := HI0.out
   have hcz9_0 := cellS73_0 HGz9
   have hcz9_1 := cellS73_1 HGz9
   have hcz9_2 := cellS73_2 HGz9
   have hfz9_1 := blk_frozen HGz9 1
   have hfz9_2 := blk_frozen HGz9 2
   clear HGz9 hgz9
   go_enter Try.func76, Try.ntmps76
   go_wp2
   repeat (go_quiet (fail); try go_wp2)
   go_ret
   exact ⟨by first | rfl | (simp [errW_none, errW_some] <;> rfl) | (simp [*, errW_none, errW_some] <;> rfl), by repeat (first | (with_reducible first | exact HI0.out | apply IsS73.alloc | apply IsS73.drewN | apply IsS73.drew | apply IsS73.set_1 | apply IsS73.set_2) | exact HI0.out), by repeat (first | (with_reducible first | exact HB.out | apply below_alloc | apply pw_below_drewN | apply below_drew1 | refine below_set ?_ (IsS73.ge HI0.out)) | exact HB.out), by repeat (first | (with_reducible first | exact HK.out | apply KeepBut.set_ | apply keep_drewN | apply keep_drew | apply keep_alloc) | exact HK.out)⟩

end Go.Proofs.Ytibfchjpdplehaa.G

-- Written by wip/tools/gen.py out of the translation (the kit's printer, one namespace a seat). Lean checks it.
namespace Go.Proofs.Ytibfchjpdplehaa.G
open Go.RowKit Go.Proofs.YtibfchjpdplehaaW.PrintWords Go.Proofs.YtibfchjpdplehaaW.PrintLast Go.Proofs.YtibfchjpdplehaaW.PrintMore
attribute [local go_sem] max2_int min2_int max_two min_two max_three min_three max_four min_four   -- for this text's walks alone
set_option linter.unusedVariables false
set_option linter.unusedSimpArgs false

/-! ### spec_l1Cur_pick: function 67 -/
def spec_l1Cur_pick.f (s0_0 : List Int) (s0_1 : Int) (s0_2 : Int) (a1 : Int) : Option (Int × Int × Int) := if a1 ≤ 1 then (some (0, s0_1, s0_2)) else ((spec_l1Cur_next.f s0_0 s0_1 s0_2).bind fun bt539 => (if a1 > 200 then ((spec_l1Cur_next.f s0_0 bt539.2.1 bt539.2.2).bind fun bt542 => (if a1 = 0 then (none) else (some (Int.tmod (wrap64 ((wrap64 (bt539.1 * 256)) + bt542.1)) a1, bt542.2.1, bt542.2.2)))) else (if a1 = 0 then (none) else (some (Int.tmod bt539.1 a1, bt539.2.1, bt539.2.2)))))
set_option maxHeartbeats 8000000 in
set_option maxRecDepth 100000 in
theorem spec_l1Cur_pick.calls (g : Nat) (s0_0 : List Int) (s0_1 : Int) (s0_2 : Int) (a1 : Int) (r1 : Int) (r2 : Int) (r3 : Int) (w0 w : World) (hI : IsS73 w0 w g s0_0 s0_1 s0_2) (hB : Below w0.heap.size w0 w) (h : spec_l1Cur_pick.f s0_0 s0_1 s0_2 a1 = some (r1, r2, r3)) :
  Calls Try.prog 67 #[.pointer (some ⟨g, 0, none⟩), .int .i64 a1] w fun e w' => e = .returned (.int .i64 r1) ∧ IsS73 w0 w' g s0_0 r2 r3 ∧ Below w0.heap.size w0 w' ∧ KeepBut w w' g none := by
 have HI0 := Aside0.mk hI
 have HK := Aside0.mk (KeepBut.refl w g none)
 have HL := Aside0.mk hB.size
 clear hI
 have HW0 := Aside0.mk hB.size
 have HB := Aside0.mk hB
 clear hB
 have H : (if a1 ≤ 1 then (some (0, s0_1, s0_2)) else ((spec_l1Cur_next.f s0_0 s0_1 s0_2).bind fun bt539 => (if a1 > 200 then ((spec_l1Cur_next.f s0_0 bt539.2.1 bt539.2.2).bind fun bt542 => (if a1 = 0 then (none) else (some (Int.tmod (wrap64 ((wrap64 (bt539.1 * 256)) + bt542.1)) a1, bt542.2.1, bt542.2.2)))) else (if a1 = 0 then (none) else (some (Int.tmod bt539.1 a1, bt539.2.1, bt539.2.2)))))) = some (r1, r2, r3) := h
 clear h
 by_cases c3 : a1 ≤ 1
 ·rw [if_pos c3] at H
  have c3b0 : decide (a1 ≤ 1) = true := decide_eq_true c3
  clear c3
  simp only [Option.some.injEq, Prod.mk.injEq] at H
  obtain ⟨rfl, rfl, rfl⟩ := H
  go_enter Try.func67, Try.ntmps67
  go_wp2
  go_ret
  exact ⟨by first | rfl | (simp [errW_none, errW_some] <;> rfl) | (simp [*, errW_none, errW_some] <;> rfl), by repeat (first | (with_reducible first | exact HI0.out | apply IsS73.alloc | apply IsS73.drewN | apply IsS73.drew | apply IsS73.set_1 | apply IsS73.set_2) | exact HI0.out), by repeat (first | (with_reducible first | exact HB.out | apply below_alloc | apply pw_below_drewN | apply below_drew1 | refine below_set ?_ (IsS73.ge HI0.out)) | exact HB.out), by repeat (first | (with_reducible first | exact HK.out | apply KeepBut.set_ | apply keep_drewN | apply keep_drew | apply keep_alloc) | exact HK.out)⟩
 ·rw [if_neg c3] at H
  have c3b0 : decide (a1 ≤ 1) = false := decide_eq_false c3
  clear c3
  replace H := Option.bind_eq_some_iff.mp H
  obtain ⟨⟨t539, t540, t541⟩, A40, H⟩ := H
  replace H : (if a1 > 200 then ((spec_l1Cur_next.f s0_0 t540 t541).bind fun bt542 => (if a1 = 0 then (none) else (some (Int.tmod (wrap64 ((wrap64 (t539 * 256)) + bt542.1)) a1, bt542.2.1, bt542.2.2)))) else (if a1 = 0 then (none) else (some (Int.tmod t539 a1, t540, t541)))) = some (r1, r2, r3) := H
  have A4 := Aside0.mk A40
  clear A40
  by_cases c5 : a1 > 200
  ·rw [if_pos c5] at H
   have c5b0 : decide (200 < a1) = true := decide_eq_true c5
   clear c5
   replace H := Option.bind_eq_some_iff.mp H
   obtain ⟨⟨t542, t543, t544⟩, A60, H⟩ := H
   replace H : (if a1 = 0 then (none) else (some (Int.tmod (wrap64 ((wrap64 (t539 * 256)) + t542)) a1, t543, t544))) = some (r1, r2, r3) := H
   have A6 := Aside0.mk A60
   clear A60
   by_cases c7 : a1 = 0
   ·rw [if_pos c7] at H
    exact absurd H (by simp)
   ·rw [if_neg c7] at H
    have c7b0 : (a1 == 0) = false := beq_eq_false_iff_ne.mpr c7
    have c7b1 : (a1 != 0) = true := bne_iff_ne.mpr c7
    simp only [Option.some.injEq, Prod.mk.injEq] at H
    obtain ⟨rfl, rfl, rfl⟩ := H
    go_enter Try.func67, Try.ntmps67
    go_wp2_with (first | ((with_reducible refine gate_callee (f := 76) rfl ?_); refine goesL_ (some 9) rfl rfl Try.func76 (by kernel_rfl) rfl #[.pointer (some ⟨g, 0, none⟩)] rfl (by (try simp only [List.map_toArray, List.map_cons, List.map_nil]); first | done | rfl | (simp only [List.length_drop, List.length_take]; rfl)) ?_; (with_reducible refine (spec_l1Cur_next.calls g s0_0 s0_1 s0_2 t539 t540 t541 w0 _ ?side1 ?side2 A4.out).mono ?_); (case side1 => repeat (first | (with_reducible first | exact HI0.out | apply IsS73.alloc | apply IsS73.drewN | apply IsS73.drew | apply IsS73.set_1 | apply IsS73.set_2) | exact HI0.out)); (case side2 => repeat (first | (with_reducible first | exact HB.out | apply below_alloc | apply pw_below_drewN | apply below_drew1 | refine below_set ?_ (IsS73.ge HI0.out)) | exact HB.out)); rintro e w8 ⟨rfl, hi, hb, hk⟩; refine ⟨_, rfl, ?_⟩; have n0_ := Aside0.mk (KeepBut.trans (by repeat (first | (with_reducible first | exact HK.out | apply KeepBut.set_ | apply keep_drewN | apply keep_drew | apply keep_alloc) | exact HK.out)) hk (.inl rfl)); have n1_ := Aside0.mk (hb); have n2_ := Aside0.mk (hi); clear HK; clear HB; clear HI0; have HK := n0_; have HB := n1_; have HI0 := n2_; clear n0_ n1_ n2_; (try clear hb); (try clear hb2); (try clear hk); (try clear hi)) | ((with_reducible refine gate_callee (f := 76) rfl ?_); refine goesL_ (some 15) rfl rfl Try.func76 (by kernel_rfl) rfl #[.pointer (some ⟨g, 0, none⟩)] rfl (by (try simp only [List.map_toArray, List.map_cons, List.map_nil]); first | done | rfl | (simp only [List.length_drop, List.length_take]; rfl)) ?_; (with_reducible refine (spec_l1Cur_next.calls g s0_0 t540 t541 t542 t543 t544 w0 _ ?side1 ?side2 A6.out).mono ?_); (case side1 => repeat (first | (with_reducible first | exact HI0.out | apply IsS73.alloc | apply IsS73.drewN | apply IsS73.drew | apply IsS73.set_1 | apply IsS73.set_2) | exact HI0.out)); (case side2 => repeat (first | (with_reducible first | exact HB.out | apply below_alloc | apply pw_below_drewN | apply below_drew1 | refine below_set ?_ (IsS73.ge HI0.out)) | exact HB.out)); rintro e w9 ⟨rfl, hi, hb, hk⟩; refine ⟨_, rfl, ?_⟩; have n0_ := Aside0.mk (KeepBut.trans (by repeat (first | (with_reducible first | exact HK.out | apply KeepBut.set_ | apply keep_drewN | apply keep_drew | apply keep_alloc) | exact HK.out)) hk (.inl rfl)); have n1_ := Aside0.mk (hb); have n2_ := Aside0.mk (hi); clear HK; clear HB; clear HI0; have HK := n0_; have HB := n1_; have HI0 := n2_; clear n0_ n1_ n2_; (try clear hb); (try clear hb2); (try clear hk); (try clear hi)))
    go_ret
    exact ⟨by first | rfl | (simp [errW_none, errW_some] <;> rfl) | (simp [*, errW_none, errW_some] <;> rfl), by repeat (first | (with_reducible first | exact HI0.out | apply IsS73.alloc | apply IsS73.drewN | apply IsS73.drew | apply IsS73.set_1 | apply IsS73.set_2) | exact HI0.out), by repeat (first | (with_reducible first | exact HB.out | apply below_alloc | apply pw_below_drewN | apply below_drew1 | refine below_set ?_ (IsS73.ge HI0.out)) | exact HB.out), by repeat (first | (with_reducible first | exact HK.out | apply KeepBut.set_ | apply keep_drewN | apply keep_drew | apply keep_alloc) | exact HK.out)⟩
  ·rw [if_neg c5] at H
   have c5b0 : decide (200 < a1) = false := decide_eq_false c5
   clear c5
   by_cases c10 : a1 = 0
   ·rw [if_pos c10] at H
    exact absurd H (by simp)
   ·rw [if_neg c10] at H
    have c10b0 : (a1 == 0) = false := beq_eq_false_iff_ne.mpr c10
    have c10b1 : (a1 != 0) = true := bne_iff_ne.mpr c10
    simp only [Option.some.injEq, Prod.mk.injEq] at H
    obtain ⟨rfl, rfl, rfl⟩ := H
    go_enter Try.func67, Try.ntmps67
    go_wp2_with (first | ((with_reducible refine gate_callee (f := 76) rfl ?_); refine goesL_ (some 9) rfl rfl Try.func76 (by kernel_rfl) rfl #[.pointer (some ⟨g, 0, none⟩)] rfl (by (try simp only [List.map_toArray, List.map_cons, List.map_nil]); first | done | rfl | (simp only [List.length_drop, List.length_take]; rfl)) ?_; (with_reducible refine (spec_l1Cur_next.calls g s0_0 s0_1 s0_2 t539 t540 t541 w0 _ ?side1 ?side2 A4.out).mono ?_); (case side1 => repeat (first | (with_reducible first | exact HI0.out | apply IsS73.alloc | apply IsS73.drewN | apply IsS73.drew | apply IsS73.set_1 | apply IsS73.set_2) | exact HI0.out)); (case side2 => repeat (first | (with_reducible first | exact HB.out | apply below_alloc | apply pw_below_drewN | apply below_drew1 | refine below_set ?_ (IsS73.ge HI0.out)) | exact HB.out)); rintro e w11 ⟨rfl, hi, hb, hk⟩; refine ⟨_, rfl, ?_⟩; have n0_ := Aside0.mk (KeepBut.trans (by repeat (first | (with_reducible first | exact HK.out | apply KeepBut.set_ | apply keep_drewN | apply keep_drew | apply keep_alloc) | exact HK.out)) hk (.inl rfl)); have n1_ := Aside0.mk (hb); have n2_ := Aside0.mk (hi); clear HK; clear HB; clear HI0; have HK := n0_; have HB := n1_; have HI0 := n2_; clear n0_ n1_ n2_; (try clear hb); (try clear hb2); (try clear hk); (try clear hi)))
    go_ret
    exact ⟨by first | rfl | (simp [errW_none, errW_some] <;> rfl) | (simp [*, errW_none, errW_some] <;> rfl), by repeat (first | (with_reducible first | exact HI0.out | apply IsS73.alloc | apply IsS73.drewN | apply IsS73.drew | apply IsS73.set_1 | apply IsS73.set_2) | exact HI0.out), by repeat (first | (with_reducible first | exact HB.out | apply below_alloc | apply pw_below_drewN | apply below_drew1 | refine below_set ?_ (IsS73.ge HI0.out)) | exact HB.out), by repeat (first | (with_reducible first | exact HK.out | apply KeepBut.set_ | apply keep_drewN | apply keep_drew | apply keep_alloc) | exact HK.out)⟩

end Go.Proofs.Ytibfchjpdplehaa.G

-- Written by wip/tools/gen.py out of the translation (the kit's printer, one namespace a seat). Lean checks it.
namespace Go.Proofs.Ytibfchjpdplehaa.G
open Go.RowKit Go.Proofs.YtibfchjpdplehaaW.PrintWords Go.Proofs.YtibfchjpdplehaaW.PrintLast Go.Proofs.YtibfchjpdplehaaW.PrintMore
attribute [local go_sem] max2_int min2_int max_two min_two max_three min_three max_four min_four   -- for this text's walks alone
set_option linter.unusedVariables false
set_option linter.unusedSimpArgs false

/-! ### spec_l1Cur_one: function 69 -/
def spec_l1Cur_one.f (s0_0 : List Int) (s0_1 : Int) (s0_2 : Int) (a1 : Int) : Option (Bool × Int × Int) := (spec_l1Cur_pick.f s0_0 s0_1 s0_2 a1).bind fun bt583 => (some ((bt583.1 == 0), bt583.2.1, bt583.2.2))
set_option maxHeartbeats 8000000 in
set_option maxRecDepth 100000 in
theorem spec_l1Cur_one.calls (g : Nat) (s0_0 : List Int) (s0_1 : Int) (s0_2 : Int) (a1 : Int) (r1 : Bool) (r2 : Int) (r3 : Int) (w0 w : World) (hI : IsS73 w0 w g s0_0 s0_1 s0_2) (hB : Below w0.heap.size w0 w) (h : spec_l1Cur_one.f s0_0 s0_1 s0_2 a1 = some (r1, r2, r3)) :
  Calls Try.prog 69 #[.pointer (some ⟨g, 0, none⟩), .int .i64 a1] w fun e w' => e = .returned (.bool r1) ∧ IsS73 w0 w' g s0_0 r2 r3 ∧ Below w0.heap.size w0 w' ∧ KeepBut w w' g none := by
 have HI0 := Aside0.mk hI
 have HK := Aside0.mk (KeepBut.refl w g none)
 have HL := Aside0.mk hB.size
 clear hI
 have HW0 := Aside0.mk hB.size
 have HB := Aside0.mk hB
 clear hB
 have H : ((spec_l1Cur_pick.f s0_0 s0_1 s0_2 a1).bind fun bt583 => (some ((bt583.1 == 0), bt583.2.1, bt583.2.2))) = some (r1, r2, r3) := h
 clear h
 replace H := Option.bind_eq_some_iff.mp H
 obtain ⟨⟨t583, t584, t585⟩, A30, H⟩ := H
 replace H : (some ((t583 == 0), t584, t585)) = some (r1, r2, r3) := H
 have A3 := Aside0.mk A30
 clear A30
 simp only [Option.some.injEq, Prod.mk.injEq] at H
 obtain ⟨rfl, rfl, rfl⟩ := H
 go_enter Try.func69, Try.ntmps69
 go_wp2_with (first | ((with_reducible refine gate_callee (f := 67) rfl ?_); refine goesL_ (some 7) rfl rfl Try.func67 (by kernel_rfl) rfl #[.pointer (some ⟨g, 0, none⟩), .int .i64 a1] rfl (by (try simp only [List.map_toArray, List.map_cons, List.map_nil]); first | done | rfl | (simp only [List.length_drop, List.length_take]; rfl)) ?_; (with_reducible refine (spec_l1Cur_pick.calls g s0_0 s0_1 s0_2 a1 t583 t584 t585 w0 _ ?side1 ?side2 A3.out).mono ?_); (case side1 => repeat (first | (with_reducible first | exact HI0.out | apply IsS73.alloc | apply IsS73.drewN | apply IsS73.drew | apply IsS73.set_1 | apply IsS73.set_2) | exact HI0.out)); (case side2 => repeat (first | (with_reducible first | exact HB.out | apply below_alloc | apply pw_below_drewN | apply below_drew1 | refine below_set ?_ (IsS73.ge HI0.out)) | exact HB.out)); rintro e w4 ⟨rfl, hi, hb, hk⟩; refine ⟨_, rfl, ?_⟩; have n0_ := Aside0.mk (KeepBut.trans (by repeat (first | (with_reducible first | exact HK.out | apply KeepBut.set_ | apply keep_drewN | apply keep_drew | apply keep_alloc) | exact HK.out)) hk (.inl rfl)); have n1_ := Aside0.mk (hb); have n2_ := Aside0.mk (hi); clear HK; clear HB; clear HI0; have HK := n0_; have HB := n1_; have HI0 := n2_; clear n0_ n1_ n2_; (try clear hb); (try clear hb2); (try clear hk); (try clear hi)))
 go_ret
 exact ⟨by first | rfl | (simp [errW_none, errW_some] <;> rfl) | (simp [*, errW_none, errW_some] <;> rfl), by repeat (first | (with_reducible first | exact HI0.out | apply IsS73.alloc | apply IsS73.drewN | apply IsS73.drew | apply IsS73.set_1 | apply IsS73.set_2) | exact HI0.out), by repeat (first | (with_reducible first | exact HB.out | apply below_alloc | apply pw_below_drewN | apply below_drew1 | refine below_set ?_ (IsS73.ge HI0.out)) | exact HB.out), by repeat (first | (with_reducible first | exact HK.out | apply KeepBut.set_ | apply keep_drewN | apply keep_drew | apply keep_alloc) | exact HK.out)⟩

end Go.Proofs.Ytibfchjpdplehaa.G

-- Written by wip/tools/gen.py out of the translation (the kit's printer, one namespace a seat). Lean checks it.
namespace Go.Proofs.Ytibfchjpdplehaa.G
open Go.RowKit Go.Proofs.YtibfchjpdplehaaW.PrintWords Go.Proofs.YtibfchjpdplehaaW.PrintLast Go.Proofs.YtibfchjpdplehaaW.PrintMore
attribute [local go_sem] max2_int min2_int max_two min_two max_three min_three max_four min_four   -- for this text's walks alone
set_option linter.unusedVariables false
set_option linter.unusedSimpArgs false

/-! ### spec_l1Cur_among: function 75 -/
def spec_l1Cur_among.f (s0_0 : List Int) (s0_1 : Int) (s0_2 : Int) (l1 : List Int) : Option (Int × Int × Int) := (spec_l1Cur_pick.f s0_0 s0_1 s0_2 (l1.length : Int)).bind fun bt545 => (if 0 ≤ bt545.1 then (if bt545.1 < (l1.length : Int) then (some (rd l1 bt545.1, bt545.2.1, bt545.2.2)) else (none)) else (none))
set_option maxHeartbeats 8000000 in
set_option maxRecDepth 100000 in
theorem spec_l1Cur_among.calls (g : Nat) (s0_0 : List Int) (s0_1 : Int) (s0_2 : Int) (A1 : Option Addr) (c1 : Nat) (l1 : List Int) (r1 : Int) (r2 : Int) (r3 : Int) (w0 w : World) (hI : IsS73 w0 w g s0_0 s0_1 s0_2) (hB : Below w0.heap.size w0 w) (hr1 : Kd.C (Kd.int .i64) w A1 l1.length l1) (hc1 : l1.length ≤ c1) (hf1 : ∀ ad, A1 = some ad → 0 < l1.length → ad.block ≠ g) (h : spec_l1Cur_among.f s0_0 s0_1 s0_2 l1 = some (r1, r2, r3)) :
  Calls Try.prog 75 #[.pointer (some ⟨g, 0, none⟩), .slice A1 l1.length c1] w fun e w' => e = .returned (.int .i64 r1) ∧ IsS73 w0 w' g s0_0 r2 r3 ∧ Below w0.heap.size w0 w' ∧ KeepBut w w' g none := by
 have HR1 := Aside0.mk hr1
 have HC1 := Aside0.mk hc1
 clear hr1 hc1
 have HI0 := Aside0.mk hI
 have HK := Aside0.mk (KeepBut.refl w g none)
 have HL := Aside0.mk hB.size
 clear hI
 have HW0 := Aside0.mk hB.size
 have HB := Aside0.mk hB
 clear hB
 have H : ((spec_l1Cur_pick.f s0_0 s0_1 s0_2 (l1.length : Int)).bind fun bt545 => (if 0 ≤ bt545.1 then (if bt545.1 < (l1.length : Int) then (some (rd l1 bt545.1, bt545.2.1, bt545.2.2)) else (none)) else (none))) = some (r1, r2, r3) := h
 clear h
 replace H := Option.bind_eq_some_iff.mp H
 obtain ⟨⟨t545, t546, t547⟩, A30, H⟩ := H
 replace H : (if 0 ≤ t545 then (if t545 < (l1.length : Int) then (some (rd l1 t545, t546, t547)) else (none)) else (none)) = some (r1, r2, r3) := H
 have A3 := Aside0.mk A30
 clear A30
 by_cases c4 : 0 ≤ t545
 ·rw [if_pos c4] at H
  have c4b0 : decide (0 ≤ t545) = true := decide_eq_true c4
  clear c4
  by_cases c5 : t545 < (l1.length : Int)
  ·rw [if_pos c5] at H
   have c5b0 : decide (t545 < (l1.length : Int)) = true := decide_eq_true c5
   clear c5
   simp only [Option.some.injEq, Prod.mk.injEq] at H
   obtain ⟨rfl, rfl, rfl⟩ := H
   go_enter Try.func75, Try.ntmps75
   go_wp2_with (first | ((with_reducible refine gate_callee (f := 67) rfl ?_); refine goesL_ (some 9) rfl rfl Try.func67 (by kernel_rfl) rfl #[.pointer (some ⟨g, 0, none⟩), .int .i64 (l1.length : Int)] rfl (by (try simp only [List.map_toArray, List.map_cons, List.map_nil]); first | done | rfl | (simp only [List.length_drop, List.length_take]; rfl)) ?_; (with_reducible refine (spec_l1Cur_pick.calls g s0_0 s0_1 s0_2 (l1.length : Int) t545 t546 t547 w0 _ ?side1 ?side2 A3.out).mono ?_); (case side1 => repeat (first | (with_reducible first | exact HI0.out | apply IsS73.alloc | apply IsS73.drewN | apply IsS73.drew | apply IsS73.set_1 | apply IsS73.set_2) | exact HI0.out)); (case side2 => repeat (first | (with_reducible first | exact HB.out | apply below_alloc | apply pw_below_drewN | apply below_drew1 | refine below_set ?_ (IsS73.ge HI0.out)) | exact HB.out)); rintro e w6 ⟨rfl, hi, hb, hk⟩; refine ⟨_, rfl, ?_⟩; have n0_ := Aside0.mk (KeepBut.trans (by repeat (first | (with_reducible first | exact HK.out | apply KeepBut.set_ | apply keep_drewN | apply keep_drew | apply keep_alloc) | exact HK.out)) hk (.inl rfl)); have n1_ := Aside0.mk (hb); have n2_ := Aside0.mk (hi); clear HK; clear HB; clear HI0; have HK := n0_; have HB := n1_; have HI0 := n2_; clear n0_ n1_ n2_; (try clear hb); (try clear hb2); (try clear hk); (try clear hi); have p548 : 0 ≤ (t545 : Int) := of_decide_eq_true (by first | (with_reducible assumption) | assumption); have q548 : t545 < (l1.length : Int) := of_decide_eq_true (by first | (with_reducible assumption) | assumption); obtain ⟨ad548, e548, hx548_0⟩ := Kd.at_int HR1.out t545 p548 q548; cases e548; replace hx548_0 := keep_cell HK.out hx548_0 (by first | (rw [add_block]; exact hf1 _ rfl (by omega)) | exact hf1 _ rfl (by omega) | exact hf1 ad548 rfl (by omega)); replace p548 := eq_true p548; replace q548 := eq_true q548))
   go_ret
   exact ⟨by first | rfl | (simp [errW_none, errW_some] <;> rfl) | (simp [*, errW_none, errW_some] <;> rfl), by repeat (first | (with_reducible first | exact HI0.out | apply IsS73.alloc | apply IsS73.drewN | apply IsS73.drew | apply IsS73.set_1 | apply IsS73.set_2) | exact HI0.out), by repeat (first | (with_reducible first | exact HB.out | apply below_alloc | apply pw_below_drewN | apply below_drew1 | refine below_set ?_ (IsS73.ge HI0.out)) | exact HB.out), by repeat (first | (with_reducible first | exact HK.out | apply KeepBut.set_ | apply keep_drewN | apply keep_drew | apply keep_alloc) | exact HK.out)⟩
  ·rw [if_neg c5] at H
   exact absurd H (by simp)
 ·rw [if_neg c4] at H
  exact absurd H (by simp)

end Go.Proofs.Ytibfchjpdplehaa.G

-- Written by wip/tools/gen.py out of the translation (the kit's printer, one namespace a seat). Lean checks it.
namespace Go.Proofs.Ytibfchjpdplehaa.G
open Go.RowKit Go.Proofs.YtibfchjpdplehaaW.PrintWords Go.Proofs.YtibfchjpdplehaaW.PrintLast Go.Proofs.YtibfchjpdplehaaW.PrintMore
attribute [local go_sem] max2_int min2_int max_two min_two max_three min_three max_four min_four   -- for this text's walks alone
set_option linter.unusedVariables false
set_option linter.unusedSimpArgs false

/-! ### spec_l1Cur_work: function 66 -/
mutual
def spec_l1Cur_work.l0 : Nat → List Int → Int → List Int → Int → Int → Option (List Int × Int × Int)
 | 0, _, _, _, _, _ => none
 | k + 1, x3, x4, x1000, x1001, x1002 => if x4 > 0 then ((spec_l1Cur_among.f x1000 x1001 x1002 (([0, 10, 20, 35, 60, 120, 300] : List Int))).bind fun bt558 => (if x3.length < 17592186044416 then (spec_l1Cur_work.l0 k (x3 ++ [bt558.1]) (wrap64 (x4 - 1)) x1000 bt558.2.1 bt558.2.2) else (none))) else ((spec_l1Cur_pick.f x1000 x1001 x1002 24).bind fun bt564 => (if bt564.1 = 0 then ((spec_l1Cur_among.f x1000 bt564.2.1 bt564.2.2 (([(-1), 301, 300] : List Int))).bind fun bt570 => (if 0 < (x3.length : Int) then (some ((x3.set (0 : Int).toNat bt570.1), bt570.2.1, bt570.2.2)) else (none))) else (if bt564.1 = 1 then (some ((([] : List Int)), bt564.2.1, bt564.2.2)) else (if bt564.1 = 2 then (spec_l1Cur_work.l1 k x3 0 x1000 bt564.2.1 bt564.2.2) else (some (x3, bt564.2.1, bt564.2.2))))))
def spec_l1Cur_work.l1 : Nat → List Int → Int → List Int → Int → Int → Option (List Int × Int × Int)
 | 0, _, _, _, _, _ => none
 | k + 1, x3, x5, x1000, x1001, x1002 => (spec_l1Cur_pick.f x1000 x1001 x1002 2).bind fun bt577 => (if (x3.length : Int) < (wrap64 (10 + bt577.1)) then (if x5 < 12 then (if x3.length < 17592186044416 then (spec_l1Cur_work.l1 k (x3 ++ [15]) (wrap64 (x5 + 1)) x1000 bt577.2.1 bt577.2.2) else (none)) else (some (x3, bt577.2.1, bt577.2.2))) else (some (x3, bt577.2.1, bt577.2.2)))
end
def spec_l1Cur_work.f (k : Nat) (s0_0 : List Int) (s0_1 : Int) (s0_2 : Int) : Option (List Int × Int × Int) := (spec_l1Cur_pick.f s0_0 s0_1 s0_2 8).bind fun bt552 => (spec_l1Cur_work.l0 k (([] : List Int)) (wrap64 (1 + bt552.1)) s0_0 bt552.2.1 bt552.2.2)
theorem spec_l1Cur_work.mono_l : ∀ k, (∀ y0 y1 y2 y3 y4, LeO (spec_l1Cur_work.l0 k y0 y1 y2 y3 y4) (spec_l1Cur_work.l0 (k + 1) y0 y1 y2 y3 y4)) ∧ (∀ y0 y1 y2 y3 y4, LeO (spec_l1Cur_work.l1 k y0 y1 y2 y3 y4) (spec_l1Cur_work.l1 (k + 1) y0 y1 y2 y3 y4))
 | 0 => ⟨fun _ _ _ _ _ r h => by simp [spec_l1Cur_work.l0] at h, fun _ _ _ _ _ r h => by simp [spec_l1Cur_work.l1] at h⟩
 | k + 1 => by
  obtain ⟨ih0, ih1⟩ := spec_l1Cur_work.mono_l k
  refine ⟨?_, ?_⟩
  ·intro y0 y1 y2 y3 y4
   unfold spec_l1Cur_work.l0
   repeat' first
   | (with_reducible exact ih0 _ _ _ _ _)
   | (with_reducible exact ih1 _ _ _ _ _)
   | (with_reducible exact LeO.refl _)
   | (with_reducible exact LeO.none _)
   | (with_reducible refine LeO.ite ?_ ?_)
   | (with_reducible refine LeO.bind ?_ (fun _ => ?_))
   | exact ih0 _ _ _ _ _
   | exact ih1 _ _ _ _ _
   | exact LeO.none _
   | refine LeO.ite ?_ ?_
   | refine LeO.bind ?_ (fun _ => ?_)
  ·intro y0 y1 y2 y3 y4
   unfold spec_l1Cur_work.l1
   repeat' first
   | (with_reducible exact ih0 _ _ _ _ _)
   | (with_reducible exact ih1 _ _ _ _ _)
   | (with_reducible exact LeO.refl _)
   | (with_reducible exact LeO.none _)
   | (with_reducible refine LeO.ite ?_ ?_)
   | (with_reducible refine LeO.bind ?_ (fun _ => ?_))
   | exact ih0 _ _ _ _ _
   | exact ih1 _ _ _ _ _
   | exact LeO.none _
   | refine LeO.ite ?_ ?_
   | refine LeO.bind ?_ (fun _ => ?_)
theorem spec_l1Cur_work.mono : ∀ a0 a1 a2 k, LeO (spec_l1Cur_work.f k a0 a1 a2) (spec_l1Cur_work.f (k + 1) a0 a1 a2) := by
 intro a0 a1 a2 k
 obtain ⟨ih0, ih1⟩ := spec_l1Cur_work.mono_l k
 unfold spec_l1Cur_work.f
 repeat' first
   | (with_reducible exact ih0 _ _ _ _ _)
   | (with_reducible exact ih1 _ _ _ _ _)
   | (with_reducible exact LeO.refl _)
   | (with_reducible exact LeO.none _)
   | (with_reducible refine LeO.ite ?_ ?_)
   | (with_reducible refine LeO.bind ?_ (fun _ => ?_))
   | exact ih0 _ _ _ _ _
   | exact ih1 _ _ _ _ _
   | exact LeO.none _
   | refine LeO.ite ?_ ?_
   | refine LeO.bind ?_ (fun _ => ?_)
set_option maxHeartbeats 8000000 in
set_option maxRecDepth 100000 in
theorem spec_l1Cur_work.calls (k : Nat) (g : Nat) (s0_0 : List Int) (s0_1 : Int) (s0_2 : Int) (r1 : List Int) (r2 : Int) (r3 : Int) (w0 w : World) (hI : IsS73 w0 w g s0_0 s0_1 s0_2) (hB : Below w0.heap.size w0 w) (h : spec_l1Cur_work.f k s0_0 s0_1 s0_2 = some (r1, r2, r3)) :
  Calls Try.prog 66 #[.pointer (some ⟨g, 0, none⟩)] w fun e w' => ∃ v0_ : Value, e = .returned (v0_) ∧ Kd.R (Kd.int .i64) 3 w' w.heap.size (fun _ => True) v0_ r1 ∧ IsS73 w0 w' g s0_0 r2 r3 ∧ Below w0.heap.size w0 w' ∧ KeepBut w w' g none := by
 have HI0 := Aside0.mk hI
 have HK := Aside0.mk (KeepBut.refl w g none)
 have HL := Aside0.mk hB.size
 clear hI
 have HW0 := Aside0.mk hB.size
 have HB := Aside0.mk hB
 clear hB
 have H : ((spec_l1Cur_pick.f s0_0 s0_1 s0_2 8).bind fun bt552 => (spec_l1Cur_work.l0 k (([] : List Int)) (wrap64 (1 + bt552.1)) s0_0 bt552.2.1 bt552.2.2)) = some (r1, r2, r3) := h
 clear h
 obtain ⟨y549, hy549⟩ : ∃ y_ : List Int, y_ = (([] : List Int)) := ⟨_, rfl⟩
 replace H : ((spec_l1Cur_pick.f s0_0 s0_1 s0_2 8).bind fun bt552 => (spec_l1Cur_work.l0 k y549 (wrap64 (1 + bt552.1)) s0_0 bt552.2.1 bt552.2.2)) = some (r1, r2, r3) := by first | (rw [hy549]; with_reducible exact H) | (have H2_ := (Option.bind_some _ _).symm.trans H; rw [hy549]; with_reducible exact H2_) | (have H2_ := (Option.bind_some _ _).symm.trans H; with_reducible exact H2_) | with_reducible exact H | (rw [hy549]; exact H) | exact H
 have Ny549 := Aside0.mk hy549
 clear hy549
 replace H := Option.bind_eq_some_iff.mp H
 obtain ⟨⟨t552, t553, t554⟩, A20, H⟩ := H
 replace H : (spec_l1Cur_work.l0 k y549 (wrap64 (1 + t552)) s0_0 t553 t554) = some (r1, r2, r3) := H
 have A2 := Aside0.mk A20
 clear A20
 have H' := Aside0.mk H
 clear H
 go_enter Try.func66, Try.ntmps66
 go_wp2_with (first | ((with_reducible refine gate_dst (N := 6) rfl ?_); refine Kd.R_lit (Kd.int .i64) _ 3 ?hg (N := 6) ?hd (xs := ([] : List Int)) (inner := []) (ok := fun _ => True) (okp := fun _ => True) ?hr ?hp (fun _ hk => hk) trivial (Below.refl _ _) (Nat.le_refl _) (by simp) ?_; (case hd => rfl); (case hg => rfl); (case hr => first | (go_simp; done) | (go_simp; rfl)); (case hp => exact (Reps.none _ _)); intro v550 w3 ho4 hb hg_ hnew_; clear hg_ hnew_; (first | rw [← Ny549.out] at ho4 | (simp only [Int.reduceToNat] at ho4; rw [← Ny549.out] at ho4)); have n0_ := Aside0.mk (Kd.R_lower ho4 (keep_size (w := w) (g := g) (row := none) (by repeat (first | (with_reducible first | exact HK.out | apply KeepBut.set_ | apply keep_drewN | apply keep_drew | apply keep_alloc) | exact HK.out)))); have n1_ := Aside0.mk (IsS73.below (by repeat (first | (with_reducible first | exact HI0.out | apply IsS73.alloc | apply IsS73.drewN | apply IsS73.drew | apply IsS73.set_1 | apply IsS73.set_2) | exact HI0.out)) hb); have n2_ := Aside0.mk (KeepBut.trans (by repeat (first | (with_reducible first | exact HK.out | apply KeepBut.set_ | apply keep_drewN | apply keep_drew | apply keep_alloc) | exact HK.out)) (KeepBut.of_below hb g none) (.inl rfl)); have n3_ := Aside0.mk (below_step (by repeat (first | (with_reducible first | exact HB.out | apply below_alloc | apply pw_below_drewN | apply below_drew1 | refine below_set ?_ (IsS73.ge HI0.out)) | exact HB.out)) hb); clear HI0; clear HK; clear HB; have HO551 := n0_; have HI0 := n1_; have HK := n2_; have HB := n3_; clear n0_ n1_ n2_ n3_; clear hb ho4) | ((with_reducible refine gate_callee (f := 67) rfl ?_); refine goesL_ (some 8) rfl rfl Try.func67 (by kernel_rfl) rfl #[.pointer (some ⟨g, 0, none⟩), .int .i64 8] rfl (by (try simp only [List.map_toArray, List.map_cons, List.map_nil]); first | done | rfl | (simp only [List.length_drop, List.length_take]; rfl)) ?_; (with_reducible refine (spec_l1Cur_pick.calls g s0_0 s0_1 s0_2 8 t552 t553 t554 w0 _ ?side1 ?side2 A2.out).mono ?_); (case side1 => repeat (first | (with_reducible first | exact HI0.out | apply IsS73.alloc | apply IsS73.drewN | apply IsS73.drew | apply IsS73.set_1 | apply IsS73.set_2) | exact HI0.out)); (case side2 => repeat (first | (with_reducible first | exact HB.out | apply below_alloc | apply pw_below_drewN | apply below_drew1 | refine below_set ?_ (IsS73.ge HI0.out)) | exact HB.out)); rintro e w5 ⟨rfl, hi, hb, hk⟩; refine ⟨_, rfl, ?_⟩; have n0_ := Aside0.mk (Kd.R_mono (Kd.R_keep (IsS73.apart (show IsS73 w0 _ g s0_0 s0_1 s0_2 from by repeat (first | (with_reducible first | exact HI0.out | apply IsS73.alloc | apply IsS73.drewN | apply IsS73.drew | apply IsS73.set_1 | apply IsS73.set_2) | exact HI0.out)) (by (with_reducible repeat (first | apply Kd.R_alloc | apply Kd.R_drewN | apply Kd.R_drew)); exact HO551.out) (by decide)) hk (fun _ h => h.2)) (fun _ h => h.1)); have n1_ := Aside0.mk (KeepBut.trans (by repeat (first | (with_reducible first | exact HK.out | apply KeepBut.set_ | apply keep_drewN | apply keep_drew | apply keep_alloc) | exact HK.out)) hk (.inl rfl)); have n2_ := Aside0.mk (hb); have n3_ := Aside0.mk (hi); clear HO551; clear HK; clear HB; clear HI0; have HO551 := n0_; have HK := n1_; have HB := n2_; have HI0 := n3_; clear n0_ n1_ n2_ n3_; (try clear hb); (try clear hb2); (try clear hk); (try clear hi)))
 go_loopg [3, 4] k (fun kq v3 v4 w' => ∃ (x3_1 : List Int) (x4_1 : Int) (x1001_1 : Int) (x1002_1 : Int), v4 = .int .i64 x4_1 ∧ Aside0 (spec_l1Cur_work.l0 kq x3_1 x4_1 s0_0 x1001_1 x1002_1 = some (r1, r2, r3)) ∧ Aside0 (kq ≤ k) ∧ Aside0 (Kd.R (Kd.int .i64) 3 w' w.heap.size (fun _ => True) v3 x3_1) ∧ Aside0 (IsS73 w0 w' g s0_0 x1001_1 x1002_1) ∧ Aside0 (KeepBut w w' g none) ∧ Aside0 (Below w0.heap.size w0 w'))
 case atStart => exact ⟨(y549), (wrap64 (1 + t552)), (t553), (t554), (by first | rfl | (simp; done) | (simp [*]; done)), H', ⟨Nat.le_refl _⟩, ⟨by (with_reducible repeat (first | apply Kd.R_alloc | apply Kd.R_drewN | apply Kd.R_drew)); exact HO551.out⟩, ⟨by repeat (first | (with_reducible first | exact HI0.out | apply IsS73.alloc | apply IsS73.drewN | apply IsS73.drew | apply IsS73.set_1 | apply IsS73.set_2) | exact HI0.out)⟩, ⟨by repeat (first | (with_reducible first | exact HK.out | apply KeepBut.set_ | apply keep_drewN | apply keep_drew | apply keep_alloc) | exact HK.out)⟩, ⟨by repeat (first | (with_reducible first | exact HB.out | apply below_alloc | apply pw_below_drewN | apply below_drew1 | refine below_set ?_ (IsS73.ge HI0.out)) | exact HB.out)⟩⟩
 case round =>
  clear H'
  try clear p2
  obtain ⟨x3_1, x4_1, x1001_1, x1002_1, rfl, HA, HK1, HO_3, HI0, HK, HB⟩ := hrel
  cases gk with
  | zero => exact absurd HA.out (by simp [spec_l1Cur_work.l0])
  | succ k1 =>
   have H := HA.out
   clear HA
   simp only [spec_l1Cur_work.l0] at H
   by_cases c6 : x4_1 > 0
   ·rw [if_pos c6] at H
    have c6b0 : decide (0 < x4_1) = true := decide_eq_true c6
    clear c6
    obtain ⟨y555, hy555⟩ : ∃ y_ : List Int, y_ = (([0, 10, 20, 35, 60, 120, 300] : List Int)) := ⟨_, rfl⟩
    replace H : ((spec_l1Cur_among.f s0_0 x1001_1 x1002_1 y555).bind fun bt558 => (if x3_1.length < 17592186044416 then (spec_l1Cur_work.l0 k1 (x3_1 ++ [bt558.1]) (wrap64 (x4_1 - 1)) s0_0 bt558.2.1 bt558.2.2) else (none))) = some (r1, r2, r3) := by first | (rw [hy555]; with_reducible exact H) | (have H2_ := (Option.bind_some _ _).symm.trans H; rw [hy555]; with_reducible exact H2_) | (have H2_ := (Option.bind_some _ _).symm.trans H; with_reducible exact H2_) | with_reducible exact H | (rw [hy555]; exact H) | exact H
    have Ny555 := Aside0.mk hy555
    clear hy555
    replace H := Option.bind_eq_some_iff.mp H
    obtain ⟨⟨t558, t559, t560⟩, A70, H⟩ := H
    replace H : (if x3_1.length < 17592186044416 then (spec_l1Cur_work.l0 k1 (x3_1 ++ [t558]) (wrap64 (x4_1 - 1)) s0_0 t559 t560) else (none)) = some (r1, r2, r3) := H
    have A7 := Aside0.mk A70
    clear A70
    by_cases c8 : x3_1.length < 17592186044416
    ·rw [if_pos c8] at H
     have LMc8 := Aside0.mk c8
     clear c8
     obtain ⟨y561, hy561⟩ : ∃ y_ : List Int, y_ = (x3_1 ++ [t558]) := ⟨_, rfl⟩
     replace H : (spec_l1Cur_work.l0 k1 y561 (wrap64 (x4_1 - 1)) s0_0 t559 t560) = some (r1, r2, r3) := by first | (rw [hy561]; with_reducible exact H) | (have H2_ := (Option.bind_some _ _).symm.trans H; rw [hy561]; with_reducible exact H2_) | (have H2_ := (Option.bind_some _ _).symm.trans H; with_reducible exact H2_) | with_reducible exact H | (rw [hy561]; exact H) | exact H
     have Ny561 := Aside0.mk hy561
     clear hy561
     have H' := Aside0.mk H
     clear H
     go_wp2_with (first | ((with_reducible refine gate_dst (N := 16) rfl ?_); refine Kd.R_lit (Kd.int .i64) _ 3 ?hg (N := 16) ?hd (xs := ([0, 10, 20, 35, 60, 120, 300] : List Int)) (inner := [.int .i64 0, .int .i64 10, .int .i64 20, .int .i64 35, .int .i64 60, .int .i64 120, .int .i64 300]) (ok := fun _ => True) (okp := fun _ => True) ?hr ?hp (fun _ hk => hk) trivial (Below.refl _ _) (Nat.le_refl _) (by simp) ?_; (case hd => rfl); (case hg => rfl); (case hr => first | (go_simp; done) | (go_simp; rfl)); (case hp => exact (Reps.one (show Kd.M (Kd.int .i64) _ _ _ 0 [.int .i64 0] from rfl) (Reps.one (show Kd.M (Kd.int .i64) _ _ _ 10 [.int .i64 10] from rfl) (Reps.one (show Kd.M (Kd.int .i64) _ _ _ 20 [.int .i64 20] from rfl) (Reps.one (show Kd.M (Kd.int .i64) _ _ _ 35 [.int .i64 35] from rfl) (Reps.one (show Kd.M (Kd.int .i64) _ _ _ 60 [.int .i64 60] from rfl) (Reps.one (show Kd.M (Kd.int .i64) _ _ _ 120 [.int .i64 120] from rfl) (Reps.one (show Kd.M (Kd.int .i64) _ _ _ 300 [.int .i64 300] from rfl) (Reps.none _ _))))))))); intro v556 w9 ho10 hb hg_ hnew_; clear hg_ hnew_; (first | rw [← Ny555.out] at ho10 | (simp only [Int.reduceToNat] at ho10; rw [← Ny555.out] at ho10)); have n0_ := Aside0.mk (Kd.R_elder' (by (with_reducible repeat (first | apply Kd.R_alloc | apply Kd.R_drewN | apply Kd.R_drew)); exact HO_3.out) (Kd.R_base ho10) hb); have n1_ := Aside0.mk (Kd.R_lower (Kd.R_new' ho10 (Kd.R_lt (by (with_reducible repeat (first | apply Kd.R_alloc | apply Kd.R_drewN | apply Kd.R_drew)); exact HO_3.out))) (keep_size (w := w) (g := g) (row := none) (by repeat (first | (with_reducible first | exact HK.out | apply KeepBut.set_ | apply keep_drewN | apply keep_drew | apply keep_alloc) | exact HK.out)))); have n2_ := Aside0.mk (IsS73.below (by repeat (first | (with_reducible first | exact HI0.out | apply IsS73.alloc | apply IsS73.drewN | apply IsS73.drew | apply IsS73.set_1 | apply IsS73.set_2) | exact HI0.out)) hb); have n3_ := Aside0.mk (KeepBut.trans (by repeat (first | (with_reducible first | exact HK.out | apply KeepBut.set_ | apply keep_drewN | apply keep_drew | apply keep_alloc) | exact HK.out)) (KeepBut.of_below hb g none) (.inl rfl)); have n4_ := Aside0.mk (below_step (by repeat (first | (with_reducible first | exact HB.out | apply below_alloc | apply pw_below_drewN | apply below_drew1 | refine below_set ?_ (IsS73.ge HI0.out)) | exact HB.out)) hb); clear HO_3; clear HI0; clear HK; clear HB; have HO_3 := n0_; have HO557 := n1_; have HI0 := n2_; have HK := n3_; have HB := n4_; clear n0_ n1_ n2_ n3_ n4_; clear hb ho10; obtain ⟨Ao11, co11, eo11⟩ := Kd.R_slice HO557.out; subst eo11) | ((with_reducible refine gate_callee (f := 75) rfl ?_); refine goesL_ (some 17) rfl rfl Try.func75 (by kernel_rfl) rfl #[.pointer (some ⟨g, 0, none⟩), .slice Ao11 y555.length co11] rfl (by (try simp only [List.map_toArray, List.map_cons, List.map_nil]); first | done | rfl | (simp only [List.length_drop, List.length_take]; rfl)) ?_; (with_reducible refine (spec_l1Cur_among.calls g s0_0 x1001_1 x1002_1 _ _ y555 t558 t559 t560 w0 _ ?side1 ?side2 ?side3 ?side4 ?side5 A7.out).mono ?_); (case side1 => repeat (first | (with_reducible first | exact HI0.out | apply IsS73.alloc | apply IsS73.drewN | apply IsS73.drew | apply IsS73.set_1 | apply IsS73.set_2) | exact HI0.out)); (case side2 => repeat (first | (with_reducible first | exact HB.out | apply below_alloc | apply pw_below_drewN | apply below_drew1 | refine below_set ?_ (IsS73.ge HI0.out)) | exact HB.out)); (case side3 => repeat (first | exact (Kd.R_reads' HO557.out).2.2 | (with_reducible refine Kd.C_alloc ?_ _) | (with_reducible refine Kd.C_drewN ?_ _) | (with_reducible refine Kd.C_drew ?_))); (case side4 => exact (Kd.R_reads' HO557.out).2.1); (case side5 => exact far_slice (IsS73.own_ne HI0.out HO557.out (by decide))); rintro e w12 ⟨rfl, hi, hb, hk⟩; refine ⟨_, rfl, ?_⟩; have n0_ := Aside0.mk (Kd.R_mono (Kd.R_keep (IsS73.apart (show IsS73 w0 _ g s0_0 x1001_1 x1002_1 from by repeat (first | (with_reducible first | exact HI0.out | apply IsS73.alloc | apply IsS73.drewN | apply IsS73.drew | apply IsS73.set_1 | apply IsS73.set_2) | exact HI0.out)) (by (with_reducible repeat (first | apply Kd.R_alloc | apply Kd.R_drewN | apply Kd.R_drew)); exact HO_3.out) (by decide)) hk (fun _ h => h.2)) (fun _ h => h.1)); have n1_ := Aside0.mk (Kd.R_mono (Kd.R_keep (IsS73.apart (show IsS73 w0 _ g s0_0 x1001_1 x1002_1 from by repeat (first | (with_reducible first | exact HI0.out | apply IsS73.alloc | apply IsS73.drewN | apply IsS73.drew | apply IsS73.set_1 | apply IsS73.set_2) | exact HI0.out)) (by (with_reducible repeat (first | apply Kd.R_alloc | apply Kd.R_drewN | apply Kd.R_drew)); exact HO557.out) (by decide)) hk (fun _ h => h.2)) (fun _ h => h.1)); have n2_ := Aside0.mk (KeepBut.trans (by repeat (first | (with_reducible first | exact HK.out | apply KeepBut.set_ | apply keep_drewN | apply keep_drew | apply keep_alloc) | exact HK.out)) hk (.inl rfl)); have n3_ := Aside0.mk (hb); have n4_ := Aside0.mk (hi); clear HO_3; clear HO557; clear HK; clear HB; clear HI0; have HO_3 := n0_; have HO557 := n1_; have HK := n2_; have HB := n3_; have HI0 := n4_; clear n0_ n1_ n2_ n3_ n4_; (try clear hb); (try clear hb2); (try clear hk); (try clear hi)) | ((with_reducible refine gate_builtin (b := .append) (xs := #[.tmp 14, .tmp 18]) rfl ?_); at_builtin; refine Kd.R_append (Kd.int .i64) w.heap.size rfl (.tmp 14) (.tmp 18) 22 3 (.int .i64 0) 8 rfl Try.underlying22 info3 rfl (by decide) (by omega) u3 x3_1 t558 [.int .i64 t558] (fun k_ => some k_ ≠ (.slice Ao11 y555.length co11 : Value).ownBlock) (fun _ => False) rfl rfl ?aP (fun _ hk => hk.elim) ?aF ?aO (Below.refl _ _) ?aS ?aL ?_; (case aP => exact rfl); (case aF => exact (fun k_ hk => Kd.fresh' (Kd.R_lt (by (with_reducible repeat (first | apply Kd.R_alloc | apply Kd.R_drewN | apply Kd.R_drew)); exact HO557.out)) k_ hk)); (case aO => exact (by (with_reducible repeat (first | apply Kd.R_alloc | apply Kd.R_drewN | apply Kd.R_drew)); exact Kd.R_mono HO_3.out (fun _ hk => hk.2))); (case aS => exact (keep_size (w := w) (g := g) (row := none) (by repeat (first | (with_reducible first | exact HK.out | apply KeepBut.set_ | apply keep_drewN | apply keep_drew | apply keep_alloc) | exact HK.out)))); (case aL => have := LMc8.out; omega); intro v562 w13 ho hb hg hat; rw [← Ny561.out] at ho; have n0_ := Aside0.mk (IsS73.grown (by repeat (first | (with_reducible first | exact HI0.out | apply IsS73.alloc | apply IsS73.drewN | apply IsS73.drew | apply IsS73.set_1 | apply IsS73.set_2) | exact HI0.out)) hg (IsS73.own_ne HI0.out HO_3.out (by decide))); have n1_ := Aside0.mk (Kd.R_after (ok := (fun _ => True)) (by (with_reducible repeat (first | apply Kd.R_alloc | apply Kd.R_drewN | apply Kd.R_drew)); exact HO557.out) hg hat); have n2_ := Aside0.mk (below_weaken (by repeat (first | (with_reducible first | exact HB.out | apply below_alloc | apply pw_below_drewN | apply below_drew1 | refine below_set ?_ (IsS73.ge HI0.out)) | exact HB.out)) HL.out hb); have n3_ := Aside0.mk (KeepBut.trans (by repeat (first | (with_reducible first | exact HK.out | apply KeepBut.set_ | apply keep_drewN | apply keep_drew | apply keep_alloc) | exact HK.out)) (KeepBut.of_grown hg g) (Kd.R_base2 HO_3.out)); have n4_ := Aside0.mk (ho); clear HI0; clear HO557; clear HB; clear HK; clear HO_3; have HI0 := n0_; have HO557 := n1_; have HB := n2_; have HK := n3_; have HO563 := n4_; clear n0_ n1_ n2_ n3_ n4_; clear ho hb hg hat))
     go_roundg k1
     case measure => have := HK1.out; omega
     case rel => exact ⟨(y561), (wrap64 (x4_1 - 1)), (t559), (t560), (by first | rfl | (simp; done) | (simp [*]; done)), H', ⟨by have := HK1.out; omega⟩, ⟨by (with_reducible repeat (first | apply Kd.R_alloc | apply Kd.R_drewN | apply Kd.R_drew)); exact Kd.R_mono HO563.out (fun _ hk => trivial)⟩, ⟨by repeat (first | (with_reducible first | exact HI0.out | apply IsS73.alloc | apply IsS73.drewN | apply IsS73.drew | apply IsS73.set_1 | apply IsS73.set_2) | exact HI0.out)⟩, ⟨by repeat (first | (with_reducible first | exact HK.out | apply KeepBut.set_ | apply keep_drewN | apply keep_drew | apply keep_alloc) | exact HK.out)⟩, ⟨by repeat (first | (with_reducible first | exact HB.out | apply below_alloc | apply pw_below_drewN | apply below_drew1 | refine below_set ?_ (IsS73.ge HI0.out)) | exact HB.out)⟩⟩
    ·rw [if_neg c8] at H
     exact absurd H (by simp)
   ·rw [if_neg c6] at H
    have c6b0 : decide (0 < x4_1) = false := decide_eq_false c6
    clear c6
    replace H := Option.bind_eq_some_iff.mp H
    obtain ⟨⟨t564, t565, t566⟩, A140, H⟩ := H
    replace H : (if t564 = 0 then ((spec_l1Cur_among.f s0_0 t565 t566 (([(-1), 301, 300] : List Int))).bind fun bt570 => (if 0 < (x3_1.length : Int) then (some ((x3_1.set (0 : Int).toNat bt570.1), bt570.2.1, bt570.2.2)) else (none))) else (if t564 = 1 then (some ((([] : List Int)), t565, t566)) else (if t564 = 2 then (spec_l1Cur_work.l1 k1 x3_1 0 s0_0 t565 t566) else (some (x3_1, t565, t566))))) = some (r1, r2, r3) := H
    have A14 := Aside0.mk A140
    clear A140
    by_cases c15 : t564 = 0
    ·rw [if_pos c15] at H
     have c15b0 : (t564 == 0) = true := beq_iff_eq.mpr c15
     have c15b1 : (t564 != 0) = false := bne_eq_false_iff_eq.mpr c15
     clear c15
     obtain ⟨y567, hy567⟩ : ∃ y_ : List Int, y_ = (([(-1), 301, 300] : List Int)) := ⟨_, rfl⟩
     replace H : ((spec_l1Cur_among.f s0_0 t565 t566 y567).bind fun bt570 => (if 0 < (x3_1.length : Int) then (some ((x3_1.set (0 : Int).toNat bt570.1), bt570.2.1, bt570.2.2)) else (none))) = some (r1, r2, r3) := by first | (rw [hy567]; with_reducible exact H) | (have H2_ := (Option.bind_some _ _).symm.trans H; rw [hy567]; with_reducible exact H2_) | (have H2_ := (Option.bind_some _ _).symm.trans H; with_reducible exact H2_) | with_reducible exact H | (rw [hy567]; exact H) | exact H
     have Ny567 := Aside0.mk hy567
     clear hy567
     replace H := Option.bind_eq_some_iff.mp H
     obtain ⟨⟨t570, t571, t572⟩, A160, H⟩ := H
     replace H : (if 0 < (x3_1.length : Int) then (some ((x3_1.set (0 : Int).toNat t570), t571, t572)) else (none)) = some (r1, r2, r3) := H
     have A16 := Aside0.mk A160
     clear A160
     by_cases c17 : 0 < (x3_1.length : Int)
     ·rw [if_pos c17] at H
      have c17b0 : decide (0 < (x3_1.length : Int)) = true := decide_eq_true c17
      have c17b1 : decide (0 < x3_1.length) = true := decide_eq_true (by omega)
      clear c17
      obtain ⟨y573, hy573⟩ : ∃ y_ : List Int, y_ = (x3_1.set (0 : Int).toNat t570) := ⟨_, rfl⟩
      replace H : (some (y573, t571, t572)) = some (r1, r2, r3) := by first | (rw [hy573]; with_reducible exact H) | (have H2_ := (Option.bind_some _ _).symm.trans H; rw [hy573]; with_reducible exact H2_) | (have H2_ := (Option.bind_some _ _).symm.trans H; with_reducible exact H2_) | with_reducible exact H | (rw [hy573]; exact H) | exact H
      have Ny573 := Aside0.mk hy573
      clear hy573
      simp only [Option.some.injEq, Prod.mk.injEq] at H
      obtain ⟨rfl, rfl, rfl⟩ := H
      go_wp2_with (first | ((with_reducible refine gate_callee (f := 67) rfl ?_); refine goesL_ (some 21) rfl rfl Try.func67 (by kernel_rfl) rfl #[.pointer (some ⟨g, 0, none⟩), .int .i64 24] rfl (by (try simp only [List.map_toArray, List.map_cons, List.map_nil]); first | done | rfl | (simp only [List.length_drop, List.length_take]; rfl)) ?_; (with_reducible refine (spec_l1Cur_pick.calls g s0_0 x1001_1 x1002_1 24 t564 t565 t566 w0 _ ?side1 ?side2 A14.out).mono ?_); (case side1 => repeat (first | (with_reducible first | exact HI0.out | apply IsS73.alloc | apply IsS73.drewN | apply IsS73.drew | apply IsS73.set_1 | apply IsS73.set_2) | exact HI0.out)); (case side2 => repeat (first | (with_reducible first | exact HB.out | apply below_alloc | apply pw_below_drewN | apply below_drew1 | refine below_set ?_ (IsS73.ge HI0.out)) | exact HB.out)); rintro e w19 ⟨rfl, hi, hb, hk⟩; refine ⟨_, rfl, ?_⟩; have n0_ := Aside0.mk (Kd.R_mono (Kd.R_keep (IsS73.apart (show IsS73 w0 _ g s0_0 x1001_1 x1002_1 from by repeat (first | (with_reducible first | exact HI0.out | apply IsS73.alloc | apply IsS73.drewN | apply IsS73.drew | apply IsS73.set_1 | apply IsS73.set_2) | exact HI0.out)) (by (with_reducible repeat (first | apply Kd.R_alloc | apply Kd.R_drewN | apply Kd.R_drew)); exact HO_3.out) (by decide)) hk (fun _ h => h.2)) (fun _ h => h.1)); have n1_ := Aside0.mk (KeepBut.trans (by repeat (first | (with_reducible first | exact HK.out | apply KeepBut.set_ | apply keep_drewN | apply keep_drew | apply keep_alloc) | exact HK.out)) hk (.inl rfl)); have n2_ := Aside0.mk (hb); have n3_ := Aside0.mk (hi); clear HO_3; clear HK; clear HB; clear HI0; have HO_3 := n0_; have HK := n1_; have HB := n2_; have HI0 := n3_; clear n0_ n1_ n2_ n3_; (try clear hb); (try clear hb2); (try clear hk); (try clear hi)) | ((with_reducible refine gate_dst (N := 26) rfl ?_); refine Kd.R_lit (Kd.int .i64) _ 3 ?hg (N := 26) ?hd (xs := ([(-1), 301, 300] : List Int)) (inner := [.int .i64 (-1), .int .i64 301, .int .i64 300]) (ok := fun _ => True) (okp := fun _ => True) ?hr ?hp (fun _ hk => hk) trivial (Below.refl _ _) (Nat.le_refl _) (by simp) ?_; (case hd => rfl); (case hg => rfl); (case hr => first | (go_simp; done) | (go_simp; rfl)); (case hp => exact (Reps.one (show Kd.M (Kd.int .i64) _ _ _ (-1) [.int .i64 (-1)] from rfl) (Reps.one (show Kd.M (Kd.int .i64) _ _ _ 301 [.int .i64 301] from rfl) (Reps.one (show Kd.M (Kd.int .i64) _ _ _ 300 [.int .i64 300] from rfl) (Reps.none _ _))))); intro v568 w20 ho21 hb hg_ hnew_; clear hg_ hnew_; (first | rw [← Ny567.out] at ho21 | (simp only [Int.reduceToNat] at ho21; rw [← Ny567.out] at ho21)); have n0_ := Aside0.mk (Kd.R_elder' (by (with_reducible repeat (first | apply Kd.R_alloc | apply Kd.R_drewN | apply Kd.R_drew)); exact HO_3.out) (Kd.R_base ho21) hb); have n1_ := Aside0.mk (Kd.R_lower (Kd.R_new' ho21 (Kd.R_lt (by (with_reducible repeat (first | apply Kd.R_alloc | apply Kd.R_drewN | apply Kd.R_drew)); exact HO_3.out))) (keep_size (w := w) (g := g) (row := none) (by repeat (first | (with_reducible first | exact HK.out | apply KeepBut.set_ | apply keep_drewN | apply keep_drew | apply keep_alloc) | exact HK.out)))); have n2_ := Aside0.mk (IsS73.below (by repeat (first | (with_reducible first | exact HI0.out | apply IsS73.alloc | apply IsS73.drewN | apply IsS73.drew | apply IsS73.set_1 | apply IsS73.set_2) | exact HI0.out)) hb); have n3_ := Aside0.mk (KeepBut.trans (by repeat (first | (with_reducible first | exact HK.out | apply KeepBut.set_ | apply keep_drewN | apply keep_drew | apply keep_alloc) | exact HK.out)) (KeepBut.of_below hb g none) (.inl rfl)); have n4_ := Aside0.mk (below_step (by repeat (first | (with_reducible first | exact HB.out | apply below_alloc | apply pw_below_drewN | apply below_drew1 | refine below_set ?_ (IsS73.ge HI0.out)) | exact HB.out)) hb); clear HO_3; clear HI0; clear HK; clear HB; have HO_3 := n0_; have HO569 := n1_; have HI0 := n2_; have HK := n3_; have HB := n4_; clear n0_ n1_ n2_ n3_ n4_; clear hb ho21; obtain ⟨Ao22, co22, eo22⟩ := Kd.R_slice HO569.out; subst eo22) | ((with_reducible refine gate_callee (f := 75) rfl ?_); refine goesL_ (some 27) rfl rfl Try.func75 (by kernel_rfl) rfl #[.pointer (some ⟨g, 0, none⟩), .slice Ao22 y567.length co22] rfl (by (try simp only [List.map_toArray, List.map_cons, List.map_nil]); first | done | rfl | (simp only [List.length_drop, List.length_take]; rfl)) ?_; (with_reducible refine (spec_l1Cur_among.calls g s0_0 t565 t566 _ _ y567 t570 t571 t572 w0 _ ?side1 ?side2 ?side3 ?side4 ?side5 A16.out).mono ?_); (case side1 => repeat (first | (with_reducible first | exact HI0.out | apply IsS73.alloc | apply IsS73.drewN | apply IsS73.drew | apply IsS73.set_1 | apply IsS73.set_2) | exact HI0.out)); (case side2 => repeat (first | (with_reducible first | exact HB.out | apply below_alloc | apply pw_below_drewN | apply below_drew1 | refine below_set ?_ (IsS73.ge HI0.out)) | exact HB.out)); (case side3 => repeat (first | exact (Kd.R_reads' HO569.out).2.2 | (with_reducible refine Kd.C_alloc ?_ _) | (with_reducible refine Kd.C_drewN ?_ _) | (with_reducible refine Kd.C_drew ?_))); (case side4 => exact (Kd.R_reads' HO569.out).2.1); (case side5 => exact far_slice (IsS73.own_ne HI0.out HO569.out (by decide))); rintro e w23 ⟨rfl, hi, hb, hk⟩; refine ⟨_, rfl, ?_⟩; have n0_ := Aside0.mk (Kd.R_mono (Kd.R_keep (IsS73.apart (show IsS73 w0 _ g s0_0 t565 t566 from by repeat (first | (with_reducible first | exact HI0.out | apply IsS73.alloc | apply IsS73.drewN | apply IsS73.drew | apply IsS73.set_1 | apply IsS73.set_2) | exact HI0.out)) (by (with_reducible repeat (first | apply Kd.R_alloc | apply Kd.R_drewN | apply Kd.R_drew)); exact HO_3.out) (by decide)) hk (fun _ h => h.2)) (fun _ h => h.1)); have n1_ := Aside0.mk (Kd.R_mono (Kd.R_keep (IsS73.apart (show IsS73 w0 _ g s0_0 t565 t566 from by repeat (first | (with_reducible first | exact HI0.out | apply IsS73.alloc | apply IsS73.drewN | apply IsS73.drew | apply IsS73.set_1 | apply IsS73.set_2) | exact HI0.out)) (by (with_reducible repeat (first | apply Kd.R_alloc | apply Kd.R_drewN | apply Kd.R_drew)); exact HO569.out) (by decide)) hk (fun _ h => h.2)) (fun _ h => h.1)); have n2_ := Aside0.mk (KeepBut.trans (by repeat (first | (with_reducible first | exact HK.out | apply KeepBut.set_ | apply keep_drewN | apply keep_drew | apply keep_alloc) | exact HK.out)) hk (.inl rfl)); have n3_ := Aside0.mk (hb); have n4_ := Aside0.mk (hi); clear HO_3; clear HO569; clear HK; clear HB; clear HI0; have HO_3 := n0_; have HO569 := n1_; have HK := n2_; have HB := n3_; have HI0 := n4_; clear n0_ n1_ n2_ n3_ n4_; (try clear hb); (try clear hb2); (try clear hk); (try clear hi); have p18 : 0 ≤ (0 : Int) := (by omega); have q18 : (0 : Int) < ((x3_1.length : Int) : Int) := of_decide_eq_true (by first | (with_reducible assumption) | assumption); have qi18 : (0 < x3_1.length) = True := eq_true (by omega); obtain ⟨go18, co18, eo18, gb18, gl18, cl18, HG18⟩ := Kd.R_form HO_3.out (by omega); (first | cases eo18 | (injection eo18 with ea_ en_ ec_; (first | subst ea_ | (injection ea_ with ea_; subst ea_)); subst ec_; clear en_)); have GB18 := Aside0.mk gb18; have GG18 := Aside0.mk HG18; clear gb18 gl18 HG18; obtain ⟨hx18_0, hf18_0⟩ := Kd.R_celln 0 HO_3.out (0 : Int) p18 q18; (try rw [show ((0 : Int)).toNat = 0 from rfl] at hx18_0); (try simp only [Nat.reduceMul, Nat.zero_mul, Nat.zero_add, Nat.reduceAdd] at hx18_0); (try rw [show ((0 : Int)).toNat = 0 from rfl] at hf18_0); (try simp only [Nat.reduceMul, Nat.zero_mul, Nat.zero_add, Nat.reduceAdd] at hf18_0); replace p18 := eq_true p18; replace q18 := eq_true q18; have n_ := Aside0.mk (Kd.R_mono (ok' := (fun k_ => some k_ ≠ (.slice Ao22 y567.length co22 : Value).ownBlock)) HO_3.out (fun k_ hk => hk.2)); clear HO_3; have HO_3 := n_; clear n_; obtain ⟨hy24_, hz24_⟩ := Kd.R_celln 0 HO_3.out (0 : Int) (by omega) (of_decide_eq_true (by first | (with_reducible assumption) | assumption)); (try simp only [Int.reduceToNat, Int.toNat_zero, Int.toNat_ofNat, Nat.reduceMul, Nat.zero_mul, Nat.zero_add] at hy24_ hz24_); (try rw [show ((0 : Int)).toNat = 0 from rfl] at hy24_); (try rw [show ((0 : Int)).toNat = 0 from rfl] at hz24_); have HP24 := Kd.R_putg HO_3.out (0 : Int) t570) | ((with_reducible refine gate_store (t := 3) (p := 28) rfl ?_); refine store_event (t := 3) (p := 28) (v := ?vo_w25) (w1 := (w23.setCell ⟨go18, (0 : Int).toNat, none⟩ (.int .i64 t570))) ?hg ?ho ?hn ?hr ?_; (case ho => rfl); (case hg => rfl); (case hn => rfl); (case hr => first | (go_simp; done) | (go_simp; rfl)); intro w25 hw; have hg : w23.grownBy w25 (some go18) := (by rw [hw]; exact HP24.2); have hp_ : Kd.R (Kd.int .i64) 3 w25 w.heap.size (fun k_ => some k_ ≠ (.slice Ao22 y567.length co22 : Value).ownBlock) (.slice (some ⟨go18, 0, none⟩) x3_1.length co18) y573 := (by rw [hw, Ny573.out]; exact HP24.1); clear HP24; have n0_ := Aside0.mk (hp_); have n1_ := Aside0.mk (IsS73.grown (by repeat (first | (with_reducible first | exact HI0.out | apply IsS73.alloc | apply IsS73.drewN | apply IsS73.drew | apply IsS73.set_1 | apply IsS73.set_2) | exact HI0.out)) hg (IsS73.own_ne HI0.out HO_3.out (by decide))); have n2_ := Aside0.mk (Kd.R_after (v := (.slice (some ⟨go18, 0, none⟩) x3_1.length co18)) (v1 := (.slice (some ⟨go18, 0, none⟩) x3_1.length co18)) (ok := (fun _ => True)) (by (with_reducible repeat (first | apply Kd.R_alloc | apply Kd.R_drewN | apply Kd.R_drew)); exact HO569.out) hg (.inl rfl)); have n3_ := Aside0.mk ((by rw [hw]; exact below_set (HB.out) (Nat.le_trans HL.out GB18.out) : Below w0.heap.size w0 w25)); have n4_ := Aside0.mk (KeepBut.trans (by repeat (first | (with_reducible first | exact HK.out | apply KeepBut.set_ | apply keep_drewN | apply keep_drew | apply keep_alloc) | exact HK.out)) (KeepBut.of_grown hg g) (Kd.R_base2 HO_3.out)); clear HO_3; clear HI0; clear HO569; clear HB; clear HK; have HO_3 := n0_; have HI0 := n1_; have HO569 := n2_; have HB := n3_; have HK := n4_; clear n0_ n1_ n2_ n3_ n4_; clear hg hw hp_))
      go_ret
      exact ⟨_, by first | rfl | (simp [errW_none, errW_some] <;> rfl) | (simp [*, errW_none, errW_some] <;> rfl), by (with_reducible repeat (first | apply Kd.R_alloc | apply Kd.R_drewN | apply Kd.R_drew)); exact Kd.R_mono HO_3.out (fun _ hk => trivial), by repeat (first | (with_reducible first | exact HI0.out | apply IsS73.alloc | apply IsS73.drewN | apply IsS73.drew | apply IsS73.set_1 | apply IsS73.set_2) | exact HI0.out), by repeat (first | (with_reducible first | exact HB.out | apply below_alloc | apply pw_below_drewN | apply below_drew1 | refine below_set ?_ (IsS73.ge HI0.out)) | exact HB.out), by repeat (first | (with_reducible first | exact HK.out | apply KeepBut.set_ | apply keep_drewN | apply keep_drew | apply keep_alloc) | exact HK.out)⟩
     ·rw [if_neg c17] at H
      exact absurd H (by simp)
    ·rw [if_neg c15] at H
     have c15b0 : (t564 == 0) = false := beq_eq_false_iff_ne.mpr c15
     have c15b1 : (t564 != 0) = true := bne_iff_ne.mpr c15
     by_cases c26 : t564 = 1
     ·rw [if_pos c26] at H
      have c26b0 : (t564 == 1) = true := beq_iff_eq.mpr c26
      have c26b1 : (t564 != 1) = false := bne_eq_false_iff_eq.mpr c26
      clear c26
      obtain ⟨y574, hy574⟩ : ∃ y_ : List Int, y_ = (([] : List Int)) := ⟨_, rfl⟩
      replace H : (some (y574, t565, t566)) = some (r1, r2, r3) := by first | (rw [hy574]; with_reducible exact H) | (have H2_ := (Option.bind_some _ _).symm.trans H; rw [hy574]; with_reducible exact H2_) | (have H2_ := (Option.bind_some _ _).symm.trans H; with_reducible exact H2_) | with_reducible exact H | (rw [hy574]; exact H) | exact H
      have Ny574 := Aside0.mk hy574
      clear hy574
      simp only [Option.some.injEq, Prod.mk.injEq] at H
      obtain ⟨rfl, rfl, rfl⟩ := H
      go_wp2_with (first | ((with_reducible refine gate_callee (f := 67) rfl ?_); refine goesL_ (some 21) rfl rfl Try.func67 (by kernel_rfl) rfl #[.pointer (some ⟨g, 0, none⟩), .int .i64 24] rfl (by (try simp only [List.map_toArray, List.map_cons, List.map_nil]); first | done | rfl | (simp only [List.length_drop, List.length_take]; rfl)) ?_; (with_reducible refine (spec_l1Cur_pick.calls g s0_0 x1001_1 x1002_1 24 t564 t565 t566 w0 _ ?side1 ?side2 A14.out).mono ?_); (case side1 => repeat (first | (with_reducible first | exact HI0.out | apply IsS73.alloc | apply IsS73.drewN | apply IsS73.drew | apply IsS73.set_1 | apply IsS73.set_2) | exact HI0.out)); (case side2 => repeat (first | (with_reducible first | exact HB.out | apply below_alloc | apply pw_below_drewN | apply below_drew1 | refine below_set ?_ (IsS73.ge HI0.out)) | exact HB.out)); rintro e w27 ⟨rfl, hi, hb, hk⟩; refine ⟨_, rfl, ?_⟩; have n0_ := Aside0.mk (Kd.R_mono (Kd.R_keep (IsS73.apart (show IsS73 w0 _ g s0_0 x1001_1 x1002_1 from by repeat (first | (with_reducible first | exact HI0.out | apply IsS73.alloc | apply IsS73.drewN | apply IsS73.drew | apply IsS73.set_1 | apply IsS73.set_2) | exact HI0.out)) (by (with_reducible repeat (first | apply Kd.R_alloc | apply Kd.R_drewN | apply Kd.R_drew)); exact HO_3.out) (by decide)) hk (fun _ h => h.2)) (fun _ h => h.1)); have n1_ := Aside0.mk (KeepBut.trans (by repeat (first | (with_reducible first | exact HK.out | apply KeepBut.set_ | apply keep_drewN | apply keep_drew | apply keep_alloc) | exact HK.out)) hk (.inl rfl)); have n2_ := Aside0.mk (hb); have n3_ := Aside0.mk (hi); clear HO_3; clear HK; clear HB; clear HI0; have HO_3 := n0_; have HK := n1_; have HB := n2_; have HI0 := n3_; clear n0_ n1_ n2_ n3_; (try clear hb); (try clear hb2); (try clear hk); (try clear hi)) | ((with_reducible refine gate_dst (N := 31) rfl ?_); refine Kd.R_lit (Kd.int .i64) _ 3 ?hg (N := 31) ?hd (xs := ([] : List Int)) (inner := []) (ok := fun _ => True) (okp := fun _ => True) ?hr ?hp (fun _ hk => hk) trivial (Below.refl _ _) (Nat.le_refl _) (by simp) ?_; (case hd => rfl); (case hg => rfl); (case hr => first | (go_simp; done) | (go_simp; rfl)); (case hp => exact (Reps.none _ _)); intro v575 w28 ho29 hb hg_ hnew_; clear hg_ hnew_; (first | rw [← Ny574.out] at ho29 | (simp only [Int.reduceToNat] at ho29; rw [← Ny574.out] at ho29)); have n0_ := Aside0.mk (Kd.R_elder' (by (with_reducible repeat (first | apply Kd.R_alloc | apply Kd.R_drewN | apply Kd.R_drew)); exact HO_3.out) (Kd.R_base ho29) hb); have n1_ := Aside0.mk (Kd.R_lower (Kd.R_new' ho29 (Kd.R_lt (by (with_reducible repeat (first | apply Kd.R_alloc | apply Kd.R_drewN | apply Kd.R_drew)); exact HO_3.out))) (keep_size (w := w) (g := g) (row := none) (by repeat (first | (with_reducible first | exact HK.out | apply KeepBut.set_ | apply keep_drewN | apply keep_drew | apply keep_alloc) | exact HK.out)))); have n2_ := Aside0.mk (IsS73.below (by repeat (first | (with_reducible first | exact HI0.out | apply IsS73.alloc | apply IsS73.drewN | apply IsS73.drew | apply IsS73.set_1 | apply IsS73.set_2) | exact HI0.out)) hb); have n3_ := Aside0.mk (KeepBut.trans (by repeat (first | (with_reducible first | exact HK.out | apply KeepBut.set_ | apply keep_drewN | apply keep_drew | apply keep_alloc) | exact HK.out)) (KeepBut.of_below hb g none) (.inl rfl)); have n4_ := Aside0.mk (below_step (by repeat (first | (with_reducible first | exact HB.out | apply below_alloc | apply pw_below_drewN | apply below_drew1 | refine below_set ?_ (IsS73.ge HI0.out)) | exact HB.out)) hb); clear HO_3; clear HI0; clear HK; clear HB; have HO_3 := n0_; have HO576 := n1_; have HI0 := n2_; have HK := n3_; have HB := n4_; clear n0_ n1_ n2_ n3_ n4_; clear hb ho29))
      go_ret
      exact ⟨_, by first | rfl | (simp [errW_none, errW_some] <;> rfl) | (simp [*, errW_none, errW_some] <;> rfl), by (with_reducible repeat (first | apply Kd.R_alloc | apply Kd.R_drewN | apply Kd.R_drew)); exact Kd.R_mono HO576.out (fun _ hk => trivial), by repeat (first | (with_reducible first | exact HI0.out | apply IsS73.alloc | apply IsS73.drewN | apply IsS73.drew | apply IsS73.set_1 | apply IsS73.set_2) | exact HI0.out), by repeat (first | (with_reducible first | exact HB.out | apply below_alloc | apply pw_below_drewN | apply below_drew1 | refine below_set ?_ (IsS73.ge HI0.out)) | exact HB.out), by repeat (first | (with_reducible first | exact HK.out | apply KeepBut.set_ | apply keep_drewN | apply keep_drew | apply keep_alloc) | exact HK.out)⟩
     ·rw [if_neg c26] at H
      have c26b0 : (t564 == 1) = false := beq_eq_false_iff_ne.mpr c26
      have c26b1 : (t564 != 1) = true := bne_iff_ne.mpr c26
      by_cases c30 : t564 = 2
      ·rw [if_pos c30] at H
       have c30b0 : (t564 == 2) = true := beq_iff_eq.mpr c30
       have c30b1 : (t564 != 2) = false := bne_eq_false_iff_eq.mpr c30
       clear c30
       have H' := Aside0.mk H
       clear H
       go_wp2_with (first | ((with_reducible refine gate_callee (f := 67) rfl ?_); refine goesL_ (some 21) rfl rfl Try.func67 (by kernel_rfl) rfl #[.pointer (some ⟨g, 0, none⟩), .int .i64 24] rfl (by (try simp only [List.map_toArray, List.map_cons, List.map_nil]); first | done | rfl | (simp only [List.length_drop, List.length_take]; rfl)) ?_; (with_reducible refine (spec_l1Cur_pick.calls g s0_0 x1001_1 x1002_1 24 t564 t565 t566 w0 _ ?side1 ?side2 A14.out).mono ?_); (case side1 => repeat (first | (with_reducible first | exact HI0.out | apply IsS73.alloc | apply IsS73.drewN | apply IsS73.drew | apply IsS73.set_1 | apply IsS73.set_2) | exact HI0.out)); (case side2 => repeat (first | (with_reducible first | exact HB.out | apply below_alloc | apply pw_below_drewN | apply below_drew1 | refine below_set ?_ (IsS73.ge HI0.out)) | exact HB.out)); rintro e w31 ⟨rfl, hi, hb, hk⟩; refine ⟨_, rfl, ?_⟩; have n0_ := Aside0.mk (Kd.R_mono (Kd.R_keep (IsS73.apart (show IsS73 w0 _ g s0_0 x1001_1 x1002_1 from by repeat (first | (with_reducible first | exact HI0.out | apply IsS73.alloc | apply IsS73.drewN | apply IsS73.drew | apply IsS73.set_1 | apply IsS73.set_2) | exact HI0.out)) (by (with_reducible repeat (first | apply Kd.R_alloc | apply Kd.R_drewN | apply Kd.R_drew)); exact HO_3.out) (by decide)) hk (fun _ h => h.2)) (fun _ h => h.1)); have n1_ := Aside0.mk (KeepBut.trans (by repeat (first | (with_reducible first | exact HK.out | apply KeepBut.set_ | apply keep_drewN | apply keep_drew | apply keep_alloc) | exact HK.out)) hk (.inl rfl)); have n2_ := Aside0.mk (hb); have n3_ := Aside0.mk (hi); clear HO_3; clear HK; clear HB; clear HI0; have HO_3 := n0_; have HK := n1_; have HB := n2_; have HI0 := n3_; clear n0_ n1_ n2_ n3_; (try clear hb); (try clear hb2); (try clear hk); (try clear hi)))
       go_loopg [3, 5] k1 (fun kq v3 v5 w' => ∃ (x3_2 : List Int) (x5_2 : Int) (x1001_2 : Int) (x1002_2 : Int), v5 = .int .i64 x5_2 ∧ Aside0 (spec_l1Cur_work.l1 kq x3_2 x5_2 s0_0 x1001_2 x1002_2 = some (r1, r2, r3)) ∧ Aside0 (kq ≤ k1) ∧ Aside0 (Kd.R (Kd.int .i64) 3 w' w.heap.size (fun _ => True) v3 x3_2) ∧ Aside0 (IsS73 w0 w' g s0_0 x1001_2 x1002_2) ∧ Aside0 (KeepBut w w' g none) ∧ Aside0 (Below w0.heap.size w0 w'))
       case atStart => exact ⟨(x3_1), (0), (t565), (t566), (by first | rfl | (simp; done) | (simp [*]; done)), H', ⟨Nat.le_refl _⟩, ⟨by (with_reducible repeat (first | apply Kd.R_alloc | apply Kd.R_drewN | apply Kd.R_drew)); exact HO_3.out⟩, ⟨by repeat (first | (with_reducible first | exact HI0.out | apply IsS73.alloc | apply IsS73.drewN | apply IsS73.drew | apply IsS73.set_1 | apply IsS73.set_2) | exact HI0.out)⟩, ⟨by repeat (first | (with_reducible first | exact HK.out | apply KeepBut.set_ | apply keep_drewN | apply keep_drew | apply keep_alloc) | exact HK.out)⟩, ⟨by repeat (first | (with_reducible first | exact HB.out | apply below_alloc | apply pw_below_drewN | apply below_drew1 | refine below_set ?_ (IsS73.ge HI0.out)) | exact HB.out)⟩⟩
       case round =>
        clear H'
        try clear c1
        try clear p1
        try clear q1
        try clear hx1
        try clear qi1
        try clear hf1
        try clear c2
        try clear p2
        try clear c3
        try clear c6
        try clear c6b0
        try clear p6
        try clear c7
        try clear c8
        try clear c15
        try clear c15b0
        try clear c15b1
        try clear c17
        try clear c17b0
        try clear c17b1
        try clear p18
        try clear q18
        try clear hx18
        try clear qi18
        try clear hf18
        try clear c26
        try clear c26b0
        try clear c26b1
        try clear c30
        try clear c30b0
        try clear c30b1
        try clear hx18_0
        try clear p18
        try clear p2
        try clear q18
        obtain ⟨x3_2, x5_2, x1001_2, x1002_2, rfl, HA, HK2, HO_3, HI0, HK, HB⟩ := hrel
        cases gk with
        | zero => exact absurd HA.out (by simp [spec_l1Cur_work.l1])
        | succ k2 =>
         have H := HA.out
         clear HA
         simp only [spec_l1Cur_work.l1] at H
         replace H := Option.bind_eq_some_iff.mp H
         obtain ⟨⟨t577, t578, t579⟩, A320, H⟩ := H
         replace H : (if (x3_2.length : Int) < (wrap64 (10 + t577)) then (if x5_2 < 12 then (if x3_2.length < 17592186044416 then (spec_l1Cur_work.l1 k2 (x3_2 ++ [15]) (wrap64 (x5_2 + 1)) s0_0 t578 t579) else (none)) else (some (x3_2, t578, t579))) else (some (x3_2, t578, t579))) = some (r1, r2, r3) := H
         have A32 := Aside0.mk A320
         clear A320
         by_cases c33 : (x3_2.length : Int) < (wrap64 (10 + t577))
         ·rw [if_pos c33] at H
          have c33b0 : decide ((x3_2.length : Int) < (wrap64 (10 + t577))) = true := decide_eq_true c33
          clear c33
          by_cases c34 : x5_2 < 12
          ·rw [if_pos c34] at H
           have c34b0 : decide (x5_2 < 12) = true := decide_eq_true c34
           clear c34
           by_cases c35 : x3_2.length < 17592186044416
           ·rw [if_pos c35] at H
            have LMc35 := Aside0.mk c35
            clear c35
            obtain ⟨y580, hy580⟩ : ∃ y_ : List Int, y_ = (x3_2 ++ [15]) := ⟨_, rfl⟩
            replace H : (spec_l1Cur_work.l1 k2 y580 (wrap64 (x5_2 + 1)) s0_0 t578 t579) = some (r1, r2, r3) := by first | (rw [hy580]; with_reducible exact H) | (have H2_ := (Option.bind_some _ _).symm.trans H; rw [hy580]; with_reducible exact H2_) | (have H2_ := (Option.bind_some _ _).symm.trans H; with_reducible exact H2_) | with_reducible exact H | (rw [hy580]; exact H) | exact H
            have Ny580 := Aside0.mk hy580
            clear hy580
            have H' := Aside0.mk H
            clear H
            obtain ⟨Ao36, co36, eo36⟩ := Kd.R_slice HO_3.out
            subst eo36
            go_wp2_with (first | ((with_reducible refine gate_callee (f := 67) rfl ?_); refine goesL_ (some 37) rfl rfl Try.func67 (by kernel_rfl) rfl #[.pointer (some ⟨g, 0, none⟩), .int .i64 2] rfl (by (try simp only [List.map_toArray, List.map_cons, List.map_nil]); first | done | rfl | (simp only [List.length_drop, List.length_take]; rfl)) ?_; (with_reducible refine (spec_l1Cur_pick.calls g s0_0 x1001_2 x1002_2 2 t577 t578 t579 w0 _ ?side1 ?side2 A32.out).mono ?_); (case side1 => repeat (first | (with_reducible first | exact HI0.out | apply IsS73.alloc | apply IsS73.drewN | apply IsS73.drew | apply IsS73.set_1 | apply IsS73.set_2) | exact HI0.out)); (case side2 => repeat (first | (with_reducible first | exact HB.out | apply below_alloc | apply pw_below_drewN | apply below_drew1 | refine below_set ?_ (IsS73.ge HI0.out)) | exact HB.out)); rintro e w37 ⟨rfl, hi, hb, hk⟩; refine ⟨_, rfl, ?_⟩; have n0_ := Aside0.mk (Kd.R_mono (Kd.R_keep (IsS73.apart (show IsS73 w0 _ g s0_0 x1001_2 x1002_2 from by repeat (first | (with_reducible first | exact HI0.out | apply IsS73.alloc | apply IsS73.drewN | apply IsS73.drew | apply IsS73.set_1 | apply IsS73.set_2) | exact HI0.out)) (by (with_reducible repeat (first | apply Kd.R_alloc | apply Kd.R_drewN | apply Kd.R_drew)); exact HO_3.out) (by decide)) hk (fun _ h => h.2)) (fun _ h => h.1)); have n1_ := Aside0.mk (KeepBut.trans (by repeat (first | (with_reducible first | exact HK.out | apply KeepBut.set_ | apply keep_drewN | apply keep_drew | apply keep_alloc) | exact HK.out)) hk (.inl rfl)); have n2_ := Aside0.mk (hb); have n3_ := Aside0.mk (hi); clear HO_3; clear HK; clear HB; clear HI0; have HO_3 := n0_; have HK := n1_; have HB := n2_; have HI0 := n3_; clear n0_ n1_ n2_ n3_; (try clear hb); (try clear hb2); (try clear hk); (try clear hi)) | ((with_reducible refine gate_builtin (b := .append) (xs := #[.tmp 46, .tmp 47]) rfl ?_); at_builtin; refine Kd.R_append (Kd.int .i64) w.heap.size rfl (.tmp 46) (.tmp 47) 22 3 (.int .i64 0) 8 rfl Try.underlying22 info3 rfl (by decide) (by omega) (.slice Ao36 x3_2.length co36) x3_2 15 [.int .i64 15] (fun _ => True) (fun _ => False) rfl rfl ?aP (fun _ hk => hk.elim) ?aF ?aO (Below.refl _ _) ?aS ?aL ?_; (case aP => exact rfl); (case aF => exact (fun _ _ => trivial)); (case aO => exact (by (with_reducible repeat (first | apply Kd.R_alloc | apply Kd.R_drewN | apply Kd.R_drew)); exact HO_3.out)); (case aS => exact (keep_size (w := w) (g := g) (row := none) (by repeat (first | (with_reducible first | exact HK.out | apply KeepBut.set_ | apply keep_drewN | apply keep_drew | apply keep_alloc) | exact HK.out)))); (case aL => have := LMc35.out; omega); intro v581 w38 ho hb hg hat; rw [← Ny580.out] at ho; have n0_ := Aside0.mk (IsS73.grown (by repeat (first | (with_reducible first | exact HI0.out | apply IsS73.alloc | apply IsS73.drewN | apply IsS73.drew | apply IsS73.set_1 | apply IsS73.set_2) | exact HI0.out)) hg (IsS73.own_ne HI0.out HO_3.out (by decide))); have n1_ := Aside0.mk (below_weaken (by repeat (first | (with_reducible first | exact HB.out | apply below_alloc | apply pw_below_drewN | apply below_drew1 | refine below_set ?_ (IsS73.ge HI0.out)) | exact HB.out)) HL.out hb); have n2_ := Aside0.mk (KeepBut.trans (by repeat (first | (with_reducible first | exact HK.out | apply KeepBut.set_ | apply keep_drewN | apply keep_drew | apply keep_alloc) | exact HK.out)) (KeepBut.of_grown hg g) (Kd.R_base2 HO_3.out)); have n3_ := Aside0.mk (ho); clear HI0; clear HB; clear HK; clear HO_3; have HI0 := n0_; have HB := n1_; have HK := n2_; have HO582 := n3_; clear n0_ n1_ n2_ n3_; clear ho hb hg hat))
            go_roundg k2
            case measure => have := HK1.out; have := HK2.out; omega
            case rel => exact ⟨(y580), (wrap64 (x5_2 + 1)), (t578), (t579), (by first | rfl | (simp; done) | (simp [*]; done)), H', ⟨by have := HK1.out; have := HK2.out; omega⟩, ⟨by (with_reducible repeat (first | apply Kd.R_alloc | apply Kd.R_drewN | apply Kd.R_drew)); exact HO582.out⟩, ⟨by repeat (first | (with_reducible first | exact HI0.out | apply IsS73.alloc | apply IsS73.drewN | apply IsS73.drew | apply IsS73.set_1 | apply IsS73.set_2) | exact HI0.out)⟩, ⟨by repeat (first | (with_reducible first | exact HK.out | apply KeepBut.set_ | apply keep_drewN | apply keep_drew | apply keep_alloc) | exact HK.out)⟩, ⟨by repeat (first | (with_reducible first | exact HB.out | apply below_alloc | apply pw_below_drewN | apply below_drew1 | refine below_set ?_ (IsS73.ge HI0.out)) | exact HB.out)⟩⟩
           ·rw [if_neg c35] at H
            exact absurd H (by simp)
          ·rw [if_neg c34] at H
           have c34b0 : decide (x5_2 < 12) = false := decide_eq_false c34
           clear c34
           simp only [Option.some.injEq, Prod.mk.injEq] at H
           obtain ⟨rfl, rfl, rfl⟩ := H
           obtain ⟨Ao39, co39, eo39⟩ := Kd.R_slice HO_3.out
           subst eo39
           go_wp2_with (first | ((with_reducible refine gate_callee (f := 67) rfl ?_); refine goesL_ (some 37) rfl rfl Try.func67 (by kernel_rfl) rfl #[.pointer (some ⟨g, 0, none⟩), .int .i64 2] rfl (by (try simp only [List.map_toArray, List.map_cons, List.map_nil]); first | done | rfl | (simp only [List.length_drop, List.length_take]; rfl)) ?_; (with_reducible refine (spec_l1Cur_pick.calls g s0_0 x1001_2 x1002_2 2 t577 t578 t579 w0 _ ?side1 ?side2 A32.out).mono ?_); (case side1 => repeat (first | (with_reducible first | exact HI0.out | apply IsS73.alloc | apply IsS73.drewN | apply IsS73.drew | apply IsS73.set_1 | apply IsS73.set_2) | exact HI0.out)); (case side2 => repeat (first | (with_reducible first | exact HB.out | apply below_alloc | apply pw_below_drewN | apply below_drew1 | refine below_set ?_ (IsS73.ge HI0.out)) | exact HB.out)); rintro e w40 ⟨rfl, hi, hb, hk⟩; refine ⟨_, rfl, ?_⟩; have n0_ := Aside0.mk (Kd.R_mono (Kd.R_keep (IsS73.apart (show IsS73 w0 _ g s0_0 x1001_2 x1002_2 from by repeat (first | (with_reducible first | exact HI0.out | apply IsS73.alloc | apply IsS73.drewN | apply IsS73.drew | apply IsS73.set_1 | apply IsS73.set_2) | exact HI0.out)) (by (with_reducible repeat (first | apply Kd.R_alloc | apply Kd.R_drewN | apply Kd.R_drew)); exact HO_3.out) (by decide)) hk (fun _ h => h.2)) (fun _ h => h.1)); have n1_ := Aside0.mk (KeepBut.trans (by repeat (first | (with_reducible first | exact HK.out | apply KeepBut.set_ | apply keep_drewN | apply keep_drew | apply keep_alloc) | exact HK.out)) hk (.inl rfl)); have n2_ := Aside0.mk (hb); have n3_ := Aside0.mk (hi); clear HO_3; clear HK; clear HB; clear HI0; have HO_3 := n0_; have HK := n1_; have HB := n2_; have HI0 := n3_; clear n0_ n1_ n2_ n3_; (try clear hb); (try clear hb2); (try clear hk); (try clear hi)))
           go_ret
           exact ⟨_, by first | rfl | (simp [errW_none, errW_some] <;> rfl) | (simp [*, errW_none, errW_some] <;> rfl), by (with_reducible repeat (first | apply Kd.R_alloc | apply Kd.R_drewN | apply Kd.R_drew)); exact HO_3.out, by repeat (first | (with_reducible first | exact HI0.out | apply IsS73.alloc | apply IsS73.drewN | apply IsS73.drew | apply IsS73.set_1 | apply IsS73.set_2) | exact HI0.out), by repeat (first | (with_reducible first | exact HB.out | apply below_alloc | apply pw_below_drewN | apply below_drew1 | refine below_set ?_ (IsS73.ge HI0.out)) | exact HB.out), by repeat (first | (with_reducible first | exact HK.out | apply KeepBut.set_ | apply keep_drewN | apply keep_drew | apply keep_alloc) | exact HK.out)⟩
         ·rw [if_neg c33] at H
          have c33b0 : decide ((x3_2.length : Int) < (wrap64 (10 + t577))) = false := decide_eq_false c33
          clear c33
          simp only [Option.some.injEq, Prod.mk.injEq] at H
          obtain ⟨rfl, rfl, rfl⟩ := H
          obtain ⟨Ao41, co41, eo41⟩ := Kd.R_slice HO_3.out
          subst eo41
          go_wp2_with (first | ((with_reducible refine gate_callee (f := 67) rfl ?_); refine goesL_ (some 37) rfl rfl Try.func67 (by kernel_rfl) rfl #[.pointer (some ⟨g, 0, none⟩), .int .i64 2] rfl (by (try simp only [List.map_toArray, List.map_cons, List.map_nil]); first | done | rfl | (simp only [List.length_drop, List.length_take]; rfl)) ?_; (with_reducible refine (spec_l1Cur_pick.calls g s0_0 x1001_2 x1002_2 2 t577 t578 t579 w0 _ ?side1 ?side2 A32.out).mono ?_); (case side1 => repeat (first | (with_reducible first | exact HI0.out | apply IsS73.alloc | apply IsS73.drewN | apply IsS73.drew | apply IsS73.set_1 | apply IsS73.set_2) | exact HI0.out)); (case side2 => repeat (first | (with_reducible first | exact HB.out | apply below_alloc | apply pw_below_drewN | apply below_drew1 | refine below_set ?_ (IsS73.ge HI0.out)) | exact HB.out)); rintro e w42 ⟨rfl, hi, hb, hk⟩; refine ⟨_, rfl, ?_⟩; have n0_ := Aside0.mk (Kd.R_mono (Kd.R_keep (IsS73.apart (show IsS73 w0 _ g s0_0 x1001_2 x1002_2 from by repeat (first | (with_reducible first | exact HI0.out | apply IsS73.alloc | apply IsS73.drewN | apply IsS73.drew | apply IsS73.set_1 | apply IsS73.set_2) | exact HI0.out)) (by (with_reducible repeat (first | apply Kd.R_alloc | apply Kd.R_drewN | apply Kd.R_drew)); exact HO_3.out) (by decide)) hk (fun _ h => h.2)) (fun _ h => h.1)); have n1_ := Aside0.mk (KeepBut.trans (by repeat (first | (with_reducible first | exact HK.out | apply KeepBut.set_ | apply keep_drewN | apply keep_drew | apply keep_alloc) | exact HK.out)) hk (.inl rfl)); have n2_ := Aside0.mk (hb); have n3_ := Aside0.mk (hi); clear HO_3; clear HK; clear HB; clear HI0; have HO_3 := n0_; have HK := n1_; have HB := n2_; have HI0 := n3_; clear n0_ n1_ n2_ n3_; (try clear hb); (try clear hb2); (try clear hk); (try clear hi)))
          go_ret
          exact ⟨_, by first | rfl | (simp [errW_none, errW_some] <;> rfl) | (simp [*, errW_none, errW_some] <;> rfl), by (with_reducible repeat (first | apply Kd.R_alloc | apply Kd.R_drewN | apply Kd.R_drew)); exact HO_3.out, by repeat (first | (with_reducible first | exact HI0.out | apply IsS73.alloc | apply IsS73.drewN | apply IsS73.drew | apply IsS73.set_1 | apply IsS73.set_2) | exact HI0.out), by repeat (first | (with_reducible first | exact HB.out | apply below_alloc | apply pw_below_drewN | apply below_drew1 | refine below_set ?_ (IsS73.ge HI0.out)) | exact HB.out), by repeat (first | (with_reducible first | exact HK.out | apply KeepBut.set_ | apply keep_drewN | apply keep_drew | apply keep_alloc) | exact HK.out)⟩
      ·rw [if_neg c30] at H
       have c30b0 : (t564 == 2) = false := beq_eq_false_iff_ne.mpr c30
       have c30b1 : (t564 != 2) = true := bne_iff_ne.mpr c30
       simp only [Option.some.injEq, Prod.mk.injEq] at H
       obtain ⟨rfl, rfl, rfl⟩ := H
       go_wp2_with (first | ((with_reducible refine gate_callee (f := 67) rfl ?_); refine goesL_ (some 21) rfl rfl Try.func67 (by kernel_rfl) rfl #[.pointer (some ⟨g, 0, none⟩), .int .i64 24] rfl (by (try simp only [List.map_toArray, List.map_cons, List.map_nil]); first | done | rfl | (simp only [List.length_drop, List.length_take]; rfl)) ?_; (with_reducible refine (spec_l1Cur_pick.calls g s0_0 x1001_1 x1002_1 24 t564 t565 t566 w0 _ ?side1 ?side2 A14.out).mono ?_); (case side1 => repeat (first | (with_reducible first | exact HI0.out | apply IsS73.alloc | apply IsS73.drewN | apply IsS73.drew | apply IsS73.set_1 | apply IsS73.set_2) | exact HI0.out)); (case side2 => repeat (first | (with_reducible first | exact HB.out | apply below_alloc | apply pw_below_drewN | apply below_drew1 | refine below_set ?_ (IsS73.ge HI0.out)) | exact HB.out)); rintro e w43 ⟨rfl, hi, hb, hk⟩; refine ⟨_, rfl, ?_⟩; have n0_ := Aside0.mk (Kd.R_mono (Kd.R_keep (IsS73.apart (show IsS73 w0 _ g s0_0 x1001_1 x1002_1 from by repeat (first | (with_reducible first | exact HI0.out | apply IsS73.alloc | apply IsS73.drewN | apply IsS73.drew | apply IsS73.set_1 | apply IsS73.set_2) | exact HI0.out)) (by (with_reducible repeat (first | apply Kd.R_alloc | apply Kd.R_drewN | apply Kd.R_drew)); exact HO_3.out) (by decide)) hk (fun _ h => h.2)) (fun _ h => h.1)); have n1_ := Aside0.mk (KeepBut.trans (by repeat (first | (with_reducible first | exact HK.out | apply KeepBut.set_ | apply keep_drewN | apply keep_drew | apply keep_alloc) | exact HK.out)) hk (.inl rfl)); have n2_ := Aside0.mk (hb); have n3_ := Aside0.mk (hi); clear HO_3; clear HK; clear HB; clear HI0; have HO_3 := n0_; have HK := n1_; have HB := n2_; have HI0 := n3_; clear n0_ n1_ n2_ n3_; (try clear hb); (try clear hb2); (try clear hk); (try clear hi)))
       go_ret
       exact ⟨_, by first | rfl | (simp [errW_none, errW_some] <;> rfl) | (simp [*, errW_none, errW_some] <;> rfl), by (with_reducible repeat (first | apply Kd.R_alloc | apply Kd.R_drewN | apply Kd.R_drew)); exact HO_3.out, by repeat (first | (with_reducible first | exact HI0.out | apply IsS73.alloc | apply IsS73.drewN | apply IsS73.drew | apply IsS73.set_1 | apply IsS73.set_2) | exact HI0.out), by repeat (first | (with_reducible first | exact HB.out | apply below_alloc | apply pw_below_drewN | apply below_drew1 | refine below_set ?_ (IsS73.ge HI0.out)) | exact HB.out), by repeat (first | (with_reducible first | exact HK.out | apply KeepBut.set_ | apply keep_drewN | apply keep_drew | apply keep_alloc) | exact HK.out)⟩

end Go.Proofs.Ytibfchjpdplehaa.G

-- Written by wip/tools/gen.py out of the translation (the kit's printer, one namespace a seat). Lean checks it.
namespace Go.Proofs.Ytibfchjpdplehaa.G
open Go.RowKit Go.Proofs.YtibfchjpdplehaaW.PrintWords Go.Proofs.YtibfchjpdplehaaW.PrintLast Go.Proofs.YtibfchjpdplehaaW.PrintMore
attribute [local go_sem] max2_int min2_int max_two min_two max_three min_three max_four min_four   -- for this text's walks alone
set_option linter.unusedVariables false
set_option linter.unusedSimpArgs false

/-! ### spec_l1Cur_division: function 68 -/
mutual
def spec_l1Cur_division.l0 : Nat → List Int → List Int → Int → Int → List Int → Int → Int → Option (List Int × Int × Int)
 | 0, _, _, _, _, _, _, _ => none
 | k + 1, x1, x7, x8, x9, x1000, x1001, x1002 => if x9 > 0 then (spec_l1Cur_division.j1 k x1 x7 x8 x9 (decide (x9 < 4)) x1000 x1001 x1002) else (spec_l1Cur_division.j1 k x1 x7 x8 x9 false x1000 x1001 x1002)
def spec_l1Cur_division.j1 : Nat → List Int → List Int → Int → Int → Bool → List Int → Int → Int → Option (List Int × Int × Int)
 | 0, _, _, _, _, _, _, _, _ => none
 | k + 1, x1, x7, x8, x9, x18, x1000, x1001, x1002 => if x18 = true then ((spec_l1Most.f (wrap64 ((wrap64 ((x1.length : Int) - x8)) + 1)) 1).bind fun t589 => ((spec_l1Cur_pick.f x1000 x1001 x1002 t589).bind fun bt590 => (if x7.length < 17592186044416 then (spec_l1Cur_division.l0 k x1 (x7 ++ [wrap64 (x8 + bt590.1)]) (wrap64 (x8 + bt590.1)) (wrap64 (x9 - 1)) x1000 bt590.2.1 bt590.2.2) else (none)))) else (if (x7.length : Int) > 0 then ((spec_l1Cur_one.f x1000 x1001 x1002 10).bind fun bt596 => (spec_l1Cur_division.j2 k x7 bt596.1 x1000 bt596.2.1 bt596.2.2)) else (spec_l1Cur_division.j2 k x7 false x1000 x1001 x1002))
def spec_l1Cur_division.j2 : Nat → List Int → Bool → List Int → Int → Int → Option (List Int × Int × Int)
 | 0, _, _, _, _, _ => none
 | k + 1, x7, x41, x1000, x1001, x1002 => if x41 = true then ((spec_l1Cur_pick.f x1000 x1001 x1002 (x7.length : Int)).bind fun bt599 => ((spec_l1Cur_pick.f x1000 bt599.2.1 bt599.2.2 14).bind fun bt602 => (if 0 ≤ bt599.1 then (if bt599.1 < (x7.length : Int) then (some ((x7.set (bt599.1 : Int).toNat (wrap64 (bt602.1 - 1))), bt602.2.1, bt602.2.2)) else (none)) else (none)))) else (some (x7, x1001, x1002))
end
def spec_l1Cur_division.f (k : Nat) (s0_0 : List Int) (s0_1 : Int) (s0_2 : Int) (l1 : List Int) (a2 : Int) : Option (List Int × Int × Int) := spec_l1Cur_division.l0 k l1 (([] : List Int)) 0 (wrap64 (a2 - 1)) s0_0 s0_1 s0_2
theorem spec_l1Cur_division.mono_l : ∀ k, (∀ y0 y1 y2 y3 y4 y5 y6, LeO (spec_l1Cur_division.l0 k y0 y1 y2 y3 y4 y5 y6) (spec_l1Cur_division.l0 (k + 1) y0 y1 y2 y3 y4 y5 y6)) ∧ (∀ y0 y1 y2 y3 y4 y5 y6 y7, LeO (spec_l1Cur_division.j1 k y0 y1 y2 y3 y4 y5 y6 y7) (spec_l1Cur_division.j1 (k + 1) y0 y1 y2 y3 y4 y5 y6 y7)) ∧ (∀ y0 y1 y2 y3 y4, LeO (spec_l1Cur_division.j2 k y0 y1 y2 y3 y4) (spec_l1Cur_division.j2 (k + 1) y0 y1 y2 y3 y4))
 | 0 => ⟨fun _ _ _ _ _ _ _ r h => by simp [spec_l1Cur_division.l0] at h, fun _ _ _ _ _ _ _ _ r h => by simp [spec_l1Cur_division.j1] at h, fun _ _ _ _ _ r h => by simp [spec_l1Cur_division.j2] at h⟩
 | k + 1 => by
  obtain ⟨ih0, ih1, ih2⟩ := spec_l1Cur_division.mono_l k
  refine ⟨?_, ?_, ?_⟩
  ·intro y0 y1 y2 y3 y4 y5 y6
   unfold spec_l1Cur_division.l0
   repeat' first
   | (with_reducible exact ih0 _ _ _ _ _ _ _)
   | (with_reducible exact ih1 _ _ _ _ _ _ _ _)
   | (with_reducible exact ih2 _ _ _ _ _)
   | (with_reducible exact LeO.refl _)
   | (with_reducible exact LeO.none _)
   | (with_reducible refine LeO.ite ?_ ?_)
   | (with_reducible refine LeO.bind ?_ (fun _ => ?_))
   | exact ih0 _ _ _ _ _ _ _
   | exact ih1 _ _ _ _ _ _ _ _
   | exact ih2 _ _ _ _ _
   | exact LeO.none _
   | refine LeO.ite ?_ ?_
   | refine LeO.bind ?_ (fun _ => ?_)
  ·intro y0 y1 y2 y3 y4 y5 y6 y7
   unfold spec_l1Cur_division.j1
   repeat' first
   | (with_reducible exact ih0 _ _ _ _ _ _ _)
   | (with_reducible exact ih1 _ _ _ _ _ _ _ _)
   | (with_reducible exact ih2 _ _ _ _ _)
   | (with_reducible exact LeO.refl _)
   | (with_reducible exact LeO.none _)
   | (with_reducible refine LeO.ite ?_ ?_)
   | (with_reducible refine LeO.bind ?_ (fun _ => ?_))
   | exact ih0 _ _ _ _ _ _ _
   | exact ih1 _ _ _ _ _ _ _ _
   | exact ih2 _ _ _ _ _
   | exact LeO.none _
   | refine LeO.ite ?_ ?_
   | refine LeO.bind ?_ (fun _ => ?_)
  ·intro y0 y1 y2 y3 y4
   unfold spec_l1Cur_division.j2
   repeat' first
   | (with_reducible exact ih0 _ _ _ _ _ _ _)
   | (with_reducible exact ih1 _ _ _ _ _ _ _ _)
   | (with_reducible exact ih2 _ _ _ _ _)
   | (with_reducible exact LeO.refl _)
   | (with_reducible exact LeO.none _)
   | (with_reducible refine LeO.ite ?_ ?_)
   | (with_reducible refine LeO.bind ?_ (fun _ => ?_))
   | exact ih0 _ _ _ _ _ _ _
   | exact ih1 _ _ _ _ _ _ _ _
   | exact ih2 _ _ _ _ _
   | exact LeO.none _
   | refine LeO.ite ?_ ?_
   | refine LeO.bind ?_ (fun _ => ?_)
theorem spec_l1Cur_division.mono : ∀ a0 a1 a2 a3 a4 k, LeO (spec_l1Cur_division.f k a0 a1 a2 a3 a4) (spec_l1Cur_division.f (k + 1) a0 a1 a2 a3 a4) := by
 intro a0 a1 a2 a3 a4 k
 obtain ⟨ih0, ih1, ih2⟩ := spec_l1Cur_division.mono_l k
 unfold spec_l1Cur_division.f
 repeat' first
   | (with_reducible exact ih0 _ _ _ _ _ _ _)
   | (with_reducible exact ih1 _ _ _ _ _ _ _ _)
   | (with_reducible exact ih2 _ _ _ _ _)
   | (with_reducible exact LeO.refl _)
   | (with_reducible exact LeO.none _)
   | (with_reducible refine LeO.ite ?_ ?_)
   | (with_reducible refine LeO.bind ?_ (fun _ => ?_))
   | exact ih0 _ _ _ _ _ _ _
   | exact ih1 _ _ _ _ _ _ _ _
   | exact ih2 _ _ _ _ _
   | exact LeO.none _
   | refine LeO.ite ?_ ?_
   | refine LeO.bind ?_ (fun _ => ?_)
set_option maxHeartbeats 8000000 in
set_option maxRecDepth 100000 in
theorem spec_l1Cur_division.calls (k : Nat) (g : Nat) (s0_0 : List Int) (s0_1 : Int) (s0_2 : Int) (A1 : Option Addr) (c1 : Nat) (l1 : List Int) (a2 : Int) (r1 : List Int) (r2 : Int) (r3 : Int) (w0 w : World) (hI : IsS73 w0 w g s0_0 s0_1 s0_2) (hB : Below w0.heap.size w0 w) (hr1 : Kd.C (Kd.int .i64) w A1 l1.length l1) (hc1 : l1.length ≤ c1) (hf1 : ∀ ad, A1 = some ad → 0 < l1.length → ad.block ≠ g) (h : spec_l1Cur_division.f k s0_0 s0_1 s0_2 l1 a2 = some (r1, r2, r3)) :
  Calls Try.prog 68 #[.pointer (some ⟨g, 0, none⟩), .slice A1 l1.length c1, .int .i64 a2] w fun e w' => ∃ v0_ : Value, e = .returned (v0_) ∧ Kd.R (Kd.int .i64) 3 w' w.heap.size (fun _ => True) v0_ r1 ∧ IsS73 w0 w' g s0_0 r2 r3 ∧ Below w0.heap.size w0 w' ∧ KeepBut w w' g none := by
 have HR1 := Aside0.mk hr1
 have HC1 := Aside0.mk hc1
 clear hr1 hc1
 have HI0 := Aside0.mk hI
 have HK := Aside0.mk (KeepBut.refl w g none)
 have HL := Aside0.mk hB.size
 clear hI
 have HW0 := Aside0.mk hB.size
 have HB := Aside0.mk hB
 clear hB
 have H : (spec_l1Cur_division.l0 k l1 (([] : List Int)) 0 (wrap64 (a2 - 1)) s0_0 s0_1 s0_2) = some (r1, r2, r3) := h
 clear h
 obtain ⟨y586, hy586⟩ : ∃ y_ : List Int, y_ = (([] : List Int)) := ⟨_, rfl⟩
 replace H : (spec_l1Cur_division.l0 k l1 y586 0 (wrap64 (a2 - 1)) s0_0 s0_1 s0_2) = some (r1, r2, r3) := by first | (rw [hy586]; with_reducible exact H) | (have H2_ := (Option.bind_some _ _).symm.trans H; rw [hy586]; with_reducible exact H2_) | (have H2_ := (Option.bind_some _ _).symm.trans H; with_reducible exact H2_) | with_reducible exact H | (rw [hy586]; exact H) | exact H
 have Ny586 := Aside0.mk hy586
 clear hy586
 have H' := Aside0.mk H
 clear H
 go_enter Try.func68, Try.ntmps68
 go_wp2_with (first | ((with_reducible refine gate_dst (N := 10) rfl ?_); refine Kd.R_lit (Kd.int .i64) _ 3 ?hg (N := 10) ?hd (xs := ([] : List Int)) (inner := []) (ok := fun _ => True) (okp := fun _ => True) ?hr ?hp (fun _ hk => hk) trivial (Below.refl _ _) (Nat.le_refl _) (by simp) ?_; (case hd => rfl); (case hg => rfl); (case hr => first | (go_simp; done) | (go_simp; rfl)); (case hp => exact (Reps.none _ _)); intro v587 w4 ho5 hb hg_ hnew_; clear hg_ hnew_; (first | rw [← Ny586.out] at ho5 | (simp only [Int.reduceToNat] at ho5; rw [← Ny586.out] at ho5)); have n0_ := Aside0.mk (Kd.R_lower ho5 (keep_size (w := w) (g := g) (row := none) (by repeat (first | (with_reducible first | exact HK.out | apply KeepBut.set_ | apply keep_drewN | apply keep_drew | apply keep_alloc) | exact HK.out)))); have n1_ := Aside0.mk (IsS73.below (by repeat (first | (with_reducible first | exact HI0.out | apply IsS73.alloc | apply IsS73.drewN | apply IsS73.drew | apply IsS73.set_1 | apply IsS73.set_2) | exact HI0.out)) hb); have n2_ := Aside0.mk (KeepBut.trans (by repeat (first | (with_reducible first | exact HK.out | apply KeepBut.set_ | apply keep_drewN | apply keep_drew | apply keep_alloc) | exact HK.out)) (KeepBut.of_below hb g none) (.inl rfl)); have n3_ := Aside0.mk (below_step (by repeat (first | (with_reducible first | exact HB.out | apply below_alloc | apply pw_below_drewN | apply below_drew1 | refine below_set ?_ (IsS73.ge HI0.out)) | exact HB.out)) hb); clear HI0; clear HK; clear HB; have HO588 := n0_; have HI0 := n1_; have HK := n2_; have HB := n3_; clear n0_ n1_ n2_ n3_; clear hb ho5))
 go_loopg [7, 8, 9] k (fun kq v7 v8 v9 w' => ∃ (x7_1 : List Int) (x8_1 : Int) (x9_1 : Int) (x1001_1 : Int) (x1002_1 : Int), v8 = .int .i64 x8_1 ∧ v9 = .int .i64 x9_1 ∧ Aside0 (spec_l1Cur_division.l0 kq l1 x7_1 x8_1 x9_1 s0_0 x1001_1 x1002_1 = some (r1, r2, r3)) ∧ Aside0 (kq ≤ k) ∧ Aside0 (Kd.R (Kd.int .i64) 3 w' w.heap.size (fun _ => True) v7 x7_1) ∧ Aside0 (IsS73 w0 w' g s0_0 x1001_1 x1002_1) ∧ Aside0 (KeepBut w w' g none) ∧ Aside0 (Below w0.heap.size w0 w'))
 case atStart => exact ⟨(y586), (0), (wrap64 (a2 - 1)), (s0_1), (s0_2), (by first | rfl | (simp; done) | (simp [*]; done)), (by first | rfl | (simp; done) | (simp [*]; done)), H', ⟨Nat.le_refl _⟩, ⟨by (with_reducible repeat (first | apply Kd.R_alloc | apply Kd.R_drewN | apply Kd.R_drew)); exact HO588.out⟩, ⟨by repeat (first | (with_reducible first | exact HI0.out | apply IsS73.alloc | apply IsS73.drewN | apply IsS73.drew | apply IsS73.set_1 | apply IsS73.set_2) | exact HI0.out)⟩, ⟨by repeat (first | (with_reducible first | exact HK.out | apply KeepBut.set_ | apply keep_drewN | apply keep_drew | apply keep_alloc) | exact HK.out)⟩, ⟨by repeat (first | (with_reducible first | exact HB.out | apply below_alloc | apply pw_below_drewN | apply below_drew1 | refine below_set ?_ (IsS73.ge HI0.out)) | exact HB.out)⟩⟩
 case round =>
  clear H'
  try clear c1
  try clear p2
  obtain ⟨x7_1, x8_1, x9_1, x1001_1, x1002_1, rfl, rfl, HA, HK1, HO_7, HI0, HK, HB⟩ := hrel
  cases gk with
  | zero => exact absurd HA.out (by simp [spec_l1Cur_division.l0])
  | succ k1 =>
   have H := HA.out
   clear HA
   simp only [spec_l1Cur_division.l0] at H
   have HC6 := Aside0.mk H
   clear H
   go_upto_region 4 with (fail)
   go_cut [18] (fun v18 wc => ∃ (kq : Nat) (x18_5 : Bool), v18 = .bool x18_5 ∧ Aside0 (spec_l1Cur_division.j1 kq l1 x7_1 x8_1 x9_1 x18_5 s0_0 x1001_1 x1002_1 = some (r1, r2, r3)) ∧ Aside0 (kq ≤ k1) ∧ Aside0 (Kd.R (Kd.int .i64) 3 wc w.heap.size (fun _ => True) u7 x7_1) ∧ Aside0 (IsS73 w0 wc g s0_0 x1001_1 x1002_1) ∧ Aside0 (KeepBut w wc g none) ∧ Aside0 (Below w0.heap.size w0 wc))
   case first =>
    have H := HC6.out
    clear HC6
    by_cases c7 : x9_1 > 0
    ·rw [if_pos c7] at H
     have c7b0 : decide (0 < x9_1) = true := decide_eq_true c7
     clear c7
     (first | rw [c7b0] | (simp only [i64_w, i32_w]; rw [c7b0]) | skip)
     have H' := Aside0.mk H
     clear H
     go_wp2
     go_meet
     case rel => exact ⟨_, (decide (x9_1 < 4)), (by first | rfl | (simp; done) | (simp [*]; done)), H', ⟨by have := HK1.out; first | omega | exact Nat.le_refl _⟩, ⟨by (with_reducible repeat (first | apply Kd.R_alloc | apply Kd.R_drewN | apply Kd.R_drew)); exact HO_7.out⟩, ⟨by repeat (first | (with_reducible first | exact HI0.out | apply IsS73.alloc | apply IsS73.drewN | apply IsS73.drew | apply IsS73.set_1 | apply IsS73.set_2) | exact HI0.out)⟩, ⟨by repeat (first | (with_reducible first | exact HK.out | apply KeepBut.set_ | apply keep_drewN | apply keep_drew | apply keep_alloc) | exact HK.out)⟩, ⟨by repeat (first | (with_reducible first | exact HB.out | apply below_alloc | apply pw_below_drewN | apply below_drew1 | refine below_set ?_ (IsS73.ge HI0.out)) | exact HB.out)⟩⟩
    ·rw [if_neg c7] at H
     have c7b0 : decide (0 < x9_1) = false := decide_eq_false c7
     clear c7
     (first | rw [c7b0] | (simp only [i64_w, i32_w]; rw [c7b0]) | skip)
     have H' := Aside0.mk H
     clear H
     go_wp2
     go_meet
     case rel => exact ⟨_, (false), (by first | rfl | (simp; done) | (simp [*]; done)), H', ⟨by have := HK1.out; first | omega | exact Nat.le_refl _⟩, ⟨by (with_reducible repeat (first | apply Kd.R_alloc | apply Kd.R_drewN | apply Kd.R_drew)); exact HO_7.out⟩, ⟨by repeat (first | (with_reducible first | exact HI0.out | apply IsS73.alloc | apply IsS73.drewN | apply IsS73.drew | apply IsS73.set_1 | apply IsS73.set_2) | exact HI0.out)⟩, ⟨by repeat (first | (with_reducible first | exact HK.out | apply KeepBut.set_ | apply keep_drewN | apply keep_drew | apply keep_alloc) | exact HK.out)⟩, ⟨by repeat (first | (with_reducible first | exact HB.out | apply below_alloc | apply pw_below_drewN | apply below_drew1 | refine below_set ?_ (IsS73.ge HI0.out)) | exact HB.out)⟩⟩
   case rest =>
    clear HC6
    try clear c1
    try clear p2
    try clear c6
    try clear p6
    try clear c7
    try clear c7b0
    try clear p2
    obtain ⟨kq, x18_5, rfl, HA, HJ5, HO_7, HI0, HK, HB⟩ := hcut
    cases kq with
    | zero => exact absurd HA.out (by simp [spec_l1Cur_division.j1])
    | succ kj5 =>
     have H := HA.out
     clear HA
     simp only [spec_l1Cur_division.j1] at H
     by_cases c8 : x18_5 = true
     ·subst c8
      have H1 : ((spec_l1Most.f (wrap64 ((wrap64 ((l1.length : Int) - x8_1)) + 1)) 1).bind fun t589 => ((spec_l1Cur_pick.f s0_0 x1001_1 x1002_1 t589).bind fun bt590 => (if x7_1.length < 17592186044416 then (spec_l1Cur_division.l0 kj5 l1 (x7_1 ++ [wrap64 (x8_1 + bt590.1)]) (wrap64 (x8_1 + bt590.1)) (wrap64 (x9_1 - 1)) s0_0 bt590.2.1 bt590.2.2) else (none)))) = some (r1, r2, r3) := by rw [if_pos rfl] at H; exact H
      clear H
      have H := H1
      clear H1
      replace H := Option.bind_eq_some_iff.mp H
      obtain ⟨t589, A90, H⟩ := H
      replace H : ((spec_l1Cur_pick.f s0_0 x1001_1 x1002_1 t589).bind fun bt590 => (if x7_1.length < 17592186044416 then (spec_l1Cur_division.l0 kj5 l1 (x7_1 ++ [wrap64 (x8_1 + bt590.1)]) (wrap64 (x8_1 + bt590.1)) (wrap64 (x9_1 - 1)) s0_0 bt590.2.1 bt590.2.2) else (none))) = some (r1, r2, r3) := H
      have A9 := Aside0.mk A90
      clear A90
      replace H := Option.bind_eq_some_iff.mp H
      obtain ⟨⟨t590, t591, t592⟩, A100, H⟩ := H
      replace H : (if x7_1.length < 17592186044416 then (spec_l1Cur_division.l0 kj5 l1 (x7_1 ++ [wrap64 (x8_1 + t590)]) (wrap64 (x8_1 + t590)) (wrap64 (x9_1 - 1)) s0_0 t591 t592) else (none)) = some (r1, r2, r3) := H
      have A10 := Aside0.mk A100
      clear A100
      by_cases c11 : x7_1.length < 17592186044416
      ·rw [if_pos c11] at H
       have LMc11 := Aside0.mk c11
       clear c11
       obtain ⟨y593, hy593⟩ : ∃ y_ : List Int, y_ = (x7_1 ++ [wrap64 (x8_1 + t590)]) := ⟨_, rfl⟩
       replace H : (spec_l1Cur_division.l0 kj5 l1 y593 (wrap64 (x8_1 + t590)) (wrap64 (x9_1 - 1)) s0_0 t591 t592) = some (r1, r2, r3) := by first | (rw [hy593]; with_reducible exact H) | (have H2_ := (Option.bind_some _ _).symm.trans H; rw [hy593]; with_reducible exact H2_) | (have H2_ := (Option.bind_some _ _).symm.trans H; with_reducible exact H2_) | with_reducible exact H | (rw [hy593]; exact H) | exact H
       have Ny593 := Aside0.mk hy593
       clear hy593
       have H' := Aside0.mk H
       clear H
       go_wp2_with (first | ((with_reducible refine gate_callee (f := 43) rfl ?_); refine goesL_ (some 28) rfl rfl Try.func43 (by kernel_rfl) rfl #[.int .i64 (wrap64 ((wrap64 ((l1.length : Int) - x8_1)) + 1)), .int .i64 1] rfl (by (try simp only [List.map_toArray, List.map_cons, List.map_nil]); first | done | rfl | (simp only [List.length_drop, List.length_take]; rfl)) ?_; (with_reducible refine (spec_l1Most.calls (wrap64 ((wrap64 ((l1.length : Int) - x8_1)) + 1)) 1 t589 _ A9.out).mono ?_); rintro e w' ⟨rfl, ⟨nd, rfl⟩⟩; refine ⟨_, rfl, ?_⟩) | ((with_reducible refine gate_callee (f := 67) rfl ?_); refine goesL_ (some 29) rfl rfl Try.func67 (by kernel_rfl) rfl #[.pointer (some ⟨g, 0, none⟩), .int .i64 t589] rfl (by (try simp only [List.map_toArray, List.map_cons, List.map_nil]); first | done | rfl | (simp only [List.length_drop, List.length_take]; rfl)) ?_; (with_reducible refine (spec_l1Cur_pick.calls g s0_0 x1001_1 x1002_1 t589 t590 t591 t592 w0 _ ?side1 ?side2 A10.out).mono ?_); (case side1 => repeat (first | (with_reducible first | exact HI0.out | apply IsS73.alloc | apply IsS73.drewN | apply IsS73.drew | apply IsS73.set_1 | apply IsS73.set_2) | exact HI0.out)); (case side2 => repeat (first | (with_reducible first | exact HB.out | apply below_alloc | apply pw_below_drewN | apply below_drew1 | refine below_set ?_ (IsS73.ge HI0.out)) | exact HB.out)); rintro e w12 ⟨rfl, hi, hb, hk⟩; refine ⟨_, rfl, ?_⟩; have n0_ := Aside0.mk (Kd.R_mono (Kd.R_keep (IsS73.apart (show IsS73 w0 _ g s0_0 x1001_1 x1002_1 from by repeat (first | (with_reducible first | exact HI0.out | apply IsS73.alloc | apply IsS73.drewN | apply IsS73.drew | apply IsS73.set_1 | apply IsS73.set_2) | exact HI0.out)) (by (with_reducible repeat (first | apply Kd.R_alloc | apply Kd.R_drewN | apply Kd.R_drew)); exact HO_7.out) (by decide)) hk (fun _ h => h.2)) (fun _ h => h.1)); have n1_ := Aside0.mk (KeepBut.trans (by repeat (first | (with_reducible first | exact HK.out | apply KeepBut.set_ | apply keep_drewN | apply keep_drew | apply keep_alloc) | exact HK.out)) hk (.inl rfl)); have n2_ := Aside0.mk (hb); have n3_ := Aside0.mk (hi); clear HO_7; clear HK; clear HB; clear HI0; have HO_7 := n0_; have HK := n1_; have HB := n2_; have HI0 := n3_; clear n0_ n1_ n2_ n3_; (try clear hb); (try clear hb2); (try clear hk); (try clear hi)) | ((with_reducible refine gate_builtin (b := .append) (xs := #[.tmp 31, .tmp 33]) rfl ?_); at_builtin; refine Kd.R_append (Kd.int .i64) w.heap.size rfl (.tmp 31) (.tmp 33) 22 3 (.int .i64 0) 8 rfl Try.underlying22 info3 rfl (by decide) (by omega) u7 x7_1 (wrap64 (x8_1 + t590)) [.int .i64 (wrap64 (x8_1 + t590))] (fun _ => True) (fun _ => False) rfl rfl ?aP (fun _ hk => hk.elim) ?aF ?aO (Below.refl _ _) ?aS ?aL ?_; (case aP => exact rfl); (case aF => exact (fun _ _ => trivial)); (case aO => exact (by (with_reducible repeat (first | apply Kd.R_alloc | apply Kd.R_drewN | apply Kd.R_drew)); exact HO_7.out)); (case aS => exact (keep_size (w := w) (g := g) (row := none) (by repeat (first | (with_reducible first | exact HK.out | apply KeepBut.set_ | apply keep_drewN | apply keep_drew | apply keep_alloc) | exact HK.out)))); (case aL => have := LMc11.out; omega); intro v594 w13 ho hb hg hat; rw [← Ny593.out] at ho; have n0_ := Aside0.mk (IsS73.grown (by repeat (first | (with_reducible first | exact HI0.out | apply IsS73.alloc | apply IsS73.drewN | apply IsS73.drew | apply IsS73.set_1 | apply IsS73.set_2) | exact HI0.out)) hg (IsS73.own_ne HI0.out HO_7.out (by decide))); have n1_ := Aside0.mk (below_weaken (by repeat (first | (with_reducible first | exact HB.out | apply below_alloc | apply pw_below_drewN | apply below_drew1 | refine below_set ?_ (IsS73.ge HI0.out)) | exact HB.out)) HL.out hb); have n2_ := Aside0.mk (KeepBut.trans (by repeat (first | (with_reducible first | exact HK.out | apply KeepBut.set_ | apply keep_drewN | apply keep_drew | apply keep_alloc) | exact HK.out)) (KeepBut.of_grown hg g) (Kd.R_base2 HO_7.out)); have n3_ := Aside0.mk (ho); clear HI0; clear HB; clear HK; clear HO_7; have HI0 := n0_; have HB := n1_; have HK := n2_; have HO595 := n3_; clear n0_ n1_ n2_ n3_; clear ho hb hg hat))
       go_roundg kj5
       case measure => have := HK1.out; have := HJ5.out; omega
       case rel => exact ⟨(y593), (wrap64 (x8_1 + t590)), (wrap64 (x9_1 - 1)), (t591), (t592), (by first | rfl | (simp; done) | (simp [*]; done)), (by first | rfl | (simp; done) | (simp [*]; done)), H', ⟨by have := HK1.out; have := HJ5.out; omega⟩, ⟨by (with_reducible repeat (first | apply Kd.R_alloc | apply Kd.R_drewN | apply Kd.R_drew)); exact HO595.out⟩, ⟨by repeat (first | (with_reducible first | exact HI0.out | apply IsS73.alloc | apply IsS73.drewN | apply IsS73.drew | apply IsS73.set_1 | apply IsS73.set_2) | exact HI0.out)⟩, ⟨by repeat (first | (with_reducible first | exact HK.out | apply KeepBut.set_ | apply keep_drewN | apply keep_drew | apply keep_alloc) | exact HK.out)⟩, ⟨by repeat (first | (with_reducible first | exact HB.out | apply below_alloc | apply pw_below_drewN | apply below_drew1 | refine below_set ?_ (IsS73.ge HI0.out)) | exact HB.out)⟩⟩
      ·rw [if_neg c11] at H
       exact absurd H (by simp)
     ·replace c8 := Bool.eq_false_iff.mpr c8
      subst c8
      have H1 : (if (x7_1.length : Int) > 0 then ((spec_l1Cur_one.f s0_0 x1001_1 x1002_1 10).bind fun bt596 => (spec_l1Cur_division.j2 kj5 x7_1 bt596.1 s0_0 bt596.2.1 bt596.2.2)) else (spec_l1Cur_division.j2 kj5 x7_1 false s0_0 x1001_1 x1002_1)) = some (r1, r2, r3) := by rw [if_neg (show ¬ (false = true) by decide)] at H; exact H
      clear H
      have H := H1
      clear H1
      have HC14 := Aside0.mk H
      clear H
      go_upto_region 8 with (fail)
      go_cut [41] (fun v41 wc => ∃ (kq : Nat) (x41_13 : Bool) (x1001_13 : Int) (x1002_13 : Int), v41 = .bool x41_13 ∧ Aside0 (spec_l1Cur_division.j2 kq x7_1 x41_13 s0_0 x1001_13 x1002_13 = some (r1, r2, r3)) ∧ Aside0 (kq ≤ kj5) ∧ Aside0 (Kd.R (Kd.int .i64) 3 wc w.heap.size (fun _ => True) u7 x7_1) ∧ Aside0 (IsS73 w0 wc g s0_0 x1001_13 x1002_13) ∧ Aside0 (KeepBut w wc g none) ∧ Aside0 (Below w0.heap.size w0 wc))
      case first =>
       have H := HC14.out
       clear HC14
       by_cases c15 : (x7_1.length : Int) > 0
       ·rw [if_pos c15] at H
        have c15b0 : decide (0 < (x7_1.length : Int)) = true := decide_eq_true c15
        have c15b1 : decide (0 < x7_1.length) = true := decide_eq_true (by omega)
        clear c15
        (first | rw [c15b0] | (simp only [i64_w, i32_w]; rw [c15b0]) | skip)
        replace H := Option.bind_eq_some_iff.mp H
        obtain ⟨⟨t596, t597, t598⟩, A160, H⟩ := H
        replace H : (spec_l1Cur_division.j2 kj5 x7_1 t596 s0_0 t597 t598) = some (r1, r2, r3) := H
        have A16 := Aside0.mk A160
        clear A160
        have H' := Aside0.mk H
        clear H
        obtain ⟨Ao17, co17, eo17⟩ := Kd.R_slice HO_7.out
        subst eo17
        go_wp2_with (first | (go_at_call 69; (with_reducible refine (spec_l1Cur_one.calls g s0_0 x1001_1 x1002_1 10 t596 t597 t598 w0 _ ?side1 ?side2 A16.out).mono ?_); (case side1 => repeat (first | (with_reducible first | exact HI0.out | apply IsS73.alloc | apply IsS73.drewN | apply IsS73.drew | apply IsS73.set_1 | apply IsS73.set_2) | exact HI0.out)); (case side2 => repeat (first | (with_reducible first | exact HB.out | apply below_alloc | apply pw_below_drewN | apply below_drew1 | refine below_set ?_ (IsS73.ge HI0.out)) | exact HB.out)); rintro e w18 ⟨rfl, hi, hb, hk⟩; have n0_ := Aside0.mk (Kd.R_mono (Kd.R_keep (IsS73.apart (show IsS73 w0 _ g s0_0 x1001_1 x1002_1 from by repeat (first | (with_reducible first | exact HI0.out | apply IsS73.alloc | apply IsS73.drewN | apply IsS73.drew | apply IsS73.set_1 | apply IsS73.set_2) | exact HI0.out)) (by (with_reducible repeat (first | apply Kd.R_alloc | apply Kd.R_drewN | apply Kd.R_drew)); exact HO_7.out) (by decide)) hk (fun _ h => h.2)) (fun _ h => h.1)); have n1_ := Aside0.mk (KeepBut.trans (by repeat (first | (with_reducible first | exact HK.out | apply KeepBut.set_ | apply keep_drewN | apply keep_drew | apply keep_alloc) | exact HK.out)) hk (.inl rfl)); have n2_ := Aside0.mk (hb); have n3_ := Aside0.mk (hi); clear HO_7; clear HK; clear HB; clear HI0; have HO_7 := n0_; have HK := n1_; have HB := n2_; have HI0 := n3_; clear n0_ n1_ n2_ n3_; (try clear hb); (try clear hb2); (try clear hk); (try clear hi)))
        go_meet
        case rel => exact ⟨_, (t596), (t597), (t598), (by first | rfl | (simp; done) | (simp [*]; done)), H', ⟨by have := HK1.out; have := HJ5.out; first | omega | exact Nat.le_refl _⟩, ⟨by (with_reducible repeat (first | apply Kd.R_alloc | apply Kd.R_drewN | apply Kd.R_drew)); exact HO_7.out⟩, ⟨by repeat (first | (with_reducible first | exact HI0.out | apply IsS73.alloc | apply IsS73.drewN | apply IsS73.drew | apply IsS73.set_1 | apply IsS73.set_2) | exact HI0.out)⟩, ⟨by repeat (first | (with_reducible first | exact HK.out | apply KeepBut.set_ | apply keep_drewN | apply keep_drew | apply keep_alloc) | exact HK.out)⟩, ⟨by repeat (first | (with_reducible first | exact HB.out | apply below_alloc | apply pw_below_drewN | apply below_drew1 | refine below_set ?_ (IsS73.ge HI0.out)) | exact HB.out)⟩⟩
       ·rw [if_neg c15] at H
        have c15b0 : decide (0 < (x7_1.length : Int)) = false := decide_eq_false c15
        have c15b1 : decide (0 < x7_1.length) = false := decide_eq_false (by omega)
        clear c15
        (first | rw [c15b0] | (simp only [i64_w, i32_w]; rw [c15b0]) | skip)
        have H' := Aside0.mk H
        clear H
        obtain ⟨Ao19, co19, eo19⟩ := Kd.R_slice HO_7.out
        subst eo19
        go_wp2
        go_meet
        case rel => exact ⟨_, (false), (x1001_1), (x1002_1), (by first | rfl | (simp; done) | (simp [*]; done)), H', ⟨by have := HK1.out; have := HJ5.out; first | omega | exact Nat.le_refl _⟩, ⟨by (with_reducible repeat (first | apply Kd.R_alloc | apply Kd.R_drewN | apply Kd.R_drew)); exact HO_7.out⟩, ⟨by repeat (first | (with_reducible first | exact HI0.out | apply IsS73.alloc | apply IsS73.drewN | apply IsS73.drew | apply IsS73.set_1 | apply IsS73.set_2) | exact HI0.out)⟩, ⟨by repeat (first | (with_reducible first | exact HK.out | apply KeepBut.set_ | apply keep_drewN | apply keep_drew | apply keep_alloc) | exact HK.out)⟩, ⟨by repeat (first | (with_reducible first | exact HB.out | apply below_alloc | apply pw_below_drewN | apply below_drew1 | refine below_set ?_ (IsS73.ge HI0.out)) | exact HB.out)⟩⟩
      case rest =>
       clear HC14
       try clear c1
       try clear p2
       try clear c4
       try clear c6
       try clear p6
       try clear c7
       try clear c7b0
       try clear c8
       try clear c11
       try clear c15
       try clear c15b0
       try clear c15b1
       try clear p2
       try clear p6
       obtain ⟨kq, x41_13, x1001_13, x1002_13, rfl, HA, HJ13, HO_7, HI0, HK, HB⟩ := hcut
       cases kq with
       | zero => exact absurd HA.out (by simp [spec_l1Cur_division.j2])
       | succ kj13 =>
        have H := HA.out
        clear HA
        simp only [spec_l1Cur_division.j2] at H
        by_cases c20 : x41_13 = true
        ·subst c20
         have H1 : ((spec_l1Cur_pick.f s0_0 x1001_13 x1002_13 (x7_1.length : Int)).bind fun bt599 => ((spec_l1Cur_pick.f s0_0 bt599.2.1 bt599.2.2 14).bind fun bt602 => (if 0 ≤ bt599.1 then (if bt599.1 < (x7_1.length : Int) then (some ((x7_1.set (bt599.1 : Int).toNat (wrap64 (bt602.1 - 1))), bt602.2.1, bt602.2.2)) else (none)) else (none)))) = some (r1, r2, r3) := by rw [if_pos rfl] at H; exact H
         clear H
         have H := H1
         clear H1
         replace H := Option.bind_eq_some_iff.mp H
         obtain ⟨⟨t599, t600, t601⟩, A210, H⟩ := H
         replace H : ((spec_l1Cur_pick.f s0_0 t600 t601 14).bind fun bt602 => (if 0 ≤ t599 then (if t599 < (x7_1.length : Int) then (some ((x7_1.set (t599 : Int).toNat (wrap64 (bt602.1 - 1))), bt602.2.1, bt602.2.2)) else (none)) else (none))) = some (r1, r2, r3) := H
         have A21 := Aside0.mk A210
         clear A210
         replace H := Option.bind_eq_some_iff.mp H
         obtain ⟨⟨t602, t603, t604⟩, A220, H⟩ := H
         replace H : (if 0 ≤ t599 then (if t599 < (x7_1.length : Int) then (some ((x7_1.set (t599 : Int).toNat (wrap64 (t602 - 1))), t603, t604)) else (none)) else (none)) = some (r1, r2, r3) := H
         have A22 := Aside0.mk A220
         clear A220
         by_cases c23 : 0 ≤ t599
         ·rw [if_pos c23] at H
          have c23b0 : decide (0 ≤ t599) = true := decide_eq_true c23
          clear c23
          by_cases c24 : t599 < (x7_1.length : Int)
          ·rw [if_pos c24] at H
           have c24b0 : decide (t599 < (x7_1.length : Int)) = true := decide_eq_true c24
           clear c24
           obtain ⟨y605, hy605⟩ : ∃ y_ : List Int, y_ = (x7_1.set (t599 : Int).toNat (wrap64 (t602 - 1))) := ⟨_, rfl⟩
           replace H : (some (y605, t603, t604)) = some (r1, r2, r3) := by first | (rw [hy605]; with_reducible exact H) | (have H2_ := (Option.bind_some _ _).symm.trans H; rw [hy605]; with_reducible exact H2_) | (have H2_ := (Option.bind_some _ _).symm.trans H; with_reducible exact H2_) | with_reducible exact H | (rw [hy605]; exact H) | exact H
           have Ny605 := Aside0.mk hy605
           clear hy605
           simp only [Option.some.injEq, Prod.mk.injEq] at H
           obtain ⟨rfl, rfl, rfl⟩ := H
           obtain ⟨Ao26, co26, eo26⟩ := Kd.R_slice HO_7.out
           subst eo26
           go_wp2_with (first | ((with_reducible refine gate_callee (f := 67) rfl ?_); refine goesL_ (some 46) rfl rfl Try.func67 (by kernel_rfl) rfl #[.pointer (some ⟨g, 0, none⟩), .int .i64 (x7_1.length : Int)] rfl (by (try simp only [List.map_toArray, List.map_cons, List.map_nil]); first | done | rfl | (simp only [List.length_drop, List.length_take]; rfl)) ?_; (with_reducible refine (spec_l1Cur_pick.calls g s0_0 x1001_13 x1002_13 (x7_1.length : Int) t599 t600 t601 w0 _ ?side1 ?side2 A21.out).mono ?_); (case side1 => repeat (first | (with_reducible first | exact HI0.out | apply IsS73.alloc | apply IsS73.drewN | apply IsS73.drew | apply IsS73.set_1 | apply IsS73.set_2) | exact HI0.out)); (case side2 => repeat (first | (with_reducible first | exact HB.out | apply below_alloc | apply pw_below_drewN | apply below_drew1 | refine below_set ?_ (IsS73.ge HI0.out)) | exact HB.out)); rintro e w27 ⟨rfl, hi, hb, hk⟩; refine ⟨_, rfl, ?_⟩; have n0_ := Aside0.mk (Kd.R_mono (Kd.R_keep (IsS73.apart (show IsS73 w0 _ g s0_0 x1001_13 x1002_13 from by repeat (first | (with_reducible first | exact HI0.out | apply IsS73.alloc | apply IsS73.drewN | apply IsS73.drew | apply IsS73.set_1 | apply IsS73.set_2) | exact HI0.out)) (by (with_reducible repeat (first | apply Kd.R_alloc | apply Kd.R_drewN | apply Kd.R_drew)); exact HO_7.out) (by decide)) hk (fun _ h => h.2)) (fun _ h => h.1)); have n1_ := Aside0.mk (KeepBut.trans (by repeat (first | (with_reducible first | exact HK.out | apply KeepBut.set_ | apply keep_drewN | apply keep_drew | apply keep_alloc) | exact HK.out)) hk (.inl rfl)); have n2_ := Aside0.mk (hb); have n3_ := Aside0.mk (hi); clear HO_7; clear HK; clear HB; clear HI0; have HO_7 := n0_; have HK := n1_; have HB := n2_; have HI0 := n3_; clear n0_ n1_ n2_ n3_; (try clear hb); (try clear hb2); (try clear hk); (try clear hi)) | ((with_reducible refine gate_callee (f := 67) rfl ?_); refine goesL_ (some 48) rfl rfl Try.func67 (by kernel_rfl) rfl #[.pointer (some ⟨g, 0, none⟩), .int .i64 14] rfl (by (try simp only [List.map_toArray, List.map_cons, List.map_nil]); first | done | rfl | (simp only [List.length_drop, List.length_take]; rfl)) ?_; (with_reducible refine (spec_l1Cur_pick.calls g s0_0 t600 t601 14 t602 t603 t604 w0 _ ?side1 ?side2 A22.out).mono ?_); (case side1 => repeat (first | (with_reducible first | exact HI0.out | apply IsS73.alloc | apply IsS73.drewN | apply IsS73.drew | apply IsS73.set_1 | apply IsS73.set_2) | exact HI0.out)); (case side2 => repeat (first | (with_reducible first | exact HB.out | apply below_alloc | apply pw_below_drewN | apply below_drew1 | refine below_set ?_ (IsS73.ge HI0.out)) | exact HB.out)); rintro e w28 ⟨rfl, hi, hb, hk⟩; refine ⟨_, rfl, ?_⟩; have n0_ := Aside0.mk (Kd.R_mono (Kd.R_keep (IsS73.apart (show IsS73 w0 _ g s0_0 t600 t601 from by repeat (first | (with_reducible first | exact HI0.out | apply IsS73.alloc | apply IsS73.drewN | apply IsS73.drew | apply IsS73.set_1 | apply IsS73.set_2) | exact HI0.out)) (by (with_reducible repeat (first | apply Kd.R_alloc | apply Kd.R_drewN | apply Kd.R_drew)); exact HO_7.out) (by decide)) hk (fun _ h => h.2)) (fun _ h => h.1)); have n1_ := Aside0.mk (KeepBut.trans (by repeat (first | (with_reducible first | exact HK.out | apply KeepBut.set_ | apply keep_drewN | apply keep_drew | apply keep_alloc) | exact HK.out)) hk (.inl rfl)); have n2_ := Aside0.mk (hb); have n3_ := Aside0.mk (hi); clear HO_7; clear HK; clear HB; clear HI0; have HO_7 := n0_; have HK := n1_; have HB := n2_; have HI0 := n3_; clear n0_ n1_ n2_ n3_; (try clear hb); (try clear hb2); (try clear hk); (try clear hi); have p25 : 0 ≤ (t599 : Int) := of_decide_eq_true (by first | (with_reducible assumption) | assumption); have q25 : (t599 : Int) < ((x7_1.length : Int) : Int) := of_decide_eq_true (by first | (with_reducible assumption) | assumption); obtain ⟨go25, co25, eo25, gb25, gl25, cl25, HG25⟩ := Kd.R_form HO_7.out (by omega); (first | cases eo25 | (injection eo25 with ea_ en_ ec_; (first | subst ea_ | (injection ea_ with ea_; subst ea_)); subst ec_; clear en_)); have GB25 := Aside0.mk gb25; have GG25 := Aside0.mk HG25; clear gb25 gl25 HG25; obtain ⟨hx25_0, hf25_0⟩ := Kd.R_celln 0 HO_7.out (t599 : Int) p25 q25; replace p25 := eq_true p25; replace q25 := eq_true q25; obtain ⟨hy29_, hz29_⟩ := Kd.R_celln 0 HO_7.out (t599 : Int) (of_decide_eq_true (by first | (with_reducible assumption) | assumption)) (of_decide_eq_true (by first | (with_reducible assumption) | assumption)); have HP29 := Kd.R_putg HO_7.out (t599 : Int) (wrap64 (t602 - 1))) | ((with_reducible refine gate_store (t := 3) (p := 50) rfl ?_); refine store_event (t := 3) (p := 50) (v := ?vo_w30) (w1 := (w28.setCell ⟨go25, (t599 : Int).toNat, none⟩ (.int .i64 (wrap64 (t602 - 1))))) ?hg ?ho ?hn ?hr ?_; (case ho => rfl); (case hg => rfl); (case hn => rfl); (case hr => first | (go_simp; done) | (go_simp; rfl)); intro w30 hw; have hg : w28.grownBy w30 (some go25) := (by rw [hw]; exact HP29.2); have hp_ : Kd.R (Kd.int .i64) 3 w30 w.heap.size (fun _ => True) (.slice (some ⟨go25, 0, none⟩) x7_1.length co26) y605 := (by rw [hw, Ny605.out]; exact HP29.1); clear HP29; have n0_ := Aside0.mk (hp_); have n1_ := Aside0.mk (IsS73.grown (by repeat (first | (with_reducible first | exact HI0.out | apply IsS73.alloc | apply IsS73.drewN | apply IsS73.drew | apply IsS73.set_1 | apply IsS73.set_2) | exact HI0.out)) hg (IsS73.own_ne HI0.out HO_7.out (by decide))); have n2_ := Aside0.mk ((by rw [hw]; exact below_set (HB.out) (Nat.le_trans HL.out GB25.out) : Below w0.heap.size w0 w30)); have n3_ := Aside0.mk (KeepBut.trans (by repeat (first | (with_reducible first | exact HK.out | apply KeepBut.set_ | apply keep_drewN | apply keep_drew | apply keep_alloc) | exact HK.out)) (KeepBut.of_grown hg g) (Kd.R_base2 HO_7.out)); clear HO_7; clear HI0; clear HB; clear HK; have HO_7 := n0_; have HI0 := n1_; have HB := n2_; have HK := n3_; clear n0_ n1_ n2_ n3_; clear hg hw hp_))
           go_ret
           exact ⟨_, by first | rfl | (simp [errW_none, errW_some] <;> rfl) | (simp [*, errW_none, errW_some] <;> rfl), by (with_reducible repeat (first | apply Kd.R_alloc | apply Kd.R_drewN | apply Kd.R_drew)); exact HO_7.out, by repeat (first | (with_reducible first | exact HI0.out | apply IsS73.alloc | apply IsS73.drewN | apply IsS73.drew | apply IsS73.set_1 | apply IsS73.set_2) | exact HI0.out), by repeat (first | (with_reducible first | exact HB.out | apply below_alloc | apply pw_below_drewN | apply below_drew1 | refine below_set ?_ (IsS73.ge HI0.out)) | exact HB.out), by repeat (first | (with_reducible first | exact HK.out | apply KeepBut.set_ | apply keep_drewN | apply keep_drew | apply keep_alloc) | exact HK.out)⟩
          ·rw [if_neg c24] at H
           exact absurd H (by simp)
         ·rw [if_neg c23] at H
          exact absurd H (by simp)
        ·replace c20 := Bool.eq_false_iff.mpr c20
         subst c20
         have H1 : (some (x7_1, x1001_13, x1002_13)) = some (r1, r2, r3) := by rw [if_neg (show ¬ (false = true) by decide)] at H; exact H
         clear H
         have H := H1
         clear H1
         simp only [Option.some.injEq, Prod.mk.injEq] at H
         obtain ⟨rfl, rfl, rfl⟩ := H
         go_wp2
         go_ret
         exact ⟨_, by first | rfl | (simp [errW_none, errW_some] <;> rfl) | (simp [*, errW_none, errW_some] <;> rfl), by (with_reducible repeat (first | apply Kd.R_alloc | apply Kd.R_drewN | apply Kd.R_drew)); exact HO_7.out, by repeat (first | (with_reducible first | exact HI0.out | apply IsS73.alloc | apply IsS73.drewN | apply IsS73.drew | apply IsS73.set_1 | apply IsS73.set_2) | exact HI0.out), by repeat (first | (with_reducible first | exact HB.out | apply below_alloc | apply pw_below_drewN | apply below_drew1 | refine below_set ?_ (IsS73.ge HI0.out)) | exact HB.out), by repeat (first | (with_reducible first | exact HK.out | apply KeepBut.set_ | apply keep_drewN | apply keep_drew | apply keep_alloc) | exact HK.out)⟩

end Go.Proofs.Ytibfchjpdplehaa.G

-- Written by wip/tools/gen.py out of the translation (the kit's printer, one namespace a seat). Lean checks it.
namespace Go.Proofs.Ytibfchjpdplehaa.G
open Go.RowKit Go.Proofs.YtibfchjpdplehaaW.PrintWords Go.Proofs.YtibfchjpdplehaaW.PrintLast Go.Proofs.YtibfchjpdplehaaW.PrintMore
attribute [local go_sem] max2_int min2_int max_two min_two max_three min_three max_four min_four   -- for this text's walks alone
set_option linter.unusedVariables false
set_option linter.unusedSimpArgs false

/-! ### spec_DrawLoadsOf: function 36 -/
def spec_DrawLoadsOf.f (k : Nat) (l0 : List Int) : Option (List Int × Int × List Int) := (spec_l1Cur_work.f k l0 0 0).bind fun bt607 => ((spec_l1Cur_pick.f l0 bt607.2.1 bt607.2.2 5).bind fun bt612 => ((spec_l1Cur_division.f k l0 bt612.2.1 bt612.2.2 bt607.1 bt612.1).bind fun bt615 => (some (bt607.1, bt612.1, bt615.1))))
theorem spec_DrawLoadsOf.mono : ∀ a0 k, LeO (spec_DrawLoadsOf.f k a0) (spec_DrawLoadsOf.f (k + 1) a0) := by
 intro a0 k
 unfold spec_DrawLoadsOf.f
 repeat' first
   | (with_reducible exact spec_l1Cur_division.mono _ _ _ _ _ _)
   | (with_reducible exact spec_l1Cur_work.mono _ _ _ _)
   | (with_reducible exact LeO.refl _)
   | (with_reducible exact LeO.none _)
   | (with_reducible refine LeO.ite ?_ ?_)
   | (with_reducible refine LeO.bind ?_ (fun _ => ?_))
   | exact spec_l1Cur_division.mono _ _ _ _ _ _
   | exact spec_l1Cur_work.mono _ _ _ _
   | exact LeO.none _
   | refine LeO.ite ?_ ?_
   | refine LeO.bind ?_ (fun _ => ?_)
set_option maxHeartbeats 8000000 in
set_option maxRecDepth 100000 in
theorem spec_DrawLoadsOf.calls (k : Nat) (A0 : Option Addr) (c0 : Nat) (l0 : List Int) (r1 : List Int) (r2 : Int) (r3 : List Int) (w : World) (hr0 : Kd.C (Kd.int .u8) w A0 l0.length l0) (hc0 : l0.length ≤ c0) (h : spec_DrawLoadsOf.f k l0 = some (r1, r2, r3)) :
  Calls Try.prog 36 #[.slice A0 l0.length c0] w fun e w' => ∃ v0_ v2_ : Value, e = .returned (.tuple #[v0_, .int .i64 r2, v2_]) ∧ Kd.R (Kd.int .i64) 3 w' w.heap.size (fun k_ => some k_ ≠ (v2_ : Value).ownBlock) v0_ r1 ∧ Kd.R (Kd.int .i64) 3 w' w.heap.size (fun k_ => some k_ ≠ (v0_ : Value).ownBlock) v2_ r3 ∧ Below w.heap.size w w' := by
 have hu73 := Try.underlying73
 have HR0 := Aside0.mk hr0
 have HC0 := Aside0.mk hc0
 clear hr0 hc0
 have HB := Aside0.mk (Below.refl w.heap.size w)
 have H : ((spec_l1Cur_work.f k l0 0 0).bind fun bt607 => ((spec_l1Cur_pick.f l0 bt607.2.1 bt607.2.2 5).bind fun bt612 => ((spec_l1Cur_division.f k l0 bt612.2.1 bt612.2.2 bt607.1 bt612.1).bind fun bt615 => (some (bt607.1, bt612.1, bt615.1))))) = some (r1, r2, r3) := h
 clear h
 replace H := Option.bind_eq_some_iff.mp H
 obtain ⟨⟨t607, t610, t611⟩, A20, H⟩ := H
 replace H : ((spec_l1Cur_pick.f l0 t610 t611 5).bind fun bt612 => ((spec_l1Cur_division.f k l0 bt612.2.1 bt612.2.2 t607 bt612.1).bind fun bt615 => (some (t607, bt612.1, bt615.1)))) = some (r1, r2, r3) := H
 have A2 := Aside0.mk A20
 clear A20
 replace H := Option.bind_eq_some_iff.mp H
 obtain ⟨⟨t612, t613, t614⟩, A30, H⟩ := H
 replace H : ((spec_l1Cur_division.f k l0 t613 t614 t607 t612).bind fun bt615 => (some (t607, t612, bt615.1))) = some (r1, r2, r3) := H
 have A3 := Aside0.mk A30
 clear A30
 replace H := Option.bind_eq_some_iff.mp H
 obtain ⟨⟨t615, t618, t619⟩, A40, H⟩ := H
 replace H : (some (t607, t612, t615)) = some (r1, r2, r3) := H
 have A4 := Aside0.mk A40
 clear A40
 simp only [Option.some.injEq, Prod.mk.injEq] at H
 obtain ⟨rfl, rfl, rfl⟩ := H
 go_enter Try.func36, Try.ntmps36
 go_wp2_with (first | ((with_reducible refine gate_dst (N := 10) rfl ?_); refine box_event ?hg (N := 10) ?hd (cs := #[.slice A0 l0.length c0, .int .i64 0, .int .u64 0]) (t := 73) ?hr ?_; (case hd => rfl); (case hg => rfl); (case hr => first | (go_simp; done) | (go_simp; rfl)); intro gb606 hg w5 hbox hb; have n0_ := Aside0.mk (below_step (by repeat (first | (with_reducible first | exact HB.out | apply below_alloc | apply pw_below_drewN | apply below_drew1) | exact HB.out)) hb); have n1_ := Aside0.mk ((by rw [hg]; exact (below_size (by repeat (first | (with_reducible first | exact HB.out | apply below_alloc | apply pw_below_drewN | apply below_drew1) | exact HB.out))) : w.heap.size ≤ gb606)); have n2_ := Aside0.mk ((by rw [hg]; exact (below_size (by repeat (first | (with_reducible first | exact HB.out | apply below_alloc | apply pw_below_drewN | apply below_drew1) | exact HB.out))) : w.heap.size ≤ gb606)); have n3_ := Aside0.mk ((show IsS73 w w5 gb606 l0 0 0 from ⟨_, _, hbox, (by rw [hg]; exact (below_size (by repeat (first | (with_reducible first | exact HB.out | apply below_alloc | apply pw_below_drewN | apply below_drew1) | exact HB.out))) : w.heap.size ≤ gb606), HR0.out⟩)); clear HB; have HB := n0_; have GW606 := n1_; have GE606 := n2_; have HI606 := n3_; clear n0_ n1_ n2_ n3_; clear hb hbox hg) | ((with_reducible refine gate_callee (f := 66) rfl ?_); refine goesL_ (some 12) rfl rfl Try.func66 (by kernel_rfl) rfl #[.pointer (some ⟨gb606, 0, none⟩)] rfl (by (try simp only [List.map_toArray, List.map_cons, List.map_nil]); first | done | rfl | (simp only [List.length_drop, List.length_take]; rfl)) ?_; (with_reducible refine (spec_l1Cur_work.calls k gb606 l0 0 0 t607 t610 t611 w _ ?side1 ?side2 A2.out).mono ?_); (case side1 => repeat (first | (with_reducible first | exact HI606.out | apply IsS73.alloc | apply IsS73.drewN | apply IsS73.drew | apply IsS73.set_1 | apply IsS73.set_2) | exact HI606.out)); (case side2 => repeat (first | (with_reducible first | exact HB.out | apply below_alloc | apply pw_below_drewN | apply below_drew1 | refine below_set ?_ (IsS73.ge HI606.out)) | exact HB.out)); rintro e w6 ⟨v608, rfl, ho0, hi, hb, hk⟩; refine ⟨_, rfl, ?_⟩; have n0_ := Aside0.mk (Kd.R_lower ho0 (below_size (by repeat (first | (with_reducible first | exact HB.out | apply below_alloc | apply pw_below_drewN | apply below_drew1 | refine below_set ?_ (IsS73.ge HI606.out)) | exact HB.out)))); have n1_ := Aside0.mk (hb); have n2_ := Aside0.mk (hi); clear HB; clear HI606; have HO609 := n0_; have HB := n1_; have HI606 := n2_; clear n0_ n1_ n2_; (try clear hb); (try clear hb2); (try clear hk); (try clear hi); (try clear ho0)) | ((with_reducible refine gate_callee (f := 67) rfl ?_); refine goesL_ (some 14) rfl rfl Try.func67 (by kernel_rfl) rfl #[.pointer (some ⟨gb606, 0, none⟩), .int .i64 5] rfl (by (try simp only [List.map_toArray, List.map_cons, List.map_nil]); first | done | rfl | (simp only [List.length_drop, List.length_take]; rfl)) ?_; (with_reducible refine (spec_l1Cur_pick.calls gb606 l0 t610 t611 5 t612 t613 t614 w _ ?side1 ?side2 A3.out).mono ?_); (case side1 => repeat (first | (with_reducible first | exact HI606.out | apply IsS73.alloc | apply IsS73.drewN | apply IsS73.drew | apply IsS73.set_1 | apply IsS73.set_2) | exact HI606.out)); (case side2 => repeat (first | (with_reducible first | exact HB.out | apply below_alloc | apply pw_below_drewN | apply below_drew1 | refine below_set ?_ (IsS73.ge HI606.out)) | exact HB.out)); rintro e w7 ⟨rfl, hi, hb, hk⟩; refine ⟨_, rfl, ?_⟩; have n0_ := Aside0.mk (Kd.R_mono (Kd.R_keep (IsS73.apart (show IsS73 w _ gb606 l0 t610 t611 from by repeat (first | (with_reducible first | exact HI606.out | apply IsS73.alloc | apply IsS73.drewN | apply IsS73.drew | apply IsS73.set_1 | apply IsS73.set_2) | exact HI606.out)) (by (with_reducible repeat (first | apply Kd.R_alloc | apply Kd.R_drewN | apply Kd.R_drew)); exact HO609.out) (by decide)) hk (fun _ h => h.2)) (fun _ h => h.1)); have n1_ := Aside0.mk (hb); have n2_ := Aside0.mk (hi); clear HO609; clear HB; clear HI606; have HO609 := n0_; have HB := n1_; have HI606 := n2_; clear n0_ n1_ n2_; (try clear hb); (try clear hb2); (try clear hk); (try clear hi); obtain ⟨Ao8, co8, eo8⟩ := Kd.R_slice HO609.out; subst eo8) | ((with_reducible refine gate_callee (f := 68) rfl ?_); refine goesL_ (some 20) rfl rfl Try.func68 (by kernel_rfl) rfl #[.pointer (some ⟨gb606, 0, none⟩), .slice Ao8 t607.length co8, .int .i64 t612] rfl (by (try simp only [List.map_toArray, List.map_cons, List.map_nil]); first | done | rfl | (simp only [List.length_drop, List.length_take]; rfl)) ?_; (with_reducible refine (spec_l1Cur_division.calls k gb606 l0 t613 t614 _ _ t607 t612 t615 t618 t619 w _ ?side1 ?side2 ?side3 ?side4 ?side5 A4.out).mono ?_); (case side1 => repeat (first | (with_reducible first | exact HI606.out | apply IsS73.alloc | apply IsS73.drewN | apply IsS73.drew | apply IsS73.set_1 | apply IsS73.set_2) | exact HI606.out)); (case side2 => repeat (first | (with_reducible first | exact HB.out | apply below_alloc | apply pw_below_drewN | apply below_drew1 | refine below_set ?_ (IsS73.ge HI606.out)) | exact HB.out)); (case side3 => repeat (first | exact (Kd.R_reads' HO609.out).2.2 | (with_reducible refine Kd.C_alloc ?_ _) | (with_reducible refine Kd.C_drewN ?_ _) | (with_reducible refine Kd.C_drew ?_))); (case side4 => exact (Kd.R_reads' HO609.out).2.1); (case side5 => exact far_slice (IsS73.own_ne HI606.out HO609.out (by decide))); rintro e w9 ⟨v616, rfl, ho0, hi, hb, hk⟩; refine ⟨_, rfl, ?_⟩; have n0_ := Aside0.mk (Kd.R_mono (Kd.R_told (Kd.R_oldK (IsS73.apart (show IsS73 w _ gb606 l0 t613 t614 from by repeat (first | (with_reducible first | exact HI606.out | apply IsS73.alloc | apply IsS73.drewN | apply IsS73.drew | apply IsS73.set_1 | apply IsS73.set_2) | exact HI606.out)) (by (with_reducible repeat (first | apply Kd.R_alloc | apply Kd.R_drewN | apply Kd.R_drew)); exact HO609.out) (by decide)) hk) (Kd.R_base ho0)) (fun _ h_ => h_.1)); have n1_ := Aside0.mk (Kd.R_lower (Kd.R_new' ho0 (Kd.R_lt (by (with_reducible repeat (first | apply Kd.R_alloc | apply Kd.R_drewN | apply Kd.R_drew)); exact HO609.out))) (below_size (by repeat (first | (with_reducible first | exact HB.out | apply below_alloc | apply pw_below_drewN | apply below_drew1 | refine below_set ?_ (IsS73.ge HI606.out)) | exact HB.out)))); have n2_ := Aside0.mk (hb); have n3_ := Aside0.mk (hi); clear HO609; clear HB; clear HI606; have HO609 := n0_; have HO617 := n1_; have HB := n2_; have HI606 := n3_; clear n0_ n1_ n2_ n3_; (try clear hb); (try clear hb2); (try clear hk); (try clear hi); (try clear ho0)))
 go_ret3
 exact ⟨_, _, by first | rfl | (simp [errW_none, errW_some] <;> rfl) | (simp [*, errW_none, errW_some] <;> rfl), by (with_reducible repeat (first | apply Kd.R_alloc | apply Kd.R_drewN | apply Kd.R_drew)); exact Kd.R_mono HO609.out (fun _ hk => hk.2), by (with_reducible repeat (first | apply Kd.R_alloc | apply Kd.R_drewN | apply Kd.R_drew)); exact Kd.R_mono HO617.out (fun _ hk => hk.2), by repeat (first | (with_reducible first | exact HB.out | apply below_alloc | apply pw_below_drewN | apply below_drew1 | refine below_set ?_ (IsS73.ge HI606.out)) | exact HB.out)⟩

end Go.Proofs.Ytibfchjpdplehaa.G
