import Derived.Test.YtfgbohochpjkfaaCosts
import Derived.Test.YtfgbohochpjkfaaCont56
import Derived.Test.YtfgbohochpjkfaaGx26
import Derived.Test.YtfgbohochpjkfaaGx24
import Derived.Test.YtfgbohochpjkfaaGx25
namespace Go.Proofs.Ytfgbohochpjkfaa.G
open Go.RowKit Go.Proofs.YtfgbohochpjkfaaW.PrintWords Go.Proofs.YtfgbohochpjkfaaW.PrintLast
set_option linter.unusedVariables false
set_option linter.unusedSimpArgs false
def priceOk (p : List Int) (j : Int) : Prop := 0 ≤ rd p j ∧ rd p j ≤ 9999
theorem cont56_eq (p : List Int) : slices_ContainsFunc_int_int_56.f p = some (chk (All (priceOk p) 0 (p.length : Int)) false true) := by
  unfold slices_ContainsFunc_int_int_56.f
  congr 1
  have hb : (bad56 p p.length 0 ≥ 0) ↔ ¬ All (priceOk p) 0 (p.length : Int) := by
    rw [bad56_iff]
    constructor
    · intro h a
      refine h fun j _ hj => ?_
      have := a (j : Int) (by omega) (by omega)
      unfold priceOk at this
      unfold good56; exact decide_eq_true this
    · intro h a
      refine h fun j h0 hj => ?_
      have := a j.toNat (by omega) (by omega)
      rw [show ((j.toNat : Nat) : Int) = j from by omega] at this
      unfold good56 at this
      have h' := of_decide_eq_true this
      exact h'
  by_cases ha : All (priceOk p) 0 (p.length : Int)
  · rw [chk_pos ha]; exact decide_eq_false (fun x => hb.1 x ha)
  · rw [chk_neg ha]; exact decide_eq_true (hb.2 ha)
def sumTo (p : List Int) : Nat → Int
  | 0 => 0
  | d + 1 => sumTo p d + rd p d
theorem sumTo_succ (p : List Int) (d : Nat) : sumTo p (d + 1) = sumTo p d + rd p d := rfl
theorem sum_bd (p : List Int) : ∀ d : Nat, (d : Int) ≤ (p.length : Int) → All (priceOk p) 0 (d : Int) → 0 ≤ sumTo p d ∧ sumTo p d ≤ 9999 * d := by
  intro d
  induction d with
  | zero => intro _ _; simp [sumTo]
  | succ d ih =>
    intro hd ha
    have := ih (by omega) (fun j a b => ha j a (by omega))
    have c := ha (d : Int) (by omega) (by omega)
    unfold priceOk at c
    rw [sumTo_succ]
    omega
/-- The lowest reduced cost of a row's first jobs, or -1. -/
def lowTo (row p : List Int) : Nat → Int
  | 0 => -1
  | d + 1 => if rd row d ≥ 0 then (if lowTo row p d < 0 then rd row d + rd p d else (if rd row d + rd p d < lowTo row p d then rd row d + rd p d else lowTo row p d)) else lowTo row p d
theorem lowTo_succ (row p : List Int) (d : Nat) : lowTo row p (d + 1) = if rd row d ≥ 0 then (if lowTo row p d < 0 then rd row d + rd p d else (if rd row d + rd p d < lowTo row p d then rd row d + rd p d else lowTo row p d)) else lowTo row p d := rfl
theorem low_bd (row p : List Int) : ∀ d : Nat, All (okC row) 0 (d : Int) → All (priceOk p) 0 (d : Int) → -1 ≤ lowTo row p d ∧ lowTo row p d ≤ 19998 := by
  intro d
  induction d with
  | zero => intro _ _; simp [lowTo]
  | succ d ih =>
    intro h1 h2
    have := ih (fun j a b => h1 j a (by omega)) (fun j a b => h2 j a (by omega))
    have c := h1 (d : Int) (by omega) (by omega)
    have e := h2 (d : Int) (by omega) (by omega)
    unfold okC at c
    unfold priceOk at e
    rw [lowTo_succ]
    split
    · split
      · omega
      · split <;> omega
    · omega
/-- The sum over the rows from i on. -/
def lowSum (t : List (List Int)) (p : List Int) : Nat → Int → Int → Int × Bool
  | 0, _, a => (a, true)
  | d + 1, i, a => if lowTo (rd_L1 t i) p p.length < 0 then (0, false) else lowSum t p d (i + 1) (a + lowTo (rd_L1 t i) p p.length)
theorem lowSum_succ (t : List (List Int)) (p : List Int) (d : Nat) (i a : Int) : lowSum t p (d + 1) i a = if lowTo (rd_L1 t i) p p.length < 0 then (0, false) else lowSum t p d (i + 1) (a + lowTo (rd_L1 t i) p p.length) := rfl
def Pr (t : List (List Int)) (p : List Int) : Prop := Costs t ∧ (p.length : Int) = ((rd_L1 t 0).length : Int) ∧ All (priceOk p) 0 (p.length : Int)
theorem impl_sum (p : List Int) (hl : (p.length : Int) ≤ 6) (ha : All (priceOk p) 0 (p.length : Int)) : Ev (fun k => impl_sumOf.f k p) (sumTo p p.length) := by
  unfold impl_sumOf.f
  refine Ev.up (fun k (s : Int) i => impl_sumOf.l0 k s p (p.length : Int) i) (fun _ _ => sumTo p p.length) (fun s i => 0 ≤ i ∧ s = sumTo p i.toNat) (p.length : Int) ?_ ?_ 0 0 ⟨by omega, rfl⟩ (by omega)
  · rintro s ⟨h0, rfl⟩
    refine Ev.step (fun k => by rw [impl_sumOf.l0]) ?_
    simp only [Int.lt_irrefl, if_false, Int.toNat_natCast]
    exact Ev.now _
  · rintro s i ⟨h0, rfl⟩ hlt ih
    have c := ha i h0 hlt
    have b := sum_bd p i.toNat (by omega) (fun j a b => ha j a (by omega))
    unfold priceOk at c
    refine Ev.step (fun k => by rw [impl_sumOf.l0]) ?_
    simp (disch := omega) only [if_pos, wrap64_id]
    refine ih _ ⟨by omega, ?_⟩
    rw [show (i + 1).toNat = i.toNat + 1 from by omega, sumTo_succ, show ((i.toNat : Nat) : Int) = i from by omega]
theorem impl_lows (t : List (List Int)) (p : List Int) (h : Pr t p) : ∀ (d : Nat) (i a : Int), 0 ≤ i → i + d = (t.length : Int) → -59994 ≤ a → a ≤ 19998 * i → Ev (fun k => impl_ProvenLower.l0 k p a t (t.length : Int) i) (lowSum t p d i a) := by
  obtain ⟨⟨h1, h2, h3⟩, hn, hp⟩ := h
  intro d
  induction d with
  | zero =>
    intro i a i0 hd a0 a1
    refine Ev.step (fun k => by rw [impl_ProvenLower.l0]) ?_
    simp (disch := omega) only [if_neg]
    exact Ev.now _
  | succ d ih =>
    intro i a i0 hd a0 a1
    have r := h3 i i0 (by omega)
    have rl := r.1
    have ro := r.2
    have lb := low_bd (rd_L1 t i) p p.length (fun j a b => ro j a (by omega)) hp
    refine Ev.step (fun k => by rw [impl_ProvenLower.l0]) ?_
    simp (disch := omega) only [if_pos]
    rw [lowSum_succ]
    refine Ev.up (fun k (s : Int) j => impl_ProvenLower.l1 k p a s t (t.length : Int) i (rd_L1 t i) ((rd_L1 t i).length : Int) j) (fun _ _ => if lowTo (rd_L1 t i) p p.length < 0 then (0, false) else lowSum t p d (i + 1) (a + lowTo (rd_L1 t i) p p.length)) (fun s j => 0 ≤ j ∧ s = lowTo (rd_L1 t i) p j.toNat) ((rd_L1 t i).length : Int) ?_ ?_ (-1) 0 ⟨by omega, rfl⟩ (by omega)
    · rintro s ⟨_, rfl⟩
      rw [show (((rd_L1 t i).length : Int)).toNat = p.length from by omega]
      refine Ev.step (fun k => by rw [impl_ProvenLower.l1]) ?_
      simp only [Int.lt_irrefl, if_false]
      refine Ev.ite (fun g => ?_) (fun g => ?_)
      · rw [if_pos g]; exact Ev.now _
      · rw [if_neg g, wrap64_id (by omega) (by omega), wrap64_id (by omega) (by omega)]
        exact ih (i + 1) _ (by omega) (by omega) (by omega) (by omega)
    · rintro s j ⟨j0, rfl⟩ jlt nx
      have c := ro j j0 jlt
      have e := hp j j0 (by omega)
      have b := low_bd (rd_L1 t i) p j.toNat (fun x a b => ro x a (by omega)) (fun x a b => hp x a (by omega))
      unfold okC at c
      unfold priceOk at e
      have su : lowTo (rd_L1 t i) p (j + 1).toNat = if rd (rd_L1 t i) j ≥ 0 then (if lowTo (rd_L1 t i) p j.toNat < 0 then rd (rd_L1 t i) j + rd p j else (if rd (rd_L1 t i) j + rd p j < lowTo (rd_L1 t i) p j.toNat then rd (rd_L1 t i) j + rd p j else lowTo (rd_L1 t i) p j.toNat)) else lowTo (rd_L1 t i) p j.toNat := by
        rw [show (j + 1).toNat = j.toNat + 1 from by omega, lowTo_succ, show ((j.toNat : Nat) : Int) = j from by omega]
      refine Ev.step (fun k => by rw [impl_ProvenLower.l1]) ?_
      simp (disch := omega) only [if_pos, wrap64_id]
      refine Ev.ite (fun g1 => ?_) (fun g1 => ?_)
      · refine Ev.ite (fun g2 => ?_) (fun g2 => ?_)
        · exact nx _ ⟨by omega, by rw [su, if_pos g1, if_pos g2]⟩
        · refine Ev.ite (fun g3 => ?_) (fun g3 => ?_)
          · exact nx _ ⟨by omega, by rw [su, if_pos g1, if_neg g2, if_pos g3]⟩
          · exact nx _ ⟨by omega, by rw [su, if_pos g1, if_neg g2, if_neg g3]⟩
      · exact nx _ ⟨by omega, by rw [su, if_neg g1]⟩
theorem spec_lows (t : List (List Int)) (p : List Int) (h : Pr t p) : ∀ (d : Nat) (i a : Int), 0 ≤ i → i + d = (t.length : Int) → -59994 ≤ a → a ≤ 19998 * i → Ev (fun k => spec_ProvenLower.l1 k t p a i) (lowSum t p d i a) := by
  obtain ⟨⟨h1, h2, h3⟩, hn, hp⟩ := h
  intro d
  induction d with
  | zero =>
    intro i a i0 hd a0 a1
    refine Ev.step (fun k => by rw [spec_ProvenLower.l1]) ?_
    simp (disch := omega) only [if_neg]
    exact Ev.now _
  | succ d ih =>
    intro i a i0 hd a0 a1
    have r := h3 i i0 (by omega)
    have rl := r.1
    have ro := r.2
    have lb := low_bd (rd_L1 t i) p p.length (fun j a b => ro j a (by omega)) hp
    refine Ev.step (fun k => by rw [spec_ProvenLower.l1]) ?_
    simp (disch := omega) only [if_pos]
    rw [lowSum_succ]
    refine Ev.up (fun k (s : Int) j => spec_ProvenLower.l2 k t p a i s j) (fun _ _ => if lowTo (rd_L1 t i) p p.length < 0 then (0, false) else lowSum t p d (i + 1) (a + lowTo (rd_L1 t i) p p.length)) (fun s j => 0 ≤ j ∧ s = lowTo (rd_L1 t i) p j.toNat) (p.length : Int) ?_ ?_ (-1) 0 ⟨by omega, rfl⟩ (by omega)
    · rintro s ⟨_, rfl⟩
      rw [Int.toNat_natCast]
      refine Ev.step (fun k => by rw [spec_ProvenLower.l2]) ?_
      simp only [Int.lt_irrefl, if_false]
      refine Ev.ite (fun g => ?_) (fun g => ?_)
      · rw [if_pos g]; exact Ev.now _
      · rw [if_neg g, wrap64_id (by omega) (by omega), wrap64_id (by omega) (by omega)]
        exact ih (i + 1) _ (by omega) (by omega) (by omega) (by omega)
    · rintro s j ⟨j0, rfl⟩ jlt nx
      have c := ro j j0 (by omega)
      have e := hp j j0 (by omega)
      have b := low_bd (rd_L1 t i) p j.toNat (fun x a b => ro x a (by omega)) (fun x a b => hp x a (by omega))
      unfold okC at c
      unfold priceOk at e
      have su : lowTo (rd_L1 t i) p (j + 1).toNat = if rd (rd_L1 t i) j ≥ 0 then (if lowTo (rd_L1 t i) p j.toNat < 0 then rd (rd_L1 t i) j + rd p j else (if rd (rd_L1 t i) j + rd p j < lowTo (rd_L1 t i) p j.toNat then rd (rd_L1 t i) j + rd p j else lowTo (rd_L1 t i) p j.toNat)) else lowTo (rd_L1 t i) p j.toNat := by
        rw [show (j + 1).toNat = j.toNat + 1 from by omega, lowTo_succ, show ((j.toNat : Nat) : Int) = j from by omega]
      refine Ev.step (fun k => by rw [spec_ProvenLower.l2]) ?_
      simp (disch := omega) only [if_pos, wrap64_id]
      refine Ev.ite (fun g1 => ?_) (fun g1 => ?_)
      · refine Ev.ite (fun g2 => ?_) (fun g2 => ?_)
        · exact nx _ ⟨by omega, by rw [su, if_pos g1, if_pos g2]⟩
        · refine Ev.ite (fun g3 => ?_) (fun g3 => ?_)
          · exact nx _ ⟨by omega, by rw [su, if_pos g1, if_neg g2, if_pos g3]⟩
          · exact nx _ ⟨by omega, by rw [su, if_pos g1, if_neg g2, if_neg g3]⟩
      · exact nx _ ⟨by omega, by rw [su, if_neg g1]⟩
noncomputable def prov (t : List (List Int)) (p : List Int) : Int × Bool := chk (Pr t p) (lowSum t p t.length 0 (-(sumTo p p.length))) (0, false)
theorem impl_Proven (t : List (List Int)) (hl : ∀ i, 0 ≤ i → i < (t.length : Int) → ((rd_L1 t i).length : Int) ≤ 1099511627776) (p : List Int) : Ev (fun k => impl_ProvenLower.f k t p) (prov t p) := by
  have no : ¬ Pr t p → Ev (fun k => impl_ProvenLower.j0 k t p true) (prov t p) := by
    intro h
    unfold prov
    rw [chk_neg h]
    refine Ev.step (fun k => by rw [impl_ProvenLower.j0]) ?_
    simp only [if_true]; exact Ev.now _
  unfold impl_ProvenLower.f
  refine Ev.bind (impl_costs t hl) ?_
  refine Ev.ite (fun hc => ?_) (fun hc => no (fun m => hc (chk_true.2 m.1)))
  have hc := chk_true.1 hc
  have h1 := hc.1
  have h2 := hc.2.1
  simp (disch := omega) only [if_pos]
  refine Ev.ite (fun hn => ?_) (fun hn => no (fun m => hn m.2.1))
  simp only [cont56_eq, Option.bind_some]
  by_cases ha : All (priceOk p) 0 (p.length : Int)
  · rw [chk_pos ha]
    refine Ev.step (fun k => by rw [impl_ProvenLower.j0]) ?_
    simp only [Bool.false_eq_true, if_false]
    refine Ev.bind (impl_sum p (by omega) ha) ?_
    have b := sum_bd p p.length (by omega) ha
    rw [wrap64_id (by omega) (by omega)]
    unfold prov
    rw [chk_pos ⟨hc, hn, ha⟩]
    exact impl_lows t p ⟨hc, hn, ha⟩ t.length 0 _ (by omega) (by omega) (by omega) (by omega)
  · rw [chk_neg ha]
    exact no (fun m => ha m.2.2)
theorem spec_Proven (t : List (List Int)) (hl : ∀ i, 0 ≤ i → i < (t.length : Int) → ((rd_L1 t i).length : Int) ≤ 1099511627776) (p : List Int) : Ev (fun k => spec_ProvenLower.f k t p) (prov t p) := by
  have no : ¬ Pr t p → Ev (fun k => spec_ProvenLower.j0 k t p true) (prov t p) := by
    intro h
    unfold prov
    rw [chk_neg h]
    refine Ev.step (fun k => by rw [spec_ProvenLower.j0]) ?_
    simp only [if_true]; exact Ev.now _
  unfold spec_ProvenLower.f
  refine Ev.bind (spec_costs t hl) ?_
  refine Ev.ite (fun hc => ?_) (fun hc => no (fun m => hc (chk_true.2 m.1)))
  have hc := chk_true.1 hc
  have h1 := hc.1
  have h2 := hc.2.1
  simp (disch := omega) only [if_pos]
  by_cases hn : (p.length : Int) = ((rd_L1 t 0).length : Int)
  · rw [show ((p.length : Int) != ((rd_L1 t 0).length : Int)) = false from by rw [hn]; exact bne_self_eq_false _]
    refine Ev.step (fun k => by rw [spec_ProvenLower.j0]) ?_
    simp only [Bool.false_eq_true, if_false]
    refine Ev.up (fun k (s : Int) i => spec_ProvenLower.l0 k t p s i) (fun _ _ => prov t p) (fun s i => 0 ≤ i ∧ All (priceOk p) 0 i ∧ s = -(sumTo p i.toNat)) (p.length : Int) ?_ ?_ 0 0 ⟨by omega, fun j a b => by omega, rfl⟩ (by omega)
    · rintro s ⟨_, ha, rfl⟩
      have b := sum_bd p p.length (by omega) ha
      refine Ev.step (fun k => by rw [spec_ProvenLower.l0]) ?_
      simp only [Int.lt_irrefl, if_false, Int.toNat_natCast]
      unfold prov
      rw [chk_pos ⟨hc, hn, ha⟩]
      exact spec_lows t p ⟨hc, hn, ha⟩ t.length 0 _ (by omega) (by omega) (by omega) (by omega)
    · rintro s i ⟨h0, ha, rfl⟩ hlt ih
      have b := sum_bd p i.toNat (by omega) (fun j x y => ha j x (by omega))
      refine Ev.step (fun k => by rw [spec_ProvenLower.l0]) ?_
      simp (disch := omega) only [if_pos, spec_l1In_eq, Option.bind_some, decide_eq_true_eq]
      refine Ev.ite (fun g => ?_) (fun g => ?_)
      · rw [wrap64_id (by omega) (by omega), wrap64_id (by omega) (by omega)]
        refine ih _ ⟨by omega, fun j x y => ?_, ?_⟩
        · by_cases e : j = i
          · rw [e]; exact g
          · exact ha j x (by omega)
        · rw [show (i + 1).toNat = i.toNat + 1 from by omega, sumTo_succ, show ((i.toNat : Nat) : Int) = i from by omega]
          omega
      · unfold prov
        rw [chk_neg (fun m : Pr t p => g (m.2.2 i h0 hlt))]
        exact Ev.now _
  · rw [show ((p.length : Int) != ((rd_L1 t 0).length : Int)) = true from by rw [bne_iff_ne]; exact hn]
    exact no (fun m => hn m.2.1)
end Go.Proofs.Ytfgbohochpjkfaa.G
