import Derived.Test.YtfgbohochpjkfaaWithin
import Derived.Test.YtfgbohochpjkfaaCont52
import Derived.Test.YtfgbohochpjkfaaGx12
import Derived.Test.YtfgbohochpjkfaaGx7
namespace Go.Proofs.Ytfgbohochpjkfaa.G
open Go.RowKit Go.Proofs.YtfgbohochpjkfaaW.PrintWords Go.Proofs.YtfgbohochpjkfaaW.PrintLast
set_option linter.unusedVariables false
set_option linter.unusedSimpArgs false
def okC (row : List Int) (k : Int) : Prop := -1 ≤ rd row k ∧ rd row k ≤ 9999
def rowOk (t : List (List Int)) (i : Int) : Prop := ((rd_L1 t i).length : Int) = ((rd_L1 t 0).length : Int) ∧ All (okC (rd_L1 t i)) 0 ((rd_L1 t i).length : Int)
def Costs (t : List (List Int)) : Prop := (1 ≤ (t.length : Int) ∧ (t.length : Int) ≤ 6) ∧ ((t.length : Int) ≤ ((rd_L1 t 0).length : Int) ∧ ((rd_L1 t 0).length : Int) ≤ 6) ∧ All (rowOk t) 0 (t.length : Int)
theorem cont52_eq (row : List Int) : slices_ContainsFunc_int_int_52.f row = some (chk (All (okC row) 0 (row.length : Int)) false true) := by
  unfold slices_ContainsFunc_int_int_52.f
  congr 1
  have hb : (bad52 row row.length 0 ≥ 0) ↔ ¬ All (okC row) 0 (row.length : Int) := by
    rw [bad52_iff]
    constructor
    · intro h a
      refine h fun j _ hj => ?_
      have := a (j : Int) (by omega) (by omega)
      unfold okC at this
      unfold good52; exact decide_eq_true this
    · intro h a
      refine h fun j h0 hj => ?_
      have := a j.toNat (by omega) (by omega)
      rw [show ((j.toNat : Nat) : Int) = j from by omega] at this
      unfold good52 at this
      have h' := of_decide_eq_true this
      exact h'
  by_cases ha : All (okC row) 0 (row.length : Int)
  · rw [chk_pos ha]; exact decide_eq_false (fun x => hb.1 x ha)
  · rw [chk_neg ha]; exact decide_eq_true (hb.2 ha)
theorem impl_costs0 (t : List (List Int)) : Ev (fun k => impl_IsValidCosts.f k t) (chk (Costs t) true false) := by
  have no : ¬ Costs t → Ev (fun k => impl_IsValidCosts.j0 k t true) (chk (Costs t) true false) := by
    intro h
    rw [chk_neg h]
    refine Ev.step (fun k => by rw [impl_IsValidCosts.j0]) ?_
    simp only [if_true]; exact Ev.now _
  unfold impl_IsValidCosts.f
  simp only [impl_within_eq, Option.bind_some, decide_eq_true_eq]
  refine Ev.ite (fun h1 => ?_) (fun h1 => no (fun c => h1 c.1))
  simp (disch := omega) only [if_pos]
  by_cases h2 : (t.length : Int) ≤ ((rd_L1 t 0).length : Int) ∧ ((rd_L1 t 0).length : Int) ≤ 6
  · rw [decide_eq_true h2]
    refine Ev.step (fun k => by rw [impl_IsValidCosts.j0]) ?_
    simp only [Bool.not_true, Bool.false_eq_true, if_false]
    rw [chk_congr (show Costs t ↔ All (rowOk t) 0 (t.length : Int) from ⟨fun c => c.2.2, fun c => ⟨h1, h2, c⟩⟩)]
    refine Ev.check (fun k i => impl_IsValidCosts.l0 k t t (t.length : Int) i) (t.length : Int) (rowOk t) true false 0 ?_ ?_ 0 (by omega) (by omega)
    · refine Ev.step (fun k => by rw [impl_IsValidCosts.l0]) ?_
      simp only [Int.lt_irrefl, if_false]
      exact Ev.now _
    · intro i h0 hlt r hr
      refine Ev.step (fun k => by rw [impl_IsValidCosts.l0]) ?_
      simp (disch := omega) only [if_pos, wrap64_id, cont52_eq, Option.bind_some]
      refine Ev.ite (fun g1 => ?_) (fun g1 => ?_)
      · refine Ev.ite (fun g2 => ?_) (fun g2 => ?_)
        · rw [chk_neg (fun m : rowOk t i => by rw [chk_pos m.2] at g2; cases g2)]; exact Ev.now _
        · have ha : All (okC (rd_L1 t i)) 0 ((rd_L1 t i).length : Int) := by
            apply Classical.byContradiction; intro hn; rw [chk_neg hn] at g2; exact g2 rfl
          rw [chk_pos ⟨g1, ha⟩]; exact hr
      · rw [chk_neg (fun m : rowOk t i => g1 m.1)]; exact Ev.now _
  · rw [decide_eq_false h2]
    exact no (fun c => h2 c.2.1)
theorem impl_costs (t : List (List Int)) (hl : ∀ i, 0 ≤ i → i < (t.length : Int) → ((rd_L1 t i).length : Int) ≤ 1099511627776) : Ev (fun k => impl_IsValidCosts.f k t) (chk (Costs t) true false) := impl_costs0 t
theorem spec_costs (t : List (List Int)) (hl : ∀ i, 0 ≤ i → i < (t.length : Int) → ((rd_L1 t i).length : Int) ≤ 1099511627776) : Ev (fun k => spec_l17Good.f k t) (chk (Costs t) true false) := by
  unfold spec_l17Good.f
  simp only [spec_l1In_eq, Option.bind_some, decide_eq_true_eq]
  refine Ev.ite (fun h1 => ?_) (fun h1 => ?_)
  · have key : Costs t ↔ All (fun i => ((t.length : Int) ≤ ((rd_L1 t i).length : Int) ∧ ((rd_L1 t i).length : Int) ≤ 6) ∧ rowOk t i) 0 (t.length : Int) := by
      constructor
      · intro c i i0 i1
        have m := c.2.2 i i0 i1
        exact ⟨by rw [m.1]; exact c.2.1, m⟩
      · intro a
        exact ⟨h1, (a 0 (by omega) (by omega)).1, fun i i0 i1 => (a i i0 i1).2⟩
    rw [chk_congr key]
    refine Ev.check (fun k i => spec_l17Good.l0 k t i) (t.length : Int) _ true false 0 ?_ ?_ 0 (by omega) (by omega)
    · refine Ev.step (fun k => by rw [spec_l17Good.l0]) ?_
      simp only [Int.lt_irrefl, if_false]
      exact Ev.now _
    · intro i h0 hlt r hr
      have no : ¬ (((t.length : Int) ≤ ((rd_L1 t i).length : Int) ∧ ((rd_L1 t i).length : Int) ≤ 6) ∧ rowOk t i) → Ev (fun k => spec_l17Good.j1 k t i true) (chk (((t.length : Int) ≤ ((rd_L1 t i).length : Int) ∧ ((rd_L1 t i).length : Int) ≤ 6) ∧ rowOk t i) r false) := by
        intro h
        rw [chk_neg h]
        refine Ev.step (fun k => by rw [spec_l17Good.j1]) ?_
        simp only [if_true]; exact Ev.now _
      refine Ev.step (fun k => by rw [spec_l17Good.l0]) ?_
      simp (disch := omega) only [if_pos, wrap64_id, spec_l1In_eq, Option.bind_some, decide_eq_true_eq]
      refine Ev.ite (fun g1 => ?_) (fun g1 => no (fun m => g1 m.1))
      by_cases g2 : ((rd_L1 t i).length : Int) = ((rd_L1 t 0).length : Int)
      · rw [show (((rd_L1 t i).length : Int) != ((rd_L1 t 0).length : Int)) = false from by rw [g2]; exact bne_self_eq_false _]
        refine Ev.step (fun k => by rw [spec_l17Good.j1]) ?_
        simp only [Bool.false_eq_true, if_false]
        have inner := Ev.check (fun k j => spec_l17Good.l1 k t i j) ((rd_L1 t i).length : Int) (okC (rd_L1 t i)) r false 0 (by
          refine Ev.step (fun k => by rw [spec_l17Good.l1]) ?_
          simp (disch := omega) only [if_pos, Int.lt_irrefl, if_false, wrap64_id]
          exact hr) (by
          intro j j0 jlt r' hr'
          refine Ev.step (fun k => by rw [spec_l17Good.l1]) ?_
          simp (disch := omega) only [if_pos, wrap64_id, spec_l1In_eq, Option.bind_some, decide_eq_true_eq]
          refine Ev.ite (fun h => ?_) (fun h => ?_)
          · rw [chk_pos (show okC (rd_L1 t i) j from h)]; exact hr'
          · rw [chk_neg (show ¬ okC (rd_L1 t i) j from h)]; exact Ev.now _) 0 (by omega) (by omega)
        rwa [chk_congr (show All (okC (rd_L1 t i)) 0 ((rd_L1 t i).length : Int) ↔ (((t.length : Int) ≤ ((rd_L1 t i).length : Int) ∧ ((rd_L1 t i).length : Int) ≤ 6) ∧ rowOk t i) from ⟨fun a => ⟨g1, g2, a⟩, fun a => a.2.2⟩)] at inner
      · rw [show (((rd_L1 t i).length : Int) != ((rd_L1 t 0).length : Int)) = true from by rw [bne_iff_ne]; exact g2]
        exact no (fun m => g2 m.2.1)
  · rw [chk_neg (fun c : Costs t => h1 c.1)]
    exact Ev.now _
end Go.Proofs.Ytfgbohochpjkfaa.G
