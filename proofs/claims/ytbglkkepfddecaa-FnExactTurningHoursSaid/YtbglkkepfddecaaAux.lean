import Derived.Test.YtbglkkepfddecaaKit
import Derived.Test.YtbglkkepfddecaaGx3
import Derived.Test.YtbglkkepfddecaaGx1
import Derived.Test.YtbglkkepfddecaaGx4
import Derived.Test.YtbglkkepfddecaaGx2
namespace Go.Proofs.Ytbglkkepfddecaa.G
open Go.RowKit Go.Proofs.YtbglkkepfddecaaW.PrintWords Go.Proofs.YtbglkkepfddecaaW.PrintLast
set_option linter.unusedVariables false
set_option linter.unusedSimpArgs false
theorem impl_within_eq (a b c : Int) : impl_within.f a b c = some (decide (b ≤ a ∧ a ≤ c)) := by
  unfold impl_within.f
  split
  · rename_i h; congr 1; simp; omega
  · rename_i h; congr 1; simp; omega
theorem spec_l1In_eq (a b c : Int) : spec_l1In.f a b c = some (decide (b ≤ a ∧ a ≤ c)) := by
  unfold spec_l1In.f
  split
  · rename_i h; congr 1; simp; omega
  · rename_i h; congr 1; simp; omega
/-- What a table must be at index i. -/
def okAt (xs : List S60) (i : Int) : Prop :=
  (0 ≤ (rd_T60 xs i).f0 ∧ (rd_T60 xs i).f0 ≤ 240 ∧ 0 ≤ (rd_T60 xs i).f1 ∧ (rd_T60 xs i).f1 ≤ 2000) ∧
  (0 < i → (rd_T60 xs (i - 1)).f0 < (rd_T60 xs i).f0 ∧ (rd_T60 xs (i - 1)).f1 ≠ (rd_T60 xs i).f1) ∧
  (1 < i → ¬ ((rd_T60 xs (i - 2)).f1 < (rd_T60 xs (i - 1)).f1 ↔ (rd_T60 xs (i - 1)).f1 < (rd_T60 xs i).f1))
def Valid (xs : List S60) : Prop := (2 ≤ (xs.length : Int) ∧ (xs.length : Int) ≤ 20) ∧ All (okAt xs) 0 (xs.length : Int)
theorem impl_valid_l0 (xs : List S60) (hn : (xs.length : Int) ≤ 20) : ∀ i, 0 ≤ i → i ≤ (xs.length : Int) → Ev (fun k => impl_IsValidTides.l0 k xs xs (xs.length : Int) i) (chk (All (okAt xs) i (xs.length : Int)) true false) := by
  refine Ev.check (fun k i => impl_IsValidTides.l0 k xs xs (xs.length : Int) i) (xs.length : Int) (okAt xs) true false 0 ?_ ?_
  · refine Ev.step (fun k => by rw [impl_IsValidTides.l0]) ?_
    simp only [Int.lt_irrefl, if_false]
    exact Ev.now _
  · intro i h0 hlt r hr
    refine Ev.step (fun k => by rw [impl_IsValidTides.l0]) ?_
    simp (disch := omega) only [wrap64_id, impl_within_eq, Option.bind_some, if_pos hlt, if_pos h0, decide_eq_true_eq]
    have fin : ∀ b, (b = true ↔ ¬ (0 ≤ (rd_T60 xs i).f0 ∧ (rd_T60 xs i).f0 ≤ 240 ∧ 0 ≤ (rd_T60 xs i).f1 ∧ (rd_T60 xs i).f1 ≤ 2000)) → Ev (fun k => impl_IsValidTides.j1 k xs i xs (xs.length : Int) i b (rd_T60 xs i).f0 (rd_T60 xs i).f1) (chk (okAt xs i) r false) := by
      intro b hb
      refine Ev.step (fun k => by rw [impl_IsValidTides.j1]) ?_
      refine Ev.ite (fun hb' => ?_) (fun hb' => ?_)
      · have := hb.1 hb'
        rw [chk_neg (fun h => this h.1)]
        exact Ev.now _
      · have h1 : (0 ≤ (rd_T60 xs i).f0 ∧ (rd_T60 xs i).f0 ≤ 240 ∧ 0 ≤ (rd_T60 xs i).f1 ∧ (rd_T60 xs i).f1 ≤ 2000) := by
          apply Classical.byContradiction; intro h; exact hb' (hb.2 h)
        have fin2 : ∀ b, (b = true ↔ ¬ (0 < i → (rd_T60 xs (i - 1)).f0 < (rd_T60 xs i).f0 ∧ (rd_T60 xs (i - 1)).f1 ≠ (rd_T60 xs i).f1)) → Ev (fun k => impl_IsValidTides.j2 k xs i xs (xs.length : Int) i b (rd_T60 xs i).f0 (rd_T60 xs i).f1) (chk (okAt xs i) r false) := by
          intro b hb
          refine Ev.step (fun k => by rw [impl_IsValidTides.j2]) ?_
          refine Ev.ite (fun hb' => ?_) (fun hb' => ?_)
          · have := hb.1 hb'
            rw [chk_neg (fun h => this h.2.1)]
            exact Ev.now _
          · have h2 : (0 < i → (rd_T60 xs (i - 1)).f0 < (rd_T60 xs i).f0 ∧ (rd_T60 xs (i - 1)).f1 ≠ (rd_T60 xs i).f1) := by
              apply Classical.byContradiction; intro h; exact hb' (hb.2 h)
            simp (disch := omega) only [wrap64_id, beq_iff_eq, decide_eq_decide]
            repeat' (refine Ev.ite (fun h => ?_) (fun h => ?_))
            all_goals first
              | (exfalso; omega)
              | (rw [chk_pos ⟨h1, h2, by omega⟩]; exact hr)
              | (rw [chk_neg (fun h => by have := h.2.2; omega)]; exact Ev.now _)
        simp (disch := omega) only [wrap64_id]
        repeat' (refine Ev.ite (fun h => ?_) (fun h => ?_))
        all_goals first
          | (exfalso; omega)
          | (refine fin2 _ ?_; simp only [beq_iff_eq, true_iff, Bool.false_eq_true, false_iff]; omega)
    refine Ev.ite (fun h => ?_) (fun h => ?_)
    all_goals (refine fin _ ?_; simp; omega)
theorem spec_valid_l0 (xs : List S60) (hn : (xs.length : Int) ≤ 20) : ∀ i, 0 ≤ i → i ≤ (xs.length : Int) → Ev (fun k => spec_l15Good.l0 k xs i) (chk (All (okAt xs) i (xs.length : Int)) true false) := by
  refine Ev.check (fun k i => spec_l15Good.l0 k xs i) (xs.length : Int) (okAt xs) true false 0 ?_ ?_
  · refine Ev.step (fun k => by rw [spec_l15Good.l0]) ?_
    simp only [Int.lt_irrefl, if_false]
    exact Ev.now _
  · intro i h0 hlt r hr
    refine Ev.step (fun k => by rw [spec_l15Good.l0]) ?_
    simp (disch := omega) only [wrap64_id, spec_l1In_eq, Option.bind_some, if_pos hlt, if_pos h0, decide_eq_true_eq]
    have fin : ∀ b, (b = true ↔ ¬ (0 ≤ (rd_T60 xs i).f0 ∧ (rd_T60 xs i).f0 ≤ 240 ∧ 0 ≤ (rd_T60 xs i).f1 ∧ (rd_T60 xs i).f1 ≤ 2000)) → Ev (fun k => spec_l15Good.j1 k xs i b) (chk (okAt xs i) r false) := by
      intro b hb
      refine Ev.step (fun k => by rw [spec_l15Good.j1]) ?_
      refine Ev.ite (fun hb' => ?_) (fun hb' => ?_)
      · have := hb.1 hb'
        rw [chk_neg (fun h => this h.1)]
        exact Ev.now _
      · have h1 : (0 ≤ (rd_T60 xs i).f0 ∧ (rd_T60 xs i).f0 ≤ 240 ∧ 0 ≤ (rd_T60 xs i).f1 ∧ (rd_T60 xs i).f1 ≤ 2000) := by
          apply Classical.byContradiction; intro h; exact hb' (hb.2 h)
        have fin2 : ∀ b, (b = true ↔ ¬ (0 < i → (rd_T60 xs (i - 1)).f0 < (rd_T60 xs i).f0 ∧ (rd_T60 xs (i - 1)).f1 ≠ (rd_T60 xs i).f1)) → Ev (fun k => spec_l15Good.j2 k xs i b) (chk (okAt xs i) r false) := by
          intro b hb
          refine Ev.step (fun k => by rw [spec_l15Good.j2]) ?_
          refine Ev.ite (fun hb' => ?_) (fun hb' => ?_)
          · have := hb.1 hb'
            rw [chk_neg (fun h => this h.2.1)]
            exact Ev.now _
          · have h2 : (0 < i → (rd_T60 xs (i - 1)).f0 < (rd_T60 xs i).f0 ∧ (rd_T60 xs (i - 1)).f1 ≠ (rd_T60 xs i).f1) := by
              apply Classical.byContradiction; intro h; exact hb' (hb.2 h)
            simp (disch := omega) only [wrap64_id, beq_iff_eq, decide_eq_decide]
            repeat' (refine Ev.ite (fun h => ?_) (fun h => ?_))
            all_goals first
              | (exfalso; omega)
              | (rw [chk_pos ⟨h1, h2, by omega⟩]; exact hr)
              | (rw [chk_neg (fun h => by have := h.2.2; omega)]; exact Ev.now _)
        simp (disch := omega) only [wrap64_id]
        repeat' (refine Ev.ite (fun h => ?_) (fun h => ?_))
        all_goals first
          | (exfalso; omega)
          | (refine fin2 _ ?_; simp only [beq_iff_eq, true_iff, Bool.false_eq_true, false_iff]; omega)
    refine Ev.ite (fun h => ?_) (fun h => ?_)
    all_goals (refine fin _ ?_; simp; omega)
theorem impl_valid (xs : List S60) : Ev (fun k => impl_IsValidTides.f k xs) (chk (Valid xs) true false) := by
  unfold impl_IsValidTides.f
  simp only [impl_within_eq, Option.bind_some, decide_eq_true_eq]
  refine Ev.ite (fun h => ?_) (fun h => ?_)
  · rw [chk_congr (show Valid xs ↔ All (okAt xs) 0 (xs.length : Int) from ⟨fun v => v.2, fun v => ⟨h, v⟩⟩)]
    exact impl_valid_l0 xs h.2 0 (by omega) (by omega)
  · rw [chk_neg (fun v : Valid xs => h v.1)]
    exact Ev.now _
theorem spec_valid (xs : List S60) : Ev (fun k => spec_l15Good.f k xs) (chk (Valid xs) true false) := by
  unfold spec_l15Good.f
  simp only [spec_l1In_eq, Option.bind_some, decide_eq_true_eq]
  refine Ev.ite (fun h => ?_) (fun h => ?_)
  · rw [chk_congr (show Valid xs ↔ All (okAt xs) 0 (xs.length : Int) from ⟨fun v => v.2, fun v => ⟨h, v⟩⟩)]
    exact spec_valid_l0 xs h.2 0 (by omega) (by omega)
  · rw [chk_neg (fun v : Valid xs => h v.1)]
    exact Ev.now _
end Go.Proofs.Ytbglkkepfddecaa.G
