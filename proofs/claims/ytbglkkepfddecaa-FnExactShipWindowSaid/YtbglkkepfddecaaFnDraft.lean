import Derived.Test.YtbglkkepfddecaaHeights
import Derived.Test.YtbglkkepfddecaaGx21
import Derived.Test.YtbglkkepfddecaaGx24
import Derived.Test.YtbglkkepfddecaaGx20
namespace Go.Proofs.Ytbglkkepfddecaa.G
open Go.RowKit Go.Proofs.YtbglkkepfddecaaW.PrintWords Go.Proofs.YtbglkkepfddecaaW.PrintLast
set_option linter.unusedVariables false
set_option linter.unusedSimpArgs false
theorem spec_least_eq (a b : Int) : spec_l1Least.f a b = some (if a < b then a else b) := by
  unfold spec_l1Least.f
  split <;> rfl
theorem intab_mid {xs : List S60} {a b h : Int} (ha : InTab xs a) (hb : InTab xs b) (h0 : a ≤ h) (h1 : h ≤ b) : InTab xs h := by
  unfold InTab at *; omega
/-- The whole part of the height, by either segment. -/
theorem floor_both {xs : List S60} (hv : Valid xs) {h : Int} (hh : InTab xs h) : ∃ i j q, Ev (fun k => spec_l15Height.f k xs h) (hN xs i h, hD xs i) ∧ Ev (fun k => impl_heightAt.f k xs h) (hN xs j h, hD xs j) ∧ ¬ hD xs i = 0 ∧ ¬ hD xs j = 0 ∧
    Int.tdiv (hN xs i h) (hD xs i) = q ∧ Int.tdiv (hN xs j h) (hD xs j) = q ∧ 0 ≤ q ∧ q ≤ 2000 := by
  obtain ⟨i, si, ei⟩ := spec_height xs hv h hh
  obtain ⟨j, sj, ej⟩ := impl_height xs hv h hh
  have bi := seg_bd hv si
  have bj := seg_bd hv sj
  have qb : ∀ {n d : Int}, 1 ≤ d → 0 ≤ n → n ≤ 2000 * d → 0 ≤ Int.tdiv n d ∧ Int.tdiv n d ≤ 2000 := by
    intro n d h1 h2 h3
    rw [Int.tdiv_eq_ediv_of_nonneg h2]
    exact ⟨Int.ediv_nonneg h2 (by omega), Int.ediv_le_of_le_mul (by omega) h3⟩
  have b := qb bi.1 bi.2.2.1 bi.2.2.2
  refine ⟨i, j, _, ei, ej, by omega, by omega, rfl, ?_, b.1, b.2⟩
  rcases seg_two hv si sj with rfl | ⟨H, e1, e2⟩
  · rfl
  · rw [e1, e2, Int.mul_tdiv_cancel _ (by omega), Int.mul_tdiv_cancel _ (by omega)]
theorem draft_both (xs : List S60) (bottom a b : Int) (w1 : -9223372036854775808 ≤ bottom ∧ bottom ≤ 9223372036854775807) (w2 : -9223372036854775808 ≤ a ∧ a ≤ 9223372036854775807) (w3 : -9223372036854775808 ≤ b ∧ b ≤ 9223372036854775807) :
    ∃ r, Ev (fun k => spec_GreatestDraft.f k xs bottom a b) r ∧ Ev (fun k => impl_GreatestDraft.f k xs bottom a b) r := by
  have no : ¬ ((Valid xs ∧ InTab xs a ∧ InTab xs b) ∧ (0 ≤ bottom ∧ bottom ≤ 3000) ∧ a ≤ b) → ∃ r, Ev (fun k => spec_GreatestDraft.f k xs bottom a b) r ∧ Ev (fun k => impl_GreatestDraft.f k xs bottom a b) r := by
    intro hno
    have js : Ev (fun k => spec_GreatestDraft.j0 k xs bottom a b true) (0, false) := by
      refine Ev.step (fun k => by rw [spec_GreatestDraft.j0]) ?_
      simp only [if_true]; exact Ev.now _
    have ji : Ev (fun k => impl_GreatestDraft.j0 k xs bottom a b true) (0, false) := by
      refine Ev.step (fun k => by rw [impl_GreatestDraft.j0]) ?_
      simp only [if_true]; exact Ev.now _
    refine ⟨(0, false), ?_, ?_⟩
    · unfold spec_GreatestDraft.f
      refine Ev.bind (spec_holds xs a) ?_
      refine Ev.ite (fun h1 => ?_) (fun h1 => js)
      refine Ev.bind (spec_holds xs b) ?_
      refine Ev.ite (fun h2 => ?_) (fun h2 => js)
      refine Ev.ite (fun h3 => js) (fun h3 => ?_)
      simp only [spec_l1In_eq, Option.bind_some]
      have h1 := chk_true.1 h1
      have h2 := chk_true.1 h2
      rw [decide_eq_false (fun h4 => hno ⟨⟨h1.1, h1.2, h2.2⟩, h4, by omega⟩)]
      exact js
    · unfold impl_GreatestDraft.f
      refine Ev.bind (impl_holds_two xs a b) ?_
      refine Ev.ite (fun h1 => ?_) (fun h1 => ji)
      simp only [impl_within_eq, Option.bind_some]
      have h1 := chk_true.1 h1
      refine Ev.ite (fun h2 => ?_) (fun h2 => ji)
      have h2 := of_decide_eq_true h2
      rw [decide_eq_true (show a > b from by apply Classical.byContradiction; intro h3; exact hno ⟨h1, h2, by omega⟩)]
      exact ji
  by_cases hall : (Valid xs ∧ InTab xs a ∧ InTab xs b) ∧ (0 ≤ bottom ∧ bottom ≤ 3000) ∧ a ≤ b
  · obtain ⟨⟨hv, ia, ib⟩, hb, hab⟩ := hall
    have main := Ev.both (fun k (s : Int × Int) h => spec_GreatestDraft.l0 k xs bottom b s.1 h) (fun k (s : Int × Int) h => impl_GreatestDraft.l0 k xs bottom b s.2 h)
      (fun s h => a ≤ h ∧ (h = a ∧ s.1 = bottom + 2000 ∧ s.2 = -1 ∨ a < h ∧ 0 ≤ s.2 ∧ s.2 ≤ 2000 ∧ s.1 = bottom + s.2)) (fun _ => True) (b + 1) (by
        rintro s ⟨h0, h1⟩
        have h1 : 0 ≤ s.2 ∧ s.2 ≤ 2000 ∧ s.1 = bottom + s.2 := by omega
        refine ⟨(s.1, true), trivial, ?_, ?_⟩
        · refine Ev.step (fun k => by rw [spec_GreatestDraft.l0]) ?_
          simp (disch := omega) only [if_neg]; exact Ev.now _
        · refine Ev.step (fun k => by rw [impl_GreatestDraft.l0]) ?_
          simp (disch := omega) only [if_neg, wrap64_id]
          rw [h1.2.2]; exact Ev.now _) (by
        rintro s h ⟨h0, h1⟩ hlt
        have bv := hv.1
        have hh := intab_mid ia ib h0 (by omega)
        have hbd : -1000 ≤ h ∧ h ≤ 1000 := by
          have b0 := (hv.2 0 (by omega) (by omega)).1
          have b1 := (hv.2 ((xs.length : Int) - 1) (by omega) (by omega)).1
          unfold InTab at hh
          omega
        obtain ⟨i, j, q, ei, ej, di, dj, qi, qj, q0, q1⟩ := floor_both hv hh
        refine .inr ⟨((if s.1 < bottom + q then s.1 else bottom + q), (if s.2 < 0 then q else if q < s.2 then q else s.2)), ⟨by omega, .inr ⟨by omega, ?_, ?_, ?_⟩⟩, ?_, ?_⟩
        · dsimp only; split
          · omega
          · split <;> omega
        · dsimp only; split
          · omega
          · split <;> omega
        · dsimp only
          rcases h1 with ⟨_, e1, e2⟩ | ⟨_, h2, h3, e1⟩
          · rw [e1, e2]; simp only [show (-1 : Int) < 0 by omega, if_true]; split <;> omega
          · rw [e1, if_neg (show ¬ s.2 < 0 by omega)]; split <;> split <;> omega
        · intro r hr
          refine Ev.step (fun k => by rw [spec_GreatestDraft.l0]) ?_
          simp (disch := omega) only [if_pos]
          refine Ev.bind ei ?_
          simp (disch := omega) only [if_neg, qi, wrap64_id, spec_least_eq, Option.bind_some]
          exact hr
        · intro r hr
          refine Ev.step (fun k => by rw [impl_GreatestDraft.l0]) ?_
          simp (disch := omega) only [if_pos]
          refine Ev.bind ej ?_
          dsimp only at hr ⊢
          rw [qj]
          refine Ev.ite (fun h2 => ?_) (fun h2 => ?_)
          · simp (disch := omega) only [if_neg, wrap64_id]
            rw [if_pos h2] at hr
            exact hr
          · simp (disch := omega) only [if_neg, wrap64_id]
            rw [if_neg h2] at hr
            refine Ev.ite (fun h3 => ?_) (fun h3 => ?_)
            · rw [if_pos h3] at hr; exact hr
            · rw [if_neg h3] at hr; exact hr)
    obtain ⟨r, _, e1, e2⟩ := main (bottom + 2000, -1) a ⟨by omega, .inl ⟨rfl, rfl, rfl⟩⟩ (by omega)
    refine ⟨r, ?_, ?_⟩
    · unfold spec_GreatestDraft.f
      refine Ev.bind (spec_holds xs a) ?_
      rw [chk_pos ⟨hv, ia⟩]
      simp only [if_true]
      refine Ev.bind (spec_holds xs b) ?_
      rw [chk_pos ⟨hv, ib⟩]
      simp (disch := omega) only [if_true, if_neg, spec_l1In_eq, Option.bind_some]
      rw [decide_eq_true hb]
      refine Ev.step (fun k => by rw [spec_GreatestDraft.j0]) ?_
      simp (disch := omega) only [Bool.not_true, Bool.false_eq_true, if_false, wrap64_id]
      exact e1
    · unfold impl_GreatestDraft.f
      refine Ev.bind (impl_holds_two xs a b) ?_
      rw [chk_pos ⟨hv, ia, ib⟩]
      simp only [if_true, impl_within_eq, Option.bind_some]
      rw [decide_eq_true hb, decide_eq_false (show ¬ a > b by omega)]
      simp only [if_true]
      refine Ev.step (fun k => by rw [impl_GreatestDraft.j0]) ?_
      simp only [Bool.false_eq_true, if_false]
      exact e2
  · exact no hall
end Go.Proofs.Ytbglkkepfddecaa.G
