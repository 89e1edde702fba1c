import Derived.Test.YtbglkkepfddecaaHelp
import Derived.Test.YtbglkkepfddecaaGx10
import Derived.Test.YtbglkkepfddecaaGx11
namespace Go.Proofs.Ytbglkkepfddecaa.G
open Go.RowKit Go.Proofs.YtbglkkepfddecaaW.PrintWords Go.Proofs.YtbglkkepfddecaaW.PrintLast
set_option linter.unusedVariables false
set_option linter.unusedSimpArgs false
theorem mark_T (xs : List S60) (h : (xs.length : Int) ≤ 1048576) : ∃ ys, Ev (fun k => laws_markTideS.f k xs 1) (1 + 2 * (xs.length : Int), ys) ∧ Ev (fun k => laws_heldTideS.f k ys 1) (1 + 2 * (xs.length : Int)) := by
  obtain ⟨ys, h1, h2, h3⟩ := Ev.mark (fun k xs c i => laws_markTideS.l0 k xs c i) (xs.length : Int) 2 (fun i => (⟨1 + 2 * i, 1 + 2 * i + 1⟩ : S60)) z60 (by
      intro ys c hl
      refine Ev.step (fun k => by rw [laws_markTideS.l0]) ?_
      simp only [hl, Int.lt_irrefl, if_false]
      exact Ev.now _) (by
      intro ys c i hl h0 hlt hc r hr
      refine Ev.step (fun k => by rw [laws_markTideS.l0]) ?_
      have e1 : wrap64 (c + 1) = c + 1 := wrap64_id (by omega) (by omega)
      have e2 : wrap64 (c + 1 + 1) = c + 2 := by rw [wrap64_id (by omega) (by omega)]; omega
      have e3 : wrap64 (i + 1) = i + 1 := wrap64_id (by omega) (by omega)
      simp only [hl, if_pos hlt, if_pos h0, Option.bind_some, e1, e2, e3, rd_T60, getD_set _ _ _ _ _ (show i.toNat < ys.length by omega), if_true, List.set_set]
      rw [hc] at hr ⊢
      exact hr) xs rfl
  refine ⟨ys, h1, ?_⟩
  refine Ev.up (fun k (c : Int) i => laws_heldTideS.l0 k ys c i) (fun _ _ => 1 + 2 * (xs.length : Int)) (fun c i => 0 ≤ i ∧ c = 1 + 2 * i) (xs.length : Int) ?_ ?_ 1 0 ⟨by omega, by omega⟩ (by omega)
  · rintro c ⟨_, rfl⟩
    refine Ev.step (fun k => by rw [laws_heldTideS.l0]) ?_
    simp only [h2, Int.lt_irrefl, if_false]
    exact Ev.now _
  · rintro c i ⟨h0, hc⟩ hlt ih
    refine Ev.step (fun k => by rw [laws_heldTideS.l0]) ?_
    have e1 : wrap64 (c + 1) = c + 1 := wrap64_id (by omega) (by omega)
    have e2 : wrap64 (c + 1 + 1) = c + 2 := by rw [wrap64_id (by omega) (by omega)]; omega
    have e3 : wrap64 (i + 1) = i + 1 := wrap64_id (by omega) (by omega)
    simp only [h2, if_pos hlt, if_pos h0, e1, e2, e3, rd_T60, h3 i h0 hlt, ← hc, if_true]
    exact ih _ ⟨by omega, by omega⟩
end Go.Proofs.Ytbglkkepfddecaa.G
