import Derived.Test.YtbglkkepfddecaaKit
import Derived.Test.YtbglkkepfddecaaGx31
import Derived.Test.YtbglkkepfddecaaGx32
namespace Go.Proofs.Ytbglkkepfddecaa.G
open Go.RowKit Go.Proofs.YtbglkkepfddecaaW.PrintWords Go.Proofs.YtbglkkepfddecaaW.PrintLast
set_option linter.unusedVariables false
set_option linter.unusedSimpArgs false
theorem eq_I (xs : List Int) (h : (xs.length : Int) ≤ 1048576) : Ev (fun k => laws_eqIntS.f k xs xs) true := by
  unfold laws_eqIntS.f
  simp only [if_true]
  refine Ev.upc (fun k i => laws_eqIntS.l0 k xs xs i) true (xs.length : Int) 0 ?_ ?_ 0 (by omega) (by omega)
  · refine Ev.step (fun k => by rw [laws_eqIntS.l0]) ?_
    simp only [Int.lt_irrefl, if_false]
    exact Ev.now _
  · intro i h0 hlt hr
    refine Ev.step (fun k => by rw [laws_eqIntS.l0]) ?_
    simp (disch := omega) only [wrap64_id, if_pos, Option.bind_some, if_true]
    exact hr
theorem mark_I (xs : List Int) (h : (xs.length : Int) ≤ 1048576) : ∃ ys, Ev (fun k => laws_markIntS.f k xs 1) (1 + 1 * (xs.length : Int), ys) ∧ Ev (fun k => laws_heldIntS.f k ys 1) (1 + 1 * (xs.length : Int)) := by
  obtain ⟨ys, h1, h2, h3⟩ := Ev.mark (fun k xs c i => laws_markIntS.l0 k xs c i) (xs.length : Int) 1 (fun i => 1 + 1 * i) (0 : Int) (by
      intro ys c hl
      refine Ev.step (fun k => by rw [laws_markIntS.l0]) ?_
      simp only [hl, Int.lt_irrefl, if_false]
      exact Ev.now _) (by
      intro ys c i hl h0 hlt hc r hr
      refine Ev.step (fun k => by rw [laws_markIntS.l0]) ?_
      have e0 : wrap64 (c + 1) = c + 1 := by rw [wrap64_id (by omega) (by omega)]
      have e9 : wrap64 (i + 1) = i + 1 := wrap64_id (by omega) (by omega)
      simp only [hl, if_pos hlt, if_pos h0, Option.bind_some, e0, e9, getD_set _ _ _ _ _ (show i.toNat < ys.length by omega), List.length_set, if_true, List.set_set]
      rw [hc] at hr ⊢
      exact hr) xs rfl
  refine ⟨ys, h1, ?_⟩
  refine Ev.up (fun k (c : Int) i => laws_heldIntS.l0 k ys c i) (fun _ _ => 1 + 1 * (xs.length : Int)) (fun c i => 0 ≤ i ∧ c = 1 + 1 * i) (xs.length : Int) ?_ ?_ 1 0 ⟨by omega, by omega⟩ (by omega)
  · rintro c ⟨_, rfl⟩
    refine Ev.step (fun k => by rw [laws_heldIntS.l0]) ?_
    simp only [h2, Int.lt_irrefl, if_false]
    exact Ev.now _
  · rintro c i ⟨h0, hc⟩ hlt ih
    refine Ev.step (fun k => by rw [laws_heldIntS.l0]) ?_
    have e0 : wrap64 (c + 1) = c + 1 := by rw [wrap64_id (by omega) (by omega)]
    have e9 : wrap64 (i + 1) = i + 1 := wrap64_id (by omega) (by omega)
    simp only [h2, if_pos hlt, if_pos h0, e0, e9, rd, h3 i h0 hlt, ← hc, if_true]
    exact ih _ ⟨by omega, by omega⟩
end Go.Proofs.Ytbglkkepfddecaa.G
