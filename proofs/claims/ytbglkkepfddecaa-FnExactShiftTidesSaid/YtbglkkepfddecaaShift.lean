import Derived.Test.YtbglkkepfddecaaAux
import Derived.Test.YtbglkkepfddecaaGx8
import Derived.Test.YtbglkkepfddecaaGx9
namespace Go.Proofs.Ytbglkkepfddecaa.G
open Go.RowKit Go.Proofs.YtbglkkepfddecaaW.PrintWords Go.Proofs.YtbglkkepfddecaaW.PrintLast
set_option linter.unusedVariables false
set_option linter.unusedSimpArgs false
def shf (a b : Int) (x : S60) : S60 := ⟨x.f0 + a, x.f1 + b⟩
def ShiftOk (xs : List S60) (a b : Int) : Prop := Valid xs ∧ (-240 ≤ a ∧ a ≤ 240) ∧ (-2000 ≤ b ∧ b ≤ 2000) ∧ Valid (xs.map (shf a b))
theorem valid_bd {xs : List S60} (hv : Valid xs) (i : Int) (h0 : 0 ≤ i) (h1 : i < (xs.length : Int)) : 0 ≤ (rd_T60 xs i).f0 ∧ (rd_T60 xs i).f0 ≤ 240 ∧ 0 ≤ (rd_T60 xs i).f1 ∧ (rd_T60 xs i).f1 ≤ 2000 := (hv.2 i h0 h1).1
theorem impl_shift (xs : List S60) (a b : Int) : Ev (fun k => impl_ShiftTides.f k xs a b) (chk (ShiftOk xs a b) (xs.map (shf a b), true) ([], false)) := by
  unfold impl_ShiftTides.f
  refine Ev.bind (impl_valid xs) ?_
  refine Ev.ite (fun hv => ?_) (fun hv => ?_)
  · have hv := chk_true.1 hv
    simp only [impl_within_eq, Option.bind_some, decide_eq_true_eq]
    refine Ev.ite (fun ha => ?_) (fun ha => ?_)
    · refine Ev.step (fun k => by rw [impl_ShiftTides.j0]) ?_
      refine Ev.ite (fun hb => ?_) (fun hb => ?_)
      · rw [chk_neg (fun h : ShiftOk xs a b => by have := h.2.2.1; simp at hb; omega)]
        exact Ev.now _
      · have hb : -2000 ≤ b ∧ b ≤ 2000 := by simpa using hb
        refine Ev.build (fun k out i => impl_ShiftTides.l0 k a b out xs (xs.length : Int) i) xs (shf a b) z60 _ ?_ ?_
        · refine Ev.step (fun k => by rw [impl_ShiftTides.l0]) ?_
          simp only [Int.lt_irrefl, if_false]
          refine Ev.bind (impl_valid _) ?_
          refine Ev.ite (fun h => ?_) (fun h => ?_)
          · rw [chk_pos ⟨hv, ha, hb, chk_true.1 h⟩]; exact Ev.now _
          · rw [chk_neg (fun h' : ShiftOk xs a b => h (chk_true.2 h'.2.2.2))]; exact Ev.now _
        · intro out i h0 hlt hl r hr
          have bd := valid_bd hv i h0 hlt
          have hn := hv.1
          refine Ev.step (fun k => by rw [impl_ShiftTides.l0]) ?_
          simp (disch := omega) only [if_pos, wrap64_id]
          exact hr
    · refine Ev.step (fun k => by rw [impl_ShiftTides.j0]) ?_
      simp only [if_true]
      rw [chk_neg (fun h : ShiftOk xs a b => ha h.2.1)]
      exact Ev.now _
  · refine Ev.step (fun k => by rw [impl_ShiftTides.j0]) ?_
    simp only [if_true]
    rw [chk_neg (fun h : ShiftOk xs a b => hv (chk_true.2 h.1))]
    exact Ev.now _
theorem spec_shift (xs : List S60) (a b : Int) : Ev (fun k => spec_ShiftTides.f k xs a b) (chk (ShiftOk xs a b) (xs.map (shf a b), true) ([], false)) := by
  unfold spec_ShiftTides.f
  refine Ev.bind (spec_valid xs) ?_
  refine Ev.ite (fun hv => ?_) (fun hv => ?_)
  · have hv := chk_true.1 hv
    simp only [spec_l1In_eq, Option.bind_some, decide_eq_true_eq]
    refine Ev.ite (fun ha => ?_) (fun ha => ?_)
    · refine Ev.step (fun k => by rw [spec_ShiftTides.j0]) ?_
      refine Ev.ite (fun hb => ?_) (fun hb => ?_)
      · rw [chk_neg (fun h : ShiftOk xs a b => by have := h.2.2.1; simp at hb; omega)]
        exact Ev.now _
      · have hb : -2000 ≤ b ∧ b ≤ 2000 := by simpa using hb
        refine Ev.build (fun k out i => spec_ShiftTides.l0 k xs a b out i) xs (shf a b) z60 _ ?_ ?_
        · refine Ev.step (fun k => by rw [spec_ShiftTides.l0]) ?_
          simp only [Int.lt_irrefl, if_false]
          refine Ev.bind (spec_valid _) ?_
          refine Ev.ite (fun h => ?_) (fun h => ?_)
          · rw [chk_pos ⟨hv, ha, hb, chk_true.1 h⟩]; exact Ev.now _
          · rw [chk_neg (fun h' : ShiftOk xs a b => h (chk_true.2 h'.2.2.2))]; exact Ev.now _
        · intro out i h0 hlt hl r hr
          have bd := valid_bd hv i h0 hlt
          have hn := hv.1
          refine Ev.step (fun k => by rw [spec_ShiftTides.l0]) ?_
          simp (disch := omega) only [if_pos, wrap64_id]
          exact hr
    · refine Ev.step (fun k => by rw [spec_ShiftTides.j0]) ?_
      simp only [if_true]
      rw [chk_neg (fun h : ShiftOk xs a b => ha h.2.1)]
      exact Ev.now _
  · refine Ev.step (fun k => by rw [spec_ShiftTides.j0]) ?_
    simp only [if_true]
    rw [chk_neg (fun h : ShiftOk xs a b => hv (chk_true.2 h.1))]
    exact Ev.now _
theorem shift_len (xs : List S60) (a b : Int) (h : (xs.length : Int) ≤ 1048576) : ((chk (ShiftOk xs a b) (xs.map (shf a b), true) ([], false)).1.length : Int) ≤ 1048576 := by
  by_cases hc : ShiftOk xs a b
  · rw [chk_pos hc]; simpa using h
  · rw [chk_neg hc]; simp
end Go.Proofs.Ytbglkkepfddecaa.G
