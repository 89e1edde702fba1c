import Derived.Test.YtfgbohochpjkfaaCosts
import Derived.Test.YtfgbohochpjkfaaGx22
import Derived.Test.YtfgbohochpjkfaaGx19
import Derived.Test.YtfgbohochpjkfaaGx18
import Derived.Test.YtfgbohochpjkfaaGx17
import Derived.Test.YtfgbohochpjkfaaGx16
import Derived.Test.YtfgbohochpjkfaaGx21
import Derived.Test.YtfgbohochpjkfaaGx20
namespace Go.Proofs.Ytfgbohochpjkfaa.G
open Go.RowKit Go.Proofs.YtfgbohochpjkfaaW.PrintWords Go.Proofs.YtfgbohochpjkfaaW.PrintLast
set_option linter.unusedVariables false
set_option linter.unusedSimpArgs false
/-- x stands in the list. -/
def Has (l : List Int) (x : Int) : Prop := ¬ All (fun j => ¬ rd l j = x) 0 (l.length : Int)
theorem spec_has (l : List Int) (x : Int) (hl : (l.length : Int) ≤ 1099511627776) : Ev (fun k => spec_l1Has.f k l x) (chk (Has l x) true false) := by
  unfold spec_l1Has.f
  have h := Ev.check (fun k i => spec_l1Has.l0 k l x i) (l.length : Int) (fun j => ¬ rd l j = x) false true 0 (by
    refine Ev.step (fun k => by rw [spec_l1Has.l0]) ?_
    simp only [Int.lt_irrefl, if_false]
    exact Ev.now _) (by
    intro i h0 hlt r hr
    refine Ev.step (fun k => by rw [spec_l1Has.l0]) ?_
    simp (disch := omega) only [if_pos, wrap64_id]
    refine Ev.ite (fun h => ?_) (fun h => ?_)
    · rw [chk_neg (fun m => m h)]; exact Ev.now _
    · rw [chk_pos h]; exact hr) 0 (by omega) (by omega)
  refine Ev.eq h ?_
  by_cases ha : All (fun j => ¬ rd l j = x) 0 (l.length : Int)
  · rw [chk_pos ha, chk_neg (fun m : Has l x => m ha)]
  · rw [chk_neg ha, chk_pos (show Has l x from ha)]
theorem impl_has (l : List Int) (x : Int) (hl : (l.length : Int) ≤ 1099511627776) : Ev (fun k => slices_Contains_int_int.f k l x) (chk (Has l x) true false) := by
  unfold slices_Contains_int_int.f slices_Index_int_int.f
  have main : ∀ (d : Nat) (i : Int), 0 ≤ i → i + d = (l.length : Int) → ∃ v, Ev (fun k => slices_Index_int_int.l0 k l x (l.length : Int) i) v ∧ (v ≥ 0 ↔ ¬ All (fun j => ¬ rd l j = x) i (l.length : Int)) := by
    intro d
    induction d with
    | zero =>
      intro i h0 hd
      refine ⟨-1, ?_, ?_⟩
      · refine Ev.step (fun k => by rw [slices_Index_int_int.l0]) ?_
        simp (disch := omega) only [if_neg]
        exact Ev.now _
      · constructor
        · intro h; omega
        · intro h; exact absurd (fun j h1 h2 => by omega) h
    | succ d ih =>
      intro i h0 hd
      by_cases e : x = rd l i
      · refine ⟨i, ?_, ?_⟩
        · refine Ev.step (fun k => by rw [slices_Index_int_int.l0]) ?_
          simp (disch := omega) only [if_pos]
          exact Ev.now _
        · exact ⟨fun _ a => a i (by omega) (by omega) e.symm, fun _ => h0⟩
      · obtain ⟨v, hv, hi⟩ := ih (i + 1) (by omega) (by omega)
        refine ⟨v, ?_, ?_⟩
        · refine Ev.step (fun k => by rw [slices_Index_int_int.l0]) ?_
          simp (disch := omega) only [if_pos, wrap64_id]
          simp only [if_neg e]
          exact hv
        · rw [hi, All.step (show i < (l.length : Int) by omega)]
          exact ⟨fun h a => h a.2, fun h a => h ⟨fun e2 => e e2.symm, a⟩⟩
  obtain ⟨v, hv, hi⟩ := main l.length 0 (by omega) (by omega)
  refine Ev.bind hv ?_
  refine Ev.val ?_
  by_cases hh : Has l x
  · rw [chk_pos hh]; exact decide_eq_true (hi.2 hh)
  · rw [chk_neg hh]; exact decide_eq_false (fun h => hh (hi.1 h))
/-- What job i of an assignment must be. -/
def jobOk (t : List (List Int)) (jobs : List Int) (i : Int) : Prop := (0 ≤ rd jobs i ∧ rd jobs i ≤ ((rd_L1 t 0).length : Int) - 1) ∧ ¬ rd (rd_L1 t i) (rd jobs i) < 0 ∧ ¬ Has (jobs.take i.toNat) (rd jobs i)
def Asg (t : List (List Int)) (jobs : List Int) : Prop := Costs t ∧ (jobs.length : Int) = (t.length : Int) ∧ All (jobOk t jobs) 0 (jobs.length : Int)
theorem take_len (l : List Int) (i : Int) (h0 : 0 ≤ i) (h1 : i ≤ (l.length : Int)) : ((l.take i.toNat).length : Int) = i := by rw [List.length_take]; omega
theorem spec_jobs (t : List (List Int)) (hc : Costs t) (jobs : List Int) (hl : (jobs.length : Int) ≤ (t.length : Int)) : Ev (fun k => spec_l17Jobs.f k t jobs) (chk (All (jobOk t jobs) 0 (jobs.length : Int)) true false) := by
  obtain ⟨h1, h2, h3⟩ := hc
  unfold spec_l17Jobs.f
  refine Ev.check (fun k i => spec_l17Jobs.l0 k t jobs i) (jobs.length : Int) (jobOk t jobs) true false 0 ?_ ?_ 0 (by omega) (by omega)
  · refine Ev.step (fun k => by rw [spec_l17Jobs.l0]) ?_
    simp only [Int.lt_irrefl, if_false]
    exact Ev.now _
  · intro i h0 hlt r hr
    have hrow := (h3 i h0 (by omega)).1
    have tl := take_len jobs i h0 (by omega)
    refine Ev.step (fun k => by rw [spec_l17Jobs.l0]) ?_
    simp (disch := omega) only [if_pos, wrap64_id, spec_l1In_eq, Option.bind_some, decide_eq_true_eq]
    refine Ev.ite (fun g1 => ?_) (fun g1 => ?_)
    · try simp (disch := omega) only [if_pos]
      refine Ev.ite (fun g2 => ?_) (fun g2 => ?_)
      · rw [chk_neg (fun m : jobOk t jobs i => m.2.1 g2)]; exact Ev.now _
      · refine Ev.bind (spec_has _ _ (by omega)) ?_
        refine Ev.ite (fun g3 => ?_) (fun g3 => ?_)
        · rw [chk_neg (fun m : jobOk t jobs i => m.2.2 (chk_true.1 g3))]; exact Ev.now _
        · rw [chk_pos ⟨g1, g2, fun h => g3 (chk_true.2 h)⟩]; exact hr
    · rw [chk_neg (fun m : jobOk t jobs i => g1 m.1)]; exact Ev.now _
theorem impl_asg (t : List (List Int)) (hl : ∀ i, 0 ≤ i → i < (t.length : Int) → ((rd_L1 t i).length : Int) ≤ 1099511627776) (jobs : List Int) : Ev (fun k => impl_IsAssignment.f k t jobs) (chk (Asg t jobs) true false) := by
  have no : ¬ Asg t jobs → Ev (fun k => impl_IsAssignment.j0 k t jobs true) (chk (Asg t jobs) true false) := by
    intro h
    rw [chk_neg h]
    refine Ev.step (fun k => by rw [impl_IsAssignment.j0]) ?_
    simp only [if_true]; exact Ev.now _
  unfold impl_IsAssignment.f
  refine Ev.bind (impl_costs t hl) ?_
  refine Ev.ite (fun hc => ?_) (fun hc => no (fun m => hc (chk_true.2 m.1)))
  have hc := chk_true.1 hc
  by_cases hn : (jobs.length : Int) = (t.length : Int)
  · rw [show ((jobs.length : Int) != (t.length : Int)) = false from by rw [hn]; exact bne_self_eq_false _]
    refine Ev.step (fun k => by rw [impl_IsAssignment.j0]) ?_
    simp only [Bool.false_eq_true, if_false]
    rw [chk_congr (show Asg t jobs ↔ All (jobOk t jobs) 0 (jobs.length : Int) from ⟨fun m => m.2.2, fun m => ⟨hc, hn, m⟩⟩)]
    obtain ⟨h1, h2, h3⟩ := hc
    refine Ev.check (fun k i => impl_IsAssignment.l0 k t jobs jobs (jobs.length : Int) i) (jobs.length : Int) (jobOk t jobs) true false 0 ?_ ?_ 0 (by omega) (by omega)
    · refine Ev.step (fun k => by rw [impl_IsAssignment.l0]) ?_
      simp only [Int.lt_irrefl, if_false]
      exact Ev.now _
    · intro i h0 hlt r hr
      have hrow := (h3 i h0 (by omega)).1
      have tl := take_len jobs i h0 (by omega)
      refine Ev.step (fun k => by rw [impl_IsAssignment.l0]) ?_
      simp (disch := omega) only [if_pos, wrap64_id, impl_within_eq, Option.bind_some, decide_eq_true_eq]
      refine Ev.ite (fun g1 => ?_) (fun g1 => ?_)
      · try simp (disch := omega) only [if_pos]
        refine Ev.ite (fun g2 => ?_) (fun g2 => ?_)
        · rw [chk_neg (fun m : jobOk t jobs i => m.2.1 g2)]; exact Ev.now _
        · refine Ev.bind (impl_has _ _ (by omega)) ?_
          refine Ev.ite (fun g3 => ?_) (fun g3 => ?_)
          · rw [chk_neg (fun m : jobOk t jobs i => m.2.2 (chk_true.1 g3))]; exact Ev.now _
          · rw [chk_pos ⟨g1, g2, fun h => g3 (chk_true.2 h)⟩]; exact hr
      · rw [chk_neg (fun m : jobOk t jobs i => g1 m.1)]; exact Ev.now _
  · rw [show ((jobs.length : Int) != (t.length : Int)) = true from by rw [bne_iff_ne]; exact hn]
    exact no (fun m => hn m.2.1)
theorem spec_asg (t : List (List Int)) (hl : ∀ i, 0 ≤ i → i < (t.length : Int) → ((rd_L1 t i).length : Int) ≤ 1099511627776) (jobs : List Int) : Ev (fun k => spec_l17Assignment.f k t jobs) (chk (Asg t jobs) true false) := by
  unfold spec_l17Assignment.f
  refine Ev.bind (spec_costs t hl) ?_
  refine Ev.ite (fun hc => ?_) (fun hc => ?_)
  · have hc := chk_true.1 hc
    refine Ev.ite (fun hn => ?_) (fun hn => ?_)
    · refine Ev.bind (spec_jobs t hc jobs (by omega)) ?_
      rw [chk_congr (show Asg t jobs ↔ All (jobOk t jobs) 0 (jobs.length : Int) from ⟨fun m => m.2.2, fun m => ⟨hc, hn, m⟩⟩)]
      exact Ev.now _
    · rw [chk_neg (fun m : Asg t jobs => hn m.2.1)]; exact Ev.now _
  · rw [chk_neg (fun m : Asg t jobs => hc (chk_true.2 m.1))]; exact Ev.now _
end Go.Proofs.Ytfgbohochpjkfaa.G
