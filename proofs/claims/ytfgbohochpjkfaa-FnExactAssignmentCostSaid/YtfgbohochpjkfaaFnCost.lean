import Derived.Test.YtfgbohochpjkfaaAsg
import Derived.Test.YtfgbohochpjkfaaGx32
import Derived.Test.YtfgbohochpjkfaaGx30
import Derived.Test.YtfgbohochpjkfaaGx31
import Derived.Test.YtfgbohochpjkfaaGx29
namespace Go.Proofs.Ytfgbohochpjkfaa.G
open Go.RowKit Go.Proofs.YtfgbohochpjkfaaW.PrintWords Go.Proofs.YtfgbohochpjkfaaW.PrintLast
set_option linter.unusedVariables false
set_option linter.unusedSimpArgs false
def cell (t : List (List Int)) (jobs : List Int) (i : Int) : Int := rd (rd_L1 t i) (rd jobs i)
/-- Sum and greatest cost of the first jobs. -/
def costTo (t : List (List Int)) (jobs : List Int) : Nat → Int × Int
  | 0 => (0, 0)
  | d + 1 => ((costTo t jobs d).1 + cell t jobs d, mx (costTo t jobs d).2 (cell t jobs d))
theorem costTo_succ (t : List (List Int)) (jobs : List Int) (d : Nat) : costTo t jobs (d + 1) = ((costTo t jobs d).1 + cell t jobs d, mx (costTo t jobs d).2 (cell t jobs d)) := rfl
theorem cell_bd {t : List (List Int)} {jobs : List Int} (h : Asg t jobs) (i : Int) (h0 : 0 ≤ i) (h1 : i < (jobs.length : Int)) : (0 ≤ rd jobs i ∧ rd jobs i < ((rd_L1 t i).length : Int)) ∧ 0 ≤ cell t jobs i ∧ cell t jobs i ≤ 9999 := by
  obtain ⟨⟨_, _, c3⟩, hn, a⟩ := h
  have r := c3 i h0 (by omega)
  have j := a i h0 h1
  have hr := r.1
  obtain ⟨j1, j2, _⟩ := j
  have o := r.2 (rd jobs i) (by omega) (by omega)
  unfold okC at o
  unfold cell
  omega
theorem cost_bd {t : List (List Int)} {jobs : List Int} (h : Asg t jobs) : ∀ d : Nat, (d : Int) ≤ (jobs.length : Int) → 0 ≤ (costTo t jobs d).1 ∧ (costTo t jobs d).1 ≤ 9999 * d := by
  intro d
  induction d with
  | zero => intro _; simp [costTo]
  | succ d ih =>
    intro hd
    have := ih (by omega)
    have c := cell_bd h (d : Int) (by omega) (by omega)
    rw [costTo_succ]
    dsimp only
    omega
theorem impl_cost {t : List (List Int)} {jobs : List Int} (h : Asg t jobs) : Ev (fun k => impl_costOf.f k t jobs) (costTo t jobs jobs.length) := by
  have hn := h.2.1
  have h1 := h.1.1
  unfold impl_costOf.f
  refine Ev.up (fun k (s : Int × Int) i => impl_costOf.l0 k t s.1 s.2 jobs (jobs.length : Int) i) (fun _ _ => costTo t jobs jobs.length) (fun s i => 0 ≤ i ∧ s = costTo t jobs i.toNat) (jobs.length : Int) ?_ ?_ (0, 0) 0 ⟨by omega, rfl⟩ (by omega)
  · rintro s ⟨h0, rfl⟩
    refine Ev.step (fun k => by rw [impl_costOf.l0]) ?_
    simp only [Int.lt_irrefl, if_false, Int.toNat_natCast]
    exact Ev.now _
  · rintro s i ⟨h0, rfl⟩ hlt ih
    have c := cell_bd h i h0 hlt
    have b := cost_bd h i.toNat (by omega)
    unfold cell at c
    refine Ev.step (fun k => by rw [impl_costOf.l0]) ?_
    simp (disch := omega) only [if_pos, wrap64_id]
    refine ih (_, _) ⟨by omega, ?_⟩
    rw [show (i + 1).toNat = i.toNat + 1 from by omega, costTo_succ, show ((i.toNat : Nat) : Int) = i from by omega]
    rfl
theorem spec_cost {t : List (List Int)} {jobs : List Int} (h : Asg t jobs) : Ev (fun k => spec_l17Cost.f k t jobs) (costTo t jobs jobs.length) := by
  have hn := h.2.1
  have h1 := h.1.1
  unfold spec_l17Cost.f
  refine Ev.up (fun k (s : Int × Int) i => spec_l17Cost.l0 k t jobs s.1 s.2 i) (fun _ _ => costTo t jobs jobs.length) (fun s i => 0 ≤ i ∧ s = costTo t jobs i.toNat) (jobs.length : Int) ?_ ?_ (0, 0) 0 ⟨by omega, rfl⟩ (by omega)
  · rintro s ⟨h0, rfl⟩
    refine Ev.step (fun k => by rw [spec_l17Cost.l0]) ?_
    simp only [Int.lt_irrefl, if_false, Int.toNat_natCast]
    exact Ev.now _
  · rintro s i ⟨h0, rfl⟩ hlt ih
    have c := cell_bd h i h0 hlt
    have b := cost_bd h i.toNat (by omega)
    unfold cell at c
    refine Ev.step (fun k => by rw [spec_l17Cost.l0]) ?_
    simp (disch := omega) only [if_pos, wrap64_id, spec_most_eq, Option.bind_some]
    refine ih (_, _) ⟨by omega, ?_⟩
    rw [show (i + 1).toNat = i.toNat + 1 from by omega, costTo_succ, show ((i.toNat : Nat) : Int) = i from by omega]
    rfl
theorem impl_AsgCost (t : List (List Int)) (hl : ∀ i, 0 ≤ i → i < (t.length : Int) → ((rd_L1 t i).length : Int) ≤ 1099511627776) (jobs : List Int) : Ev (fun k => impl_AssignmentCost.f k t jobs) (chk (Asg t jobs) ((costTo t jobs jobs.length).1, (costTo t jobs jobs.length).2, true) (0, 0, false)) := by
  unfold impl_AssignmentCost.f
  refine Ev.bind (impl_asg t hl jobs) ?_
  refine Ev.ite (fun h => ?_) (fun h => ?_)
  · have h := chk_true.1 h
    rw [chk_pos h]
    exact Ev.bind (impl_cost h) (Ev.now _)
  · rw [chk_neg (fun m => h (chk_true.2 m))]; exact Ev.now _
theorem spec_AsgCost (t : List (List Int)) (hl : ∀ i, 0 ≤ i → i < (t.length : Int) → ((rd_L1 t i).length : Int) ≤ 1099511627776) (jobs : List Int) : Ev (fun k => spec_AssignmentCost.f k t jobs) (chk (Asg t jobs) ((costTo t jobs jobs.length).1, (costTo t jobs jobs.length).2, true) (0, 0, false)) := by
  unfold spec_AssignmentCost.f
  refine Ev.bind (spec_asg t hl jobs) ?_
  refine Ev.ite (fun h => ?_) (fun h => ?_)
  · have h := chk_true.1 h
    rw [chk_pos h]
    exact Ev.bind (spec_cost h) (Ev.now _)
  · rw [chk_neg (fun m => h (chk_true.2 m))]; exact Ev.now _
end Go.Proofs.Ytfgbohochpjkfaa.G
