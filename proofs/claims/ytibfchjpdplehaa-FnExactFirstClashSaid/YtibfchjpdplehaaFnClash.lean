import Derived.Test.YtibfchjpdplehaaMoves
import Derived.Test.YtibfchjpdplehaaGx29
import Derived.Test.YtibfchjpdplehaaGx31
import Derived.Test.YtibfchjpdplehaaGx28
import Derived.Test.YtibfchjpdplehaaGx30
namespace Go.Proofs.Ytibfchjpdplehaa.G
open Go.RowKit Go.Proofs.YtibfchjpdplehaaW.PrintWords Go.Proofs.YtibfchjpdplehaaW.PrintLast
set_option linter.unusedVariables false
set_option linter.unusedSimpArgs false
def clashB (x y : S55) : Bool := if x.f2 ≥ y.f3 then false else if y.f2 ≥ x.f3 then false else if x.f0 = y.f0 then true else if x.f1 = y.f1 then true else (decide (x.f0 < y.f0) != decide (x.f1 < y.f1))
theorem spec_clash_eq (x y : S55) : spec_l13Clash.f x.f0 x.f1 x.f2 x.f3 y.f0 y.f1 y.f2 y.f3 = some (clashB x y) := by
  unfold spec_l13Clash.f clashB
  repeat' split
  all_goals rfl
theorem impl_clash_eq (x y : S55) (hx : x.f2 < x.f3) (hy : y.f2 < y.f3) : impl_clash.f x.f0 x.f1 x.f2 x.f3 y.f0 y.f1 y.f2 y.f3 = some (clashB x y) := by
  unfold impl_clash.f clashB
  have h : mx x.f2 y.f2 ≥ mn x.f3 y.f3 ↔ x.f2 ≥ y.f3 ∨ y.f2 ≥ x.f3 := by unfold mx mn; split <;> split <;> omega
  by_cases h1 : x.f2 ≥ y.f3
  · rw [if_pos (h.2 (.inl h1)), if_pos h1]
  · rw [if_neg h1]
    by_cases h2 : y.f2 ≥ x.f3
    · rw [if_pos (h.2 (.inr h2)), if_pos h2]
    · rw [if_neg (fun q => (h.1 q).elim h1 h2), if_neg h2]
      repeat' split
      all_goals rfl
/-- The first clash of move i with one from k on; else what follows. -/
def clashIn (xs : List S55) (i : Int) (nxt : Int × Int × Bool) : Nat → Int → Int × Int × Bool
  | 0, _ => nxt
  | d + 1, k => if clashB (rd_T55 xs i) (rd_T55 xs k) = true then (i, k, true) else clashIn xs i nxt d (k + 1)
def clashFrom (xs : List S55) : Nat → Int → Int × Int × Bool
  | 0, _ => (-1, -1, true)
  | d + 1, i => clashIn xs i (clashFrom xs d (i + 1)) d (i + 1)
def clashOf (xs : List S55) : Int × Int × Bool := clashFrom xs xs.length 0
theorem spec_clashes (xs : List S55) (hb : (xs.length : Int) ≤ 1099511627776) : Ev (fun k => spec_FirstClash.f k xs) (chk (Moves xs) (clashOf xs) (0, 0, false)) := by
  unfold spec_FirstClash.f
  refine Ev.bind (spec_moves xs hb) ?_
  refine Ev.ite (fun hv => ?_) (fun hv => ?_)
  · have hv := chk_true.1 hv
    rw [chk_pos hv]
    have hl := hv.1
    have outer : ∀ (d : Nat) (i : Int), 0 ≤ i → i + d = (xs.length : Int) → Ev (fun k => spec_FirstClash.l0 k xs i) (clashFrom xs d i) := by
      intro d
      induction d with
      | zero =>
        intro i h0 hd
        refine Ev.step (fun k => by rw [spec_FirstClash.l0]) ?_
        simp (disch := omega) only [if_neg]
        exact Ev.now _
      | succ d ih =>
        intro i h0 hd
        refine Ev.step (fun k => by rw [spec_FirstClash.l0]) ?_
        simp (disch := omega) only [if_pos, wrap64_id]
        have inner : ∀ (e : Nat) (m : Int), i < m → m + e = (xs.length : Int) → Ev (fun k => spec_FirstClash.l1 k xs i m) (clashIn xs i (clashFrom xs d (i + 1)) e m) := by
          intro e
          induction e with
          | zero =>
            intro m h1 he
            refine Ev.step (fun k => by rw [spec_FirstClash.l1]) ?_
            simp (disch := omega) only [if_neg, wrap64_id]
            exact ih (i + 1) (by omega) (by omega)
          | succ e ih2 =>
            intro m h1 he
            refine Ev.step (fun k => by rw [spec_FirstClash.l1]) ?_
            simp (disch := omega) only [if_pos, wrap64_id, spec_clash_eq, Option.bind_some]
            refine Ev.ite (fun h => ?_) (fun h => ?_)
            · unfold clashIn; rw [if_pos h]; exact Ev.now _
            · unfold clashIn; rw [if_neg h]; exact ih2 (m + 1) (by omega) (by omega)
        exact inner d (i + 1) (by omega) (by omega)
    exact outer xs.length 0 (by omega) (by omega)
  · rw [chk_neg (fun h => hv (chk_true.2 h))]
    exact Ev.now _
theorem impl_clashes (xs : List S55) (hb : (xs.length : Int) ≤ 1099511627776) : Ev (fun k => impl_FirstClash.f k xs) (chk (Moves xs) (clashOf xs) (0, 0, false)) := by
  unfold impl_FirstClash.f
  refine Ev.bind (impl_moves xs hb) ?_
  refine Ev.ite (fun hv => ?_) (fun hv => ?_)
  · have hv := chk_true.1 hv
    rw [chk_pos hv]
    have hl := hv.1
    have lt : ∀ i, 0 ≤ i → i < (xs.length : Int) → (rd_T55 xs i).f2 < (rd_T55 xs i).f3 := fun i h0 h1 => (hv.2 i h0 h1).2.2.2.1
    have outer : ∀ (d : Nat) (i : Int), 0 ≤ i → i + d = (xs.length : Int) → Ev (fun k => impl_FirstClash.l0 k xs (xs.length : Int) i) (clashFrom xs d i) := by
      intro d
      induction d with
      | zero =>
        intro i h0 hd
        refine Ev.step (fun k => by rw [impl_FirstClash.l0]) ?_
        simp (disch := omega) only [if_neg]
        exact Ev.now _
      | succ d ih =>
        intro i h0 hd
        refine Ev.step (fun k => by rw [impl_FirstClash.l0]) ?_
        simp (disch := omega) only [if_pos, wrap64_id]
        have inner : ∀ (e : Nat) (m : Int), i < m → m + e = (xs.length : Int) → Ev (fun k => impl_FirstClash.l1 k xs i m (xs.length : Int) i) (clashIn xs i (clashFrom xs d (i + 1)) e m) := by
          intro e
          induction e with
          | zero =>
            intro m h1 he
            refine Ev.step (fun k => by rw [impl_FirstClash.l1]) ?_
            simp (disch := omega) only [if_neg, wrap64_id]
            exact ih (i + 1) (by omega) (by omega)
          | succ e ih2 =>
            intro m h1 he
            have e1 := impl_clash_eq (rd_T55 xs i) (rd_T55 xs m) (lt i h0 (by omega)) (lt m (by omega) (by omega))
            refine Ev.step (fun k => by rw [impl_FirstClash.l1]) ?_
            simp (disch := omega) only [if_pos, wrap64_id, e1, Option.bind_some]
            refine Ev.ite (fun h => ?_) (fun h => ?_)
            · unfold clashIn; rw [if_pos h]; exact Ev.now _
            · unfold clashIn; rw [if_neg h]; exact ih2 (m + 1) (by omega) (by omega)
        exact inner d (i + 1) (by omega) (by omega)
    exact outer xs.length 0 (by omega) (by omega)
  · rw [chk_neg (fun h => hv (chk_true.2 h))]
    exact Ev.now _
end Go.Proofs.Ytibfchjpdplehaa.G
