import Derived.Test.YtibfchjpdplehaaWithin
import Derived.Test.YtibfchjpdplehaaMax
import Derived.Test.YtibfchjpdplehaaGx6
import Derived.Test.YtibfchjpdplehaaGx33
import Derived.Test.YtibfchjpdplehaaGx37
import Derived.Test.YtibfchjpdplehaaGx14
import Derived.Test.YtibfchjpdplehaaGx13
import Derived.Test.YtibfchjpdplehaaGx8
namespace Go.Proofs.Ytibfchjpdplehaa.G
open Go.RowKit Go.Proofs.YtibfchjpdplehaaW.PrintWords Go.Proofs.YtibfchjpdplehaaW.PrintLast
set_option linter.unusedVariables false
set_option linter.unusedSimpArgs false
def okW (xs : List Int) (i : Int) : Prop := 0 ≤ rd xs i ∧ rd xs i ≤ 300
def WorkOk (xs : List Int) (c : Int) : Prop := (1 ≤ (xs.length : Int) ∧ (xs.length : Int) ≤ 10) ∧ (1 ≤ c ∧ c ≤ 3) ∧ All (okW xs) 0 (xs.length : Int)
theorem isWork_chk (xs : List Int) (c : Int) : impl_isWork.f xs c = some (chk (WorkOk xs c) true false) := by
  unfold impl_isWork.f isWorkB
  congr 1
  have hb : (badAt goodW xs xs.length 0 ≥ 0) ↔ ¬ All (okW xs) 0 (xs.length : Int) := by
    rw [badAt_iff]
    constructor
    · intro h a
      refine h fun j _ hj => ?_
      have := a (j : Int) (by omega) (by omega)
      unfold okW at this
      unfold goodW; exact decide_eq_true this
    · intro h a
      refine h fun j h0 hj => ?_
      have := a j.toNat (by omega) (by omega)
      rw [show ((j.toNat : Nat) : Int) = j from by omega] at this
      unfold goodW at this
      have h' := of_decide_eq_true this
      exact h'
  by_cases h1 : (1 ≤ (xs.length : Int) ∧ (xs.length : Int) ≤ 10) ∧ (1 ≤ c ∧ c ≤ 3)
  · rw [decide_eq_true h1]
    by_cases ha : All (okW xs) 0 (xs.length : Int)
    · rw [chk_pos ⟨h1.1, h1.2, ha⟩, decide_eq_false (fun x => hb.1 x ha)]; rfl
    · rw [chk_neg (fun x : WorkOk xs c => ha x.2.2), decide_eq_true (hb.2 ha)]; rfl
  · rw [decide_eq_false h1, chk_neg (fun x : WorkOk xs c => h1 ⟨x.1, x.2.1⟩)]; rfl
def Work1 (xs : List Int) : Prop := All (okW xs) 0 (xs.length : Int) ∧ 1 ≤ (xs.length : Int) ∧ (xs.length : Int) ≤ 10
theorem spec_work (xs : List Int) (hb : (xs.length : Int) ≤ 1099511627776) : Ev (fun k => spec_l13Work.f k xs) (chk (Work1 xs) true false) := by
  unfold spec_l13Work.f
  have h := Ev.check (fun k i => spec_l13Work.l0 k xs i) (xs.length : Int) (okW xs) (decide (1 ≤ (xs.length : Int) ∧ (xs.length : Int) ≤ 10)) false 0 (by
    refine Ev.step (fun k => by rw [spec_l13Work.l0]) ?_
    simp only [Int.lt_irrefl, if_false, spec_l1In_eq, Option.bind_some]
    exact Ev.now _) (by
    intro i h0 hlt r hr
    refine Ev.step (fun k => by rw [spec_l13Work.l0]) ?_
    simp (disch := omega) only [wrap64_id, if_pos, spec_l1In_eq, Option.bind_some, decide_eq_true_eq]
    refine Ev.ite (fun h => ?_) (fun h => ?_)
    · rw [chk_pos (show okW xs i from h)]; exact hr
    · rw [chk_neg (show ¬ okW xs i from h)]; exact Ev.now _) 0 (by omega) (by omega)
  refine Ev.eq h ?_
  by_cases ha : All (okW xs) 0 (xs.length : Int)
  · rw [chk_pos ha]
    by_cases hl : 1 ≤ (xs.length : Int) ∧ (xs.length : Int) ≤ 10
    · rw [chk_pos ⟨ha, hl⟩]; exact decide_eq_true hl
    · rw [chk_neg (fun m : Work1 xs => hl m.2)]; exact decide_eq_false hl
  · rw [chk_neg ha, chk_neg (fun m : Work1 xs => ha m.1)]
theorem spec_asked (xs : List Int) (hb : (xs.length : Int) ≤ 1099511627776) (c : Int) : Ev (fun k => spec_l13Asked.f k xs c) (chk (WorkOk xs c) true false) := by
  unfold spec_l13Asked.f
  refine Ev.bind (spec_work xs hb) ?_
  refine Ev.ite (fun h => ?_) (fun h => ?_)
  · have h := chk_true.1 h
    simp only [spec_l1In_eq, Option.bind_some]
    refine Ev.val ?_
    by_cases hc : 1 ≤ c ∧ c ≤ 3
    · rw [chk_pos ⟨h.2, hc, h.1⟩]; exact decide_eq_true hc
    · rw [chk_neg (fun m : WorkOk xs c => hc m.2.1)]; exact decide_eq_false hc
  · rw [chk_neg (fun m : WorkOk xs c => h (chk_true.2 ⟨m.2.2, m.1⟩))]
    exact Ev.now _
/-- The sum of d numbers from a on. -/
def sumTo (xs : List Int) (a : Int) : Nat → Int
  | 0 => 0
  | d + 1 => sumTo xs a d + rd xs (a + d)
theorem sumTo_succ (xs : List Int) (a : Int) (d : Nat) : sumTo xs a (d + 1) = sumTo xs a d + rd xs (a + d) := rfl
theorem sumTo_bd {xs : List Int} (hw : All (okW xs) 0 (xs.length : Int)) (a : Int) (ha : 0 ≤ a) : ∀ d : Nat, a + d ≤ (xs.length : Int) → 0 ≤ sumTo xs a d ∧ sumTo xs a d ≤ 300 * d := by
  intro d
  induction d with
  | zero => intro _; simp [sumTo]
  | succ d ih =>
    intro h
    have := ih (by omega)
    have o := hw (a + d) (by omega) (by omega)
    unfold okW at o
    unfold sumTo
    omega
/-- What sumOf adds of a list of small numbers. -/
theorem impl_sum (ys : List Int) (hl : (ys.length : Int) ≤ 1000) (hy : ∀ i, 0 ≤ i → i < (ys.length : Int) → 0 ≤ rd ys i ∧ rd ys i ≤ 1000000) : Ev (fun k => impl_sumOf.f k ys) (sumTo ys 0 ys.length) := by
  unfold impl_sumOf.f
  refine Ev.up (fun k (s : Int) i => impl_sumOf.l0 k s ys (ys.length : Int) i) (fun _ _ => sumTo ys 0 ys.length) (fun s i => 0 ≤ i ∧ s = sumTo ys 0 i.toNat ∧ 0 ≤ s ∧ s ≤ 1000000 * i) (ys.length : Int) ?_ ?_ 0 0 ⟨by omega, rfl, by omega, by omega⟩ (by omega)
  · rintro s ⟨h0, rfl, _, _⟩
    refine Ev.step (fun k => by rw [impl_sumOf.l0]) ?_
    simp only [Int.lt_irrefl, if_false, Int.toNat_natCast]
    exact Ev.now _
  · rintro s i ⟨h0, hs, h1, h2⟩ hlt ih
    have o := hy i h0 hlt
    refine Ev.step (fun k => by rw [impl_sumOf.l0]) ?_
    simp (disch := omega) only [wrap64_id, if_pos]
    refine ih _ ⟨by omega, ?_, by omega, by omega⟩
    rw [show (i + 1).toNat = i.toNat + 1 from by omega, hs, sumTo_succ, show (0 : Int) + (i.toNat : Int) = i from by omega]
/-- The greatest of the first d numbers, 0 at least. -/
def topTo (xs : List Int) : Nat → Int
  | 0 => 0
  | d + 1 => mx (topTo xs d) (rd xs d)
theorem topTo_succ (xs : List Int) (d : Nat) : topTo xs (d + 1) = mx (topTo xs d) (rd xs d) := rfl
theorem topTo_bd {xs : List Int} (hw : All (okW xs) 0 (xs.length : Int)) : ∀ d : Nat, (d : Int) ≤ (xs.length : Int) → 0 ≤ topTo xs d ∧ topTo xs d ≤ 300 := by
  intro d
  induction d with
  | zero => intro _; simp [topTo]
  | succ d ih =>
    intro h
    have := ih (by omega)
    have o := hw (d : Int) (by omega) (by omega)
    unfold okW at o
    unfold topTo mx
    split <;> omega
theorem spec_greatest (ys : List Int) (hl : (ys.length : Int) ≤ 1099511627776) : Ev (fun k => spec_l13Greatest.f k ys) (topTo ys ys.length) := by
  unfold spec_l13Greatest.f
  refine Ev.up (fun k (s : Int) i => spec_l13Greatest.l0 k ys s i) (fun _ _ => topTo ys ys.length) (fun s i => 0 ≤ i ∧ s = topTo ys i.toNat) (ys.length : Int) ?_ ?_ 0 0 ⟨by omega, rfl⟩ (by omega)
  · rintro s ⟨h0, rfl⟩
    refine Ev.step (fun k => by rw [spec_l13Greatest.l0]) ?_
    simp only [Int.lt_irrefl, if_false, Int.toNat_natCast]
    exact Ev.now _
  · rintro s i ⟨h0, hs⟩ hlt ih
    refine Ev.step (fun k => by rw [spec_l13Greatest.l0]) ?_
    simp (disch := omega) only [wrap64_id, if_pos, spec_most_eq, Option.bind_some]
    refine ih _ ⟨by omega, ?_⟩
    rw [show (i + 1).toNat = i.toNat + 1 from by omega, hs, topTo_succ, show ((i.toNat : Nat) : Int) = i from by omega]
theorem max_top {xs : List Int} (hw : All (okW xs) 0 (xs.length : Int)) (hp : 0 < xs.length) : ∀ d : Nat, 1 ≤ d → d ≤ xs.length → maxTo xs d = topTo xs d := by
  intro d
  induction d with
  | zero => intro h; omega
  | succ d ih =>
    intro _ h
    unfold maxTo topTo
    rcases Nat.eq_zero_or_pos d with rfl | hd
    · have o := hw 0 (by omega) (by omega)
      unfold okW at o
      show mx (rd xs 0) (rd xs 0) = mx 0 (rd xs 0)
      unfold mx
      split <;> split <;> omega
    · rw [ih hd (by omega)]
end Go.Proofs.Ytibfchjpdplehaa.G
