import Derived.Test.YtbpccdbkaiigcaaWithin
import Derived.Test.YtbpccdbkaiigcaaGx14
import Derived.Test.YtbpccdbkaiigcaaGx6
import Derived.Test.YtbpccdbkaiigcaaGx7
import Derived.Test.YtbpccdbkaiigcaaGx12
import Derived.Test.YtbpccdbkaiigcaaGx5
import Derived.Test.YtbpccdbkaiigcaaGx13
namespace Go.Proofs.Ytbpccdbkaiigcaa.G
open Go.RowKit Go.Proofs.YtbpccdbkaiigcaaW.PrintWords Go.Proofs.YtbpccdbkaiigcaaW.PrintLast
set_option linter.unusedVariables false
set_option linter.unusedSimpArgs false
def In (w h : Int) (c : S48) : Prop := (0 ≤ c.f0 ∧ c.f0 ≤ w - 1) ∧ (0 ≤ c.f1 ∧ c.f1 ≤ h - 1)
def Bef (a b : S48) : Prop := a.f1 < b.f1 ∨ a.f1 = b.f1 ∧ a.f0 < b.f0
def okB (w h : Int) (bl : List S48) (i : Int) : Prop := In w h (rd_T48 bl i) ∧ (0 < i → Bef (rd_T48 bl (i - 1)) (rd_T48 bl i))
def FloorOk (w h : Int) (bl : List S48) : Prop := (1 ≤ w ∧ w ≤ 6) ∧ (1 ≤ h ∧ h ≤ 6) ∧ All (okB w h bl) 0 (bl.length : Int)
theorem impl_on (w h : Int) (bl : List S48) (c : S48) (hw : 1 ≤ w ∧ w ≤ 6) (hh : 1 ≤ h ∧ h ≤ 6) : impl_onFloor.f w h bl c.f0 c.f1 = some (chk (In w h c) true false) := by
  unfold impl_onFloor.f
  simp (disch := omega) only [impl_within_eq, Option.bind_some, wrap64_id, decide_eq_true_eq]
  split
  · rename_i h1
    congr 1
    by_cases h2 : 0 ≤ c.f1 ∧ c.f1 ≤ h - 1
    · rw [chk_pos ⟨h1, h2⟩]; exact decide_eq_true h2
    · rw [chk_neg (fun m : In w h c => h2 m.2)]; exact decide_eq_false h2
  · rename_i h1
    rw [chk_neg (fun m : In w h c => h1 m.1)]
theorem spec_in (w h : Int) (bl : List S48) (c : S48) (hw : 1 ≤ w ∧ w ≤ 6) (hh : 1 ≤ h ∧ h ≤ 6) : spec_l16Inside.f w h bl c.f0 c.f1 = some (chk (In w h c) true false) := by
  unfold spec_l16Inside.f
  simp (disch := omega) only [spec_l1In_eq, Option.bind_some, wrap64_id, decide_eq_true_eq]
  split
  · rename_i h1
    congr 1
    by_cases h2 : 0 ≤ c.f1 ∧ c.f1 ≤ h - 1
    · rw [chk_pos ⟨h1, h2⟩]; exact decide_eq_true h2
    · rw [chk_neg (fun m : In w h c => h2 m.2)]; exact decide_eq_false h2
  · rename_i h1
    rw [chk_neg (fun m : In w h c => h1 m.1)]
theorem impl_bef (a b : S48) : impl_before.f a.f0 a.f1 b.f0 b.f1 = some (chk (Bef a b) true false) := by
  unfold impl_before.f
  split
  · rename_i h; rw [chk_pos (show Bef a b from .inl h)]
  · rename_i h
    split
    · rename_i h2
      congr 1
      by_cases h3 : a.f0 < b.f0
      · rw [chk_pos (show Bef a b from .inr ⟨h2, h3⟩)]; exact decide_eq_true h3
      · rw [chk_neg (fun m : Bef a b => m.elim h (fun x => h3 x.2))]; exact decide_eq_false h3
    · rename_i h2
      rw [chk_neg (fun m : Bef a b => m.elim h (fun x => h2 x.1))]
theorem impl_floor (w h : Int) (bl : List S48) (hb : (bl.length : Int) ≤ 1099511627776) : Ev (fun k => impl_IsValidFloor.f k w h bl) (chk (FloorOk w h bl) true false) := by
  have no : ¬ FloorOk w h bl → Ev (fun k => impl_IsValidFloor.j0 k true w h bl) (chk (FloorOk w h bl) true false) := by
    intro n
    rw [chk_neg n]
    refine Ev.step (fun k => by rw [impl_IsValidFloor.j0]) ?_
    simp only [if_true]; exact Ev.now _
  unfold impl_IsValidFloor.f
  simp only [impl_within_eq, Option.bind_some, decide_eq_true_eq]
  refine Ev.ite (fun h1 => ?_) (fun h1 => no (fun m => h1 m.1))
  by_cases h2 : 1 ≤ h ∧ h ≤ 6
  · rw [decide_eq_true h2]
    refine Ev.step (fun k => by rw [impl_IsValidFloor.j0]) ?_
    simp only [Bool.not_true, Bool.false_eq_true, if_false]
    rw [chk_congr (show FloorOk w h bl ↔ All (okB w h bl) 0 (bl.length : Int) from ⟨fun m => m.2.2, fun m => ⟨h1, h2, m⟩⟩)]
    refine Ev.check (fun k i => impl_IsValidFloor.l0 k bl (bl.length : Int) i w h bl) (bl.length : Int) (okB w h bl) true false 0 ?_ ?_ 0 (by omega) (by omega)
    · refine Ev.step (fun k => by rw [impl_IsValidFloor.l0]) ?_
      simp only [Int.lt_irrefl, if_false]
      exact Ev.now _
    · intro i h0 hlt r hr
      refine Ev.step (fun k => by rw [impl_IsValidFloor.l0]) ?_
      simp (disch := omega) only [if_pos, wrap64_id, impl_on w h bl _ h1 h2, impl_bef, Option.bind_some]
      refine Ev.ite (fun g1 => ?_) (fun g1 => ?_)
      · have g1 := chk_true.1 g1
        refine Ev.ite (fun g2 => ?_) (fun g2 => ?_)
        · try simp (disch := omega) only [if_pos]
          refine Ev.ite (fun g3 => ?_) (fun g3 => ?_)
          · rw [chk_pos ⟨g1, fun _ => chk_true.1 g3⟩]; exact hr
          · rw [chk_neg (fun m : okB w h bl i => g3 (chk_true.2 (m.2 g2)))]; exact Ev.now _
        · rw [chk_pos ⟨g1, fun x => absurd x g2⟩]; exact hr
      · rw [chk_neg (fun m : okB w h bl i => g1 (chk_true.2 m.1))]; exact Ev.now _
  · rw [decide_eq_false h2]
    exact no (fun m => h2 m.2.1)
/-- The reference's order of two cells. -/
def okS (w h : Int) (bl : List S48) (i : Int) : Prop := In w h (rd_T48 bl i) ∧ (0 < i → wrap64 (wrap64 ((rd_T48 bl (i - 1)).f1 * 10) + (rd_T48 bl (i - 1)).f0) < wrap64 (wrap64 ((rd_T48 bl i).f1 * 10) + (rd_T48 bl i).f0))
theorem okS_iff (w h : Int) (bl : List S48) (h1 : 1 ≤ w ∧ w ≤ 6) (h2 : 1 ≤ h ∧ h ≤ 6) : All (okS w h bl) 0 (bl.length : Int) ↔ All (okB w h bl) 0 (bl.length : Int) := by
  have key : ∀ a b : S48, In w h a → In w h b → (wrap64 (wrap64 (a.f1 * 10) + a.f0) < wrap64 (wrap64 (b.f1 * 10) + b.f0) ↔ Bef a b) := by
    intro a b ha hb
    unfold In at ha hb
    rw [wrap64_id (x := a.f1 * 10) (by omega) (by omega), wrap64_id (x := b.f1 * 10) (by omega) (by omega), wrap64_id (by omega) (by omega), wrap64_id (by omega) (by omega)]
    unfold Bef
    omega
  constructor
  · intro a i i0 i1
    refine ⟨(a i i0 i1).1, fun hp => ?_⟩
    exact (key _ _ (a (i - 1) (by omega) (by omega)).1 (a i i0 i1).1).1 ((a i i0 i1).2 hp)
  · intro a i i0 i1
    refine ⟨(a i i0 i1).1, fun hp => ?_⟩
    exact (key _ _ (a (i - 1) (by omega) (by omega)).1 (a i i0 i1).1).2 ((a i i0 i1).2 hp)
theorem spec_floor (w h : Int) (bl : List S48) (hb : (bl.length : Int) ≤ 1099511627776) : Ev (fun k => spec_l16Good.f k w h bl) (chk (FloorOk w h bl) true false) := by
  have no : ¬ FloorOk w h bl → Ev (fun k => spec_l16Good.j0 k true w h bl) (chk (FloorOk w h bl) true false) := by
    intro n
    rw [chk_neg n]
    refine Ev.step (fun k => by rw [spec_l16Good.j0]) ?_
    simp only [if_true]; exact Ev.now _
  unfold spec_l16Good.f
  simp only [spec_l1In_eq, Option.bind_some, decide_eq_true_eq]
  refine Ev.ite (fun h1 => ?_) (fun h1 => no (fun m => h1 m.1))
  by_cases h2 : 1 ≤ h ∧ h ≤ 6
  · rw [decide_eq_true h2]
    refine Ev.step (fun k => by rw [spec_l16Good.j0]) ?_
    simp only [Bool.not_true, Bool.false_eq_true, if_false]
    rw [chk_congr (show FloorOk w h bl ↔ All (okS w h bl) 0 (bl.length : Int) from ⟨fun m => (okS_iff w h bl h1 h2).2 m.2.2, fun m => ⟨h1, h2, (okS_iff w h bl h1 h2).1 m⟩⟩)]
    refine Ev.check (fun k i => spec_l16Good.l0 k i w h bl) (bl.length : Int) (okS w h bl) true false 0 ?_ ?_ 0 (by omega) (by omega)
    · refine Ev.step (fun k => by rw [spec_l16Good.l0]) ?_
      simp only [Int.lt_irrefl, if_false]
      exact Ev.now _
    · intro i h0 hlt r hr
      have e1 : wrap64 (i - 1) = i - 1 := wrap64_id (by omega) (by omega)
      have e2 : wrap64 (i + 1) = i + 1 := wrap64_id (by omega) (by omega)
      refine Ev.step (fun k => by rw [spec_l16Good.l0]) ?_
      simp (disch := omega) only [if_pos, e1, e2, spec_in w h bl _ h1 h2, Option.bind_some]
      refine Ev.ite (fun g1 => ?_) (fun g1 => ?_)
      · have g1 := chk_true.1 g1
        refine Ev.ite (fun g2 => ?_) (fun g2 => ?_)
        · try simp (disch := omega) only [if_pos]
          refine Ev.ite (fun g3 => ?_) (fun g3 => ?_)
          · rw [chk_neg (fun m : okS w h bl i => by have := m.2 g2; omega)]; exact Ev.now _
          · rw [chk_pos ⟨g1, fun _ => by omega⟩]; exact hr
        · rw [chk_pos ⟨g1, fun x => absurd x g2⟩]; exact hr
      · rw [chk_neg (fun m : okS w h bl i => g1 (chk_true.2 m.1))]; exact Ev.now _
  · rw [decide_eq_false h2]
    exact no (fun m => h2 m.2.1)
end Go.Proofs.Ytbpccdbkaiigcaa.G
