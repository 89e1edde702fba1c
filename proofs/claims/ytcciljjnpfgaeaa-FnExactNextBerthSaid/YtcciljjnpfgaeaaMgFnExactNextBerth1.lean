/- Texts of the proof of FnExactNextBerth, joined in build order. -/
import Derived.Test.YtcciljjnpfgaeaaMgFnExactNextBerth0
import Derived.Test.YtcciljjnpfgaeaaCont78
import Derived.Test.YtcciljjnpfgaeaaGx18
import Derived.Test.YtcciljjnpfgaeaaGx7
import Derived.Test.YtcciljjnpfgaeaaGx20
import Derived.Test.YtcciljjnpfgaeaaGx19
import Derived.Test.YtcciljjnpfgaeaaGx9
import Derived.Test.YtcciljjnpfgaeaaGx8
import Derived.Test.YtcciljjnpfgaeaaGx21
import Derived.Test.YtcciljjnpfgaeaaGx10
import Derived.Test.YtcciljjnpfgaeaaGx38
import Derived.Test.YtcciljjnpfgaeaaGx36
import Derived.Test.YtcciljjnpfgaeaaGx39
import Derived.Test.YtcciljjnpfgaeaaGx37
namespace Go.Proofs.Ytcciljjnpfgaeaa.G
open Go.RowKit Go.Proofs.YtcciljjnpfgaeaaW.PrintWords Go.Proofs.YtcciljjnpfgaeaaW.PrintLast
set_option linter.unusedVariables false
set_option linter.unusedSimpArgs false
def shipOk (x : S62) : Prop := (1 ≤ x.f0 ∧ x.f0 ≤ 30) ∧ (0 ≤ x.f1 ∧ x.f1 ≤ 200) ∧ (1 ≤ x.f2 ∧ x.f2 ≤ 48) ∧ (1 ≤ x.f3 ∧ x.f3 ≤ 9)
def Ships (q : Int) (l : List S62) : Prop := (1 ≤ q ∧ q ≤ 30) ∧ (l.length : Int) ≤ 5 ∧ All (fun i => shipOk (rd_T62 l i)) 0 (l.length : Int)
theorem cont78_eq (l : List S62) : impl_Ship_69_78.f l = some (chk (All (fun i => shipOk (rd_T62 l i)) 0 (l.length : Int)) false true) := by
  unfold impl_Ship_69_78.f
  congr 1
  have hb : (bad78 l l.length 0 ≥ 0) ↔ ¬ All (fun i => shipOk (rd_T62 l i)) 0 (l.length : Int) := by
    rw [bad78_iff]
    constructor
    · intro h a
      refine h fun j _ hj => ?_
      have := a (j : Int) (by omega) (by omega)
      unfold good78; exact decide_eq_true this
    · intro h a
      refine h fun j h0 hj => ?_
      have := a j.toNat (by omega) (by omega)
      rw [show ((j.toNat : Nat) : Int) = j from by omega] at this
      unfold good78 at this
      have h' := of_decide_eq_true this
      exact h'
  by_cases ha : All (fun i => shipOk (rd_T62 l i)) 0 (l.length : Int)
  · rw [chk_pos ha]; exact decide_eq_false (fun x => hb.1 x ha)
  · rw [chk_neg ha]; exact decide_eq_true (hb.2 ha)
theorem impl_ships (q : Int) (l : List S62) : impl_areShips.f q l = some (chk (Ships q l) true false) := by
  unfold impl_areShips.f
  simp only [impl_within_eq, Option.bind_some, decide_eq_true_eq, cont78_eq]
  by_cases h1 : 1 ≤ q ∧ q ≤ 30
  · rw [if_pos h1]
    by_cases h2 : (l.length : Int) > 5
    · rw [if_pos h2, chk_neg (fun m : Ships q l => by have := m.2.1; omega)]
    · rw [if_neg h2]
      by_cases h3 : All (fun i => shipOk (rd_T62 l i)) 0 (l.length : Int)
      · rw [chk_pos h3, chk_pos (show Ships q l from ⟨h1, by omega, h3⟩)]; rfl
      · rw [chk_neg h3, chk_neg (fun m : Ships q l => h3 m.2.2)]; rfl
  · rw [if_neg h1, chk_neg (fun m : Ships q l => h1 m.1)]
theorem spec_ships (q : Int) (l : List S62) : Ev (fun k => spec_l14Ships.f k q l) (chk (Ships q l) true false) := by
  unfold spec_l14Ships.f
  have inner : ∀ (i : Int) (r : Bool), 0 ≤ i → i < (l.length : Int) → i ≤ 5 → (shipOk (rd_T62 l i) → Ev (fun k => spec_l14Ships.l0 k q l (i + 1)) r) → (¬ shipOk (rd_T62 l i) → r = false) → Ev (fun k => spec_l14Ships.l0 k q l i) r := by
    intro i r i0 i1 i5 hy hn
    refine Ev.step (fun k => by rw [spec_l14Ships.l0]) ?_
    simp (disch := omega) only [if_pos]
    rw [decide_eq_true i5]
    refine Ev.step (fun k => by rw [spec_l14Ships.j1]) ?_
    simp (disch := omega) only [if_pos, spec_l1In_eq, Option.bind_some, decide_eq_true_eq, if_true]
    have no : ¬ shipOk (rd_T62 l i) → Ev (fun _ => some false) r := fun h => by rw [hn h]; exact Ev.now _
    refine Ev.ite (fun g1 => ?_) (fun g1 => no (fun m => g1 m.1))
    refine Ev.ite (fun g2 => ?_) (fun g2 => no (fun m => g2 m.2.1))
    refine Ev.ite (fun g3 => ?_) (fun g3 => no (fun m => g3 m.2.2.1))
    refine Ev.ite (fun g4 => ?_) (fun g4 => no (fun m => g4 m.2.2.2))
    rw [wrap64_id (by omega) (by omega)]
    exact hy ⟨g1, g2, g3, g4⟩
  by_cases hl : (l.length : Int) ≤ 5
  · have h := Ev.check (fun k i => spec_l14Ships.l0 k q l i) (l.length : Int) (fun i => shipOk (rd_T62 l i)) (decide (1 ≤ q ∧ q ≤ 30)) false 0 (by
      refine Ev.step (fun k => by rw [spec_l14Ships.l0]) ?_
      simp only [Int.lt_irrefl, if_false]
      refine Ev.step (fun k => by rw [spec_l14Ships.j1]) ?_
      simp only [Bool.false_eq_true, if_false, spec_l1In_eq, Option.bind_some, decide_eq_true_eq]
      refine Ev.ite (fun g => ?_) (fun g => ?_)
      · rw [decide_eq_true g, decide_eq_true hl]; exact Ev.now _
      · rw [decide_eq_false g]; exact Ev.now _) (by
      intro i h0 hlt r hr
      refine inner i _ h0 hlt (by omega) (fun m => ?_) (fun m => ?_)
      · rw [chk_pos m]; exact hr
      · rw [chk_neg m]) 0 (by omega) (by omega)
    refine Ev.eq h ?_
    by_cases ha : All (fun i => shipOk (rd_T62 l i)) 0 (l.length : Int)
    · rw [chk_pos ha]
      by_cases hq : 1 ≤ q ∧ q ≤ 30
      · rw [decide_eq_true hq, chk_pos (show Ships q l from ⟨hq, hl, ha⟩)]
      · rw [decide_eq_false hq, chk_neg (fun m : Ships q l => hq m.1)]
    · rw [chk_neg ha, chk_neg (fun m : Ships q l => ha m.2.2)]
  · rw [chk_neg (fun m : Ships q l => hl m.2.1)]
    have main : ∀ (d : Nat) (i : Int), 0 ≤ i → i + d = 6 → Ev (fun k => spec_l14Ships.l0 k q l i) false := by
      intro d
      induction d with
      | zero =>
        intro i h0 hd
        obtain rfl : i = 6 := by omega
        have fin : Ev (fun k => spec_l14Ships.j1 k q l 6 false) false := by
          refine Ev.step (fun k => by rw [spec_l14Ships.j1]) ?_
          simp only [Bool.false_eq_true, if_false, spec_l1In_eq, Option.bind_some, decide_eq_true_eq]
          refine Ev.ite (fun g => ?_) (fun g => Ev.now _)
          rw [decide_eq_false hl]; exact Ev.now _
        refine Ev.step (fun k => by rw [spec_l14Ships.l0]) ?_
        rw [show decide ((6 : Int) ≤ 5) = false from by decide]
        exact Ev.ite (fun _ => fin) (fun _ => fin)
      | succ d ih =>
        intro i h0 hd
        exact inner i false h0 (by omega) (by omega) (fun _ => ih (i + 1) (by omega) (by omega)) (fun _ => rfl)
    exact main 6 0 (by omega) (by omega)
/-- A berth is possible for a ship for itself. -/
def Fit (q : Int) (x : S62) (b : S37) : Prop := (0 ≤ b.f0 ∧ b.f0 ≤ q - x.f0) ∧ (x.f1 ≤ b.f1 ∧ b.f1 ≤ 1000)
def Apart (x : S62) (a : S37) (y : S62) (b : S37) : Prop := a.f0 + x.f0 ≤ b.f0 ∨ b.f0 + y.f0 ≤ a.f0 ∨ a.f1 + x.f2 ≤ b.f1 ∨ b.f1 + y.f2 ≤ a.f1
def small (b : S37) : Prop := (0 ≤ b.f0 ∧ b.f0 ≤ 30) ∧ (0 ≤ b.f1 ∧ b.f1 ≤ 1000)
theorem fit_small {q : Int} {x : S62} {b : S37} (hq : q ≤ 30) (hx : shipOk x) (h : Fit q x b) : small b := by
  unfold shipOk at hx
  unfold Fit at h
  unfold small
  omega
theorem touch_eq (x : S62) (a : S37) (y : S62) (b : S37) (hx : shipOk x) (ha : small a) (hy : shipOk y) (hb : small b) : impl_touch.f x.f0 x.f1 x.f2 x.f3 a.f0 a.f1 y.f0 y.f1 y.f2 y.f3 b.f0 b.f1 = some (chk (Apart x a y b) false true) := by
  unfold shipOk at hx hy
  unfold small at ha hb
  unfold impl_touch.f
  simp (disch := omega) only [wrap64_id]
  by_cases h : Apart x a y b
  · rw [chk_pos h]
    unfold Apart at h
    split
    · split
      · split
        · rw [decide_eq_false (by omega)]
        · rfl
      · rfl
    · rfl
  · rw [chk_neg h]
    unfold Apart at h
    simp (disch := omega) only [if_pos]
    rw [decide_eq_true (by omega)]
theorem apart_eq (x : S62) (a : S37) (y : S62) (b : S37) (hx : shipOk x) (ha : small a) (hy : shipOk y) (hb : small b) : spec_l14Apart.f x.f0 x.f1 x.f2 x.f3 a.f0 a.f1 y.f0 y.f1 y.f2 y.f3 b.f0 b.f1 = some (chk (Apart x a y b) true false) := by
  unfold shipOk at hx hy
  unfold small at ha hb
  unfold spec_l14Apart.f
  simp (disch := omega) only [wrap64_id]
  by_cases h : Apart x a y b
  · rw [chk_pos h]
    unfold Apart at h
    split
    · rfl
    · split
      · rfl
      · split
        · rfl
        · rw [decide_eq_true (by omega)]
  · rw [chk_neg h]
    unfold Apart at h
    simp (disch := omega) only [if_neg]
    rw [decide_eq_false (by omega)]
/-- The berth of a ship is possible beside the first n of others. -/
def Beside (q : Int) (x : S62) (b : S37) (o : List S62) (bs : List S37) (n : Int) : Prop := Fit q x b ∧ All (fun k => Apart x b (rd_T62 o k) (rd_T37 bs k)) 0 n
theorem impl_Fits (q : Int) (hq : 1 ≤ q ∧ q ≤ 30) (x : S62) (hx : shipOk x) (b : S37) (o : List S62) (bs : List S37) (hn : bs.length ≤ o.length) (hn5 : (bs.length : Int) ≤ 5) (ho : All (fun k => shipOk (rd_T62 o k)) 0 (bs.length : Int)) (hb : All (fun k => small (rd_T37 bs k)) 0 (bs.length : Int)) : Ev (fun k => impl_fits.f k q x.f0 x.f1 x.f2 x.f3 b.f0 b.f1 o bs) (chk (Beside q x b o bs (bs.length : Int)) true false) := by
  have hx' := hx
  unfold shipOk at hx'
  have no : ¬ Fit q x b → Ev (fun k => impl_fits.j0 k o bs true x.f0 x.f1 x.f2 x.f3 b.f0 b.f1) (chk (Beside q x b o bs (bs.length : Int)) true false) := by
    intro h
    rw [chk_neg (fun m : Beside q x b o bs (bs.length : Int) => h m.1)]
    refine Ev.step (fun k => by rw [impl_fits.j0]) ?_
    simp only [if_true]; exact Ev.now _
  unfold impl_fits.f
  rw [wrap64_id (by omega) (by omega)]
  refine Ev.ite (fun g1 => no (fun m => by unfold Fit at m; omega)) (fun g1 => ?_)
  refine Ev.ite (fun g2 => no (fun m => by unfold Fit at m; omega)) (fun g2 => ?_)
  refine Ev.ite (fun g3 => no (fun m => by unfold Fit at m; omega)) (fun g3 => ?_)
  by_cases g4 : b.f1 > 1000
  · rw [decide_eq_true g4]; exact no (fun m => by unfold Fit at m; omega)
  · rw [decide_eq_false g4]
    have hf : Fit q x b := by unfold Fit; omega
    refine Ev.step (fun k => by rw [impl_fits.j0]) ?_
    simp only [Bool.false_eq_true, if_false]
    rw [chk_congr (show Beside q x b o bs (bs.length : Int) ↔ All (fun k => Apart x b (rd_T62 o k) (rd_T37 bs k)) 0 (bs.length : Int) from ⟨fun m => m.2, fun m => ⟨hf, m⟩⟩)]
    refine Ev.check (fun k i => impl_fits.l0 k o bs (bs.length : Int) i x.f0 x.f1 x.f2 x.f3 b.f0 b.f1) (bs.length : Int) (fun k => Apart x b (rd_T62 o k) (rd_T37 bs k)) true false 0 ?_ ?_ 0 (by omega) (by omega)
    · refine Ev.step (fun k => by rw [impl_fits.l0]) ?_
      simp only [Int.lt_irrefl, if_false]
      exact Ev.now _
    · intro i h0 hlt r hr
      refine Ev.step (fun k => by rw [impl_fits.l0]) ?_
      simp (disch := omega) only [if_pos, wrap64_id]
      rw [touch_eq x b _ _ hx (fit_small hq.2 hx hf) (ho i h0 hlt) (hb i h0 hlt)]
      simp only [Option.bind_some]
      by_cases ha : Apart x b (rd_T62 o i) (rd_T37 bs i)
      · rw [chk_pos ha, chk_pos ha]; simp only [Bool.false_eq_true, if_false]; exact hr
      · rw [chk_neg ha, chk_neg ha]; simp only [if_true]; exact Ev.now _
theorem spec_Fits (q : Int) (hq : 1 ≤ q ∧ q ≤ 30) (x : S62) (hx : shipOk x) (b : S37) : spec_l14Fits.f q x.f0 x.f1 x.f2 x.f3 b.f0 b.f1 = some (chk (Fit q x b) true false) := by
  unfold shipOk at hx
  unfold spec_l14Fits.f
  rw [wrap64_id (by omega) (by omega)]
  simp only [spec_l1In_eq, Option.bind_some, decide_eq_true_eq]
  by_cases g1 : 0 ≤ b.f0 ∧ b.f0 ≤ q - x.f0
  · rw [if_pos g1]
    by_cases g2 : x.f1 ≤ b.f1 ∧ b.f1 ≤ 1000
    · rw [decide_eq_true g2, chk_pos (show Fit q x b from ⟨g1, g2⟩)]
    · rw [decide_eq_false g2, chk_neg (fun m : Fit q x b => g2 m.2)]
  · rw [if_neg g1, chk_neg (fun m : Fit q x b => g1 m.1)]
/-- Ship i of a plan stands well. -/
def Stand (q : Int) (l : List S62) (p : List S37) (i : Int) : Prop := Beside q (rd_T62 l i) (rd_T37 p i) l p i
def Poss (q : Int) (l : List S62) (p : List S37) : Prop := Ships q l ∧ (p.length : Int) = (l.length : Int) ∧ All (Stand q l p) 0 (p.length : Int)
theorem rd62_take (l : List S62) (n k : Int) (h0 : 0 ≤ k) (h1 : k < n) : rd_T62 (l.take n.toNat) k = rd_T62 l k := by
  unfold rd_T62
  rw [List.getD_eq_getElem?_getD, List.getD_eq_getElem?_getD, List.getElem?_take_of_lt (by omega)]
theorem rd37_take (l : List S37) (n k : Int) (h0 : 0 ≤ k) (h1 : k < n) : rd_T37 (l.take n.toNat) k = rd_T37 l k := by
  unfold rd_T37
  rw [List.getD_eq_getElem?_getD, List.getD_eq_getElem?_getD, List.getElem?_take_of_lt (by omega)]
theorem len62_take (l : List S62) (i : Int) (h0 : 0 ≤ i) (h1 : i ≤ (l.length : Int)) : ((l.take i.toNat).length : Int) = i := by rw [List.length_take]; omega
theorem len37_take (l : List S37) (i : Int) (h0 : 0 ≤ i) (h1 : i ≤ (l.length : Int)) : ((l.take i.toNat).length : Int) = i := by rw [List.length_take]; omega
theorem beside_take (q : Int) (x : S62) (b : S37) (l : List S62) (p : List S37) (n : Int) : Beside q x b (l.take n.toNat) (p.take n.toNat) n ↔ Beside q x b l p n := by
  constructor
  · rintro ⟨h1, h2⟩
    refine ⟨h1, fun k k0 k1 => ?_⟩
    have := h2 k k0 k1
    show Apart x b (rd_T62 l k) (rd_T37 p k)
    rw [← rd62_take l n k k0 k1, ← rd37_take p n k k0 k1]
    exact this
  · rintro ⟨h1, h2⟩
    refine ⟨h1, fun k k0 k1 => ?_⟩
    show Apart x b (rd_T62 (l.take n.toNat) k) (rd_T37 (p.take n.toNat) k)
    rw [rd62_take l n k k0 k1, rd37_take p n k k0 k1]
    exact h2 k k0 k1
theorem poss_small {q : Int} {l : List S62} {p : List S37} (hs : Ships q l) (n : Int) (hn : n ≤ (l.length : Int)) (h : All (Stand q l p) 0 n) : All (fun k => small (rd_T37 p k)) 0 n := by
  intro k k0 k1
  exact fit_small hs.1.2 (hs.2.2 k k0 (by omega)) (h k k0 k1).1
theorem impl_stand {q : Int} {l : List S62} (hs : Ships q l) (p : List S37) (i : Int) (h0 : 0 ≤ i) (h1 : i < (p.length : Int)) (h2 : i < (l.length : Int)) (ha : All (Stand q l p) 0 i) : Ev (fun k => impl_fits.f k q (rd_T62 l i).f0 (rd_T62 l i).f1 (rd_T62 l i).f2 (rd_T62 l i).f3 (rd_T37 p i).f0 (rd_T37 p i).f1 (l.take i.toNat) (p.take i.toNat)) (chk (Stand q l p i) true false) := by
  have hl := hs.2.1
  have e1 := len62_take l i h0 (by omega)
  have e2 := len37_take p i h0 (by omega)
  have h := impl_Fits q hs.1 (rd_T62 l i) (hs.2.2 i h0 h2) (rd_T37 p i) (l.take i.toNat) (p.take i.toNat) (by omega) (by omega) (by
      rw [e2]; intro k k0 k1
      show shipOk (rd_T62 (l.take i.toNat) k)
      rw [rd62_take l i k k0 k1]
      exact hs.2.2 k k0 (by omega)) (by
      rw [e2]; intro k k0 k1
      show small (rd_T37 (p.take i.toNat) k)
      rw [rd37_take p i k k0 k1]
      exact poss_small hs i (by omega) ha k k0 k1)
  rw [e2, chk_congr (beside_take q (rd_T62 l i) (rd_T37 p i) l p i)] at h
  exact h
theorem check_all {P : Int → Prop} (g : Nat → Int → Option Bool) (n : Int) (hend : Ev (fun k => g k n) true) (hstep : ∀ i, 0 ≤ i → i < n → All P 0 i → (P i → Ev (fun k => g k (i + 1)) (chk (All P (i + 1) n) true false)) → Ev (fun k => g k i) (chk (All P i n) true false)) : ∀ (d : Nat) (i : Int), 0 ≤ i → i + d = n → All P 0 i → Ev (fun k => g k i) (chk (All P i n) true false) := by
  intro d
  induction d with
  | zero =>
    intro i h0 hd ha
    obtain rfl : i = n := by omega
    rw [chk_pos (All.end_ P i)]
    exact hend
  | succ d ih =>
    intro i h0 hd ha
    refine hstep i h0 (by omega) ha (fun hp => ih (i + 1) (by omega) (by omega) (fun j a b => ?_))
    by_cases e : j = i
    · rw [e]; exact hp
    · exact ha j a (by omega)
theorem impl_poss (q : Int) (l : List S62) (p : List S37) : Ev (fun k => impl_IsPossiblePlan.f k q l p) (chk (Poss q l p) true false) := by
  have no : ¬ Poss q l p → Ev (fun k => impl_IsPossiblePlan.j0 k q l p true) (chk (Poss q l p) true false) := by
    intro h
    rw [chk_neg h]
    refine Ev.step (fun k => by rw [impl_IsPossiblePlan.j0]) ?_
    simp only [if_true]; exact Ev.now _
  unfold impl_IsPossiblePlan.f
  simp only [impl_ships, Option.bind_some]
  refine Ev.ite (fun hs => ?_) (fun hs => no (fun m => hs (chk_true.2 m.1)))
  have hs := chk_true.1 hs
  have hl := hs.2.1
  by_cases hn : (p.length : Int) = (l.length : Int)
  · rw [show ((p.length : Int) != (l.length : Int)) = false from by rw [hn]; exact bne_self_eq_false _]
    refine Ev.step (fun k => by rw [impl_IsPossiblePlan.j0]) ?_
    simp only [Bool.false_eq_true, if_false]
    rw [chk_congr (show Poss q l p ↔ All (Stand q l p) 0 (p.length : Int) from ⟨fun m => m.2.2, fun m => ⟨hs, hn, m⟩⟩)]
    refine check_all (fun k i => impl_IsPossiblePlan.l0 k q l p p (p.length : Int) i) (p.length : Int) ?_ ?_ p.length 0 (by omega) (by omega) (fun j a b => by omega)
    · refine Ev.step (fun k => by rw [impl_IsPossiblePlan.l0]) ?_
      simp only [Int.lt_irrefl, if_false]
      exact Ev.now _
    · intro i h0 hlt ha nx
      refine Ev.step (fun k => by rw [impl_IsPossiblePlan.l0]) ?_
      simp (disch := omega) only [if_pos]
      refine Ev.bind (impl_stand hs p i h0 hlt (by omega) ha) ?_
      refine Ev.ite (fun g => ?_) (fun g => ?_)
      · rw [wrap64_id (by omega) (by omega), chk_congr (All.step hlt), chk_congr (show Stand q l p i ∧ All (Stand q l p) (i + 1) (p.length : Int) ↔ All (Stand q l p) (i + 1) (p.length : Int) from ⟨fun m => m.2, fun m => ⟨chk_true.1 g, m⟩⟩)]
        exact nx (chk_true.1 g)
      · rw [chk_neg (fun m => g (chk_true.2 (m i (by omega) hlt)))]; exact Ev.now _
  · rw [show ((p.length : Int) != (l.length : Int)) = true from by rw [bne_iff_ne]; exact hn]
    exact no (fun m => hn m.2.1)
/-- The reference's plan for the first ships of a valid list. -/
theorem spec_plan {q : Int} {l : List S62} (hs : Ships q l) (p : List S37) (hpl : (p.length : Int) ≤ 1099511627776) : Ev (fun k => spec_l14Plan.f k q l p) (chk ((p.length : Int) ≤ (l.length : Int) ∧ All (Stand q l p) 0 (p.length : Int)) true false) := by
  have hl := hs.2.1
  unfold spec_l14Plan.f
  have key : ((p.length : Int) ≤ (l.length : Int) ∧ All (Stand q l p) 0 (p.length : Int)) ↔ All (fun i => i < (l.length : Int) ∧ Stand q l p i) 0 (p.length : Int) := by
    constructor
    · rintro ⟨h1, h2⟩ i a b
      exact ⟨by omega, h2 i a b⟩
    · intro h
      refine ⟨?_, fun i a b => (h i a b).2⟩
      by_cases e : (p.length : Int) ≤ 0
      · omega
      · have := (h ((p.length : Int) - 1) (by omega) (by omega)).1
        omega
  rw [chk_congr key]
  refine check_all (fun k i => spec_l14Plan.l0 k q l p i) (p.length : Int) ?_ ?_ p.length 0 (by omega) (by omega) (fun j a b => by omega)
  · refine Ev.step (fun k => by rw [spec_l14Plan.l0]) ?_
    simp only [Int.lt_irrefl, if_false]
    exact Ev.now _
  · intro i h0 hlt ha nx
    have no : ¬ (i < (l.length : Int) ∧ Stand q l p i) → Ev (fun k => spec_l14Plan.j1 k q l p i true) (chk (All (fun i => i < (l.length : Int) ∧ Stand q l p i) i (p.length : Int)) true false) := by
      intro h
      rw [chk_neg (fun m => h (m i (by omega) hlt))]
      refine Ev.step (fun k => by rw [spec_l14Plan.j1]) ?_
      simp only [if_true]; exact Ev.now _
    refine Ev.step (fun k => by rw [spec_l14Plan.l0]) ?_
    simp only [if_pos hlt]
    refine Ev.ite (fun g1 => no (fun m => by omega)) (fun g1 => ?_)
    simp (disch := omega) only [if_pos]
    rw [spec_Fits q hs.1 (rd_T62 l i) (hs.2.2 i h0 (by omega)) (rd_T37 p i)]
    simp only [Option.bind_some]
    by_cases g2 : Fit q (rd_T62 l i) (rd_T37 p i)
    · rw [chk_pos g2]
      refine Ev.step (fun k => by rw [spec_l14Plan.j1]) ?_
      simp only [Bool.not_true, Bool.false_eq_true, if_false]
      have sm := poss_small hs i (by omega) (fun j a b => (ha j a b).2)
      have inner := Ev.check (fun k j => spec_l14Plan.l1 k q l p i j) i (fun j => Apart (rd_T62 l i) (rd_T37 p i) (rd_T62 l j) (rd_T37 p j)) (chk (All (fun i => i < (l.length : Int) ∧ Stand q l p i) (i + 1) (p.length : Int)) true false) false 0
      rw [chk_congr (All.step hlt)]
      by_cases g3 : Stand q l p i
      · rw [chk_congr (show (i < (l.length : Int) ∧ Stand q l p i) ∧ All (fun i => i < (l.length : Int) ∧ Stand q l p i) (i + 1) (p.length : Int) ↔ All (fun i => i < (l.length : Int) ∧ Stand q l p i) (i + 1) (p.length : Int) from ⟨fun m => m.2, fun m => ⟨⟨by omega, g3⟩, m⟩⟩)]
        refine Ev.upc (fun k j => spec_l14Plan.l1 k q l p i j) _ i 0 ?_ ?_ 0 (by omega) (by omega)
        · refine Ev.step (fun k => by rw [spec_l14Plan.l1]) ?_
          simp only [Int.lt_irrefl, if_false]
          rw [wrap64_id (by omega) (by omega)]
          exact nx ⟨by omega, g3⟩
        · intro j j0 jlt hj
          refine Ev.step (fun k => by rw [spec_l14Plan.l1]) ?_
          simp (disch := omega) only [if_pos]
          rw [apart_eq _ _ _ _ (hs.2.2 i h0 (by omega)) (fit_small hs.1.2 (hs.2.2 i h0 (by omega)) g2) (hs.2.2 j j0 (by omega)) (sm j j0 jlt), chk_pos (g3.2 j j0 jlt)]
          simp only [Option.bind_some, if_true]
          rw [wrap64_id (by omega) (by omega)]
          exact hj
      · rw [chk_neg (fun m => g3 m.1.2)]
        have ne : ¬ All (fun j => Apart (rd_T62 l i) (rd_T37 p i) (rd_T62 l j) (rd_T37 p j)) 0 i := fun m => g3 ⟨g2, m⟩
        have main : ∀ (d : Nat) (j : Int), 0 ≤ j → j + d = i → ¬ All (fun j => Apart (rd_T62 l i) (rd_T37 p i) (rd_T62 l j) (rd_T37 p j)) j i → Ev (fun k => spec_l14Plan.l1 k q l p i j) false := by
          intro d
          induction d with
          | zero =>
            intro j j0 jd hj
            exact absurd (fun x a b => by omega) hj
          | succ d ih =>
            intro j j0 jd hj
            refine Ev.step (fun k => by rw [spec_l14Plan.l1]) ?_
            simp (disch := omega) only [if_pos]
            rw [apart_eq _ _ _ _ (hs.2.2 i h0 (by omega)) (fit_small hs.1.2 (hs.2.2 i h0 (by omega)) g2) (hs.2.2 j j0 (by omega)) (sm j j0 (by omega))]
            simp only [Option.bind_some]
            by_cases ap : Apart (rd_T62 l i) (rd_T37 p i) (rd_T62 l j) (rd_T37 p j)
            · rw [chk_pos ap]
              simp only [if_true]
              rw [wrap64_id (by omega) (by omega)]
              refine ih (j + 1) (by omega) (by omega) (fun m => hj ?_)
              rw [All.step (show j < i by omega)]
              exact ⟨ap, m⟩
            · rw [chk_neg ap]
              simp only [Bool.false_eq_true, if_false]
              exact Ev.now _
        exact main i.toNat 0 (by omega) (by omega) ne
    · rw [chk_neg g2]
      exact no (fun m => g2 m.2.1)
theorem spec_asked (q : Int) (l : List S62) (p : List S37) (hpl : (p.length : Int) ≤ 1099511627776) : Ev (fun k => spec_l14Asked.f k q l p) (chk (Poss q l p) true false) := by
  unfold spec_l14Asked.f
  refine Ev.bind (spec_ships q l) ?_
  refine Ev.ite (fun hs => ?_) (fun hs => ?_)
  · have hs := chk_true.1 hs
    refine Ev.bind (spec_plan hs p hpl) ?_
    refine Ev.ite (fun g => ?_) (fun g => ?_)
    · have g := chk_true.1 g
      by_cases hn : (p.length : Int) = (l.length : Int)
      · rw [chk_pos (show Poss q l p from ⟨hs, hn, g.2⟩), hn]
        exact Ev.val (beq_self_eq_true _)
      · rw [chk_neg (fun m : Poss q l p => hn m.2.1)]
        exact Ev.val (by rw [beq_eq_false_iff_ne]; exact hn)
    · rw [chk_neg (fun m : Poss q l p => g (chk_true.2 ⟨by have := m.2.1; omega, m.2.2⟩))]; exact Ev.now _
  · rw [chk_neg (fun m : Poss q l p => hs (chk_true.2 m.1))]; exact Ev.now _
end Go.Proofs.Ytcciljjnpfgaeaa.G

namespace Go.Proofs.Ytcciljjnpfgaeaa.G
open Go.RowKit Go.Proofs.YtcciljjnpfgaeaaW.PrintWords Go.Proofs.YtcciljjnpfgaeaaW.PrintLast
set_option linter.unusedVariables false
set_option linter.unusedSimpArgs false
/-- What is known of a next berth that was found. -/
def Found (q : Int) (x : S62) (o : List S62) (bs : List S37) (r : Int × Int × Bool) : Prop := r.2.2 = true → Beside q x ⟨r.1, r.2.1⟩ o bs (bs.length : Int)
theorem next_both (q : Int) (hq : 1 ≤ q ∧ q ≤ 30) (x : S62) (hx : shipOk x) (o : List S62) (bs : List S37) (hn : o.length = bs.length) (h5 : (bs.length : Int) ≤ 5) (ho : All (fun k => shipOk (rd_T62 o k)) 0 (bs.length : Int)) (hb : All (fun k => small (rd_T37 bs k)) 0 (bs.length : Int)) :
    ∃ r, Found q x o bs r ∧ Ev (fun k => impl_nextBerth.f k q x.f0 x.f1 x.f2 x.f3 o bs) r ∧ Ev (fun k => spec_l14Next.f k q x.f0 x.f1 x.f2 x.f3 o bs) r := by
  have hx' := hx
  unfold shipOk at hx'
  unfold impl_nextBerth.f spec_l14Next.f
  have main : ∀ (d : Nat) (start : Int), x.f1 ≤ start → start + d = 1001 → ∃ r, Found q x o bs r ∧ Ev (fun k => impl_nextBerth.l0 k q o bs start x.f0 x.f1 x.f2 x.f3) r ∧ Ev (fun k => spec_l14Next.l0 k q o bs start x.f0 x.f1 x.f2 x.f3) r := by
    intro d
    induction d with
    | zero =>
      intro start s0 hd
      refine ⟨(0, 0, false), (fun h => absurd h (by decide)), ?_, ?_⟩
      · refine Ev.step (fun k => by rw [impl_nextBerth.l0]) ?_
        simp (disch := omega) only [if_neg]
        exact Ev.now _
      · refine Ev.step (fun k => by rw [spec_l14Next.l0]) ?_
        simp (disch := omega) only [if_neg]
        exact Ev.now _
    | succ d ih =>
      intro start s0 hd
      obtain ⟨r0, q0, i0, e0⟩ := ih (start + 1) (by omega) (by omega)
      have inner : ∀ (e : Nat) (place : Int), 0 ≤ place → place ≤ 31 → place + e = 31 → ∃ r, Found q x o bs r ∧ Ev (fun k => impl_nextBerth.l1 k q o bs start place x.f0 x.f1 x.f2 x.f3) r ∧ Ev (fun k => spec_l14Next.l1 k q o bs start place x.f0 x.f1 x.f2 x.f3) r := by
        intro e
        induction e with
        | zero =>
          intro place p0 p1 he
          refine ⟨r0, q0, ?_, ?_⟩
          · refine Ev.step (fun k => by rw [impl_nextBerth.l1]) ?_
            rw [wrap64_id (x := q - x.f0) (by omega) (by omega), wrap64_id (x := start + 1) (by omega) (by omega)]
            simp (disch := omega) only [if_neg]
            exact i0
          · refine Ev.step (fun k => by rw [spec_l14Next.l1]) ?_
            rw [wrap64_id (by omega) (by omega), wrap64_id (by omega) (by omega)]
            simp (disch := omega) only [if_neg]
            exact e0
        | succ e ihe =>
          intro place p0 p1 he
          obtain ⟨r1, q1, i1, e1⟩ := ihe (place + 1) (by omega) (by omega) (by omega)
          by_cases hp : place ≤ q - x.f0
          · have hf : Fit q x ⟨place, start⟩ := by unfold Fit; dsimp only; omega
            have hi := impl_Fits q hq x hx ⟨place, start⟩ o bs (by omega) h5 ho hb
            have sp : ∀ (c : Nat) (j : Int), 0 ≤ j → j + c = (bs.length : Int) → Ev (fun k => spec_l14Next.l2 k q o bs start place true j x.f0 x.f1 x.f2 x.f3 place start) (chk (All (fun k => Apart x ⟨place, start⟩ (rd_T62 o k) (rd_T37 bs k)) j (bs.length : Int)) (place, start, true) r1) := by
              intro c
              induction c with
              | zero =>
                intro j j0 hc
                obtain rfl : j = (bs.length : Int) := by omega
                rw [chk_pos (All.end_ _ _)]
                refine Ev.step (fun k => by rw [spec_l14Next.l2]) ?_
                simp (disch := omega) only [if_neg]
                simp only [if_true]
                exact Ev.now _
              | succ c ihc =>
                intro j j0 hc
                refine Ev.step (fun k => by rw [spec_l14Next.l2]) ?_
                simp (disch := omega) only [if_pos]
                rw [apart_eq x ⟨place, start⟩ _ _ hx (fit_small hq.2 hx hf) (ho j j0 (by omega)) (hb j j0 (by omega))]
                simp only [Option.bind_some]
                rw [wrap64_id (by omega) (by omega)]
                by_cases ha : Apart x ⟨place, start⟩ (rd_T62 o j) (rd_T37 bs j)
                · rw [chk_pos ha, chk_congr (show All (fun k => Apart x ⟨place, start⟩ (rd_T62 o k) (rd_T37 bs k)) j (bs.length : Int) ↔ All (fun k => Apart x ⟨place, start⟩ (rd_T62 o k) (rd_T37 bs k)) (j + 1) (bs.length : Int) from by
                    rw [All.step (show j < (bs.length : Int) by omega)]
                    exact ⟨fun m => m.2, fun m => ⟨ha, m⟩⟩)]
                  exact ihc (j + 1) (by omega) (by omega)
                · rw [chk_neg ha, chk_neg (fun m => ha (m j (by omega) (by omega)))]
                  refine Ev.step (fun k => by rw [spec_l14Next.l2]) ?_
                  simp only [Bool.false_eq_true, if_false, ite_self]
                  rw [wrap64_id (by omega) (by omega)]
                  exact e1
            by_cases hB : Beside q x ⟨place, start⟩ o bs (bs.length : Int)
            · refine ⟨(place, start, true), fun _ => hB, ?_, ?_⟩
              · refine Ev.step (fun k => by rw [impl_nextBerth.l1]) ?_
                rw [wrap64_id (by omega) (by omega)]
                simp (disch := omega) only [if_pos]
                refine Ev.bind hi ?_
                rw [chk_pos hB]
                simp only [if_true]
                exact Ev.now _
              · refine Ev.step (fun k => by rw [spec_l14Next.l1]) ?_
                rw [wrap64_id (by omega) (by omega)]
                simp (disch := omega) only [if_pos]
                have := sp bs.length 0 (by omega) (by omega)
                rwa [chk_pos hB.2] at this
            · refine ⟨r1, q1, ?_, ?_⟩
              · refine Ev.step (fun k => by rw [impl_nextBerth.l1]) ?_
                rw [wrap64_id (by omega) (by omega)]
                simp (disch := omega) only [if_pos]
                refine Ev.bind hi ?_
                rw [chk_neg hB]
                simp only [Bool.false_eq_true, if_false]
                rw [wrap64_id (by omega) (by omega)]
                exact i1
              · refine Ev.step (fun k => by rw [spec_l14Next.l1]) ?_
                rw [wrap64_id (by omega) (by omega)]
                simp (disch := omega) only [if_pos]
                have := sp bs.length 0 (by omega) (by omega)
                rwa [chk_neg (fun m => hB ⟨hf, m⟩)] at this
          · refine ⟨r0, q0, ?_, ?_⟩
            · refine Ev.step (fun k => by rw [impl_nextBerth.l1]) ?_
              rw [wrap64_id (x := q - x.f0) (by omega) (by omega), wrap64_id (x := start + 1) (by omega) (by omega)]
              simp (disch := omega) only [if_neg]
              exact i0
            · refine Ev.step (fun k => by rw [spec_l14Next.l1]) ?_
              rw [wrap64_id (by omega) (by omega), wrap64_id (by omega) (by omega)]
              simp (disch := omega) only [if_neg]
              exact e0
      obtain ⟨r, qr, ir, er⟩ := inner 31 0 (by omega) (by omega) (by omega)
      refine ⟨r, qr, ?_, ?_⟩
      · refine Ev.step (fun k => by rw [impl_nextBerth.l0]) ?_
        simp (disch := omega) only [if_pos]
        exact ir
      · refine Ev.step (fun k => by rw [spec_l14Next.l0]) ?_
        simp (disch := omega) only [if_pos]
        exact er
  exact main (1001 - x.f1).toNat x.f1 (by omega) (by omega)
theorem ships_take {q : Int} {l : List S62} (hs : Ships q l) (n : Int) (h0 : 0 ≤ n) (h1 : n ≤ (l.length : Int)) : Ships q (l.take n.toNat) := by
  have e := len62_take l n h0 h1
  refine ⟨hs.1, by rw [e]; have := hs.2.1; omega, ?_⟩
  rw [e]
  intro k k0 k1
  show shipOk (rd_T62 (l.take n.toNat) k)
  rw [rd62_take l n k k0 k1]
  exact hs.2.2 k k0 (by omega)
theorem stand_take (q : Int) (l : List S62) (p : List S37) (n i : Int) (h0 : 0 ≤ i) (h1 : i < n) : Stand q (l.take n.toNat) p i ↔ Stand q l p i := by
  unfold Stand
  rw [rd62_take l n i h0 h1]
  constructor
  · rintro ⟨a, b⟩
    refine ⟨a, fun k k0 k1 => ?_⟩
    have := b k k0 k1
    show Apart (rd_T62 l i) (rd_T37 p i) (rd_T62 l k) (rd_T37 p k)
    rw [← rd62_take l n k k0 (by omega)]
    exact this
  · rintro ⟨a, b⟩
    refine ⟨a, fun k k0 k1 => ?_⟩
    show Apart (rd_T62 l i) (rd_T37 p i) (rd_T62 (l.take n.toNat) k) (rd_T37 p k)
    rw [rd62_take l n k k0 (by omega)]
    exact b k k0 k1
theorem poss_take {q : Int} {l : List S62} {p : List S37} (hs : Ships q l) (hn : (p.length : Int) < (l.length : Int)) : Poss q (l.take (p.length : Int).toNat) p ↔ ((p.length : Int) ≤ (l.length : Int) ∧ All (Stand q l p) 0 (p.length : Int)) := by
  constructor
  · rintro ⟨_, _, h⟩
    exact ⟨by omega, fun i a b => (stand_take q l p (p.length : Int) i a b).1 (h i a b)⟩
  · rintro ⟨_, h⟩
    exact ⟨ships_take hs _ (by omega) (by omega), by rw [len62_take l _ (by omega) (by omega)], fun i a b => (stand_take q l p (p.length : Int) i a b).2 (h i a b)⟩
theorem next_R (q : Int) (l : List S62) (p : List S37) (hpl : (p.length : Int) ≤ 1099511627776) : ∃ r, Ev (fun k => impl_NextBerth.f k q l p) r ∧ Ev (fun k => spec_NextBerth.f k q l p) r := by
  unfold impl_NextBerth.f spec_NextBerth.f
  simp only [impl_ships, Option.bind_some]
  by_cases hs : Ships q l
  · rw [chk_pos hs]
    have h5 := hs.2.1
    by_cases hn : (p.length : Int) ≥ (l.length : Int)
    · refine ⟨(0, 0, false), ?_, ?_⟩
      · simp only [if_true, if_pos hn]; exact Ev.now _
      · refine Ev.bind (spec_ships q l) ?_
        rw [chk_pos hs]
        simp only [if_true, if_pos hn]; exact Ev.now _
    · have hn' : (p.length : Int) < (l.length : Int) := by omega
      have hplan := spec_plan hs p hpl
      have himp := impl_poss q (l.take (p.length : Int).toNat) p
      rw [chk_congr (poss_take hs hn')] at himp
      by_cases hP : (p.length : Int) ≤ (l.length : Int) ∧ All (Stand q l p) 0 (p.length : Int)
      · rw [chk_pos hP] at hplan himp
        have lt := len62_take l (p.length : Int) (by omega) (by omega)
        obtain ⟨r, _, hi, he⟩ := next_both q hs.1 (rd_T62 l (p.length : Int)) (hs.2.2 _ (by omega) hn') (l.take (p.length : Int).toNat) p (by omega) (by omega) (fun k k0 k1 => by
          show shipOk (rd_T62 (l.take (p.length : Int).toNat) k)
          rw [rd62_take l _ k k0 k1]
          exact hs.2.2 k k0 (by omega)) (poss_small hs _ (by omega) hP.2)
        refine ⟨(r.1, r.2.1, r.2.2), ?_, ?_⟩
        · simp (disch := omega) only [if_true, if_neg, if_pos]
          refine Ev.bind himp ?_
          simp only [if_true]
          exact Ev.bind hi (Ev.now _)
        · refine Ev.bind (spec_ships q l) ?_
          rw [chk_pos hs]
          simp (disch := omega) only [if_true, if_neg, if_pos]
          refine Ev.bind hplan ?_
          simp only [if_true]
          exact Ev.bind he (Ev.now _)
      · rw [chk_neg hP] at hplan himp
        refine ⟨(0, 0, false), ?_, ?_⟩
        · simp (disch := omega) only [if_true, if_neg, if_pos]
          refine Ev.bind himp ?_
          simp only [Bool.false_eq_true, if_false]
          exact Ev.now _
        · refine Ev.bind (spec_ships q l) ?_
          rw [chk_pos hs]
          simp (disch := omega) only [if_true, if_neg, if_pos]
          refine Ev.bind hplan ?_
          simp only [Bool.false_eq_true, if_false]
          exact Ev.now _
  · rw [chk_neg hs]
    refine ⟨(0, 0, false), ?_, ?_⟩
    · simp only [Bool.false_eq_true, if_false]; exact Ev.now _
    · refine Ev.bind (spec_ships q l) ?_
      rw [chk_neg hs]
      simp only [Bool.false_eq_true, if_false]; exact Ev.now _
end Go.Proofs.Ytcciljjnpfgaeaa.G

/- FnExactNextBerth: the program's NextBerth returns what the reference's returns, for all arguments whose lists have at most 2^20 elements together (else the statement is true at once). -/
namespace Go.Proofs.Ytcciljjnpfgaeaa.Pure
open Go.RowKit Go.Proofs.Ytcciljjnpfgaeaa.G Go.Proofs.YtcciljjnpfgaeaaW.PrintWords Go.Proofs.YtcciljjnpfgaeaaW.PrintLast
set_option linter.unusedVariables false
set_option linter.unusedSimpArgs false
theorem FnExactNextBerth : laws_FnExactNextBerth.Pure := by
  intro a0 l1 l2 w0 h1 h2
  refine Ev.rounds (g := fun k => laws_FnExactNextBerth.f k a0 l1 l2) (r := true) ?_
  unfold laws_FnExactNextBerth.f
  rw [sz_Sh l1 1048576 h1.1 (by omega) (by omega)]
  simp only [Option.bind_some]
  refine Ev.ite (fun _ => Ev.now _) (fun g1 => ?_)
  have n1 : (l1.length : Int) ≤ 1048576 := by split at g1 <;> omega
  rw [if_neg (show ¬ (1048576 - (l1.length : Int) < 0) by omega)]
  rw [sz_B l2 _ h2.1 (show 0 ≤ 1048576 - (l1.length : Int) by omega) (by omega)]
  simp only [Option.bind_some]
  refine Ev.ite (fun _ => Ev.now _) (fun g2 => ?_)
  have n2 : (l2.length : Int) ≤ 1048576 := by split at g2 <;> omega
  have m1 : ((l1.map cv_Sh).length : Int) ≤ 1048576 := by simpa using n1
  have m2 : ((l2.map cv_B).length : Int) ≤ 1048576 := by simpa using n2
  obtain ⟨r, hi, hs⟩ := next_R a0 (l1.map cv_Sh) (l2.map cv_B) (by omega)
  repeat' (first
    | with_reducible exact Ev.now _
    | (with_reducible refine Ev.bind (to_Sh l1 n1) ?_)
    | (with_reducible refine Ev.bind (to_B l2 n2) ?_)
    | (with_reducible refine Ev.bind (eq_Sh (l1.map cv_Sh) m1) ?_)
    | (with_reducible refine Ev.bind (eq_B (l2.map cv_B) m2) ?_)
    | (with_reducible refine Ev.bind (hs) ?_)
    | (with_reducible refine Ev.bind (hi) ?_)
    | simp only [laws_eqBerth.f, if_true, bne_self_eq_false, Bool.false_eq_true, if_false, Option.bind_some]
    | (simp (disch := omega) only [if_neg])
    | refine Ev.step (fun k => by rw [laws_FnExactNextBerth.j0]) ?_
    | refine Ev.step (fun k => by rw [laws_FnExactNextBerth.j1]) ?_
    | refine Ev.step (fun k => by rw [laws_FnExactNextBerth.j2]) ?_)
end Go.Proofs.Ytcciljjnpfgaeaa.Pure
