/- Texts of the proof of FnBerths, joined in build order. -/
import Derived.Test.YtcciljjnpfgaeaaMgFnBerths4
import Derived.Test.YtcciljjnpfgaeaaMgFnBerths1
import Derived.Test.YtcciljjnpfgaeaaMgFnBerths3
import Derived.Test.YtcciljjnpfgaeaaMgFnBerths2
import Derived.Deep.Slices
import Derived.ChangeArms
import Derived.WideShapes
import Derived.ChangeShapes
namespace Go.Proofs.Ytcciljjnpfgaeaa.G
open Go.RowKit Go.Proofs.YtcciljjnpfgaeaaW.PrintWords Go.Proofs.YtcciljjnpfgaeaaW.PrintLast
set_option linter.unusedVariables false
set_option linter.unusedSimpArgs false
def costTo (l : List S62) (p : List S37) : Nat → Int
  | 0 => 0
  | d + 1 => costTo l p d + (rd_T62 l d).f3 * ((rd_T37 p d).f1 - (rd_T62 l d).f1)
theorem costTo_succ (l : List S62) (p : List S37) (d : Nat) : costTo l p (d + 1) = costTo l p d + (rd_T62 l d).f3 * ((rd_T37 p d).f1 - (rd_T62 l d).f1) := rfl
/-- What a plan's costs need: the ships are valid, the starts are in their bounds. -/
def Timed (l : List S62) (p : List S37) : Prop := (p.length : Int) = (l.length : Int) ∧ (l.length : Int) ≤ 5 ∧ All (fun i => shipOk (rd_T62 l i) ∧ (rd_T62 l i).f1 ≤ (rd_T37 p i).f1 ∧ (rd_T37 p i).f1 ≤ 1000) 0 (l.length : Int)
theorem poss_timed {q : Int} {l : List S62} {p : List S37} (h : Poss q l p) : Timed l p := ⟨h.2.1, h.1.2.1, fun i a b => by
  have o := poss_at h i a b
  refine ⟨o.1, ?_⟩
  have := o.2
  unfold Fit at this
  omega⟩
theorem timed_at {l : List S62} {p : List S37} (h : Timed l p) (i : Int) (h0 : 0 ≤ i) (h1 : i < (l.length : Int)) : (0 ≤ (rd_T62 l i).f3 * ((rd_T37 p i).f1 - (rd_T62 l i).f1) ∧ (rd_T62 l i).f3 * ((rd_T37 p i).f1 - (rd_T62 l i).f1) ≤ 9000) ∧ 0 ≤ (rd_T37 p i).f1 - (rd_T62 l i).f1 ∧ (rd_T37 p i).f1 - (rd_T62 l i).f1 ≤ 1000 := by
  have o := h.2.2 i h0 h1
  have o1 : shipOk (rd_T62 l i) := o.1
  have o2 : (rd_T62 l i).f1 ≤ (rd_T37 p i).f1 ∧ (rd_T37 p i).f1 ≤ 1000 := o.2
  unfold shipOk at o1
  have m := mul_bd (x := (rd_T62 l i).f3) (y := (rd_T37 p i).f1 - (rd_T62 l i).f1) (A := 9) (B := 1000) (by omega) (by omega) (by omega) (by omega) (by omega) (by omega)
  exact ⟨⟨Int.mul_nonneg (by omega) (by omega), by omega⟩, by omega, by omega⟩
theorem cost_bd {l : List S62} {p : List S37} (h : Timed l p) : ∀ d : Nat, (d : Int) ≤ (l.length : Int) → 0 ≤ costTo l p d ∧ costTo l p d ≤ 9000 * d := by
  intro d
  induction d with
  | zero => intro _; simp [costTo]
  | succ d ih =>
    intro hd
    have := ih (by omega)
    have t := timed_at h (d : Int) (by omega) (by omega)
    rw [costTo_succ]
    omega
theorem impl_cost {l : List S62} {p : List S37} (h : Timed l p) : Ev (fun k => impl_planCost.f k l p) (costTo l p l.length) := by
  have hn := h.1
  have h5 := h.2.1
  unfold impl_planCost.f
  refine Ev.up (fun k (s : Int) i => impl_planCost.l0 k p s l (l.length : Int) i) (fun _ _ => costTo l p l.length) (fun s i => 0 ≤ i ∧ s = costTo l p i.toNat) (l.length : Int) ?_ ?_ 0 0 ⟨by omega, rfl⟩ (by omega)
  · rintro s ⟨_, rfl⟩
    refine Ev.step (fun k => by rw [impl_planCost.l0]) ?_
    simp only [Int.lt_irrefl, if_false, Int.toNat_natCast]
    exact Ev.now _
  · rintro s i ⟨i0, rfl⟩ hlt ih
    have t := timed_at h i i0 hlt
    have b := cost_bd h i.toNat (by omega)
    refine Ev.step (fun k => by rw [impl_planCost.l0]) ?_
    simp (disch := omega) only [if_pos, wrap64_id]
    refine ih _ ⟨by omega, ?_⟩
    rw [show (i + 1).toNat = i.toNat + 1 from by omega, costTo_succ, show ((i.toNat : Nat) : Int) = i from by omega]
end Go.Proofs.Ytcciljjnpfgaeaa.G

namespace Go.Proofs.Ytcciljjnpfgaeaa.G
open Go.RowKit Go.Proofs.YtcciljjnpfgaeaaW.PrintWords Go.Proofs.YtcciljjnpfgaeaaW.PrintLast
set_option linter.unusedVariables false
set_option linter.unusedSimpArgs false
theorem perm_ne {o : List Int} {n : Int} (hp : Perm o n) (i k : Int) (k0 : 0 ≤ k) (hk : k < i) (hi : i < (o.length : Int)) : rd o k ≠ rd o i := by
  intro e
  have h := (hp.2 i (by omega) hi).2
  apply h
  rw [has_iff]
  exact ⟨k, k0, by rw [take_len o i (by omega) (by omega)]; exact hk, by rw [rd_take o i k k0 hk]; exact e⟩
theorem perm_inj {o : List Int} {n : Int} (hp : Perm o n) (i k : Int) (i0 : 0 ≤ i) (k0 : 0 ≤ k) (hi : i < (o.length : Int)) (hk : k < (o.length : Int)) (hne : i ≠ k) : rd o i ≠ rd o k := by
  by_cases h : k < i
  · exact fun e => perm_ne hp i k k0 h hi e.symm
  · exact perm_ne hp k i i0 (by omega) hk
theorem erase_len (x : Int) : ∀ S : List Int, x ∈ S → (S.erase x).length + 1 = S.length := by
  intro S h
  have := List.length_erase_of_mem h
  have h2 : 0 < S.length := List.length_pos_of_mem h
  omega
/-- A list of numbers told apart, all of them out of S, is not longer than S. -/
theorem apart_len : ∀ (d : Nat) (f : Nat → Int) (S : List Int), (∀ i, i < d → f i ∈ S) → (∀ i k, i < d → k < d → i ≠ k → f i ≠ f k) → d ≤ S.length := by
  intro d
  induction d with
  | zero => intro f S _ _; omega
  | succ d ih =>
    intro f S hm hi
    have h := ih f (S.erase (f d)) (fun i h => (List.mem_erase_of_ne (hi i d (by omega) (by omega) (by omega))).2 (hm i (by omega))) (fun i k a b => hi i k (by omega) (by omega))
    have := erase_len (f d) S (hm d (by omega))
    omega
theorem perm_onto {o : List Int} {n : Int} (hp : Perm o n) (m : Int) (m0 : 0 ≤ m) (m1 : m < n) : ∃ k, 0 ≤ k ∧ k < (o.length : Int) ∧ rd o k = m := by
  refine Classical.byContradiction fun hn => ?_
  have hl := hp.1
  have h := apart_len o.length (fun i => rd o (i : Int)) (((List.range n.toNat).map (fun (i : Nat) => (i : Int))).erase m) (fun i hi => by
    have h1 := (hp.2 (i : Int) (by omega) (by omega)).1
    refine (List.mem_erase_of_ne (fun e => hn ⟨(i : Int), by omega, by omega, e⟩)).2 ?_
    exact List.mem_map.2 ⟨(rd o (i : Int)).toNat, List.mem_range.2 (by omega), by omega⟩) (fun i k a b c => perm_inj hp i k (by omega) (by omega) (by omega) (by omega) (by omega))
  have he := erase_len m ((List.range n.toNat).map (fun (i : Nat) => (i : Int))) (List.mem_map.2 ⟨m.toNat, List.mem_range.2 (by omega), by omega⟩)
  rw [List.length_map, List.length_range] at he
  omega
theorem apart_symm {x y : S62} {a b : S37} (h : Apart x a y b) : Apart y b x a := by
  unfold Apart at h ⊢
  omega
/-- A berth that is possible from place 0 at some hour: a next one is found, and not later. -/
theorem next_first (q : Int) (hq : 1 ≤ q ∧ q ≤ 30) (x : S62) (hx : shipOk x) (o : List S62) (bs : List S37) (hn : o.length = bs.length) (h5 : (bs.length : Int) ≤ 5) (ho : All (fun k => shipOk (rd_T62 o k)) 0 (bs.length : Int)) (hb : All (fun k => small (rd_T37 bs k)) 0 (bs.length : Int))
    (s : Int) (hs : Beside q x ⟨0, s⟩ o bs (bs.length : Int)) : ∃ r : Int × Int × Bool, Ev (fun k => impl_nextBerth.f k q x.f0 x.f1 x.f2 x.f3 o bs) r ∧ r.2.2 = true ∧ r.2.1 ≤ s := by
  have hx' := hx
  unfold shipOk at hx'
  have hs' := hs.1
  unfold Fit at hs'
  dsimp only at hs'
  unfold impl_nextBerth.f
  have main : ∀ (d : Nat) (start : Int), x.f1 ≤ start → start + d = s → ∃ r : Int × Int × Bool, Ev (fun k => impl_nextBerth.l0 k q o bs start x.f0 x.f1 x.f2 x.f3) r ∧ r.2.2 = true ∧ r.2.1 ≤ s := by
    intro d
    induction d with
    | zero =>
      intro start s0 hd
      obtain rfl : start = s := by omega
      refine ⟨(0, start, true), ?_, rfl, Int.le_refl _⟩
      refine Ev.step (fun k => by rw [impl_nextBerth.l0]) ?_
      simp (disch := omega) only [if_pos]
      refine Ev.step (fun k => by rw [impl_nextBerth.l1]) ?_
      rw [wrap64_id (x := q - x.f0) (by omega) (by omega)]
      simp (disch := omega) only [if_pos]
      refine Ev.bind (impl_Fits q hq x hx ⟨0, start⟩ o bs (by omega) h5 ho hb) ?_
      rw [chk_pos hs]
      simp only [if_true]
      exact Ev.now _
    | succ d ih =>
      intro start s0 hd
      obtain ⟨r0, e0, t0, f0⟩ := ih (start + 1) (by omega) (by omega)
      have inner : ∀ (e : Nat) (place : Int), 0 ≤ place → place ≤ 31 → place + e = 31 → ∃ r : Int × Int × Bool, Ev (fun k => impl_nextBerth.l1 k q o bs start place x.f0 x.f1 x.f2 x.f3) r ∧ r.2.2 = true ∧ r.2.1 ≤ s := by
        intro e
        induction e with
        | zero =>
          intro place p0 p1 he
          refine ⟨r0, ?_, t0, f0⟩
          refine Ev.step (fun k => by rw [impl_nextBerth.l1]) ?_
          rw [wrap64_id (x := q - x.f0) (by omega) (by omega), wrap64_id (x := start + 1) (by omega) (by omega)]
          simp (disch := omega) only [if_neg]
          exact e0
        | succ e ihe =>
          intro place p0 p1 he
          by_cases g : place ≤ q - x.f0
          · by_cases hB : Beside q x ⟨place, start⟩ o bs (bs.length : Int)
            · refine ⟨(place, start, true), ?_, rfl, by dsimp only; omega⟩
              refine Ev.step (fun k => by rw [impl_nextBerth.l1]) ?_
              rw [wrap64_id (x := q - x.f0) (by omega) (by omega)]
              simp (disch := omega) only [if_pos]
              refine Ev.bind (impl_Fits q hq x hx ⟨place, start⟩ o bs (by omega) h5 ho hb) ?_
              rw [chk_pos hB]
              simp only [if_true]
              exact Ev.now _
            · obtain ⟨r, e1, t1, f1⟩ := ihe (place + 1) (by omega) (by omega) (by omega)
              refine ⟨r, ?_, t1, f1⟩
              refine Ev.step (fun k => by rw [impl_nextBerth.l1]) ?_
              rw [wrap64_id (x := q - x.f0) (by omega) (by omega)]
              simp (disch := omega) only [if_pos]
              refine Ev.bind (impl_Fits q hq x hx ⟨place, start⟩ o bs (by omega) h5 ho hb) ?_
              rw [chk_neg hB, wrap64_id (x := place + 1) (by omega) (by omega)]
              simp only [Bool.false_eq_true, if_false]
              exact e1
          · refine ⟨r0, ?_, t0, f0⟩
            refine Ev.step (fun k => by rw [impl_nextBerth.l1]) ?_
            rw [wrap64_id (x := q - x.f0) (by omega) (by omega), wrap64_id (x := start + 1) (by omega) (by omega)]
            simp (disch := omega) only [if_neg]
            exact e0
      obtain ⟨r, e1, t1, f1⟩ := inner 31 0 (by omega) (by omega) (by omega)
      refine ⟨r, ?_, t1, f1⟩
      refine Ev.step (fun k => by rw [impl_nextBerth.l0]) ?_
      simp (disch := omega) only [if_pos]
      exact e1
  exact main (s - x.f1).toNat x.f1 (Int.le_refl _) (by omega)
theorem small_of_fit {q : Int} {l : List S62} (hs : Ships q l) {o : List Int} (hp : Perm o (l.length : Int)) {i : Int} (h0 : 0 ≤ i) (h1 : i < (o.length : Int)) {b : S37} (h : Fit q (rd_T62 l (rd o i)) b) : small b := by
  have hl := hp.1
  have := (hp.2 i h0 h1).1
  exact fit_small hs.1.2 (hs.2.2 _ this.1 (by omega)) h
theorem rd37_set (p : List S37) (j k : Int) (b : S37) (j0 : 0 ≤ j) (k0 : 0 ≤ k) (hj : j < (p.length : Int)) : rd_T37 (p.set j.toNat b) k = if k = j then b else rd_T37 p k := by
  unfold rd_T37
  rw [getD_set _ _ _ _ _ (by omega)]
  by_cases e : k = j
  · rw [if_pos (by omega), if_pos e]
  · rw [if_neg (by omega), if_neg e]
/-- What stands while ships get their berths, in full. -/
structure Put (q : Int) (l : List S62) (o : List Int) (p : List S37) (os : List S62) (bs : List S37) (i : Int) : Prop where
  p0 : 0 ≤ i
  pn : (p.length : Int) = (l.length : Int)
  ol : (os.length : Int) = i
  bl : (bs.length : Int) = i
  os_ : ∀ k, 0 ≤ k → k < i → rd_T62 os k = rd_T62 l (rd o k)
  bs_ : ∀ k, 0 ≤ k → k < i → rd_T37 bs k = rd_T37 p (rd o k)
  fit : ∀ k, 0 ≤ k → k < i → Fit q (rd_T62 l (rd o k)) (rd_T37 p (rd o k))
  apt : ∀ k j, 0 ≤ j → j < k → k < i → Apart (rd_T62 l (rd o k)) (rd_T37 p (rd o k)) (rd_T62 l (rd o j)) (rd_T37 p (rd o j))
def Short (q : Int) (l : List S62) : Prop := All (fun i => (rd_T62 l i).f0 ≤ q) 0 (l.length : Int)
def Early (bs : List S37) (os : List S62) (i : Int) : Prop := ∀ k, 0 ≤ k → k < i → (rd_T37 bs k).f1 + (rd_T62 os k).f2 ≤ 200 + 48 * i
theorem put_end {q : Int} {l : List S62} (hs : Ships q l) {o : List Int} (hp : Perm o (l.length : Int)) {p : List S37} {os : List S62} {bs : List S37} (h : Put q l o p os bs (o.length : Int)) : Poss q l p := by
  refine ⟨hs, h.pn, fun m m0 m1 => ?_⟩
  obtain ⟨a, a0, a1, rfl⟩ := perm_onto hp m m0 (by have := h.pn; omega)
  refine ⟨h.fit a a0 a1, fun k k0 k1 => ?_⟩
  obtain ⟨b, b0, b1, rfl⟩ := perm_onto hp k k0 (by have := h.pn; omega)
  by_cases e : b < a
  · exact h.apt a b b0 e a1
  · by_cases e2 : a = b
    · subst e2; omega
    · exact apart_symm (h.apt b a a0 (by omega) b1)
theorem put_step {q : Int} {l : List S62} (hs : Ships q l) {o : List Int} (hp : Perm o (l.length : Int)) {p : List S37} {os : List S62} {bs : List S37} {i : Int} (h : Put q l o p os bs i) (hi : i < (o.length : Int)) {b : S37}
    (hb : Beside q (rd_T62 l (rd o i)) b os bs (bs.length : Int)) : Put q l o (p.set (rd o i).toNat b) (os ++ [rd_T62 l (rd o i)]) (bs ++ [b]) (i + 1) := by
  obtain ⟨p0, pn, ol, bl, os_, bs_, fit, apt⟩ := h
  have hl := hp.1
  have hx := (hp.2 i p0 hi).1
  have old : ∀ k, 0 ≤ k → k < i → rd_T37 (p.set (rd o i).toNat b) (rd o k) = rd_T37 p (rd o k) := fun k k0 k1 => by
    have hk := (hp.2 k k0 (by omega)).1
    rw [rd37_set p _ _ b hx.1 hk.1 (by omega), if_neg (perm_ne hp i k k0 k1 hi)]
  have new : rd_T37 (p.set (rd o i).toNat b) (rd o i) = b := by rw [rd37_set p _ _ b hx.1 hx.1 (by omega), if_pos rfl]
  refine ⟨by omega, by rw [List.length_set]; exact pn, by rw [List.length_append]; simp only [List.length_cons, List.length_nil]; omega, by rw [List.length_append]; simp only [List.length_cons, List.length_nil]; omega, fun k k0 k1 => ?_, fun k k0 k1 => ?_, fun k k0 k1 => ?_, fun k j j0 jk k1 => ?_⟩
  · rw [rd62_app _ _ k k0]
    by_cases e : k < i
    · rw [if_pos (by omega)]; exact os_ k k0 e
    · rw [if_neg (by omega), if_pos (by omega), show k = i from by omega]
  · rw [rd37_app _ _ k k0]
    by_cases e : k < i
    · rw [if_pos (by omega), old k k0 e]; exact bs_ k k0 e
    · rw [if_neg (by omega), if_pos (by omega), show k = i from by omega, new]
  · by_cases e : k < i
    · rw [old k k0 e]; exact fit k k0 e
    · rw [show k = i from by omega, new]; exact hb.1
  · by_cases e : k < i
    · rw [old k (by omega) e, old j j0 (by omega)]; exact apt k j j0 jk e
    · rw [show k = i from by omega, new, old j j0 (by omega)]
      have this : Apart (rd_T62 l (rd o i)) b (rd_T62 os j) (rd_T37 bs j) := hb.2 j j0 (by omega)
      rw [os_ j j0 (by omega), bs_ j j0 (by omega)] at this
      exact this
theorem put_ok {q : Int} {l : List S62} (hs : Ships q l) {o : List Int} (hp : Perm o (l.length : Int)) {p : List S37} {os : List S62} {bs : List S37} {i : Int} (h : Put q l o p os bs i) (hi : i ≤ (o.length : Int)) :
    All (fun k => shipOk (rd_T62 os k)) 0 (bs.length : Int) ∧ All (fun k => small (rd_T37 bs k)) 0 (bs.length : Int) := by
  have hl := hp.1
  have hb := h.bl
  refine ⟨fun k k0 k1 => ?_, fun k k0 k1 => ?_⟩
  · show shipOk (rd_T62 os k)
    rw [h.os_ k k0 (by omega)]
    have := (hp.2 k k0 (by omega)).1
    exact hs.2.2 _ this.1 (by omega)
  · show small (rd_T37 bs k)
    rw [h.bs_ k k0 (by omega)]
    exact small_of_fit hs hp k0 (by omega) (h.fit k k0 (by omega))
theorem inOrder_strong (q : Int) (l : List S62) (hs : Ships q l) (o : List Int) (hp : Perm o (l.length : Int)) :
    ∃ r : List S37 × Bool, (r.2 = true → Poss q l r.1) ∧ (Short q l → r.2 = true) ∧ (r.2 = false → r.1 = []) ∧ Ev (fun k => impl_planInOrder.f k q l o) r := by
  have h5 := hs.2.1
  have hn := hp.1
  unfold impl_planInOrder.f
  simp (disch := omega) only [if_pos]
  have main : ∀ (d : Nat) (i : Int) (p : List S37) (os : List S62) (bs : List S37), Put q l o p os bs i → (Short q l → Early bs os i) → i + d = (o.length : Int) →
      ∃ r : List S37 × Bool, (r.2 = true → Poss q l r.1) ∧ (Short q l → r.2 = true) ∧ (r.2 = false → r.1 = []) ∧ Ev (fun k => impl_planInOrder.l0 k q l p os bs o (o.length : Int) i) r := by
    intro d
    induction d with
    | zero =>
      intro i p os bs hL hE hd
      obtain rfl : i = (o.length : Int) := by omega
      refine ⟨(p, true), fun _ => put_end hs hp hL, fun _ => rfl, (fun h => by cases h), ?_⟩
      refine Ev.step (fun k => by rw [impl_planInOrder.l0]) ?_
      simp (disch := omega) only [if_neg]
      exact Ev.now _
    | succ d ih =>
      intro i p os bs hL hE hd
      have p0 := hL.p0
      have ol := hL.ol
      have bl := hL.bl
      have pn := hL.pn
      have hi := (hp.2 i p0 (by omega)).1
      have hx : shipOk (rd_T62 l (rd o i)) := hs.2.2 (rd o i) hi.1 (by omega)
      obtain ⟨ho, hb⟩ := put_ok hs hp hL (by omega)
      obtain ⟨r, hF, ei, es⟩ := next_both q hs.1 (rd_T62 l (rd o i)) hx os bs (by omega) (by omega) ho hb
      have hN : Short q l → r.2.2 = true ∧ r.2.1 ≤ 200 + 48 * i := by
        intro hS
        have hx' := hx
        unfold shipOk at hx'
        have hq := hS (rd o i) hi.1 (by omega)
        dsimp only at hq
        obtain ⟨r', e', t', f'⟩ := next_first q hs.1 (rd_T62 l (rd o i)) hx os bs (by omega) (by omega) ho hb (200 + 48 * i) ⟨by unfold Fit; dsimp only; omega, fun k k0 k1 => by
          have := hE hS k k0 (by omega)
          show Apart _ _ _ _
          unfold Apart
          exact .inr (.inr (.inr this))⟩
        obtain rfl := Ev.same ei e'
        exact ⟨t', f'⟩
      obtain ⟨b0, b1, bt⟩ := r
      cases bt with
      | false =>
        refine ⟨([], false), (fun h => by cases h), fun h => (by have h2 : false = true := (hN h).1; cases h2), fun _ => rfl, ?_⟩
        refine Ev.step (fun k => by rw [impl_planInOrder.l0]) ?_
        simp (disch := omega) only [if_pos]
        refine Ev.bind ei ?_
        simp only [Bool.false_eq_true, if_false]
        exact Ev.now _
      | true =>
        have hB := hF rfl
        obtain ⟨r, r1, r2, r3, ri⟩ := ih (i + 1) (p.set (rd o i).toNat ⟨b0, b1⟩) (os ++ [rd_T62 l (rd o i)]) (bs ++ [(⟨b0, b1⟩ : S37)]) (put_step hs hp hL (by omega) hB) (fun hS k k0 k1 => by
          have hx' := hx
          unfold shipOk at hx'
          have h2 := (hN hS).2
          dsimp only at h2
          rw [rd62_app _ _ k k0, rd37_app _ _ k k0]
          by_cases e : k < i
          · rw [if_pos (by omega), if_pos (by omega)]
            have := hE hS k k0 e
            omega
          · rw [if_neg (show ¬ (k < (bs.length : Int)) by omega), if_pos (show k = (bs.length : Int) by omega), if_neg (show ¬ (k < (os.length : Int)) by omega), if_pos (show k = (os.length : Int) by omega)]
            dsimp only
            omega) (by omega)
        refine ⟨r, r1, r2, r3, ?_⟩
        refine Ev.step (fun k => by rw [impl_planInOrder.l0]) ?_
        simp (disch := omega) only [if_pos]
        refine Ev.bind ei ?_
        simp only [if_true, Option.bind_some, List.length_cons, List.length_nil]
        simp (disch := omega) only [if_pos, wrap64_id]
        exact ri
  exact main o.length 0 (List.replicate ((l.length : Int) : Int).toNat z37) [] [] ⟨by omega, by rw [List.length_replicate]; omega, rfl, rfl, fun k a b => by omega, fun k a b => by omega, fun k a b => by omega, fun k j a b c => by omega⟩ (fun _ k a b => by omega) (by omega)
/-- The plan in an order, as both make it. -/
noncomputable def inOrd (q : Int) (l : List S62) (o : List Int) : List S37 × Bool := by
  classical exact if h : Ships q l ∧ Perm o (l.length : Int) then Classical.choose (inOrder_strong q l h.1 o h.2) else ([], false)
theorem inOrd_ok {q : Int} {l : List S62} (hs : Ships q l) {o : List Int} (hp : Perm o (l.length : Int)) :
    ((inOrd q l o).2 = true → Poss q l (inOrd q l o).1) ∧ (Short q l → (inOrd q l o).2 = true) ∧ ((inOrd q l o).2 = false → (inOrd q l o).1 = []) ∧ Ev (fun k => impl_planInOrder.f k q l o) (inOrd q l o) ∧ ∃ r, Ev (fun k => spec_l14InOrder.f k q l o) r ∧ r = inOrd q l o := by
  have e : inOrd q l o = Classical.choose (inOrder_strong q l hs o hp) := by
    unfold inOrd
    exact dif_pos ⟨hs, hp⟩
  have h := Classical.choose_spec (inOrder_strong q l hs o hp)
  rw [← e] at h
  obtain ⟨r, _, _, ei, es⟩ := inOrder_both q l hs o hp
  exact ⟨h.1, h.2.1, h.2.2.1, h.2.2.2, r, es, Ev.same ei h.2.2.2⟩
end Go.Proofs.Ytcciljjnpfgaeaa.G

namespace Go.Proofs.Ytcciljjnpfgaeaa.G
open Go.RowKit Go.Proofs.YtcciljjnpfgaeaaW.PrintWords Go.Proofs.YtcciljjnpfgaeaaW.PrintLast
set_option linter.unusedVariables false
set_option linter.unusedSimpArgs false
/-! The best order: the fold over all orders is what the reference's recursion finds. -/
theorem rd_appL (xs q : List Int) (i : Int) (h0 : 0 ≤ i) (h1 : i < (xs.length : Int)) : rd (xs ++ q) i = rd xs i := by
  unfold rd
  rw [List.getD_eq_getElem?_getD, List.getD_eq_getElem?_getD, List.getElem?_append_left (by omega)]
theorem rd_appE (xs : List Int) (x : Int) (q : List Int) : rd (xs ++ (x :: q)) (xs.length : Int) = x := by
  unfold rd
  rw [List.getD_eq_getElem?_getD, Int.toNat_natCast, List.getElem?_append_right (Nat.le_refl _), Nat.sub_self]
  rfl
theorem item_app {o q : List Int} {n i : Int} (h0 : 0 ≤ i) (h1 : i < (o.length : Int)) : itemOk (o ++ q) n i ↔ itemOk o n i := by
  unfold itemOk
  rw [rd_appL o q i h0 h1, List.take_append_of_le_length (by omega)]
theorem item_next {o q : List Int} {n x : Int} : itemOk (o ++ (x :: q)) n (o.length : Int) ↔ (0 ≤ x ∧ x ≤ n - 1) ∧ ¬ Has o x := by
  unfold itemOk
  rw [rd_appE, Int.toNat_natCast, List.take_append_of_le_length (Nat.le_refl _), List.take_length]
/-- The beginning of an order. -/
def PreO (o : List Int) (n : Int) : Prop := All (itemOk o n) 0 (o.length : Int)
theorem preO_nil (n : Int) : PreO [] n := fun i a b => by simp at b; omega
theorem preO_snoc {o : List Int} {n x : Int} : PreO (o ++ [x]) n ↔ PreO o n ∧ (0 ≤ x ∧ x ≤ n - 1) ∧ ¬ Has o x := by
  have hl : ((o ++ [x]).length : Int) = (o.length : Int) + 1 := by simp
  constructor
  · intro h
    exact ⟨fun i a b => (item_app (q := [x]) a b).1 (h i a (by omega)), item_next.1 (h (o.length : Int) (by omega) (by omega))⟩
  · rintro ⟨h, h2⟩ i a b
    by_cases e : i < (o.length : Int)
    · exact (item_app (q := [x]) a e).2 (h i a e)
    · obtain rfl : i = (o.length : Int) := by omega
      exact item_next.2 h2
theorem ordIn_mem (f : List Int → List (List Int)) (jobs l : List Int) : ∀ (r : Nat) (i : Int), l ∈ ordIn f jobs r i ↔ ∃ k : Int, i ≤ k ∧ k < i + r ∧ ¬ Has jobs k ∧ l ∈ f (jobs ++ [k]) := by
  intro r
  induction r with
  | zero =>
    intro i
    unfold ordIn
    constructor
    · intro h; cases h
    · rintro ⟨k, a, b, _⟩; omega
  | succ r ih =>
    intro i
    unfold ordIn
    rw [List.mem_append, ih (i + 1)]
    constructor
    · rintro (h | ⟨k, a, b, c⟩)
      · by_cases hh : Has jobs i
        · rw [chk_pos hh] at h; cases h
        · rw [chk_neg hh] at h; exact ⟨i, by omega, by omega, hh, h⟩
      · exact ⟨k, by omega, by omega, c⟩
    · rintro ⟨k, a, b, c, h⟩
      by_cases e : k = i
      · subst e; rw [chk_neg c]; exact .inl h
      · exact .inr ⟨k, by omega, by omega, c, h⟩
theorem ords_mem {n : Nat} (l : List Int) : ∀ (d : Nat) (jobs : List Int), jobs.length + d = n → PreO jobs n → (l ∈ ords n d jobs ↔ ∃ t, l = jobs ++ t ∧ Perm l n) := by
  intro d
  induction d with
  | zero =>
    intro jobs hd hp
    unfold ords
    rw [List.mem_singleton]
    constructor
    · rintro rfl; exact ⟨[], by simp, by omega, hp⟩
    · rintro ⟨t, e, h⟩
      have h1 := h.1
      rw [e, List.length_append] at h1
      rw [e, List.eq_nil_of_length_eq_zero (show t.length = 0 by omega), List.append_nil]
  | succ d ih =>
    intro jobs hd hp
    unfold ords
    rw [ordIn_mem]
    constructor
    · rintro ⟨k, k0, k1, hh, h⟩
      obtain ⟨t, e, hP⟩ := (ih (jobs ++ [k]) (by simp; omega) (preO_snoc.2 ⟨hp, by omega, hh⟩)).1 h
      exact ⟨k :: t, by rw [e]; simp, hP⟩
    · rintro ⟨t, e, hP⟩
      cases t with
      | nil =>
        have := hP.1
        rw [e, List.append_nil] at this
        omega
      | cons k t =>
        have h1 := hP.1
        have hi : itemOk l n (jobs.length : Int) := hP.2 (jobs.length : Int) (by omega) (by omega)
        rw [e] at hi
        have h2 := item_next.1 hi
        refine ⟨k, by omega, by omega, h2.2, (ih (jobs ++ [k]) (by simp; omega) (preO_snoc.2 ⟨hp, h2⟩)).2 ⟨t, by rw [e]; simp, hP⟩⟩
theorem ords_all {n : Nat} (l : List Int) : l ∈ ords n n [] ↔ Perm l n := by
  rw [ords_mem l n [] (by simp) (preO_nil _)]
  exact ⟨fun ⟨_, _, h⟩ => h, fun h => ⟨l, rfl, h⟩⟩
def pickO (s o : List Int × List S37 × Int) : List Int × List S37 × Int := if 0 ≤ o.2.2 ∧ (s.2.2 < 0 ∨ o.2.2 < s.2.2) then o else s
theorem pickO_assoc (s a b : List Int × List S37 × Int) : pickO (pickO s a) b = pickO s (pickO a b) := by
  by_cases ha : 0 ≤ a.2.2 ∧ (s.2.2 < 0 ∨ a.2.2 < s.2.2)
  · rw [show pickO s a = a from if_pos ha]
    by_cases hb : 0 ≤ b.2.2 ∧ (a.2.2 < 0 ∨ b.2.2 < a.2.2)
    · rw [show pickO a b = b from if_pos hb]; symm; exact if_pos ⟨hb.1, by omega⟩
    · rw [show pickO a b = a from if_neg hb]; symm; exact if_pos ha
  · rw [show pickO s a = s from if_neg ha]
    by_cases hb : 0 ≤ b.2.2 ∧ (a.2.2 < 0 ∨ b.2.2 < a.2.2)
    · rw [show pickO a b = b from if_pos hb]
    · rw [show pickO a b = a from if_neg hb, show pickO s a = s from if_neg ha]
      exact if_neg (fun h => by omega)
theorem pickO_none (s : List Int × List S37 × Int) (o : List Int × List S37 × Int) (h : o.2.2 < 0) : pickO s o = s := if_neg (fun m => by omega)
noncomputable def costO (q : Int) (l : List S62) (o : List Int) : Int := if (inOrd q l o).2 = true then costW l (inOrd q l o).1 l.length else -1
noncomputable def itemO (q : Int) (l : List S62) (o : List Int) : List Int × List S37 × Int := (o, (inOrd q l o).1, costO q l o)
noncomputable def stepO (q : Int) (l : List S62) (s : List Int × List S37 × Int) (o : List Int) : List Int × List S37 × Int :=
  if (inOrd q l o).2 = true then (if s.2.2 < 0 ∨ costW l (inOrd q l o).1 l.length < s.2.2 then (o, (inOrd q l o).1, costW l (inOrd q l o).1 l.length) else s) else s
theorem costW_eq {l : List S62} {p : List S37} (h : Timed l p) : costW l p l.length = costTo l p l.length := Ev.same (impl_costW h.1 h.2.1) (impl_cost h)
theorem costW_nonneg {q : Int} {l : List S62} {p : List S37} (h : Poss q l p) : 0 ≤ costW l p l.length := by
  rw [costW_eq (poss_timed h)]
  exact (cost_bd (poss_timed h) l.length (Int.le_refl _)).1
theorem step_pick {q : Int} {l : List S62} (hs : Ships q l) {o : List Int} (hp : Perm o (l.length : Int)) (s : List Int × List S37 × Int) : stepO q l s o = pickO s (itemO q l o) := by
  have h := inOrd_ok hs hp
  unfold stepO itemO costO
  by_cases e : (inOrd q l o).2 = true
  · have hn := costW_nonneg (h.1 e)
    rw [if_pos e, if_pos e]
    unfold pickO
    dsimp only
    by_cases g : s.2.2 < 0 ∨ costW l (inOrd q l o).1 l.length < s.2.2
    · rw [if_pos g, if_pos ⟨hn, g⟩]
    · rw [if_neg g, if_neg (fun m => g m.2)]
  · rw [if_neg e, if_neg e]
    exact (pickO_none _ _ (show (-1 : Int) < 0 by decide)).symm
noncomputable def bestInO (f : List Int → List Int × List S37 × Int) (jobs : List Int) : Nat → Int → List Int × List S37 × Int → List Int × List S37 × Int
  | 0, _, s => s
  | r + 1, i, s => bestInO f jobs r (i + 1) (chk (Has jobs i) s (pickO s (f (jobs ++ [i]))))
noncomputable def bestO (q : Int) (l : List S62) : Nat → List Int → List Int × List S37 × Int
  | 0, jobs => itemO q l jobs
  | d + 1, jobs => bestInO (bestO q l d) jobs l.length 0 ([], [], -1)
theorem bestIn_pick (f : List Int → List Int × List S37 × Int) (jobs : List Int) : ∀ (r : Nat) (i : Int) (s a : List Int × List S37 × Int), bestInO f jobs r i (pickO s a) = pickO s (bestInO f jobs r i a) := by
  intro r
  induction r with
  | zero => intro i s a; rfl
  | succ r ih =>
    intro i s a
    unfold bestInO
    rw [← ih]
    by_cases hh : Has jobs i
    · rw [chk_pos hh, chk_pos hh]
    · rw [chk_neg hh, chk_neg hh, pickO_assoc]
theorem fold_bestO {q : Int} {l : List S62} (hs : Ships q l) : ∀ (d : Nat) (jobs : List Int), jobs.length + d = l.length → PreO jobs (l.length : Int) →
    ∀ s, (ords l.length d jobs).foldl (stepO q l) s = pickO s (bestO q l d jobs) := by
  intro d
  induction d with
  | zero =>
    intro jobs hd hp s
    exact step_pick hs ⟨by omega, hp⟩ s
  | succ d ih =>
    intro jobs hd hp s
    have main : ∀ (r : Nat) (i : Int), 0 ≤ i → i + r = (l.length : Int) → ∀ s, (ordIn (ords l.length d) jobs r i).foldl (stepO q l) s = bestInO (bestO q l d) jobs r i s := by
      intro r
      induction r with
      | zero => intro i _ _ s; rfl
      | succ r ihr =>
        intro i i0 hi s
        unfold ordIn bestInO
        rw [List.foldl_append, ihr (i + 1) (by omega) (by omega)]
        congr 1
        by_cases hh : Has jobs i
        · rw [chk_pos hh, chk_pos hh]; rfl
        · rw [chk_neg hh, chk_neg hh]
          exact ih (jobs ++ [i]) (by simp; omega) (preO_snoc.2 ⟨hp, by omega, hh⟩) s
    show (ordIn (ords l.length d) jobs l.length 0).foldl (stepO q l) s = _
    rw [main l.length 0 (by omega) (by omega)]
    have e : s = pickO s ([], [], -1) := (pickO_none _ _ (show (-1 : Int) < 0 by decide)).symm
    conv => lhs; rw [e]
    rw [bestIn_pick]
    rfl
noncomputable def foldO (q : Int) (l : List S62) : List Int × List S37 × Int := (ords l.length l.length []).foldl (stepO q l) ([], [], -1)
theorem foldO_eq {q : Int} {l : List S62} (hs : Ships q l) : foldO q l = pickO ([], [], -1) (bestO q l l.length []) := fold_bestO hs l.length [] (by simp) (preO_nil _) _
/-- What is known of the fold: it is the none, or one order's item; and no order's cost is smaller. -/
theorem fold_inv {q : Int} {l : List S62} (hs : Ships q l) : ∀ (ls : List (List Int)), (∀ o ∈ ls, Perm o (l.length : Int)) → ∀ s : List Int × List S37 × Int, (s = ([], [], -1) ∨ ∃ o, Perm o (l.length : Int) ∧ (inOrd q l o).2 = true ∧ s = itemO q l o) →
    ((ls.foldl (stepO q l) s = ([], [], -1) ∨ ∃ o, Perm o (l.length : Int) ∧ (inOrd q l o).2 = true ∧ ls.foldl (stepO q l) s = itemO q l o) ∧
      ((ls.foldl (stepO q l) s).2.2 < 0 → s.2.2 < 0) ∧ (0 ≤ s.2.2 → 0 ≤ (ls.foldl (stepO q l) s).2.2 ∧ (ls.foldl (stepO q l) s).2.2 ≤ s.2.2) ∧
      ∀ o ∈ ls, (inOrd q l o).2 = true → 0 ≤ (ls.foldl (stepO q l) s).2.2 ∧ (ls.foldl (stepO q l) s).2.2 ≤ costO q l o) := by
  intro ls
  induction ls with
  | nil => intro _ s h; exact ⟨h, fun e => e, fun e => ⟨e, Int.le_refl _⟩, fun o ho => by cases ho⟩
  | cons o ls ih =>
    intro hP s h
    rw [List.foldl_cons]
    have hp := hP o List.mem_cons_self
    rw [step_pick hs hp]
    by_cases e : (inOrd q l o).2 = true
    · have hc : 0 ≤ costO q l o := by
        unfold costO; rw [if_pos e]; exact costW_nonneg ((inOrd_ok hs hp).1 e)
      have hi : (itemO q l o).2.2 = costO q l o := rfl
      by_cases g : s.2.2 < 0 ∨ costO q l o < s.2.2
      · rw [show pickO s (itemO q l o) = itemO q l o from if_pos ⟨hc, g⟩]
        obtain ⟨a, b, c, d⟩ := ih (fun o ho => hP o (List.mem_cons_of_mem _ ho)) _ (.inr ⟨o, hp, e, rfl⟩)
        have c' := c (by omega)
        refine ⟨a, fun f => by have := b f; omega, fun f => ⟨c'.1, by omega⟩, fun o' ho' e' => ?_⟩
        rcases List.mem_cons.1 ho' with rfl | h2
        · exact ⟨c'.1, by omega⟩
        · exact d o' h2 e'
      · rw [show pickO s (itemO q l o) = s from if_neg (fun m => g m.2)]
        obtain ⟨a, b, c, d⟩ := ih (fun o ho => hP o (List.mem_cons_of_mem _ ho)) s h
        refine ⟨a, b, c, fun o' ho' e' => ?_⟩
        rcases List.mem_cons.1 ho' with rfl | h2
        · have c' := c (by omega)
          exact ⟨c'.1, by omega⟩
        · exact d o' h2 e'
    · have hi : (itemO q l o).2.2 = -1 := by
        show costO q l o = -1
        unfold costO; rw [if_neg e]
      rw [pickO_none _ _ (by omega)]
      obtain ⟨a, b, c, d⟩ := ih (fun o ho => hP o (List.mem_cons_of_mem _ ho)) s h
      refine ⟨a, b, c, fun o' ho' e' => ?_⟩
      rcases List.mem_cons.1 ho' with rfl | h2
      · exact absurd e' e
      · exact d o' h2 e'
theorem foldO_inv {q : Int} {l : List S62} (hs : Ships q l) : (foldO q l = ([], [], -1) ∨ ∃ o, Perm o (l.length : Int) ∧ (inOrd q l o).2 = true ∧ foldO q l = itemO q l o) ∧ ∀ o, Perm o (l.length : Int) → (inOrd q l o).2 = true → 0 ≤ (foldO q l).2.2 ∧ (foldO q l).2.2 ≤ costO q l o := by
  have h := fold_inv hs (ords l.length l.length []) (fun o ho => (ords_all o).1 ho) ([], [], -1) (.inl rfl)
  exact ⟨h.1, fun o ho => h.2.2.2 o ((ords_all o).2 ho)⟩
theorem perm_some (n : Nat) : ∃ o, Perm o (n : Int) := by
  refine ⟨(List.range n).map (fun (i : Nat) => (i : Int)), by simp, ?_⟩
  have hr : ∀ k : Int, 0 ≤ k → k < (n : Int) → rd ((List.range n).map (fun (i : Nat) => (i : Int))) k = k := fun k k0 k1 => by
    unfold rd
    rw [List.getD_eq_getElem?_getD, List.getElem?_map, List.getElem?_range (by omega)]
    show ((k.toNat : Nat) : Int) = k
    omega
  intro i i0 i1
  rw [List.length_map, List.length_range] at i1
  refine ⟨by rw [hr i i0 i1]; omega, ?_⟩
  rw [has_iff]
  rintro ⟨j, j0, j1, e⟩
  rw [take_len _ i i0 (by rw [List.length_map, List.length_range]; omega)] at j1
  rw [rd_take _ i j j0 j1, hr i i0 i1, hr j j0 (by omega)] at e
  omega
/-- Short ships have a best order; others none. -/
theorem foldO_short {q : Int} {l : List S62} (hs : Ships q l) : (Short q l → 0 ≤ (foldO q l).2.2) ∧ (¬ Short q l → foldO q l = ([], [], -1)) := by
  obtain ⟨h1, h2⟩ := foldO_inv hs
  refine ⟨fun hS => ?_, fun hS => ?_⟩
  · obtain ⟨o, ho⟩ := perm_some l.length
    exact (h2 o ho ((inOrd_ok hs ho).2.1 hS)).1
  · rcases h1 with h | ⟨o, ho, e, _⟩
    · exact h
    · refine absurd (fun i i0 i1 => ?_) hS
      have hP := (inOrd_ok hs ho).1 e
      have := (hP.2.2 i i0 (by have := hP.2.1; omega)).1
      unfold Fit at this
      show (rd_T62 l i).f0 ≤ q
      omega
end Go.Proofs.Ytcciljjnpfgaeaa.G

/- The contract of BestOrder: of valid ships that are not longer than the quay, the first order whose plan costs least, the plan and the cost. -/
namespace Go.Proofs.Ytcciljjnpfgaeaa.G
open Go.RowKit Go.Proofs.YtcciljjnpfgaeaaW.PrintWords Go.Proofs.YtcciljjnpfgaeaaW.PrintLast
set_option linter.unusedVariables false
set_option linter.unusedSimpArgs false
theorem keeps_mono {S S' : Nat → Prop} {w w' : World} (h : Keeps S w w') (hs : ∀ k, S k → S' k) : Keeps S' w w' := ⟨h.os, h.tape, h.output, h.size, fun k hk hn => h.block k hk (fun m => hn (hs k m))⟩
theorem Keeps.of_set (w : World) (g i : Nat) (u : Value) : Keeps (fun k => k = g) w (w.setCell ⟨g, i, none⟩ u) := ⟨rfl, rfl, rfl, by simp [World.setCell], fun k hk hn => Below.heap_setCell w ⟨g, i, none⟩ u k hn⟩
theorem below_cell {B : Nat} {w w' : World} (hb : Below w.heap.size w w') {v : Value} (h : w.cell? ⟨B, 0, none⟩ = some v) : w'.cell? ⟨B, 0, none⟩ = some v := (Keeps.of_below (S := fun _ => False) hb).cell h (fun h => h)
set_option maxRecDepth 100000 in
theorem lit70t (q : Int) (x : S62) (B : Nat) (w : World) (hq : w.cell? ⟨B, 0, none⟩ = some (.int .i64 q)) (h : q < x.f0) :
    Calls Try.prog 70 #[.agg #[.int .i64 x.f0, .int .i64 x.f1, .int .i64 x.f2, .int .i64 x.f3], .pointer (some ⟨B, 0, none⟩)] w fun e w' => e = .returned (.bool true) ∧ Below w.heap.size w w' := by
  have hu62 := Try.underlying62
  have hlt := World.block_lt_of_cell? w _ hq
  go_enter Try.func70, Try.ntmps70
  go_wp2
  go_ret
  exact ⟨rfl, (Below.refl _ _).alloc (Nat.le_refl _) _⟩
set_option maxRecDepth 100000 in
theorem lit70f (q : Int) (x : S62) (B : Nat) (w : World) (hq : w.cell? ⟨B, 0, none⟩ = some (.int .i64 q)) (h : x.f0 ≤ q) :
    Calls Try.prog 70 #[.agg #[.int .i64 x.f0, .int .i64 x.f1, .int .i64 x.f2, .int .i64 x.f3], .pointer (some ⟨B, 0, none⟩)] w fun e w' => e = .returned (.bool false) ∧ Below w.heap.size w w' := by
  have hu62 := Try.underlying62
  have hlt := World.block_lt_of_cell? w _ hq
  go_enter Try.func70, Try.ntmps70
  go_wp2
  go_ret
  exact ⟨by show Ending.returned (.bool (decide (q < x.f0))) = _; rw [decide_eq_false (by omega)], (Below.refl _ _).alloc (Nat.le_refl _) _⟩
def longAt (q : Int) (l : List S62) : Nat → Nat → Int
  | 0, _ => -1
  | d + 1, i => if (rd_T62 l i).f0 ≤ q then longAt q l d (i + 1) else i
theorem longAt_iff (q : Int) (l : List S62) : ∀ d i, longAt q l d i ≥ 0 ↔ ¬ All (fun j => (rd_T62 l j).f0 ≤ q) i ((i : Int) + d) := by
  intro d
  induction d with
  | zero => intro i; unfold longAt; exact ⟨fun h => by omega, fun h => absurd (fun j a b => by omega) h⟩
  | succ d ih =>
    intro i
    unfold longAt
    by_cases h : (rd_T62 l i).f0 ≤ q
    · rw [if_pos h, ih (i + 1), All.step (show (i : Int) < (i : Int) + ((d + 1 : Nat) : Int) by omega)]
      rw [show (((i + 1 : Nat) : Int) + (d : Int)) = (i : Int) + ((d + 1 : Nat) : Int) from by omega, show ((i + 1 : Nat) : Int) = (i : Int) + 1 from by omega]
      exact ⟨fun m a => m a.2, fun m a => m ⟨h, a⟩⟩
    · rw [if_neg h]
      exact ⟨fun _ a => h (a i (by omega) (by omega)), fun _ => by omega⟩
set_option maxHeartbeats 2000000 in
set_option maxRecDepth 100000 in
theorem idx70 (q : Int) (B : Nat) (A0 : Option Addr) (c0 : Nat) (l0 : List S62) (w : World) (hq : w.cell? ⟨B, 0, none⟩ = some (.int .i64 q)) (hr0 : Kd.C k62 w A0 l0.length l0) (hn : l0.length ≤ 9223372036854775807) (hc0 : l0.length ≤ c0) :
    Calls Try.prog 85 #[.slice A0 l0.length c0, .func (.func 70) #[] #[.pointer (some ⟨B, 0, none⟩)]] w fun e w' => e = .returned (.int .i64 (longAt q l0 l0.length 0)) ∧ Below w.heap.size w w' := by
  have HR := Aside0.mk hr0
  have HQ := Aside0.mk hq
  clear hr0 hq
  have HN : Aside0 (longAt q l0 l0.length 0 = longAt q l0 (l0.length - 0) 0) := Aside0.mk rfl
  go_enter Try.func85, Try.ntmps85
  go_wp2
  go_loopw [8] (fun i w' => ∃ k : Nat, k ≤ l0.length ∧ i = .int .i64 k ∧ Aside0 (longAt q l0 l0.length 0 = longAt q l0 (l0.length - k) k) ∧ Below w.heap.size w w') (fun i _ => l0.length - (intOf i).toNat)
  case atStart => exact ⟨0, Nat.zero_le _, rfl, HN, Below.refl _ _⟩
  case round =>
    obtain ⟨k, hk, rfl, hb, hd⟩ := hrel
    by_cases hlt : k < l0.length
    · obtain ⟨ad, rfl, hx0, hx1, hx2, hx3⟩ := at_T62 (Kd.C_below HR.out hd) (k : Int) (by omega) (by omega)
      rw [Int.toNat_natCast] at hx0 hx1 hx2 hx3
      have HQr := Aside0.mk (below_cell hd HQ.out)
      by_cases hg : (rd_T62 l0 k).f0 ≤ q
      · have hs : Aside0 (longAt q l0 l0.length 0 = longAt q l0 (l0.length - (k + 1)) (k + 1)) := Aside0.mk (by
          rw [hb.out, show l0.length - k = (l0.length - (k + 1)) + 1 from by omega]
          conv => lhs; unfold longAt
          rw [if_pos hg])
        have HG := Aside0.mk hg
        clear hb hg
        go_wp2_with (go_at_call 70; refine (lit70f q (rd_T62 l0 k) B _ HQr.out HG.out).mono ?_; rintro e w' ⟨rfl, hd2⟩)
        go_roundw
        case rel => exact ⟨k + 1, by omega, by go_num, hs, below_step hd hd2⟩
        case measure => simp [intOf]; omega
      · have hs : Aside0 (longAt q l0 l0.length 0 = (k : Int)) := Aside0.mk (by
          rw [hb.out, show l0.length - k = (l0.length - (k + 1)) + 1 from by omega]
          conv => lhs; unfold longAt
          rw [if_neg hg])
        have HG : Aside0 (q < (rd_T62 l0 k).f0) := Aside0.mk (by omega)
        clear hb hg
        go_wp2_with (go_at_call 70; refine (lit70t q (rd_T62 l0 k) B _ HQr.out HG.out).mono ?_; rintro e w' ⟨rfl, hd2⟩)
        go_ret
        exact ⟨ret_int hs.out.symm, below_step hd hd2⟩
    · have hs : Aside0 (longAt q l0 l0.length 0 = -1) := Aside0.mk (by
        rw [hb.out, show l0.length - k = 0 from by omega]; rfl)
      clear hb
      go_wp2
      go_ret
      exact ⟨ret_int hs.out.symm, hd⟩
set_option maxHeartbeats 2000000 in
set_option maxRecDepth 100000 in
theorem cont70 (q : Int) (B : Nat) (A0 : Option Addr) (c0 : Nat) (l0 : List S62) (r : Bool) (w : World) (hq : w.cell? ⟨B, 0, none⟩ = some (.int .i64 q)) (hr0 : Kd.C k62 w A0 l0.length l0) (hc0 : l0.length ≤ c0) (h : decide (longAt q l0 l0.length 0 ≥ 0) = r) :
    Calls Try.prog 69 #[.slice A0 l0.length c0, .func (.func 70) #[] #[.pointer (some ⟨B, 0, none⟩)]] w fun e w' => e = .returned (.bool r) ∧ Below w.heap.size w w' := by
  subst h
  have hn : l0.length ≤ 9223372036854775807 := hr0.2.1
  have HR := Aside0.mk hr0
  have HQ := Aside0.mk hq
  clear hr0 hq
  go_enter Try.func69, Try.ntmps69
  go_wp2_with (go_at_call 85; refine (idx70 q B A0 c0 l0 _ HQ.out HR.out hn hc0).mono ?_; rintro e w' ⟨rfl, hd⟩)
  go_ret
  exact ⟨rfl, hd⟩
theorem short_long (q : Int) (l : List S62) : decide (longAt q l l.length 0 ≥ 0) = chk (Short q l) false true := by
  have h := longAt_iff q l l.length 0
  rw [show ((0 : Nat) : Int) + (l.length : Int) = (l.length : Int) from by omega] at h
  by_cases hS : Short q l
  · rw [chk_pos hS]; exact decide_eq_false (fun g => h.1 g hS)
  · rw [chk_neg hS]; exact decide_eq_true (h.2 hS)
/-- The boxes of the best order, its plan and its cost. -/
def BoxO (Bl Bb Bp : Nat) (k : Nat) : Prop := k = Bl ∨ k = Bb ∨ k = Bp
structure OrdI (wc : World) (q : Int) (l : List S62) (Aw : Option Addr) (cw Bq Bw Bl Bb Bp : Nat) (w : World) (s : List Int × List S37 × Int) : Prop where
  old : Below wc.heap.size wc w
  cq : w.cell? ⟨Bq, 0, none⟩ = some (.int .i64 q)
  cw_ : w.cell? ⟨Bw, 0, none⟩ = some (.slice Aw l.length cw)
  bl : w.heap[Bl]? = some (.cells #[.int .i64 s.2.2] 3 (0, 0))
  bb : ∃ v, w.heap[Bb]? = some (.cells #[v] 41 (0, 0)) ∧ Kd.R (Kd.int .i64) 3 w wc.heap.size (fun k => ¬ BoxO Bl Bb Bp k) v s.1
  bp : ∃ v, w.heap[Bp]? = some (.cells #[v] 29 (0, 0)) ∧ Kd.R k37 37 w wc.heap.size (fun k => ¬ BoxO Bl Bb Bp k) v s.2.1
structure PlacesO (wc : World) (Bq Bw Bl Bb Bp : Nat) : Prop where
  l : wc.heap.size ≤ Bl
  b : wc.heap.size ≤ Bb
  p : wc.heap.size ≤ Bp
  n1 : Bl ≠ Bb ∧ Bl ≠ Bp ∧ Bb ≠ Bp
  nq : ¬ BoxO Bl Bb Bp Bq
  nw : ¬ BoxO Bl Bb Bp Bw
theorem OrdI.stay {wc : World} {q : Int} {l : List S62} {Aw : Option Addr} {cw Bq Bw Bl Bb Bp : Nat} {w w' : World} {s : List Int × List S37 × Int} (h : OrdI wc q l Aw cw Bq Bw Bl Bb Bp w s) (hb : Below w.heap.size w w') : OrdI wc q l Aw cw Bq Bw Bl Bb Bp w' s := by
  obtain ⟨v, hv, hr⟩ := h.bb
  obtain ⟨u, hu, hs⟩ := h.bp
  exact ⟨below_step h.old hb, below_cell hb h.cq, below_cell hb h.cw_, blk_below h.bl hb, ⟨v, blk_below hv hb, Kd.R_below hr hb⟩, ⟨u, blk_below hu hb, Kd.R_below hs hb⟩⟩
theorem OrdI.put {wc : World} {q : Int} {l : List S62} {Aw : Option Addr} {cw Bq Bw Bl Bb Bp : Nat} (hp : PlacesO wc Bq Bw Bl Bb Bp) {w : World} {s : List Int × List S37 × Int} (h : OrdI wc q l Aw cw Bq Bw Bl Bb Bp w s) {v vp : Value} {o : List Int} {p : List S37}
    (hR : Kd.R (Kd.int .i64) 3 w wc.heap.size (fun k => ¬ BoxO Bl Bb Bp k) v o) (hRp : Kd.R k37 37 w wc.heap.size (fun k => ¬ BoxO Bl Bb Bp k) vp p) (m : Int) :
    OrdI wc q l Aw cw Bq Bw Bl Bb Bp (((w.setCell ⟨Bb, 0, none⟩ v).setCell ⟨Bp, 0, none⟩ vp).setCell ⟨Bl, 0, none⟩ (.int .i64 m)) (o, p, m) ∧ Keeps (BoxO Bl Bb Bp) w (((w.setCell ⟨Bb, 0, none⟩ v).setCell ⟨Bp, 0, none⟩ vp).setCell ⟨Bl, 0, none⟩ (.int .i64 m)) := by
  obtain ⟨p1, p2, p3, ⟨n1, n2, n3⟩, nq, nw⟩ := hp
  have k : Keeps (BoxO Bl Bb Bp) w (((w.setCell ⟨Bb, 0, none⟩ v).setCell ⟨Bp, 0, none⟩ vp).setCell ⟨Bl, 0, none⟩ (.int .i64 m)) :=
    (keeps_mono (Keeps.of_set w Bb 0 v) (fun _ e => .inr (.inl e))).trans ((keeps_mono (Keeps.of_set _ Bp 0 vp) (fun _ e => .inr (.inr e))).trans (keeps_mono (Keeps.of_set _ Bl 0 _) (fun _ e => .inl e)))
  obtain ⟨v0, hv, hr⟩ := h.bb
  obtain ⟨u0, hu, hs⟩ := h.bp
  refine ⟨⟨⟨k.os.trans h.old.os, k.tape.trans h.old.tape, k.output.trans h.old.output, Nat.le_trans h.old.size k.size, fun i hi => (k.block i (Nat.lt_of_lt_of_le hi h.old.size) (fun e => by unfold BoxO at e; omega)).trans (h.old.block i hi)⟩,
    k.cell h.cq nq, k.cell h.cw_ nw, ?_, ⟨v, ?_, Kd.R_step hR (fun b hb hl => k.block b hl hb)⟩, ⟨vp, ?_, Kd.R_step hRp (fun b hb hl => k.block b hl hb)⟩⟩, k⟩
  · exact blk_set ((Below.heap_setCell _ ⟨Bp, 0, none⟩ vp Bl n2).trans ((Below.heap_setCell w ⟨Bb, 0, none⟩ v Bl n1).trans h.bl)) 0 _
  · exact (Below.heap_setCell _ ⟨Bl, 0, none⟩ _ Bb (fun e => n1 e.symm)).trans ((Below.heap_setCell _ ⟨Bp, 0, none⟩ vp Bb n3).trans (blk_set hv 0 v))
  · exact (Below.heap_setCell _ ⟨Bl, 0, none⟩ _ Bp (fun e => n2 e.symm)).trans (blk_set ((Below.heap_setCell w ⟨Bb, 0, none⟩ v Bp (fun e => n3 e.symm)).trans hu) 0 vp)
/-- The cells that the walk reads and writes ahead of the stores. -/
structure Ready (w : World) (Bl Bb Bp : Nat) (m : Int) (v vp : Value) : Prop where
  l : w.cell? ⟨Bl, 0, none⟩ = some (.int .i64 m)
  lf : w.frozen? ⟨Bl, 0, none⟩ = false
  b : ∃ u, w.cell? ⟨Bb, 0, none⟩ = some u
  bf : w.frozen? ⟨Bb, 0, none⟩ = false
  p : ∃ u, (w.setCell ⟨Bb, 0, none⟩ v).cell? ⟨Bp, 0, none⟩ = some u
  pf : (w.setCell ⟨Bb, 0, none⟩ v).frozen? ⟨Bp, 0, none⟩ = false
  l2 : ((w.setCell ⟨Bb, 0, none⟩ v).setCell ⟨Bp, 0, none⟩ vp).cell? ⟨Bl, 0, none⟩ = some (.int .i64 m)
  l2f : ((w.setCell ⟨Bb, 0, none⟩ v).setCell ⟨Bp, 0, none⟩ vp).frozen? ⟨Bl, 0, none⟩ = false
theorem OrdI.ready {wc : World} {q : Int} {l : List S62} {Aw : Option Addr} {cw Bq Bw Bl Bb Bp : Nat} (hp : PlacesO wc Bq Bw Bl Bb Bp) {w : World} {s : List Int × List S37 × Int} (h : OrdI wc q l Aw cw Bq Bw Bl Bb Bp w s) (v vp : Value) : Ready w Bl Bb Bp s.2.2 v vp := by
  obtain ⟨v0, hv, hr⟩ := h.bb
  obtain ⟨u0, hu, hs⟩ := h.bp
  have n := hp.n1
  have hl := (Below.heap_setCell w ⟨Bb, 0, none⟩ v Bl n.1).trans h.bl
  have hu2 := (Below.heap_setCell w ⟨Bb, 0, none⟩ v Bp (fun e => n.2.2 e.symm)).trans hu
  have hl2 := (Below.heap_setCell (w.setCell ⟨Bb, 0, none⟩ v) ⟨Bp, 0, none⟩ vp Bl n.2.1).trans hl
  exact ⟨(blk_cell h.bl 0).trans rfl, blk_frozen h.bl 0, ⟨v0, (blk_cell hv 0).trans rfl⟩, blk_frozen hv 0, ⟨u0, (blk_cell hu2 0).trans rfl⟩, blk_frozen hu2 0, (blk_cell hl2 0).trans rfl, blk_frozen hl2 0⟩
set_option maxHeartbeats 4000000 in
set_option maxRecDepth 100000 in
theorem ordO_call {wc : World} {q : Int} {l : List S62} (hs : Ships q l) {Aw : Option Addr} {cw Bq Bw Bl Bb Bp : Nat} (hp : PlacesO wc Bq Bw Bl Bb Bp) (hCw : Kd.C k62 wc Aw l.length l) (hcw : l.length ≤ cw) (w : World) (s : List Int × List S37 × Int) (v : Value) (o : List Int) (hI : OrdI wc q l Aw cw Bq Bw Bl Bb Bp w s) (hP : Perm o (l.length : Int)) (hR : Kd.R (Kd.int .i64) 3 w wc.heap.size (fun k => ¬ BoxO Bl Bb Bp k) v o) :
    Calls Try.prog 72 (#[v] ++ #[.pointer (some ⟨Bq, 0, none⟩), .pointer (some ⟨Bw, 0, none⟩), .pointer (some ⟨Bl, 0, none⟩), .pointer (some ⟨Bb, 0, none⟩), .pointer (some ⟨Bp, 0, none⟩)]) w fun e w' => e = .returned (.tuple #[]) ∧ OrdI wc q l Aw cw Bq Bw Bl Bb Bp w' (stepO q l s o) ∧ Keeps (BoxO Bl Bb Bp) w w' := by
  obtain ⟨A, c1, rfl⟩ := Kd.R_slice hR
  obtain ⟨best, plan0, least⟩ := s
  have hc1 : o.length ≤ c1 := (Kd.R_reads' hR).2.1
  have hok := inOrd_ok hs hP
  have hlen : (inOrd q l o).2 = true → ((inOrd q l o).1.length : Int) = (l.length : Int) := fun e => (hok.1 e).2.1
  obtain ⟨kd, hkd⟩ := Ev.rounds hok.2.2.2.1
  have hst : stepO q l (best, plan0, least) o = if (inOrd q l o).2 = true then (if least < 0 ∨ costW l (inOrd q l o).1 l.length < least then (o, (inOrd q l o).1, costW l (inOrd q l o).1 l.length) else (best, plan0, least)) else (best, plan0, least) := rfl
  obtain ⟨⟨pl, ok⟩, hpl⟩ : ∃ r, inOrd q l o = r := ⟨_, rfl⟩
  rw [hpl] at hkd hst hlen
  dsimp only at hst hlen
  have HK := Aside0.mk hkd
  have hq := hI.cq
  have hw := hI.cw_
  have HI := Aside0.mk hI
  have HR := Aside0.mk hR
  have HP := Aside0.mk hp
  have HCW := Aside0.mk (Kd.C_below hCw hI.old)
  clear hI hR hp hCw hok hkd hpl hP
  show Calls Try.prog 72 #[.slice A o.length c1, .pointer (some ⟨Bq, 0, none⟩), .pointer (some ⟨Bw, 0, none⟩), .pointer (some ⟨Bl, 0, none⟩), .pointer (some ⟨Bb, 0, none⟩), .pointer (some ⟨Bp, 0, none⟩)] w _
  cases ok with
  | false =>
    have HS : Aside0 (stepO q l (best, plan0, least) o = (best, plan0, least)) := Aside0.mk (by rw [hst]; exact if_neg (by decide))
    clear hst hlen
    go_enter Try.func72, Try.ntmps72
    go_wp2_with (go_at_call 67; refine (impl_planInOrder.calls kd q Aw cw l A c1 o pl false _ HCW.out hcw (Kd.R_reads' HR.out).2.2 hc1 HK.out).mono ?_; rintro e w1 ⟨vp, rfl, hRp, hd1⟩; have HB1 := Aside0.mk hd1; clear hd1 hRp)
    refine bodyPost_ret (results_none rfl _ _ _) rfl ?_
    rw [HS.out]
    exact ⟨rfl, HI.out.stay HB1.out, Keeps.of_below HB1.out⟩
  | true =>
    have HL := Aside0.mk (hlen rfl)
    obtain ⟨kc, hkc⟩ := Ev.rounds (impl_costW HL.out hs.2.1)
    obtain ⟨m, hm⟩ : ∃ m, costW l pl l.length = m := ⟨_, rfl⟩
    rw [hm] at hst hkc
    have HC := Aside0.mk hkc
    rw [if_pos rfl] at hst
    clear hkc hm hlen
    by_cases h0 : least < 0
    · have HS : Aside0 (stepO q l (best, plan0, least) o = (o, pl, m)) := Aside0.mk (by rw [hst]; exact if_pos (.inl h0))
      clear hst
      go_enter Try.func72, Try.ntmps72
      go_wp2_with (first | (go_at_call 67; refine (impl_planInOrder.calls kd q Aw cw l A c1 o pl true _ HCW.out hcw (Kd.R_reads' HR.out).2.2 hc1 HK.out).mono ?_; rintro e w1 ⟨vp, rfl, hRp, hd1⟩; obtain ⟨Ap, cp, rfl⟩ := Kd.R_slice hRp; have HRP := Aside0.mk hRp; have HB1 := Aside0.mk hd1; have hw1 := below_cell hd1 hw; clear hd1 hRp) | (go_at_call 57; refine (impl_planCost.calls kc Aw cw l Ap cp pl m _ (Kd.C_below HCW.out HB1.out) hcw (Kd.R_reads' HRP.out).2.2 (Kd.R_reads' HRP.out).2.1 HC.out).mono ?_; rintro e w2 ⟨rfl, hd2⟩; have HB2 := Aside0.mk (below_step HB1.out hd2); have HRP2 := Aside0.mk (Kd.R_below HRP.out hd2); have HI2 := Aside0.mk (HI.out.stay HB2.out); have hz := HI2.out.ready HP.out (.slice A o.length c1) (.slice Ap pl.length cp); have z1 := hz.l; have z2 := hz.lf; obtain ⟨u3, z3⟩ := hz.b; have z4 := hz.bf; obtain ⟨u5, z5⟩ := hz.p; have z6 := hz.pf; have z7 := hz.l2; have z8 := hz.l2f; clear hz hd2))
      go_end0
      have r := HI2.out.put HP.out (Kd.R_below HR.out HB2.out) (Kd.R_lower (Kd.R_mono (Kd.R_bound HRP2.out) (fun b hb e => by have := hb.2.1; have h1 := blk_lt HI.out.bl; obtain ⟨_, h2, _⟩ := HI.out.bb; have h2 := blk_lt h2; obtain ⟨_, h3, _⟩ := HI.out.bp; have h3 := blk_lt h3; unfold BoxO at e; omega)) HI.out.old.size) m
      rw [HS.out]
      exact ⟨rfl, r.1, (Keeps.of_below HB2.out).trans r.2⟩
    · have h0' : 0 ≤ least := by omega
      by_cases h1 : m < least
      · have HS : Aside0 (stepO q l (best, plan0, least) o = (o, pl, m)) := Aside0.mk (by rw [hst]; exact if_pos (.inr h1))
        clear hst
        go_enter Try.func72, Try.ntmps72
        go_wp2_with (first | (go_at_call 67; refine (impl_planInOrder.calls kd q Aw cw l A c1 o pl true _ HCW.out hcw (Kd.R_reads' HR.out).2.2 hc1 HK.out).mono ?_; rintro e w1 ⟨vp, rfl, hRp, hd1⟩; obtain ⟨Ap, cp, rfl⟩ := Kd.R_slice hRp; have HRP := Aside0.mk hRp; have HB1 := Aside0.mk hd1; have hw1 := below_cell hd1 hw; clear hd1 hRp) | (go_at_call 57; refine (impl_planCost.calls kc Aw cw l Ap cp pl m _ (Kd.C_below HCW.out HB1.out) hcw (Kd.R_reads' HRP.out).2.2 (Kd.R_reads' HRP.out).2.1 HC.out).mono ?_; rintro e w2 ⟨rfl, hd2⟩; have HB2 := Aside0.mk (below_step HB1.out hd2); have HRP2 := Aside0.mk (Kd.R_below HRP.out hd2); have HI2 := Aside0.mk (HI.out.stay HB2.out); have hz := HI2.out.ready HP.out (.slice A o.length c1) (.slice Ap pl.length cp); have z1 := hz.l; have z2 := hz.lf; obtain ⟨u3, z3⟩ := hz.b; have z4 := hz.bf; obtain ⟨u5, z5⟩ := hz.p; have z6 := hz.pf; have z7 := hz.l2; have z8 := hz.l2f; clear hz hd2))
        go_end0
        have r := HI2.out.put HP.out (Kd.R_below HR.out HB2.out) (Kd.R_lower (Kd.R_mono (Kd.R_bound HRP2.out) (fun b hb e => by have := hb.2.1; have h1 := blk_lt HI.out.bl; obtain ⟨_, h2, _⟩ := HI.out.bb; have h2 := blk_lt h2; obtain ⟨_, h3, _⟩ := HI.out.bp; have h3 := blk_lt h3; unfold BoxO at e; omega)) HI.out.old.size) m
        rw [HS.out]
        exact ⟨rfl, r.1, (Keeps.of_below HB2.out).trans r.2⟩
      · have HS : Aside0 (stepO q l (best, plan0, least) o = (best, plan0, least)) := Aside0.mk (by rw [hst]; exact if_neg (fun h => h.elim h0 h1))
        have h1' : least ≤ m := by omega
        clear hst
        go_enter Try.func72, Try.ntmps72
        go_wp2_with (first | (go_at_call 67; refine (impl_planInOrder.calls kd q Aw cw l A c1 o pl true _ HCW.out hcw (Kd.R_reads' HR.out).2.2 hc1 HK.out).mono ?_; rintro e w1 ⟨vp, rfl, hRp, hd1⟩; obtain ⟨Ap, cp, rfl⟩ := Kd.R_slice hRp; have HRP := Aside0.mk hRp; have HB1 := Aside0.mk hd1; have hw1 := below_cell hd1 hw; clear hd1 hRp) | (go_at_call 57; refine (impl_planCost.calls kc Aw cw l Ap cp pl m _ (Kd.C_below HCW.out HB1.out) hcw (Kd.R_reads' HRP.out).2.2 (Kd.R_reads' HRP.out).2.1 HC.out).mono ?_; rintro e w2 ⟨rfl, hd2⟩; have HB2 := Aside0.mk (below_step HB1.out hd2); have HI2 := Aside0.mk (HI.out.stay HB2.out); have hz := HI2.out.ready HP.out (.slice A o.length c1) (.slice Ap pl.length cp); have z1 := hz.l; have z2 := hz.lf; clear hz hd2))
        go_end0
        rw [HS.out]
        exact ⟨rfl, HI2.out, Keeps.of_below HB2.out⟩
theorem ordO_back {wc : World} {q : Int} {l : List S62} (hs : Ships q l) {Aw : Option Addr} {cw Bq Bw Bl Bb Bp : Nat} (hp : PlacesO wc Bq Bw Bl Bb Bp) (hCw : Kd.C k62 wc Aw l.length l) (hcw : l.length ≤ cw) :
    Back (σ := List Int × List S37 × Int) 72 #[.pointer (some ⟨Bq, 0, none⟩), .pointer (some ⟨Bw, 0, none⟩), .pointer (some ⟨Bl, 0, none⟩), .pointer (some ⟨Bb, 0, none⟩), .pointer (some ⟨Bp, 0, none⟩)] (BoxO Bl Bb Bp) wc.heap.size (OrdI wc q l Aw cw Bq Bw Bl Bb Bp) (fun o => Perm o (l.length : Int)) (stepO q l) where
  enters := fun args w => enters_ Try.func72 (by kernel_rfl) rfl args w
  call := fun w s v o hI hP hR => ordO_call hs hp hCw hcw w s v o hI hP hR
  stay := fun w w' s hI hb => hI.stay hb
  low := fun w s hI k hk => by
    obtain ⟨v, hv, _⟩ := hI.bb
    obtain ⟨u, hu, _⟩ := hI.bp
    rcases hk with rfl | rfl | rfl
    · exact blk_lt hI.bl
    · exact blk_lt hv
    · exact blk_lt hu
end Go.Proofs.Ytcciljjnpfgaeaa.G

/- The contract of BestOrder, joined: of any quay and ships. -/
namespace Go.Proofs.Ytcciljjnpfgaeaa.G
open Go.RowKit Go.Proofs.YtcciljjnpfgaeaaW.PrintWords Go.Proofs.YtcciljjnpfgaeaaW.PrintLast
set_option linter.unusedVariables false
set_option linter.unusedSimpArgs false
theorem bestO_boxes {w w1 w2 w2' w3 w4 w5 : World} {g1 g2 g3 g4 g5 : Nat} (q : Int) (A0 : Option Addr) (c0 : Nat) (l0 : List S62)
    (h1 : g1 = w.heap.size) (x1 : w1.heap[g1]? = some (.cells #[.int .i64 q] 3 (0, 0))) (b1 : Below w.heap.size w w1)
    (h2 : g2 = w1.heap.size) (x2 : w2.heap[g2]? = some (.cells #[.slice A0 l0.length c0] 27 (0, 0))) (b2 : Below w1.heap.size w1 w2)
    (b2' : Below w2.heap.size w2 w2')
    (h3 : g3 = w2'.heap.size) (x3 : w3.heap[g3]? = some (.cells #[.slice none 0 0] 41 (0, 0))) (b3 : Below w2'.heap.size w2' w3)
    (h4 : g4 = w3.heap.size) (x4 : w4.heap[g4]? = some (.cells #[.slice none 0 0] 29 (0, 0))) (b4 : Below w3.heap.size w3 w4)
    (h5 : g5 = w4.heap.size) (x5 : w5.heap[g5]? = some (.cells #[.int .i64 0] 3 (0, 0))) (b5 : Below w4.heap.size w4 w5) :
    PlacesO w g1 g2 g5 g3 g4 ∧ OrdI w q l0 A0 c0 g1 g2 g5 g3 g4 (w5.setCell ⟨g5, 0, none⟩ (.int .i64 (-1))) ([], [], -1) ∧ Below w.heap.size w (w5.setCell ⟨g5, 0, none⟩ (.int .i64 (-1))) := by
  have s1 := b1.size
  have s2 := b2.size
  have s2' := b2'.size
  have s3 := b3.size
  have s4 := b4.size
  have s5 := b5.size
  have l1 := blk_lt x1
  have l2 := blk_lt x2
  have l3 := blk_lt x3
  have l4 := blk_lt x4
  have l5 := blk_lt x5
  have hB : Below w.heap.size w (w5.setCell ⟨g5, 0, none⟩ (.int .i64 (-1))) := Below.setCell (below_step b1 (below_step b2 (below_step b2' (below_step b3 (below_step b4 b5))))) (by show w.heap.size ≤ g5; omega) _
  have y1 := blk_below (blk_below (blk_below (blk_below (blk_below x1 b2) b2') b3) b4) b5
  have y2 := blk_below (blk_below (blk_below (blk_below x2 b2') b3) b4) b5
  have y3 := blk_below (blk_below x3 b4) b5
  have y4 := blk_below x4 b5
  refine ⟨⟨by omega, by omega, by omega, by omega, by unfold BoxO; omega, by unfold BoxO; omega⟩, ⟨hB, ?_, ?_, blk_set x5 0 _, ⟨.slice none 0 0, ?_, Kd.R_nil _ _ _ _ _⟩, ⟨.slice none 0 0, ?_, Kd.R_nil _ _ _ _ _⟩⟩, hB⟩
  · exact (cell_far (p := ⟨g5, 0, none⟩) (by show g1 ≠ g5; omega) _).trans ((blk_cell y1 0).trans rfl)
  · exact (cell_far (p := ⟨g5, 0, none⟩) (by show g2 ≠ g5; omega) _).trans ((blk_cell y2 0).trans rfl)
  · exact (Below.heap_setCell w5 ⟨g5, 0, none⟩ _ g3 (by show g3 ≠ g5; omega)).trans y3
  · exact (Below.heap_setCell w5 ⟨g5, 0, none⟩ _ g4 (by show g4 ≠ g5; omega)).trans y4
theorem bestO_below {w w4 w5 : World} {a b c : Nat} (h : Below w.heap.size w w4) (k : Keeps (BoxO a b c) w4 w5) (ha : w.heap.size ≤ a) (hb : w.heap.size ≤ b) (hc : w.heap.size ≤ c) : Below w.heap.size w w5 :=
  ⟨k.os.trans h.os, k.tape.trans h.tape, k.output.trans h.output, Nat.le_trans h.size k.size, fun i hi => (k.block i (Nat.lt_of_lt_of_le hi h.size) (fun e => by unfold BoxO at e; omega)).trans (h.block i hi)⟩
noncomputable def impl_BestOrder.f (a0 : Int) (l1 : List S62) : Option (List Int × (List S37) × Int × Bool) := some (chk (Ships a0 l1 ∧ Short a0 l1) ((foldO a0 l1).1, (foldO a0 l1).2.1, (foldO a0 l1).2.2, true) ([], [], 0, false))
set_option maxHeartbeats 4000000 in
set_option maxRecDepth 100000 in
theorem impl_BestOrder.calls (a0 : Int) (A1 : Option Addr) (c1 : Nat) (l1 : List (S62)) (r1 : List Int) (r2 : List (S37)) (r3 : Int) (r4 : Bool) (w : World) (hr1 : Kd.C k62 w A1 l1.length l1) (hc1 : l1.length ≤ c1) (h : impl_BestOrder.f a0 l1 = some (r1, r2, r3, r4)) :
    Calls Try.prog 42 #[.int .i64 a0, .slice A1 l1.length c1] w fun e w' => ∃ v0_ v1_ : Value, e = .returned (.tuple #[v0_, v1_, .int .i64 r3, .bool r4]) ∧ Kd.R (Kd.int .i64) 3 w' w.heap.size (fun _ => True) v0_ r1 ∧ Kd.R k37 37 w' w.heap.size (fun _ => True) v1_ r2 ∧ Below w.heap.size w w' := by
  unfold impl_BestOrder.f at h
  have h := Option.some.inj h
  have HR := Aside0.mk hr1
  clear hr1
  by_cases hS : Ships a0 l1
  · have HA : Aside0 (impl_areShips.f a0 l1 = some true) := Aside0.mk (by rw [impl_ships, chk_pos hS])
    by_cases hT : Short a0 l1
    · rw [chk_pos ⟨hS, hT⟩] at h
      obtain ⟨rfl, rfl, rfl, rfl⟩ : (foldO a0 l1).1 = r1 ∧ (foldO a0 l1).2.1 = r2 ∧ (foldO a0 l1).2.2 = r3 ∧ true = r4 := by
        injection h with e1 h
        injection h with e2 h
        injection h with e3 h
        exact ⟨e1, e2, e3, h⟩
      have HL : Aside0 (decide (longAt a0 l1 l1.length 0 ≥ 0) = false) := Aside0.mk (by rw [short_long, chk_pos hT])
      have HS := Aside0.mk hS
      have h5 : l1.length ≤ 5 := by have := hS.2.1; omega
      obtain ⟨fo, hfo⟩ : ∃ fo, foldO a0 l1 = fo := ⟨_, rfl⟩
      have HF : Aside0 ((ords l1.length l1.length []).foldl (stepO a0 l1) ([], [], -1) = fo) := Aside0.mk hfo
      rw [hfo]
      clear hS hT h hfo
      obtain ⟨f1, f2, f3⟩ := fo
      go_enter Try.func42, Try.ntmps42
      go_wp2_with (first | ((with_reducible refine gate_dst (N := 2) rfl ?_); refine box_event ?hg2 (N := 2) ?hd2 (cs := #[.int .i64 a0]) (t := 3) ?hr2 ?_; (case hd2 => rfl); (case hg2 => rfl); (case hr2 => first | (go_simp; done) | (go_simp; rfl)); intro g1 hgg1 w1 hboxg1 hbg1; have HG1 := Aside0.mk hgg1; have HX1 := Aside0.mk hboxg1; have HB1 := Aside0.mk hbg1; clear hgg1 hboxg1 hbg1) | ((with_reducible refine gate_dst (N := 3) rfl ?_); refine box_event ?hg3 (N := 3) ?hd3 (cs := #[.slice A1 l1.length c1]) (t := 27) ?hr3 ?_; (case hd3 => rfl); (case hg3 => rfl); (case hr3 => first | (go_simp; done) | (go_simp; rfl)); intro g2 hgg2 w2 hboxg2 hbg2; have HG2 := Aside0.mk hgg2; have HX2 := Aside0.mk hboxg2; have HB2 := Aside0.mk hbg2; have hz1 : w2.cell? ⟨g1, 0, none⟩ = some (.int .i64 a0) := below_cell hbg2 ((blk_cell HX1.out 0).trans rfl); have hz2 : w2.cell? ⟨g2, 0, none⟩ = some (.slice A1 l1.length c1) := (blk_cell hboxg2 0).trans rfl; clear hgg2 hboxg2 hbg2) | (go_at_call 52; refine (impl_areShips.calls a0 A1 c1 l1 true _ (Kd.C_below HR.out (below_step HB1.out HB2.out)) hc1 HA.out).mono ?_; rintro e w3 ⟨rfl, hd3⟩; have HB3 := Aside0.mk hd3; have hz3 := below_cell hd3 hz1; have hz4 := below_cell hd3 hz2; clear hd3) | (go_at_call 69; refine (cont70 a0 g1 A1 c1 l1 false _ hz3 (Kd.C_below HR.out (below_step HB1.out (below_step HB2.out HB3.out))) hc1 HL.out).mono ?_; rintro e w4 ⟨rfl, hd4⟩; have HB4 := Aside0.mk (below_step HB3.out hd4); clear hd4) | ((with_reducible refine gate_dst (N := 8) rfl ?_); refine box_event ?hg8 (N := 8) ?hd8 (cs := #[.slice none 0 0]) (t := 41) ?hr8 ?_; (case hd8 => rfl); (case hg8 => rfl); (case hr8 => first | (go_simp; done) | (go_simp; rfl)); intro g3 hgg3 w5 hboxg3 hbg3; have HG3 := Aside0.mk hgg3; have HX3 := Aside0.mk hboxg3; have HB5 := Aside0.mk hbg3; clear hgg3 hboxg3 hbg3) | ((with_reducible refine gate_dst (N := 9) rfl ?_); refine box_event ?hg9 (N := 9) ?hd9 (cs := #[.slice none 0 0]) (t := 29) ?hr9 ?_; (case hd9 => rfl); (case hg9 => rfl); (case hr9 => first | (go_simp; done) | (go_simp; rfl)); intro g4 hgg4 w6 hboxg4 hbg4; have HG4 := Aside0.mk hgg4; have HX4 := Aside0.mk hboxg4; have HB6 := Aside0.mk hbg4; clear hgg4 hboxg4 hbg4) | ((with_reducible refine gate_dst (N := 10) rfl ?_); refine box_event ?hg10 (N := 10) ?hd10 (cs := #[.int .i64 0]) (t := 3) ?hr10 ?_; (case hd10 => rfl); (case hg10 => rfl); (case hr10 => first | (go_simp; done) | (go_simp; rfl)); intro g5 hgg5 w7 hboxg5 hbg5; have HG5 := Aside0.mk hgg5; have HX5 := Aside0.mk hboxg5; have HB7 := Aside0.mk hbg5; have hz5 : w7.cell? ⟨g5, 0, none⟩ = some (.int .i64 0) := (blk_cell hboxg5 0).trans rfl; have hz6 := blk_frozen hboxg5 0; have HBX := Aside0.mk (bestO_boxes a0 A1 c1 l1 HG1.out HX1.out HB1.out HG2.out HX2.out HB2.out HB4.out HG3.out HX3.out HB5.out HG4.out HX4.out HB6.out HG5.out HX5.out HB7.out); have hz7 := HBX.out.2.1.cw_; clear hgg5 hboxg5 hbg5) | (go_at_call 71; refine calls_of_args (args' := #[.int .i64 l1.length, .func (.func 72) #[] #[.pointer (some ⟨g1, 0, none⟩), .pointer (some ⟨g2, 0, none⟩), .pointer (some ⟨g5, 0, none⟩), .pointer (some ⟨g3, 0, none⟩), .pointer (some ⟨g4, 0, none⟩)]]) ?ca ?_; (case ca => (first | rfl | (simp; done) | (simp; omega))); refine (orders_any (ordO_back HS.out HBX.out.1 HR.out hc1) l1.length (by omega) _ ([], [], -1) (fun o ho => (ords_all o).1 ho) HBX.out.2.2.size HBX.out.2.1).mono ?_; rintro e w8 ⟨rfl, hI8, hK8⟩; have HB8 := Aside0.mk (bestO_below HBX.out.2.2 hK8 HBX.out.1.l HBX.out.1.b HBX.out.1.p); rw [HF.out] at hI8; obtain ⟨v5, hv5, hr5⟩ := hI8.bb; obtain ⟨v6, hv6, hr6⟩ := hI8.bp; have HR5 := Aside0.mk hr5; have HR6 := Aside0.mk hr6; have hz8 : w8.cell? ⟨g5, 0, none⟩ = some (.int .i64 f3) := (blk_cell hI8.bl 0).trans rfl; have hz9 : w8.cell? ⟨g3, 0, none⟩ = some v5 := (blk_cell hv5 0).trans rfl; have hz10 : w8.cell? ⟨g4, 0, none⟩ = some v6 := (blk_cell hv6 0).trans rfl; clear hI8 hv5 hr5 hv6 hr6 hK8))
      repeat (go_quiet (fail); try go_wp2)
      refine bodyPost_ret (results_list (rs := [.tmp 4, .tmp 5, .tmp 6, .tmp 7]) rfl (by simp) (.tmp (.tmp (.tmp (.tmp .nil))))) rfl ?_
      exact ⟨v5, v6, by first | rfl | (simp; done), by (with_reducible repeat (first | apply Kd.R_alloc | apply Kd.R_drewN | apply Kd.R_drew)); exact Kd.R_mono HR5.out (fun _ _ => trivial), by (with_reducible repeat (first | apply Kd.R_alloc | apply Kd.R_drewN | apply Kd.R_drew)); exact Kd.R_mono HR6.out (fun _ _ => trivial), by repeat (first | (with_reducible first | exact HB8.out | apply below_alloc | apply pw_below_drewN | apply below_drew1) | exact HB8.out)⟩
    · rw [chk_neg (fun m => hT m.2)] at h
      obtain ⟨rfl, rfl, rfl, rfl⟩ : [] = r1 ∧ [] = r2 ∧ 0 = r3 ∧ false = r4 := by
        injection h with e1 h
        injection h with e2 h
        injection h with e3 h
        exact ⟨e1, e2, e3, h⟩
      have HL : Aside0 (decide (longAt a0 l1 l1.length 0 ≥ 0) = true) := Aside0.mk (by rw [short_long, chk_neg hT])
      clear hS hT h
      go_enter Try.func42, Try.ntmps42
      go_wp2_with (first | ((with_reducible refine gate_dst (N := 2) rfl ?_); refine box_event ?hg2 (N := 2) ?hd2 (cs := #[.int .i64 a0]) (t := 3) ?hr2 ?_; (case hd2 => rfl); (case hg2 => rfl); (case hr2 => first | (go_simp; done) | (go_simp; rfl)); intro g1 hgg1 w1 hboxg1 hbg1; have HX1 := Aside0.mk hboxg1; have HB1 := Aside0.mk hbg1; clear hgg1 hboxg1 hbg1) | ((with_reducible refine gate_dst (N := 3) rfl ?_); refine box_event ?hg3 (N := 3) ?hd3 (cs := #[.slice A1 l1.length c1]) (t := 27) ?hr3 ?_; (case hd3 => rfl); (case hg3 => rfl); (case hr3 => first | (go_simp; done) | (go_simp; rfl)); intro g2 hgg2 w2 hboxg2 hbg2; have HB2 := Aside0.mk hbg2; have hz1 : w2.cell? ⟨g1, 0, none⟩ = some (.int .i64 a0) := below_cell hbg2 ((blk_cell HX1.out 0).trans rfl); have hz2 : w2.cell? ⟨g2, 0, none⟩ = some (.slice A1 l1.length c1) := (blk_cell hboxg2 0).trans rfl; clear hgg2 hboxg2 hbg2) | (go_at_call 52; refine (impl_areShips.calls a0 A1 c1 l1 true _ (Kd.C_below HR.out (below_step HB1.out HB2.out)) hc1 HA.out).mono ?_; rintro e w3 ⟨rfl, hd3⟩; have HB3 := Aside0.mk hd3; have hz3 := below_cell hd3 hz1; have hz4 := below_cell hd3 hz2; clear hd3) | (go_at_call 69; refine (cont70 a0 g1 A1 c1 l1 true _ hz3 (Kd.C_below HR.out (below_step HB1.out (below_step HB2.out HB3.out))) hc1 HL.out).mono ?_; rintro e w4 ⟨rfl, hd4⟩; have HB4 := Aside0.mk (below_step HB3.out hd4); clear hd4))
      refine bodyPost_ret (results_list (rs := [.tmp 4, .tmp 5, .tmp 6, .tmp 7]) rfl (by simp) (.tmp (.tmp (.tmp (.tmp .nil))))) rfl ?_
      exact ⟨.slice none 0 0, .slice none 0 0, by first | rfl | (simp; done), Kd.R_nil _ _ _ _ _, Kd.R_nil _ _ _ _ _, below_step HB1.out (below_step HB2.out HB4.out)⟩
  · have HA : Aside0 (impl_areShips.f a0 l1 = some false) := Aside0.mk (by rw [impl_ships, chk_neg hS])
    rw [chk_neg (fun m => hS m.1)] at h
    obtain ⟨rfl, rfl, rfl, rfl⟩ : [] = r1 ∧ [] = r2 ∧ 0 = r3 ∧ false = r4 := by
      injection h with e1 h
      injection h with e2 h
      injection h with e3 h
      exact ⟨e1, e2, e3, h⟩
    clear hS h
    go_enter Try.func42, Try.ntmps42
    go_wp2_with (first | ((with_reducible refine gate_dst (N := 2) rfl ?_); refine box_event ?hg2 (N := 2) ?hd2 (cs := #[.int .i64 a0]) (t := 3) ?hr2 ?_; (case hd2 => rfl); (case hg2 => rfl); (case hr2 => first | (go_simp; done) | (go_simp; rfl)); intro g1 hgg1 w1 hboxg1 hbg1; have HX1 := Aside0.mk hboxg1; have HB1 := Aside0.mk hbg1; clear hgg1 hboxg1 hbg1) | ((with_reducible refine gate_dst (N := 3) rfl ?_); refine box_event ?hg3 (N := 3) ?hd3 (cs := #[.slice A1 l1.length c1]) (t := 27) ?hr3 ?_; (case hd3 => rfl); (case hg3 => rfl); (case hr3 => first | (go_simp; done) | (go_simp; rfl)); intro g2 hgg2 w2 hboxg2 hbg2; have HB2 := Aside0.mk hbg2; have hz1 : w2.cell? ⟨g1, 0, none⟩ = some (.int .i64 a0) := below_cell hbg2 ((blk_cell HX1.out 0).trans rfl); have hz2 : w2.cell? ⟨g2, 0, none⟩ = some (.slice A1 l1.length c1) := (blk_cell hboxg2 0).trans rfl; clear hgg2 hboxg2 hbg2) | (go_at_call 52; refine (impl_areShips.calls a0 A1 c1 l1 false _ (Kd.C_below HR.out (below_step HB1.out HB2.out)) hc1 HA.out).mono ?_; rintro e w3 ⟨rfl, hd3⟩; have HB3 := Aside0.mk hd3; clear hd3))
    refine bodyPost_ret (results_list (rs := [.tmp 4, .tmp 5, .tmp 6, .tmp 7]) rfl (by simp) (.tmp (.tmp (.tmp (.tmp .nil))))) rfl ?_
    exact ⟨.slice none 0 0, .slice none 0 0, by first | rfl | (simp; done), Kd.R_nil _ _ _ _ _, Kd.R_nil _ _ _ _ _, below_step HB1.out (below_step HB2.out HB3.out)⟩
end Go.Proofs.Ytcciljjnpfgaeaa.G

-- Written by wip/tools/gen.py out of the translation (the kit's printer, one namespace a seat). Lean checks it.
namespace Go.Proofs.Ytcciljjnpfgaeaa.G
open Go.RowKit Go.Proofs.YtcciljjnpfgaeaaW.PrintWords Go.Proofs.YtcciljjnpfgaeaaW.PrintLast Go.Proofs.YtcciljjnpfgaeaaW.PrintMore
attribute [local go_sem] max2_int min2_int max_two min_two max_three min_three max_four min_four   -- for this text's walks alone
set_option linter.unusedVariables false
set_option linter.unusedSimpArgs false

/-! ### laws_FnBerths: function 11 -/
mutual
noncomputable def laws_FnBerths.j0 : Nat → Int → List (S62) → List Int → List Int → List (S37) → Int → Bool → Bool → Option (Bool)
 | 0, _, _, _, _, _, _, _, _ => none
 | k + 1, x3, x4, x5, x6, x7, x8, x9, x72 => if x72 = true then (some false) else ((impl_PlanInOrder.f k x3 x4 x5).bind fun bt927 => ((spec_PlanInOrder.f k x3 x4 x5).bind fun bt932 => (if (bt927.2.2 != bt932.2.2) = true then (laws_FnBerths.j1 k x3 x4 x6 x7 x8 x9 bt927.1 bt927.2.1 bt927.2.2 true) else (if bt927.2.1 = bt932.2.1 then ((laws_vBerths.f k bt927.1 bt932.1).bind fun t937 => (laws_FnBerths.j1 k x3 x4 x6 x7 x8 x9 bt927.1 bt927.2.1 bt927.2.2 (!t937))) else (laws_FnBerths.j1 k x3 x4 x6 x7 x8 x9 bt927.1 bt927.2.1 bt927.2.2 true)))))
noncomputable def laws_FnBerths.j1 : Nat → Int → List (S62) → List Int → List (S37) → Int → Bool → List (S37) → Int → Bool → Bool → Option (Bool)
 | 0, _, _, _, _, _, _, _, _, _, _ => none
 | k + 1, x3, x4, x6, x7, x8, x9, x14, x15, x16, x102 => if x102 = true then (some false) else (if x16 = true then (if x9 = true then (if x15 < x8 then (laws_FnBerths.j2 k x3 x4 x6 x7 x8 x9 true) else ((impl_IsPossiblePlan.f k x3 x4 x14).bind fun t938 => (laws_FnBerths.j2 k x3 x4 x6 x7 x8 x9 (!t938)))) else (laws_FnBerths.j2 k x3 x4 x6 x7 x8 x9 true)) else (laws_FnBerths.j2 k x3 x4 x6 x7 x8 x9 false))
noncomputable def laws_FnBerths.j2 : Nat → Int → List (S62) → List Int → List (S37) → Int → Bool → Bool → Option (Bool)
 | 0, _, _, _, _, _, _, _ => none
 | k + 1, x3, x4, x6, x7, x8, x9, x119 => if x119 = true then (some false) else (if x9 = true then ((impl_PlanInOrder.f k x3 x4 x6).bind fun bt939 => ((impl_PlanCost.f k x3 x4 x7).bind fun bt944 => ((impl_WaitOf.f k x3 x4 x7).bind fun bt946 => (laws_FnBerths.l0 k x4 x7 x8 bt939.1 bt939.2.1 bt939.2.2 bt944.1 bt944.2 bt946.1 bt946.2 0 0)))) else (some ((x7.length : Int) == 0)))
noncomputable def laws_FnBerths.l0 : Nat → List (S62) → List (S37) → Int → List (S37) → Int → Bool → Int → Bool → List Int → Bool → Int → Int → Option (Bool)
 | 0, _, _, _, _, _, _, _, _, _, _, _, _ => none
 | k + 1, x4, x7, x8, x20, x21, x22, x23, x24, x25, x26, x27, x28 => if x28 < (x25.length : Int) then (if x28 < (x4.length : Int) then (if 0 ≤ x28 then (laws_FnBerths.l0 k x4 x7 x8 x20 x21 x22 x23 x24 x25 x26 (wrap64 (x27 + (wrap64 ((rd x25 x28) * ((rd_T62 x4 x28).f3))))) (wrap64 (x28 + 1))) else (none)) else (if x22 = true then (if x21 = x8 then ((laws_vBerths.f k x20 x7).bind fun t952 => (if t952 = true then (if x24 = true then (if x23 = x8 then (if x26 = true then (some (x27 == x8)) else (some false)) else (some false)) else (some false)) else (some false))) else (some false)) else (some false))) else (if x22 = true then (if x21 = x8 then ((laws_vBerths.f k x20 x7).bind fun t953 => (if t953 = true then (if x24 = true then (if x23 = x8 then (if x26 = true then (some (x27 == x8)) else (some false)) else (some false)) else (some false)) else (some false))) else (some false)) else (some false))
end
noncomputable def laws_FnBerths.f (k : Nat) (l0 : List Int) : Option (Bool) := (laws_vBig.f l0).bind fun t901 => (if t901 = true then (some true) else ((spec_DrawPlanInOrder.f k l0).bind fun bt902 => ((impl_BestOrder.f bt902.1 bt902.2.1).bind fun bt909 => ((spec_BestOrder.f k bt902.1 bt902.2.1).bind fun bt917 => (if (bt909.2.2.2 != bt917.2.2.2) = true then (laws_FnBerths.j0 k bt902.1 bt902.2.1 bt902.2.2 bt909.1 bt909.2.1 bt909.2.2.1 bt909.2.2.2 true) else (if bt909.2.2.1 = bt917.2.2.1 then ((laws_vInts.f k bt909.1 bt917.1).bind fun t925 => (if t925 = true then ((laws_vBerths.f k bt909.2.1 bt917.2.1).bind fun t926 => (laws_FnBerths.j0 k bt902.1 bt902.2.1 bt902.2.2 bt909.1 bt909.2.1 bt909.2.2.1 bt909.2.2.2 (!t926))) else (laws_FnBerths.j0 k bt902.1 bt902.2.1 bt902.2.2 bt909.1 bt909.2.1 bt909.2.2.1 bt909.2.2.2 true))) else (laws_FnBerths.j0 k bt902.1 bt902.2.1 bt902.2.2 bt909.1 bt909.2.1 bt909.2.2.1 bt909.2.2.2 true)))))))
set_option maxHeartbeats 8000000 in
set_option maxRecDepth 100000 in
theorem laws_FnBerths.calls (k : Nat) (A0 : Option Addr) (c0 : Nat) (l0 : List Int) (r : Bool) (w : World) (hr0 : Kd.C (Kd.int .u8) w A0 l0.length l0) (hc0 : l0.length ≤ c0) (h : laws_FnBerths.f k l0 = some r) :
  Calls Try.prog 11 #[.slice A0 l0.length c0] w fun e w' => e = .returned (.bool r) ∧ Below w.heap.size w w' := by
 have HR0 := zM hr0
 have HC0 := zM hc0
 clear hr0 hc0
 have HB := zM (Below.refl w.heap.size w)
 have H : ((laws_vBig.f l0).bind fun t901 => (if t901 = true then (some true) else ((spec_DrawPlanInOrder.f k l0).bind fun bt902 => ((impl_BestOrder.f bt902.1 bt902.2.1).bind fun bt909 => ((spec_BestOrder.f k bt902.1 bt902.2.1).bind fun bt917 => (if (bt909.2.2.2 != bt917.2.2.2) = true then (laws_FnBerths.j0 k bt902.1 bt902.2.1 bt902.2.2 bt909.1 bt909.2.1 bt909.2.2.1 bt909.2.2.2 true) else (if bt909.2.2.1 = bt917.2.2.1 then ((laws_vInts.f k bt909.1 bt917.1).bind fun t925 => (if t925 = true then ((laws_vBerths.f k bt909.2.1 bt917.2.1).bind fun t926 => (laws_FnBerths.j0 k bt902.1 bt902.2.1 bt902.2.2 bt909.1 bt909.2.1 bt909.2.2.1 bt909.2.2.2 (!t926))) else (laws_FnBerths.j0 k bt902.1 bt902.2.1 bt902.2.2 bt909.1 bt909.2.1 bt909.2.2.1 bt909.2.2.2 true))) else (laws_FnBerths.j0 k bt902.1 bt902.2.1 bt902.2.2 bt909.1 bt909.2.1 bt909.2.2.1 bt909.2.2.2 true)))))))) = some r := h
 clear h
 replace H := Option.bind_eq_some_iff.mp H
 obtain ⟨t901, A20, H⟩ := H
 replace H : (if t901 = true then (some true) else ((spec_DrawPlanInOrder.f k l0).bind fun bt902 => ((impl_BestOrder.f bt902.1 bt902.2.1).bind fun bt909 => ((spec_BestOrder.f k bt902.1 bt902.2.1).bind fun bt917 => (if (bt909.2.2.2 != bt917.2.2.2) = true then (laws_FnBerths.j0 k bt902.1 bt902.2.1 bt902.2.2 bt909.1 bt909.2.1 bt909.2.2.1 bt909.2.2.2 true) else (if bt909.2.2.1 = bt917.2.2.1 then ((laws_vInts.f k bt909.1 bt917.1).bind fun t925 => (if t925 = true then ((laws_vBerths.f k bt909.2.1 bt917.2.1).bind fun t926 => (laws_FnBerths.j0 k bt902.1 bt902.2.1 bt902.2.2 bt909.1 bt909.2.1 bt909.2.2.1 bt909.2.2.2 (!t926))) else (laws_FnBerths.j0 k bt902.1 bt902.2.1 bt902.2.2 bt909.1 bt909.2.1 bt909.2.2.1 bt909.2.2.2 true))) else (laws_FnBerths.j0 k bt902.1 bt902.2.1 bt902.2.2 bt909.1 bt909.2.1 bt909.2.2.1 bt909.2.2.2 true))))))) = some r := H
 have A2 := zM A20
 clear A20
 by_cases c3 : t901 = true
 ·as_aux_lemma =>
  subst c3
  have H1 : (some true) = some r := by rw [if_pos rfl] at H; exact H
  clear H
  have H := H1
  clear H1
  obtain rfl := Option.some.inj H
  go_enter Try.func11, Try.ntmps11
  go_wp2_with (first | (go_at_call 43; (with_reducible refine (laws_vBig.calls _ _ l0 true _ ?side1 ?side2 A2.out).mono ?_); (case side1 => repeat (first | exact HR0.out | (with_reducible refine zG ?_ _) | (with_reducible refine zH ?_ _) | (with_reducible refine zI ?_))); (case side2 => exact HC0.out); rintro e w' ⟨rfl, ⟨nd, rfl⟩⟩; (try first | exact ⟨rfl, _, World.drewN_drewN _ _ _⟩ | exact ⟨rfl, _, Eq.trans (World.drewN_drewN _ _ _) (congrArg (World.drewN _) (Nat.add_assoc _ _ _))⟩)))
  repeat (go_quiet (first | (go_at_call 43; (with_reducible refine (laws_vBig.calls _ _ l0 true _ ?side1 ?side2 A2.out).mono ?_); (case side1 => repeat (first | exact HR0.out | (with_reducible refine zG ?_ _) | (with_reducible refine zH ?_ _) | (with_reducible refine zI ?_))); (case side2 => exact HC0.out); rintro e w' ⟨rfl, ⟨nd, rfl⟩⟩; (try first | exact ⟨rfl, _, World.drewN_drewN _ _ _⟩ | exact ⟨rfl, _, Eq.trans (World.drewN_drewN _ _ _) (congrArg (World.drewN _) (Nat.add_assoc _ _ _))⟩))); try go_wp2_with (first | (go_at_call 43; (with_reducible refine (laws_vBig.calls _ _ l0 true _ ?side1 ?side2 A2.out).mono ?_); (case side1 => repeat (first | exact HR0.out | (with_reducible refine zG ?_ _) | (with_reducible refine zH ?_ _) | (with_reducible refine zI ?_))); (case side2 => exact HC0.out); rintro e w' ⟨rfl, ⟨nd, rfl⟩⟩; (try first | exact ⟨rfl, _, World.drewN_drewN _ _ _⟩ | exact ⟨rfl, _, Eq.trans (World.drewN_drewN _ _ _) (congrArg (World.drewN _) (Nat.add_assoc _ _ _))⟩))))
  go_ret
  exact ⟨by first | rfl | (simp [errW_none, errW_some] <;> rfl) | (simp [*, errW_none, errW_some] <;> rfl), by repeat (first | (with_reducible first | exact HB.out | apply zD | apply zE | apply zF) | exact HB.out)⟩
 ·as_aux_lemma =>
  replace c3 := Bool.eq_false_iff.mpr c3
  subst c3
  have H1 : ((spec_DrawPlanInOrder.f k l0).bind fun bt902 => ((impl_BestOrder.f bt902.1 bt902.2.1).bind fun bt909 => ((spec_BestOrder.f k bt902.1 bt902.2.1).bind fun bt917 => (if (bt909.2.2.2 != bt917.2.2.2) = true then (laws_FnBerths.j0 k bt902.1 bt902.2.1 bt902.2.2 bt909.1 bt909.2.1 bt909.2.2.1 bt909.2.2.2 true) else (if bt909.2.2.1 = bt917.2.2.1 then ((laws_vInts.f k bt909.1 bt917.1).bind fun t925 => (if t925 = true then ((laws_vBerths.f k bt909.2.1 bt917.2.1).bind fun t926 => (laws_FnBerths.j0 k bt902.1 bt902.2.1 bt902.2.2 bt909.1 bt909.2.1 bt909.2.2.1 bt909.2.2.2 (!t926))) else (laws_FnBerths.j0 k bt902.1 bt902.2.1 bt902.2.2 bt909.1 bt909.2.1 bt909.2.2.1 bt909.2.2.2 true))) else (laws_FnBerths.j0 k bt902.1 bt902.2.1 bt902.2.2 bt909.1 bt909.2.1 bt909.2.2.1 bt909.2.2.2 true)))))) = some r := by rw [if_neg (show ¬ (false = true) by decide)] at H; exact H
  clear H
  have H := H1
  clear H1
  replace H := Option.bind_eq_some_iff.mp H
  obtain ⟨⟨t902, t903, t904⟩, A40, H⟩ := H
  replace H : ((impl_BestOrder.f t902 t903).bind fun bt909 => ((spec_BestOrder.f k t902 t903).bind fun bt917 => (if (bt909.2.2.2 != bt917.2.2.2) = true then (laws_FnBerths.j0 k t902 t903 t904 bt909.1 bt909.2.1 bt909.2.2.1 bt909.2.2.2 true) else (if bt909.2.2.1 = bt917.2.2.1 then ((laws_vInts.f k bt909.1 bt917.1).bind fun t925 => (if t925 = true then ((laws_vBerths.f k bt909.2.1 bt917.2.1).bind fun t926 => (laws_FnBerths.j0 k t902 t903 t904 bt909.1 bt909.2.1 bt909.2.2.1 bt909.2.2.2 (!t926))) else (laws_FnBerths.j0 k t902 t903 t904 bt909.1 bt909.2.1 bt909.2.2.1 bt909.2.2.2 true))) else (laws_FnBerths.j0 k t902 t903 t904 bt909.1 bt909.2.1 bt909.2.2.1 bt909.2.2.2 true))))) = some r := H
  have A4 := zM A40
  clear A40
  replace H := Option.bind_eq_some_iff.mp H
  obtain ⟨⟨t909, t910, t911, t912⟩, A50, H⟩ := H
  replace H : ((spec_BestOrder.f k t902 t903).bind fun bt917 => (if (t912 != bt917.2.2.2) = true then (laws_FnBerths.j0 k t902 t903 t904 t909 t910 t911 t912 true) else (if t911 = bt917.2.2.1 then ((laws_vInts.f k t909 bt917.1).bind fun t925 => (if t925 = true then ((laws_vBerths.f k t910 bt917.2.1).bind fun t926 => (laws_FnBerths.j0 k t902 t903 t904 t909 t910 t911 t912 (!t926))) else (laws_FnBerths.j0 k t902 t903 t904 t909 t910 t911 t912 true))) else (laws_FnBerths.j0 k t902 t903 t904 t909 t910 t911 t912 true)))) = some r := H
  have A5 := zM A50
  clear A50
  replace H := Option.bind_eq_some_iff.mp H
  obtain ⟨⟨t917, t918, t919, t920⟩, A60, H⟩ := H
  replace H : (if (t912 != t920) = true then (laws_FnBerths.j0 k t902 t903 t904 t909 t910 t911 t912 true) else (if t911 = t919 then ((laws_vInts.f k t909 t917).bind fun t925 => (if t925 = true then ((laws_vBerths.f k t910 t918).bind fun t926 => (laws_FnBerths.j0 k t902 t903 t904 t909 t910 t911 t912 (!t926))) else (laws_FnBerths.j0 k t902 t903 t904 t909 t910 t911 t912 true))) else (laws_FnBerths.j0 k t902 t903 t904 t909 t910 t911 t912 true))) = some r := H
  have A6 := zM A60
  clear A60
  have HC7 := zM H
  clear H
  go_enter Try.func11, Try.ntmps11
  go_upto_region 6 with (first | (go_at_call 43; (with_reducible refine (laws_vBig.calls _ _ l0 false _ ?side1 ?side2 A2.out).mono ?_); (case side1 => repeat (first | exact HR0.out | (with_reducible refine zG ?_ _) | (with_reducible refine zH ?_ _) | (with_reducible refine zI ?_))); (case side2 => exact HC0.out); rintro e w' ⟨rfl, ⟨nd, rfl⟩⟩; (try first | exact ⟨rfl, _, World.drewN_drewN _ _ _⟩ | exact ⟨rfl, _, Eq.trans (World.drewN_drewN _ _ _) (congrArg (World.drewN _) (Nat.add_assoc _ _ _))⟩)) | (go_at_call 44; (with_reducible refine (spec_DrawPlanInOrder.calls k _ _ l0 t902 t903 t904 _ ?side1 ?side2 A4.out).mono ?_); (case side1 => repeat (first | exact HR0.out | (with_reducible refine zG ?_ _) | (with_reducible refine zH ?_ _) | (with_reducible refine zI ?_))); (case side2 => exact HC0.out); rintro e w8 ⟨v905, v907, rfl, ho0, ho1, hb⟩; have n0_ := zM (Kd.R_lower ho0 (zR (by repeat (first | (with_reducible first | exact HB.out | apply zD | apply zE | apply zF) | exact HB.out)))); have n1_ := zM (Kd.R_lower ho1 (zR (by repeat (first | (with_reducible first | exact HB.out | apply zD | apply zE | apply zF) | exact HB.out)))); have n2_ := zM (zQ (by repeat (first | (with_reducible first | exact HB.out | apply zD | apply zE | apply zF) | exact HB.out)) hb); clear HB; have HO906 := n0_; have HO908 := n1_; have HB := n2_; clear n0_ n1_ n2_; (try clear hb); (try clear hb2); (try clear hk); (try clear hi); (try clear ho0); (try clear ho1); obtain ⟨Ao9, co9, eo9⟩ := Kd.R_slice HO906.out; subst eo9) | (go_at_call 42; (with_reducible refine (impl_BestOrder.calls t902 _ _ t903 t909 t910 t911 t912 _ ?side1 ?side2 A5.out).mono ?_); (case side1 => repeat (first | exact (zN HO906.out).2.2 | (with_reducible refine zG ?_ _) | (with_reducible refine zH ?_ _) | (with_reducible refine zI ?_))); (case side2 => exact (zN HO906.out).2.1); rintro e w10 ⟨v913, v915, rfl, ho0, ho1, hb⟩; have n0_ := zM (zP (by (with_reducible repeat (first | apply zA | apply zB | apply zC)); exact HO906.out) hb); have n1_ := zM (Kd.R_elder' (by (with_reducible repeat (first | apply zA | apply zB | apply zC)); exact HO908.out) (Kd.R_base ho0) hb); have n2_ := zM (Kd.R_lower (Kd.R_new' ho0 (Kd.R_lt (by (with_reducible repeat (first | apply zA | apply zB | apply zC)); exact HO908.out))) (zR (by repeat (first | (with_reducible first | exact HB.out | apply zD | apply zE | apply zF) | exact HB.out)))); have n3_ := zM (Kd.R_lower ho1 (zR (by repeat (first | (with_reducible first | exact HB.out | apply zD | apply zE | apply zF) | exact HB.out)))); have n4_ := zM (zQ (by repeat (first | (with_reducible first | exact HB.out | apply zD | apply zE | apply zF) | exact HB.out)) hb); clear HO906; clear HO908; clear HB; have HO906 := n0_; have HO908 := n1_; have HO914 := n2_; have HO916 := n3_; have HB := n4_; clear n0_ n1_ n2_ n3_ n4_; (try clear hb); (try clear hb2); (try clear hk); (try clear hi); (try clear ho0); (try clear ho1)) | (go_at_call 41; (with_reducible refine (spec_BestOrder.calls k t902 _ _ t903 t917 t918 t919 t920 _ ?side1 ?side2 A6.out).mono ?_); (case side1 => repeat (first | exact (zN HO906.out).2.2 | (with_reducible refine zG ?_ _) | (with_reducible refine zH ?_ _) | (with_reducible refine zI ?_))); (case side2 => exact (zN HO906.out).2.1); rintro e w11 ⟨v921, v923, rfl, ho0, ho1, hb⟩; have n0_ := zM (zP (by (with_reducible repeat (first | apply zA | apply zB | apply zC)); exact HO906.out) hb); have n1_ := zM (Kd.R_elder' (by (with_reducible repeat (first | apply zA | apply zB | apply zC)); exact HO908.out) (Kd.R_base ho0) hb); have n2_ := zM (Kd.R_elder' (by (with_reducible repeat (first | apply zA | apply zB | apply zC)); exact HO914.out) (Kd.R_base ho0) hb); have n3_ := zM (Kd.R_elder' (by (with_reducible repeat (first | apply zA | apply zB | apply zC)); exact HO916.out) (Kd.R_base ho1) hb); have n4_ := zM (Kd.R_lower (Kd.R_new' (Kd.R_new' ho0 (Kd.R_lt (by (with_reducible repeat (first | apply zA | apply zB | apply zC)); exact HO908.out))) (Kd.R_lt (by (with_reducible repeat (first | apply zA | apply zB | apply zC)); exact HO914.out))) (zR (by repeat (first | (with_reducible first | exact HB.out | apply zD | apply zE | apply zF) | exact HB.out)))); have n5_ := zM (Kd.R_lower (Kd.R_new' ho1 (Kd.R_lt (by (with_reducible repeat (first | apply zA | apply zB | apply zC)); exact HO916.out))) (zR (by repeat (first | (with_reducible first | exact HB.out | apply zD | apply zE | apply zF) | exact HB.out)))); have n6_ := zM (zQ (by repeat (first | (with_reducible first | exact HB.out | apply zD | apply zE | apply zF) | exact HB.out)) hb); clear HO906; clear HO908; clear HO914; clear HO916; clear HB; have HO906 := n0_; have HO908 := n1_; have HO914 := n2_; have HO916 := n3_; have HO922 := n4_; have HO924 := n5_; have HB := n6_; clear n0_ n1_ n2_ n3_ n4_ n5_ n6_; (try clear hb); (try clear hb2); (try clear hk); (try clear hi); (try clear ho0); (try clear ho1)))
  repeat (go_quiet (first | (go_at_call 43; (with_reducible refine (laws_vBig.calls _ _ l0 false _ ?side1 ?side2 A2.out).mono ?_); (case side1 => repeat (first | exact HR0.out | (with_reducible refine zG ?_ _) | (with_reducible refine zH ?_ _) | (with_reducible refine zI ?_))); (case side2 => exact HC0.out); rintro e w' ⟨rfl, ⟨nd, rfl⟩⟩; (try first | exact ⟨rfl, _, World.drewN_drewN _ _ _⟩ | exact ⟨rfl, _, Eq.trans (World.drewN_drewN _ _ _) (congrArg (World.drewN _) (Nat.add_assoc _ _ _))⟩)) | (go_at_call 44; (with_reducible refine (spec_DrawPlanInOrder.calls k _ _ l0 t902 t903 t904 _ ?side1 ?side2 A4.out).mono ?_); (case side1 => repeat (first | exact HR0.out | (with_reducible refine zG ?_ _) | (with_reducible refine zH ?_ _) | (with_reducible refine zI ?_))); (case side2 => exact HC0.out); rintro e w8 ⟨v905, v907, rfl, ho0, ho1, hb⟩; have n0_ := zM (Kd.R_lower ho0 (zR (by repeat (first | (with_reducible first | exact HB.out | apply zD | apply zE | apply zF) | exact HB.out)))); have n1_ := zM (Kd.R_lower ho1 (zR (by repeat (first | (with_reducible first | exact HB.out | apply zD | apply zE | apply zF) | exact HB.out)))); have n2_ := zM (zQ (by repeat (first | (with_reducible first | exact HB.out | apply zD | apply zE | apply zF) | exact HB.out)) hb); clear HB; have HO906 := n0_; have HO908 := n1_; have HB := n2_; clear n0_ n1_ n2_; (try clear hb); (try clear hb2); (try clear hk); (try clear hi); (try clear ho0); (try clear ho1); obtain ⟨Ao9, co9, eo9⟩ := Kd.R_slice HO906.out; subst eo9) | (go_at_call 42; (with_reducible refine (impl_BestOrder.calls t902 _ _ t903 t909 t910 t911 t912 _ ?side1 ?side2 A5.out).mono ?_); (case side1 => repeat (first | exact (zN HO906.out).2.2 | (with_reducible refine zG ?_ _) | (with_reducible refine zH ?_ _) | (with_reducible refine zI ?_))); (case side2 => exact (zN HO906.out).2.1); rintro e w10 ⟨v913, v915, rfl, ho0, ho1, hb⟩; have n0_ := zM (zP (by (with_reducible repeat (first | apply zA | apply zB | apply zC)); exact HO906.out) hb); have n1_ := zM (Kd.R_elder' (by (with_reducible repeat (first | apply zA | apply zB | apply zC)); exact HO908.out) (Kd.R_base ho0) hb); have n2_ := zM (Kd.R_lower (Kd.R_new' ho0 (Kd.R_lt (by (with_reducible repeat (first | apply zA | apply zB | apply zC)); exact HO908.out))) (zR (by repeat (first | (with_reducible first | exact HB.out | apply zD | apply zE | apply zF) | exact HB.out)))); have n3_ := zM (Kd.R_lower ho1 (zR (by repeat (first | (with_reducible first | exact HB.out | apply zD | apply zE | apply zF) | exact HB.out)))); have n4_ := zM (zQ (by repeat (first | (with_reducible first | exact HB.out | apply zD | apply zE | apply zF) | exact HB.out)) hb); clear HO906; clear HO908; clear HB; have HO906 := n0_; have HO908 := n1_; have HO914 := n2_; have HO916 := n3_; have HB := n4_; clear n0_ n1_ n2_ n3_ n4_; (try clear hb); (try clear hb2); (try clear hk); (try clear hi); (try clear ho0); (try clear ho1)) | (go_at_call 41; (with_reducible refine (spec_BestOrder.calls k t902 _ _ t903 t917 t918 t919 t920 _ ?side1 ?side2 A6.out).mono ?_); (case side1 => repeat (first | exact (zN HO906.out).2.2 | (with_reducible refine zG ?_ _) | (with_reducible refine zH ?_ _) | (with_reducible refine zI ?_))); (case side2 => exact (zN HO906.out).2.1); rintro e w11 ⟨v921, v923, rfl, ho0, ho1, hb⟩; have n0_ := zM (zP (by (with_reducible repeat (first | apply zA | apply zB | apply zC)); exact HO906.out) hb); have n1_ := zM (Kd.R_elder' (by (with_reducible repeat (first | apply zA | apply zB | apply zC)); exact HO908.out) (Kd.R_base ho0) hb); have n2_ := zM (Kd.R_elder' (by (with_reducible repeat (first | apply zA | apply zB | apply zC)); exact HO914.out) (Kd.R_base ho0) hb); have n3_ := zM (Kd.R_elder' (by (with_reducible repeat (first | apply zA | apply zB | apply zC)); exact HO916.out) (Kd.R_base ho1) hb); have n4_ := zM (Kd.R_lower (Kd.R_new' (Kd.R_new' ho0 (Kd.R_lt (by (with_reducible repeat (first | apply zA | apply zB | apply zC)); exact HO908.out))) (Kd.R_lt (by (with_reducible repeat (first | apply zA | apply zB | apply zC)); exact HO914.out))) (zR (by repeat (first | (with_reducible first | exact HB.out | apply zD | apply zE | apply zF) | exact HB.out)))); have n5_ := zM (Kd.R_lower (Kd.R_new' ho1 (Kd.R_lt (by (with_reducible repeat (first | apply zA | apply zB | apply zC)); exact HO916.out))) (zR (by repeat (first | (with_reducible first | exact HB.out | apply zD | apply zE | apply zF) | exact HB.out)))); have n6_ := zM (zQ (by repeat (first | (with_reducible first | exact HB.out | apply zD | apply zE | apply zF) | exact HB.out)) hb); clear HO906; clear HO908; clear HO914; clear HO916; clear HB; have HO906 := n0_; have HO908 := n1_; have HO914 := n2_; have HO916 := n3_; have HO922 := n4_; have HO924 := n5_; have HB := n6_; clear n0_ n1_ n2_ n3_ n4_ n5_ n6_; (try clear hb); (try clear hb2); (try clear hk); (try clear hi); (try clear ho0); (try clear ho1))); go_upto_region 6 with (first | (go_at_call 43; (with_reducible refine (laws_vBig.calls _ _ l0 false _ ?side1 ?side2 A2.out).mono ?_); (case side1 => repeat (first | exact HR0.out | (with_reducible refine zG ?_ _) | (with_reducible refine zH ?_ _) | (with_reducible refine zI ?_))); (case side2 => exact HC0.out); rintro e w' ⟨rfl, ⟨nd, rfl⟩⟩; (try first | exact ⟨rfl, _, World.drewN_drewN _ _ _⟩ | exact ⟨rfl, _, Eq.trans (World.drewN_drewN _ _ _) (congrArg (World.drewN _) (Nat.add_assoc _ _ _))⟩)) | (go_at_call 44; (with_reducible refine (spec_DrawPlanInOrder.calls k _ _ l0 t902 t903 t904 _ ?side1 ?side2 A4.out).mono ?_); (case side1 => repeat (first | exact HR0.out | (with_reducible refine zG ?_ _) | (with_reducible refine zH ?_ _) | (with_reducible refine zI ?_))); (case side2 => exact HC0.out); rintro e w8 ⟨v905, v907, rfl, ho0, ho1, hb⟩; have n0_ := zM (Kd.R_lower ho0 (zR (by repeat (first | (with_reducible first | exact HB.out | apply zD | apply zE | apply zF) | exact HB.out)))); have n1_ := zM (Kd.R_lower ho1 (zR (by repeat (first | (with_reducible first | exact HB.out | apply zD | apply zE | apply zF) | exact HB.out)))); have n2_ := zM (zQ (by repeat (first | (with_reducible first | exact HB.out | apply zD | apply zE | apply zF) | exact HB.out)) hb); clear HB; have HO906 := n0_; have HO908 := n1_; have HB := n2_; clear n0_ n1_ n2_; (try clear hb); (try clear hb2); (try clear hk); (try clear hi); (try clear ho0); (try clear ho1); obtain ⟨Ao9, co9, eo9⟩ := Kd.R_slice HO906.out; subst eo9) | (go_at_call 42; (with_reducible refine (impl_BestOrder.calls t902 _ _ t903 t909 t910 t911 t912 _ ?side1 ?side2 A5.out).mono ?_); (case side1 => repeat (first | exact (zN HO906.out).2.2 | (with_reducible refine zG ?_ _) | (with_reducible refine zH ?_ _) | (with_reducible refine zI ?_))); (case side2 => exact (zN HO906.out).2.1); rintro e w10 ⟨v913, v915, rfl, ho0, ho1, hb⟩; have n0_ := zM (zP (by (with_reducible repeat (first | apply zA | apply zB | apply zC)); exact HO906.out) hb); have n1_ := zM (Kd.R_elder' (by (with_reducible repeat (first | apply zA | apply zB | apply zC)); exact HO908.out) (Kd.R_base ho0) hb); have n2_ := zM (Kd.R_lower (Kd.R_new' ho0 (Kd.R_lt (by (with_reducible repeat (first | apply zA | apply zB | apply zC)); exact HO908.out))) (zR (by repeat (first | (with_reducible first | exact HB.out | apply zD | apply zE | apply zF) | exact HB.out)))); have n3_ := zM (Kd.R_lower ho1 (zR (by repeat (first | (with_reducible first | exact HB.out | apply zD | apply zE | apply zF) | exact HB.out)))); have n4_ := zM (zQ (by repeat (first | (with_reducible first | exact HB.out | apply zD | apply zE | apply zF) | exact HB.out)) hb); clear HO906; clear HO908; clear HB; have HO906 := n0_; have HO908 := n1_; have HO914 := n2_; have HO916 := n3_; have HB := n4_; clear n0_ n1_ n2_ n3_ n4_; (try clear hb); (try clear hb2); (try clear hk); (try clear hi); (try clear ho0); (try clear ho1)) | (go_at_call 41; (with_reducible refine (spec_BestOrder.calls k t902 _ _ t903 t917 t918 t919 t920 _ ?side1 ?side2 A6.out).mono ?_); (case side1 => repeat (first | exact (zN HO906.out).2.2 | (with_reducible refine zG ?_ _) | (with_reducible refine zH ?_ _) | (with_reducible refine zI ?_))); (case side2 => exact (zN HO906.out).2.1); rintro e w11 ⟨v921, v923, rfl, ho0, ho1, hb⟩; have n0_ := zM (zP (by (with_reducible repeat (first | apply zA | apply zB | apply zC)); exact HO906.out) hb); have n1_ := zM (Kd.R_elder' (by (with_reducible repeat (first | apply zA | apply zB | apply zC)); exact HO908.out) (Kd.R_base ho0) hb); have n2_ := zM (Kd.R_elder' (by (with_reducible repeat (first | apply zA | apply zB | apply zC)); exact HO914.out) (Kd.R_base ho0) hb); have n3_ := zM (Kd.R_elder' (by (with_reducible repeat (first | apply zA | apply zB | apply zC)); exact HO916.out) (Kd.R_base ho1) hb); have n4_ := zM (Kd.R_lower (Kd.R_new' (Kd.R_new' ho0 (Kd.R_lt (by (with_reducible repeat (first | apply zA | apply zB | apply zC)); exact HO908.out))) (Kd.R_lt (by (with_reducible repeat (first | apply zA | apply zB | apply zC)); exact HO914.out))) (zR (by repeat (first | (with_reducible first | exact HB.out | apply zD | apply zE | apply zF) | exact HB.out)))); have n5_ := zM (Kd.R_lower (Kd.R_new' ho1 (Kd.R_lt (by (with_reducible repeat (first | apply zA | apply zB | apply zC)); exact HO916.out))) (zR (by repeat (first | (with_reducible first | exact HB.out | apply zD | apply zE | apply zF) | exact HB.out)))); have n6_ := zM (zQ (by repeat (first | (with_reducible first | exact HB.out | apply zD | apply zE | apply zF) | exact HB.out)) hb); clear HO906; clear HO908; clear HO914; clear HO916; clear HB; have HO906 := n0_; have HO908 := n1_; have HO914 := n2_; have HO916 := n3_; have HO922 := n4_; have HO924 := n5_; have HB := n6_; clear n0_ n1_ n2_ n3_ n4_ n5_ n6_; (try clear hb); (try clear hb2); (try clear hk); (try clear hi); (try clear ho0); (try clear ho1))))
  (try simp only [Act.put, List.setIfInBounds_toArray, List.set_cons_zero, List.set_cons_succ])
  go_cut [72] (fun v72 wc => ∃ (kq : Nat) (x72_6 : Bool), v72 = .bool x72_6 ∧ Aside0 (laws_FnBerths.j0 kq t902 t903 t904 t909 t910 t911 t912 x72_6 = some r) ∧ Aside0 (kq ≤ k) ∧ Aside0 (Kd.R k62 62 wc w.heap.size (fun _ => True) (.slice Ao9 t903.length co9) t903) ∧ Aside0 (Kd.R (Kd.int .i64) 3 wc w.heap.size (fun k_ => some k_ ≠ (v913 : Value).ownBlock) v907 t904) ∧ Aside0 (Kd.R (Kd.int .i64) 3 wc w.heap.size (fun k_ => some k_ ≠ (v907 : Value).ownBlock) v913 t909) ∧ Aside0 (Kd.R k37 37 wc w.heap.size (fun _ => True) v915 t910) ∧ Aside0 (Below w.heap.size w wc))
  case first =>
   have H := HC7.out
   clear HC7
   by_cases c12 : (t912 != t920) = true
   ·as_aux_lemma =>
    rw [if_pos c12] at H
    have c12b0 : (t912 != t920) = true := c12
    (try (have c12b1 : decide (t912 = t920) = false := by simpa using c12))
    (try (have c12b2 : (t912 == t920) = false := by simpa using c12))
    (try (have c12b3 : ¬ (t912 = t920) := by simpa using c12))
    clear c12
    (first | rw [c12b0] | (simp only [i64_w, i32_w]; rw [c12b0]) | skip)
    have H' := zM H
    clear H
    go_wp2
    repeat (go_quiet (fail); try go_wp2)
    go_meet
    case rel => exact ⟨_, (true), (by first | rfl | (simp; done) | (simp [*]; done)), H', ⟨by first | omega | exact Nat.le_refl _⟩, ⟨by (with_reducible repeat (first | apply zA | apply zB | apply zC)); exact HO906.out⟩, ⟨by (with_reducible repeat (first | apply zA | apply zB | apply zC)); exact Kd.R_mono HO908.out (fun _ hk => hk.1.2)⟩, ⟨by (with_reducible repeat (first | apply zA | apply zB | apply zC)); exact Kd.R_mono HO914.out (fun _ hk => hk.1.2)⟩, ⟨by (with_reducible repeat (first | apply zA | apply zB | apply zC)); exact Kd.R_mono HO916.out (fun _ hk => trivial)⟩, ⟨by repeat (first | (with_reducible first | exact HB.out | apply zD | apply zE | apply zF) | exact HB.out)⟩⟩
   ·as_aux_lemma =>
    rw [if_neg c12] at H
    have c12b0 : (t912 != t920) = false := by simpa using c12
    (try (have c12b1 : decide (t912 = t920) = true := by simpa using c12))
    (try (have c12b2 : (t912 == t920) = true := by simpa using c12))
    clear c12
    (first | rw [c12b0] | (simp only [i64_w, i32_w]; rw [c12b0]) | skip)
    by_cases c13 : t911 = t919
    ·as_aux_lemma =>
     rw [if_pos c13] at H
     have c13b0 : (t911 == t919) = true := beq_iff_eq.mpr c13
     have c13b1 : (t911 != t919) = false := bne_eq_false_iff_eq.mpr c13
     clear c13
     replace H := Option.bind_eq_some_iff.mp H
     obtain ⟨t925, A140, H⟩ := H
     replace H : (if t925 = true then ((laws_vBerths.f k t910 t918).bind fun t926 => (laws_FnBerths.j0 k t902 t903 t904 t909 t910 t911 t912 (!t926))) else (laws_FnBerths.j0 k t902 t903 t904 t909 t910 t911 t912 true)) = some r := H
     have A14 := zM A140
     clear A140
     by_cases c15 : t925 = true
     ·as_aux_lemma =>
      subst c15
      have H1 : ((laws_vBerths.f k t910 t918).bind fun t926 => (laws_FnBerths.j0 k t902 t903 t904 t909 t910 t911 t912 (!t926))) = some r := by rw [if_pos rfl] at H; exact H
      clear H
      have H := H1
      clear H1
      replace H := Option.bind_eq_some_iff.mp H
      obtain ⟨t926, A160, H⟩ := H
      replace H : (laws_FnBerths.j0 k t902 t903 t904 t909 t910 t911 t912 (!t926)) = some r := H
      have A16 := zM A160
      clear A160
      have H' := zM H
      clear H
      obtain ⟨Ao17, co17, eo17⟩ := Kd.R_slice HO914.out
      subst eo17
      obtain ⟨Ao18, co18, eo18⟩ := Kd.R_slice HO922.out
      subst eo18
      go_wp2_with (first | (go_at_call 45; (with_reducible refine (laws_vInts.calls k _ _ t909 _ _ t917 true _ ?side1 ?side2 ?side3 ?side4 A14.out).mono ?_); (case side1 => repeat (first | exact (zN HO914.out).2.2 | (with_reducible refine zG ?_ _) | (with_reducible refine zH ?_ _) | (with_reducible refine zI ?_))); (case side2 => exact (zN HO914.out).2.1); (case side3 => repeat (first | exact (zN HO922.out).2.2 | (with_reducible refine zG ?_ _) | (with_reducible refine zH ?_ _) | (with_reducible refine zI ?_))); (case side4 => exact (zN HO922.out).2.1); rintro e w' ⟨rfl, ⟨nd, rfl⟩⟩; (try first | exact ⟨rfl, _, World.drewN_drewN _ _ _⟩ | exact ⟨rfl, _, Eq.trans (World.drewN_drewN _ _ _) (congrArg (World.drewN _) (Nat.add_assoc _ _ _))⟩); obtain ⟨Ao19, co19, eo19⟩ := Kd.R_slice HO916.out; subst eo19; obtain ⟨Ao20, co20, eo20⟩ := Kd.R_slice HO924.out; subst eo20) | (go_at_call 46; (with_reducible refine (laws_vBerths.calls k _ _ t910 _ _ t918 t926 _ ?side1 ?side2 ?side3 ?side4 A16.out).mono ?_); (case side1 => repeat (first | exact (zN HO916.out).2.2 | (with_reducible refine zG ?_ _) | (with_reducible refine zH ?_ _) | (with_reducible refine zI ?_))); (case side2 => exact (zN HO916.out).2.1); (case side3 => repeat (first | exact (zN HO924.out).2.2 | (with_reducible refine zG ?_ _) | (with_reducible refine zH ?_ _) | (with_reducible refine zI ?_))); (case side4 => exact (zN HO924.out).2.1); rintro e w' ⟨rfl, ⟨nd, rfl⟩⟩; (try first | exact ⟨rfl, _, World.drewN_drewN _ _ _⟩ | exact ⟨rfl, _, Eq.trans (World.drewN_drewN _ _ _) (congrArg (World.drewN _) (Nat.add_assoc _ _ _))⟩)))
      repeat (go_quiet (first | (go_at_call 45; (with_reducible refine (laws_vInts.calls k _ _ t909 _ _ t917 true _ ?side1 ?side2 ?side3 ?side4 A14.out).mono ?_); (case side1 => repeat (first | exact (zN HO914.out).2.2 | (with_reducible refine zG ?_ _) | (with_reducible refine zH ?_ _) | (with_reducible refine zI ?_))); (case side2 => exact (zN HO914.out).2.1); (case side3 => repeat (first | exact (zN HO922.out).2.2 | (with_reducible refine zG ?_ _) | (with_reducible refine zH ?_ _) | (with_reducible refine zI ?_))); (case side4 => exact (zN HO922.out).2.1); rintro e w' ⟨rfl, ⟨nd, rfl⟩⟩; (try first | exact ⟨rfl, _, World.drewN_drewN _ _ _⟩ | exact ⟨rfl, _, Eq.trans (World.drewN_drewN _ _ _) (congrArg (World.drewN _) (Nat.add_assoc _ _ _))⟩); obtain ⟨Ao19, co19, eo19⟩ := Kd.R_slice HO916.out; subst eo19; obtain ⟨Ao20, co20, eo20⟩ := Kd.R_slice HO924.out; subst eo20) | (go_at_call 46; (with_reducible refine (laws_vBerths.calls k _ _ t910 _ _ t918 t926 _ ?side1 ?side2 ?side3 ?side4 A16.out).mono ?_); (case side1 => repeat (first | exact (zN HO916.out).2.2 | (with_reducible refine zG ?_ _) | (with_reducible refine zH ?_ _) | (with_reducible refine zI ?_))); (case side2 => exact (zN HO916.out).2.1); (case side3 => repeat (first | exact (zN HO924.out).2.2 | (with_reducible refine zG ?_ _) | (with_reducible refine zH ?_ _) | (with_reducible refine zI ?_))); (case side4 => exact (zN HO924.out).2.1); rintro e w' ⟨rfl, ⟨nd, rfl⟩⟩; (try first | exact ⟨rfl, _, World.drewN_drewN _ _ _⟩ | exact ⟨rfl, _, Eq.trans (World.drewN_drewN _ _ _) (congrArg (World.drewN _) (Nat.add_assoc _ _ _))⟩))); try go_wp2_with (first | (go_at_call 45; (with_reducible refine (laws_vInts.calls k _ _ t909 _ _ t917 true _ ?side1 ?side2 ?side3 ?side4 A14.out).mono ?_); (case side1 => repeat (first | exact (zN HO914.out).2.2 | (with_reducible refine zG ?_ _) | (with_reducible refine zH ?_ _) | (with_reducible refine zI ?_))); (case side2 => exact (zN HO914.out).2.1); (case side3 => repeat (first | exact (zN HO922.out).2.2 | (with_reducible refine zG ?_ _) | (with_reducible refine zH ?_ _) | (with_reducible refine zI ?_))); (case side4 => exact (zN HO922.out).2.1); rintro e w' ⟨rfl, ⟨nd, rfl⟩⟩; (try first | exact ⟨rfl, _, World.drewN_drewN _ _ _⟩ | exact ⟨rfl, _, Eq.trans (World.drewN_drewN _ _ _) (congrArg (World.drewN _) (Nat.add_assoc _ _ _))⟩); obtain ⟨Ao19, co19, eo19⟩ := Kd.R_slice HO916.out; subst eo19; obtain ⟨Ao20, co20, eo20⟩ := Kd.R_slice HO924.out; subst eo20) | (go_at_call 46; (with_reducible refine (laws_vBerths.calls k _ _ t910 _ _ t918 t926 _ ?side1 ?side2 ?side3 ?side4 A16.out).mono ?_); (case side1 => repeat (first | exact (zN HO916.out).2.2 | (with_reducible refine zG ?_ _) | (with_reducible refine zH ?_ _) | (with_reducible refine zI ?_))); (case side2 => exact (zN HO916.out).2.1); (case side3 => repeat (first | exact (zN HO924.out).2.2 | (with_reducible refine zG ?_ _) | (with_reducible refine zH ?_ _) | (with_reducible refine zI ?_))); (case side4 => exact (zN HO924.out).2.1); rintro e w' ⟨rfl, ⟨nd, rfl⟩⟩; (try first | exact ⟨rfl, _, World.drewN_drewN _ _ _⟩ | exact ⟨rfl, _, Eq.trans (World.drewN_drewN _ _ _) (congrArg (World.drewN _) (Nat.add_assoc _ _ _))⟩))))
      go_meet
      case rel => exact ⟨_, (!t926), (by first | rfl | (simp; done) | (simp [*]; done)), H', ⟨by first | omega | exact Nat.le_refl _⟩, ⟨by (with_reducible repeat (first | apply zA | apply zB | apply zC)); exact HO906.out⟩, ⟨by (with_reducible repeat (first | apply zA | apply zB | apply zC)); exact Kd.R_mono HO908.out (fun _ hk => hk.1.2)⟩, ⟨by (with_reducible repeat (first | apply zA | apply zB | apply zC)); exact Kd.R_mono HO914.out (fun _ hk => hk.1.2)⟩, ⟨by (with_reducible repeat (first | apply zA | apply zB | apply zC)); exact Kd.R_mono HO916.out (fun _ hk => trivial)⟩, ⟨by repeat (first | (with_reducible first | exact HB.out | apply zD | apply zE | apply zF) | exact HB.out)⟩⟩
     ·as_aux_lemma =>
      replace c15 := Bool.eq_false_iff.mpr c15
      subst c15
      have H1 : (laws_FnBerths.j0 k t902 t903 t904 t909 t910 t911 t912 true) = some r := by rw [if_neg (show ¬ (false = true) by decide)] at H; exact H
      clear H
      have H := H1
      clear H1
      have H' := zM H
      clear H
      obtain ⟨Ao21, co21, eo21⟩ := Kd.R_slice HO914.out
      subst eo21
      obtain ⟨Ao22, co22, eo22⟩ := Kd.R_slice HO922.out
      subst eo22
      go_wp2_with (first | (go_at_call 45; (with_reducible refine (laws_vInts.calls k _ _ t909 _ _ t917 false _ ?side1 ?side2 ?side3 ?side4 A14.out).mono ?_); (case side1 => repeat (first | exact (zN HO914.out).2.2 | (with_reducible refine zG ?_ _) | (with_reducible refine zH ?_ _) | (with_reducible refine zI ?_))); (case side2 => exact (zN HO914.out).2.1); (case side3 => repeat (first | exact (zN HO922.out).2.2 | (with_reducible refine zG ?_ _) | (with_reducible refine zH ?_ _) | (with_reducible refine zI ?_))); (case side4 => exact (zN HO922.out).2.1); rintro e w' ⟨rfl, ⟨nd, rfl⟩⟩; (try first | exact ⟨rfl, _, World.drewN_drewN _ _ _⟩ | exact ⟨rfl, _, Eq.trans (World.drewN_drewN _ _ _) (congrArg (World.drewN _) (Nat.add_assoc _ _ _))⟩)))
      repeat (go_quiet (first | (go_at_call 45; (with_reducible refine (laws_vInts.calls k _ _ t909 _ _ t917 false _ ?side1 ?side2 ?side3 ?side4 A14.out).mono ?_); (case side1 => repeat (first | exact (zN HO914.out).2.2 | (with_reducible refine zG ?_ _) | (with_reducible refine zH ?_ _) | (with_reducible refine zI ?_))); (case side2 => exact (zN HO914.out).2.1); (case side3 => repeat (first | exact (zN HO922.out).2.2 | (with_reducible refine zG ?_ _) | (with_reducible refine zH ?_ _) | (with_reducible refine zI ?_))); (case side4 => exact (zN HO922.out).2.1); rintro e w' ⟨rfl, ⟨nd, rfl⟩⟩; (try first | exact ⟨rfl, _, World.drewN_drewN _ _ _⟩ | exact ⟨rfl, _, Eq.trans (World.drewN_drewN _ _ _) (congrArg (World.drewN _) (Nat.add_assoc _ _ _))⟩))); try go_wp2_with (first | (go_at_call 45; (with_reducible refine (laws_vInts.calls k _ _ t909 _ _ t917 false _ ?side1 ?side2 ?side3 ?side4 A14.out).mono ?_); (case side1 => repeat (first | exact (zN HO914.out).2.2 | (with_reducible refine zG ?_ _) | (with_reducible refine zH ?_ _) | (with_reducible refine zI ?_))); (case side2 => exact (zN HO914.out).2.1); (case side3 => repeat (first | exact (zN HO922.out).2.2 | (with_reducible refine zG ?_ _) | (with_reducible refine zH ?_ _) | (with_reducible refine zI ?_))); (case side4 => exact (zN HO922.out).2.1); rintro e w' ⟨rfl, ⟨nd, rfl⟩⟩; (try first | exact ⟨rfl, _, World.drewN_drewN _ _ _⟩ | exact ⟨rfl, _, Eq.trans (World.drewN_drewN _ _ _) (congrArg (World.drewN _) (Nat.add_assoc _ _ _))⟩))))
      go_meet
      case rel => exact ⟨_, (true), (by first | rfl | (simp; done) | (simp [*]; done)), H', ⟨by first | omega | exact Nat.le_refl _⟩, ⟨by (with_reducible repeat (first | apply zA | apply zB | apply zC)); exact HO906.out⟩, ⟨by (with_reducible repeat (first | apply zA | apply zB | apply zC)); exact Kd.R_mono HO908.out (fun _ hk => hk.1.2)⟩, ⟨by (with_reducible repeat (first | apply zA | apply zB | apply zC)); exact Kd.R_mono HO914.out (fun _ hk => hk.1.2)⟩, ⟨by (with_reducible repeat (first | apply zA | apply zB | apply zC)); exact Kd.R_mono HO916.out (fun _ hk => trivial)⟩, ⟨by repeat (first | (with_reducible first | exact HB.out | apply zD | apply zE | apply zF) | exact HB.out)⟩⟩
    ·as_aux_lemma =>
     rw [if_neg c13] at H
     have c13b0 : (t911 == t919) = false := beq_eq_false_iff_ne.mpr c13
     have c13b1 : (t911 != t919) = true := bne_iff_ne.mpr c13
     have H' := zM H
     clear H
     go_wp2
     repeat (go_quiet (fail); try go_wp2)
     go_meet
     case rel => exact ⟨_, (true), (by first | rfl | (simp; done) | (simp [*]; done)), H', ⟨by first | omega | exact Nat.le_refl _⟩, ⟨by (with_reducible repeat (first | apply zA | apply zB | apply zC)); exact HO906.out⟩, ⟨by (with_reducible repeat (first | apply zA | apply zB | apply zC)); exact Kd.R_mono HO908.out (fun _ hk => hk.1.2)⟩, ⟨by (with_reducible repeat (first | apply zA | apply zB | apply zC)); exact Kd.R_mono HO914.out (fun _ hk => hk.1.2)⟩, ⟨by (with_reducible repeat (first | apply zA | apply zB | apply zC)); exact Kd.R_mono HO916.out (fun _ hk => trivial)⟩, ⟨by repeat (first | (with_reducible first | exact HB.out | apply zD | apply zE | apply zF) | exact HB.out)⟩⟩
  case rest =>
   clear HC7
   try clear c1
   try clear p2
   try clear c3
   try clear c11
   try clear c12
   try clear c12b0
   try clear c12b1
   try clear c12b2
   try clear c13
   try clear c13b0
   try clear c13b1
   try clear c15
   obtain ⟨kq, x72_6, rfl, HA, HJ6, HO_4, HO_5, HO_6, HO_7, HB⟩ := hcut
   cases kq with
   | zero => exact absurd HA.out (by simp [laws_FnBerths.j0])
   | succ kj6 =>
    have H := HA.out
    clear HA
    simp only [laws_FnBerths.j0] at H
    by_cases c23 : x72_6 = true
    ·as_aux_lemma =>
     subst c23
     have H1 : (some false) = some r := by rw [if_pos rfl] at H; exact H
     clear H
     have H := H1
     clear H1
     obtain rfl := Option.some.inj H
     go_wp2
     repeat (go_quiet (fail); try go_wp2)
     go_ret
     exact ⟨by first | rfl | (simp [errW_none, errW_some] <;> rfl) | (simp [*, errW_none, errW_some] <;> rfl), by repeat (first | (with_reducible first | exact HB.out | apply zD | apply zE | apply zF) | exact HB.out)⟩
    ·as_aux_lemma =>
     replace c23 := Bool.eq_false_iff.mpr c23
     subst c23
     have H1 : ((impl_PlanInOrder.f kj6 t902 t903 t904).bind fun bt927 => ((spec_PlanInOrder.f kj6 t902 t903 t904).bind fun bt932 => (if (bt927.2.2 != bt932.2.2) = true then (laws_FnBerths.j1 kj6 t902 t903 t909 t910 t911 t912 bt927.1 bt927.2.1 bt927.2.2 true) else (if bt927.2.1 = bt932.2.1 then ((laws_vBerths.f kj6 bt927.1 bt932.1).bind fun t937 => (laws_FnBerths.j1 kj6 t902 t903 t909 t910 t911 t912 bt927.1 bt927.2.1 bt927.2.2 (!t937))) else (laws_FnBerths.j1 kj6 t902 t903 t909 t910 t911 t912 bt927.1 bt927.2.1 bt927.2.2 true))))) = some r := by rw [if_neg (show ¬ (false = true) by decide)] at H; exact H
     clear H
     have H := H1
     clear H1
     replace H := Option.bind_eq_some_iff.mp H
     obtain ⟨⟨t927, t928, t929⟩, A240, H⟩ := H
     replace H : ((spec_PlanInOrder.f kj6 t902 t903 t904).bind fun bt932 => (if (t929 != bt932.2.2) = true then (laws_FnBerths.j1 kj6 t902 t903 t909 t910 t911 t912 t927 t928 t929 true) else (if t928 = bt932.2.1 then ((laws_vBerths.f kj6 t927 bt932.1).bind fun t937 => (laws_FnBerths.j1 kj6 t902 t903 t909 t910 t911 t912 t927 t928 t929 (!t937))) else (laws_FnBerths.j1 kj6 t902 t903 t909 t910 t911 t912 t927 t928 t929 true)))) = some r := H
     have A24 := zM A240
     clear A240
     replace H := Option.bind_eq_some_iff.mp H
     obtain ⟨⟨t932, t933, t934⟩, A250, H⟩ := H
     replace H : (if (t929 != t934) = true then (laws_FnBerths.j1 kj6 t902 t903 t909 t910 t911 t912 t927 t928 t929 true) else (if t928 = t933 then ((laws_vBerths.f kj6 t927 t932).bind fun t937 => (laws_FnBerths.j1 kj6 t902 t903 t909 t910 t911 t912 t927 t928 t929 (!t937))) else (laws_FnBerths.j1 kj6 t902 t903 t909 t910 t911 t912 t927 t928 t929 true))) = some r := H
     have A25 := zM A250
     clear A250
     have HC26 := zM H
     clear H
     obtain ⟨Ao27, co27, eo27⟩ := Kd.R_slice HO_5.out
     subst eo27
     go_upto_region 10 with (first | (go_at_call 39; (with_reducible refine (impl_PlanInOrder.calls kj6 t902 _ _ t903 _ _ t904 t927 t928 t929 _ ?side1 ?side2 ?side3 ?side4 A24.out).mono ?_); (case side1 => repeat (first | exact (zN HO_4.out).2.2 | (with_reducible refine zG ?_ _) | (with_reducible refine zH ?_ _) | (with_reducible refine zI ?_))); (case side2 => exact (zN HO_4.out).2.1); (case side3 => repeat (first | exact (zN HO_5.out).2.2 | (with_reducible refine zG ?_ _) | (with_reducible refine zH ?_ _) | (with_reducible refine zI ?_))); (case side4 => exact (zN HO_5.out).2.1); rintro e w28 ⟨v930, rfl, ho0, hb⟩; have n0_ := zM (zP (by (with_reducible repeat (first | apply zA | apply zB | apply zC)); exact HO_4.out) hb); have n1_ := zM (zP (by (with_reducible repeat (first | apply zA | apply zB | apply zC)); exact HO_5.out) hb); have n2_ := zM (zP (by (with_reducible repeat (first | apply zA | apply zB | apply zC)); exact HO_6.out) hb); have n3_ := zM (Kd.R_elder' (by (with_reducible repeat (first | apply zA | apply zB | apply zC)); exact HO_7.out) (Kd.R_base ho0) hb); have n4_ := zM (Kd.R_lower (Kd.R_new' ho0 (Kd.R_lt (by (with_reducible repeat (first | apply zA | apply zB | apply zC)); exact HO_7.out))) (zR (by repeat (first | (with_reducible first | exact HB.out | apply zD | apply zE | apply zF) | exact HB.out)))); have n5_ := zM (zQ (by repeat (first | (with_reducible first | exact HB.out | apply zD | apply zE | apply zF) | exact HB.out)) hb); clear HO_4; clear HO_5; clear HO_6; clear HO_7; clear HB; have HO_4 := n0_; have HO_5 := n1_; have HO_6 := n2_; have HO_7 := n3_; have HO931 := n4_; have HB := n5_; clear n0_ n1_ n2_ n3_ n4_ n5_; (try clear hb); (try clear hb2); (try clear hk); (try clear hi); (try clear ho0)) | (go_at_call 37; (with_reducible refine (spec_PlanInOrder.calls kj6 t902 _ _ t903 _ _ t904 t932 t933 t934 _ ?side1 ?side2 ?side3 ?side4 A25.out).mono ?_); (case side1 => repeat (first | exact (zN HO_4.out).2.2 | (with_reducible refine zG ?_ _) | (with_reducible refine zH ?_ _) | (with_reducible refine zI ?_))); (case side2 => exact (zN HO_4.out).2.1); (case side3 => repeat (first | exact (zN HO_5.out).2.2 | (with_reducible refine zG ?_ _) | (with_reducible refine zH ?_ _) | (with_reducible refine zI ?_))); (case side4 => exact (zN HO_5.out).2.1); rintro e w29 ⟨v935, rfl, ho0, hb⟩; have n0_ := zM (zP (by (with_reducible repeat (first | apply zA | apply zB | apply zC)); exact HO_4.out) hb); have n1_ := zM (zP (by (with_reducible repeat (first | apply zA | apply zB | apply zC)); exact HO_5.out) hb); have n2_ := zM (zP (by (with_reducible repeat (first | apply zA | apply zB | apply zC)); exact HO_6.out) hb); have n3_ := zM (Kd.R_elder' (by (with_reducible repeat (first | apply zA | apply zB | apply zC)); exact HO_7.out) (Kd.R_base ho0) hb); have n4_ := zM (Kd.R_elder' (by (with_reducible repeat (first | apply zA | apply zB | apply zC)); exact HO931.out) (Kd.R_base ho0) hb); have n5_ := zM (Kd.R_lower (Kd.R_new' (Kd.R_new' ho0 (Kd.R_lt (by (with_reducible repeat (first | apply zA | apply zB | apply zC)); exact HO_7.out))) (Kd.R_lt (by (with_reducible repeat (first | apply zA | apply zB | apply zC)); exact HO931.out))) (zR (by repeat (first | (with_reducible first | exact HB.out | apply zD | apply zE | apply zF) | exact HB.out)))); have n6_ := zM (zQ (by repeat (first | (with_reducible first | exact HB.out | apply zD | apply zE | apply zF) | exact HB.out)) hb); clear HO_4; clear HO_5; clear HO_6; clear HO_7; clear HO931; clear HB; have HO_4 := n0_; have HO_5 := n1_; have HO_6 := n2_; have HO_7 := n3_; have HO931 := n4_; have HO936 := n5_; have HB := n6_; clear n0_ n1_ n2_ n3_ n4_ n5_ n6_; (try clear hb); (try clear hb2); (try clear hk); (try clear hi); (try clear ho0)))
     repeat (go_quiet (first | (go_at_call 39; (with_reducible refine (impl_PlanInOrder.calls kj6 t902 _ _ t903 _ _ t904 t927 t928 t929 _ ?side1 ?side2 ?side3 ?side4 A24.out).mono ?_); (case side1 => repeat (first | exact (zN HO_4.out).2.2 | (with_reducible refine zG ?_ _) | (with_reducible refine zH ?_ _) | (with_reducible refine zI ?_))); (case side2 => exact (zN HO_4.out).2.1); (case side3 => repeat (first | exact (zN HO_5.out).2.2 | (with_reducible refine zG ?_ _) | (with_reducible refine zH ?_ _) | (with_reducible refine zI ?_))); (case side4 => exact (zN HO_5.out).2.1); rintro e w28 ⟨v930, rfl, ho0, hb⟩; have n0_ := zM (zP (by (with_reducible repeat (first | apply zA | apply zB | apply zC)); exact HO_4.out) hb); have n1_ := zM (zP (by (with_reducible repeat (first | apply zA | apply zB | apply zC)); exact HO_5.out) hb); have n2_ := zM (zP (by (with_reducible repeat (first | apply zA | apply zB | apply zC)); exact HO_6.out) hb); have n3_ := zM (Kd.R_elder' (by (with_reducible repeat (first | apply zA | apply zB | apply zC)); exact HO_7.out) (Kd.R_base ho0) hb); have n4_ := zM (Kd.R_lower (Kd.R_new' ho0 (Kd.R_lt (by (with_reducible repeat (first | apply zA | apply zB | apply zC)); exact HO_7.out))) (zR (by repeat (first | (with_reducible first | exact HB.out | apply zD | apply zE | apply zF) | exact HB.out)))); have n5_ := zM (zQ (by repeat (first | (with_reducible first | exact HB.out | apply zD | apply zE | apply zF) | exact HB.out)) hb); clear HO_4; clear HO_5; clear HO_6; clear HO_7; clear HB; have HO_4 := n0_; have HO_5 := n1_; have HO_6 := n2_; have HO_7 := n3_; have HO931 := n4_; have HB := n5_; clear n0_ n1_ n2_ n3_ n4_ n5_; (try clear hb); (try clear hb2); (try clear hk); (try clear hi); (try clear ho0)) | (go_at_call 37; (with_reducible refine (spec_PlanInOrder.calls kj6 t902 _ _ t903 _ _ t904 t932 t933 t934 _ ?side1 ?side2 ?side3 ?side4 A25.out).mono ?_); (case side1 => repeat (first | exact (zN HO_4.out).2.2 | (with_reducible refine zG ?_ _) | (with_reducible refine zH ?_ _) | (with_reducible refine zI ?_))); (case side2 => exact (zN HO_4.out).2.1); (case side3 => repeat (first | exact (zN HO_5.out).2.2 | (with_reducible refine zG ?_ _) | (with_reducible refine zH ?_ _) | (with_reducible refine zI ?_))); (case side4 => exact (zN HO_5.out).2.1); rintro e w29 ⟨v935, rfl, ho0, hb⟩; have n0_ := zM (zP (by (with_reducible repeat (first | apply zA | apply zB | apply zC)); exact HO_4.out) hb); have n1_ := zM (zP (by (with_reducible repeat (first | apply zA | apply zB | apply zC)); exact HO_5.out) hb); have n2_ := zM (zP (by (with_reducible repeat (first | apply zA | apply zB | apply zC)); exact HO_6.out) hb); have n3_ := zM (Kd.R_elder' (by (with_reducible repeat (first | apply zA | apply zB | apply zC)); exact HO_7.out) (Kd.R_base ho0) hb); have n4_ := zM (Kd.R_elder' (by (with_reducible repeat (first | apply zA | apply zB | apply zC)); exact HO931.out) (Kd.R_base ho0) hb); have n5_ := zM (Kd.R_lower (Kd.R_new' (Kd.R_new' ho0 (Kd.R_lt (by (with_reducible repeat (first | apply zA | apply zB | apply zC)); exact HO_7.out))) (Kd.R_lt (by (with_reducible repeat (first | apply zA | apply zB | apply zC)); exact HO931.out))) (zR (by repeat (first | (with_reducible first | exact HB.out | apply zD | apply zE | apply zF) | exact HB.out)))); have n6_ := zM (zQ (by repeat (first | (with_reducible first | exact HB.out | apply zD | apply zE | apply zF) | exact HB.out)) hb); clear HO_4; clear HO_5; clear HO_6; clear HO_7; clear HO931; clear HB; have HO_4 := n0_; have HO_5 := n1_; have HO_6 := n2_; have HO_7 := n3_; have HO931 := n4_; have HO936 := n5_; have HB := n6_; clear n0_ n1_ n2_ n3_ n4_ n5_ n6_; (try clear hb); (try clear hb2); (try clear hk); (try clear hi); (try clear ho0))); go_upto_region 10 with (first | (go_at_call 39; (with_reducible refine (impl_PlanInOrder.calls kj6 t902 _ _ t903 _ _ t904 t927 t928 t929 _ ?side1 ?side2 ?side3 ?side4 A24.out).mono ?_); (case side1 => repeat (first | exact (zN HO_4.out).2.2 | (with_reducible refine zG ?_ _) | (with_reducible refine zH ?_ _) | (with_reducible refine zI ?_))); (case side2 => exact (zN HO_4.out).2.1); (case side3 => repeat (first | exact (zN HO_5.out).2.2 | (with_reducible refine zG ?_ _) | (with_reducible refine zH ?_ _) | (with_reducible refine zI ?_))); (case side4 => exact (zN HO_5.out).2.1); rintro e w28 ⟨v930, rfl, ho0, hb⟩; have n0_ := zM (zP (by (with_reducible repeat (first | apply zA | apply zB | apply zC)); exact HO_4.out) hb); have n1_ := zM (zP (by (with_reducible repeat (first | apply zA | apply zB | apply zC)); exact HO_5.out) hb); have n2_ := zM (zP (by (with_reducible repeat (first | apply zA | apply zB | apply zC)); exact HO_6.out) hb); have n3_ := zM (Kd.R_elder' (by (with_reducible repeat (first | apply zA | apply zB | apply zC)); exact HO_7.out) (Kd.R_base ho0) hb); have n4_ := zM (Kd.R_lower (Kd.R_new' ho0 (Kd.R_lt (by (with_reducible repeat (first | apply zA | apply zB | apply zC)); exact HO_7.out))) (zR (by repeat (first | (with_reducible first | exact HB.out | apply zD | apply zE | apply zF) | exact HB.out)))); have n5_ := zM (zQ (by repeat (first | (with_reducible first | exact HB.out | apply zD | apply zE | apply zF) | exact HB.out)) hb); clear HO_4; clear HO_5; clear HO_6; clear HO_7; clear HB; have HO_4 := n0_; have HO_5 := n1_; have HO_6 := n2_; have HO_7 := n3_; have HO931 := n4_; have HB := n5_; clear n0_ n1_ n2_ n3_ n4_ n5_; (try clear hb); (try clear hb2); (try clear hk); (try clear hi); (try clear ho0)) | (go_at_call 37; (with_reducible refine (spec_PlanInOrder.calls kj6 t902 _ _ t903 _ _ t904 t932 t933 t934 _ ?side1 ?side2 ?side3 ?side4 A25.out).mono ?_); (case side1 => repeat (first | exact (zN HO_4.out).2.2 | (with_reducible refine zG ?_ _) | (with_reducible refine zH ?_ _) | (with_reducible refine zI ?_))); (case side2 => exact (zN HO_4.out).2.1); (case side3 => repeat (first | exact (zN HO_5.out).2.2 | (with_reducible refine zG ?_ _) | (with_reducible refine zH ?_ _) | (with_reducible refine zI ?_))); (case side4 => exact (zN HO_5.out).2.1); rintro e w29 ⟨v935, rfl, ho0, hb⟩; have n0_ := zM (zP (by (with_reducible repeat (first | apply zA | apply zB | apply zC)); exact HO_4.out) hb); have n1_ := zM (zP (by (with_reducible repeat (first | apply zA | apply zB | apply zC)); exact HO_5.out) hb); have n2_ := zM (zP (by (with_reducible repeat (first | apply zA | apply zB | apply zC)); exact HO_6.out) hb); have n3_ := zM (Kd.R_elder' (by (with_reducible repeat (first | apply zA | apply zB | apply zC)); exact HO_7.out) (Kd.R_base ho0) hb); have n4_ := zM (Kd.R_elder' (by (with_reducible repeat (first | apply zA | apply zB | apply zC)); exact HO931.out) (Kd.R_base ho0) hb); have n5_ := zM (Kd.R_lower (Kd.R_new' (Kd.R_new' ho0 (Kd.R_lt (by (with_reducible repeat (first | apply zA | apply zB | apply zC)); exact HO_7.out))) (Kd.R_lt (by (with_reducible repeat (first | apply zA | apply zB | apply zC)); exact HO931.out))) (zR (by repeat (first | (with_reducible first | exact HB.out | apply zD | apply zE | apply zF) | exact HB.out)))); have n6_ := zM (zQ (by repeat (first | (with_reducible first | exact HB.out | apply zD | apply zE | apply zF) | exact HB.out)) hb); clear HO_4; clear HO_5; clear HO_6; clear HO_7; clear HO931; clear HB; have HO_4 := n0_; have HO_5 := n1_; have HO_6 := n2_; have HO_7 := n3_; have HO931 := n4_; have HO936 := n5_; have HB := n6_; clear n0_ n1_ n2_ n3_ n4_ n5_ n6_; (try clear hb); (try clear hb2); (try clear hk); (try clear hi); (try clear ho0))))
     (try simp only [Act.put, List.setIfInBounds_toArray, List.set_cons_zero, List.set_cons_succ])
     go_cut [102] (fun v102 wc => ∃ (kq : Nat) (x102_25 : Bool), v102 = .bool x102_25 ∧ Aside0 (laws_FnBerths.j1 kq t902 t903 t909 t910 t911 t912 t927 t928 t929 x102_25 = some r) ∧ Aside0 (kq ≤ kj6) ∧ Aside0 (Kd.R k62 62 wc w.heap.size (fun _ => True) (.slice Ao9 t903.length co9) t903) ∧ Aside0 (Kd.R (Kd.int .i64) 3 wc w.heap.size (fun _ => True) v913 t909) ∧ Aside0 (Kd.R k37 37 wc w.heap.size (fun k_ => some k_ ≠ (v930 : Value).ownBlock) v915 t910) ∧ Aside0 (Kd.R k37 37 wc w.heap.size (fun k_ => some k_ ≠ (v915 : Value).ownBlock) v930 t927) ∧ Aside0 (Below w.heap.size w wc))
     case first =>
      have H := HC26.out
      clear HC26
      by_cases c30 : (t929 != t934) = true
      ·as_aux_lemma =>
       rw [if_pos c30] at H
       have c30b0 : (t929 != t934) = true := c30
       (try (have c30b1 : decide (t929 = t934) = false := by simpa using c30))
       (try (have c30b2 : (t929 == t934) = false := by simpa using c30))
       (try (have c30b3 : ¬ (t929 = t934) := by simpa using c30))
       clear c30
       (first | rw [c30b0] | (simp only [i64_w, i32_w]; rw [c30b0]) | skip)
       have H' := zM H
       clear H
       go_wp2
       repeat (go_quiet (fail); try go_wp2)
       go_meet
       case rel => exact ⟨_, (true), (by first | rfl | (simp; done) | (simp [*]; done)), H', ⟨by have := HJ6.out; first | omega | exact Nat.le_refl _⟩, ⟨by (with_reducible repeat (first | apply zA | apply zB | apply zC)); exact HO_4.out⟩, ⟨by (with_reducible repeat (first | apply zA | apply zB | apply zC)); exact Kd.R_mono HO_6.out (fun _ hk => trivial)⟩, ⟨by (with_reducible repeat (first | apply zA | apply zB | apply zC)); exact Kd.R_mono HO_7.out (fun _ hk => hk.1.2)⟩, ⟨by (with_reducible repeat (first | apply zA | apply zB | apply zC)); exact Kd.R_mono HO931.out (fun _ hk => hk.1.2)⟩, ⟨by repeat (first | (with_reducible first | exact HB.out | apply zD | apply zE | apply zF) | exact HB.out)⟩⟩
      ·as_aux_lemma =>
       rw [if_neg c30] at H
       have c30b0 : (t929 != t934) = false := by simpa using c30
       (try (have c30b1 : decide (t929 = t934) = true := by simpa using c30))
       (try (have c30b2 : (t929 == t934) = true := by simpa using c30))
       clear c30
       (first | rw [c30b0] | (simp only [i64_w, i32_w]; rw [c30b0]) | skip)
       by_cases c31 : t928 = t933
       ·as_aux_lemma =>
        rw [if_pos c31] at H
        have c31b0 : (t928 == t933) = true := beq_iff_eq.mpr c31
        have c31b1 : (t928 != t933) = false := bne_eq_false_iff_eq.mpr c31
        clear c31
        replace H := Option.bind_eq_some_iff.mp H
        obtain ⟨t937, A320, H⟩ := H
        replace H : (laws_FnBerths.j1 kj6 t902 t903 t909 t910 t911 t912 t927 t928 t929 (!t937)) = some r := H
        have A32 := zM A320
        clear A320
        have H' := zM H
        clear H
        obtain ⟨Ao33, co33, eo33⟩ := Kd.R_slice HO931.out
        subst eo33
        obtain ⟨Ao34, co34, eo34⟩ := Kd.R_slice HO936.out
        subst eo34
        go_wp2_with (first | (go_at_call 46; (with_reducible refine (laws_vBerths.calls kj6 _ _ t927 _ _ t932 t937 _ ?side1 ?side2 ?side3 ?side4 A32.out).mono ?_); (case side1 => repeat (first | exact (zN HO931.out).2.2 | (with_reducible refine zG ?_ _) | (with_reducible refine zH ?_ _) | (with_reducible refine zI ?_))); (case side2 => exact (zN HO931.out).2.1); (case side3 => repeat (first | exact (zN HO936.out).2.2 | (with_reducible refine zG ?_ _) | (with_reducible refine zH ?_ _) | (with_reducible refine zI ?_))); (case side4 => exact (zN HO936.out).2.1); rintro e w' ⟨rfl, ⟨nd, rfl⟩⟩; (try first | exact ⟨rfl, _, World.drewN_drewN _ _ _⟩ | exact ⟨rfl, _, Eq.trans (World.drewN_drewN _ _ _) (congrArg (World.drewN _) (Nat.add_assoc _ _ _))⟩)))
        repeat (go_quiet (first | (go_at_call 46; (with_reducible refine (laws_vBerths.calls kj6 _ _ t927 _ _ t932 t937 _ ?side1 ?side2 ?side3 ?side4 A32.out).mono ?_); (case side1 => repeat (first | exact (zN HO931.out).2.2 | (with_reducible refine zG ?_ _) | (with_reducible refine zH ?_ _) | (with_reducible refine zI ?_))); (case side2 => exact (zN HO931.out).2.1); (case side3 => repeat (first | exact (zN HO936.out).2.2 | (with_reducible refine zG ?_ _) | (with_reducible refine zH ?_ _) | (with_reducible refine zI ?_))); (case side4 => exact (zN HO936.out).2.1); rintro e w' ⟨rfl, ⟨nd, rfl⟩⟩; (try first | exact ⟨rfl, _, World.drewN_drewN _ _ _⟩ | exact ⟨rfl, _, Eq.trans (World.drewN_drewN _ _ _) (congrArg (World.drewN _) (Nat.add_assoc _ _ _))⟩))); try go_wp2_with (first | (go_at_call 46; (with_reducible refine (laws_vBerths.calls kj6 _ _ t927 _ _ t932 t937 _ ?side1 ?side2 ?side3 ?side4 A32.out).mono ?_); (case side1 => repeat (first | exact (zN HO931.out).2.2 | (with_reducible refine zG ?_ _) | (with_reducible refine zH ?_ _) | (with_reducible refine zI ?_))); (case side2 => exact (zN HO931.out).2.1); (case side3 => repeat (first | exact (zN HO936.out).2.2 | (with_reducible refine zG ?_ _) | (with_reducible refine zH ?_ _) | (with_reducible refine zI ?_))); (case side4 => exact (zN HO936.out).2.1); rintro e w' ⟨rfl, ⟨nd, rfl⟩⟩; (try first | exact ⟨rfl, _, World.drewN_drewN _ _ _⟩ | exact ⟨rfl, _, Eq.trans (World.drewN_drewN _ _ _) (congrArg (World.drewN _) (Nat.add_assoc _ _ _))⟩))))
        go_meet
        case rel => exact ⟨_, (!t937), (by first | rfl | (simp; done) | (simp [*]; done)), H', ⟨by have := HJ6.out; first | omega | exact Nat.le_refl _⟩, ⟨by (with_reducible repeat (first | apply zA | apply zB | apply zC)); exact HO_4.out⟩, ⟨by (with_reducible repeat (first | apply zA | apply zB | apply zC)); exact Kd.R_mono HO_6.out (fun _ hk => trivial)⟩, ⟨by (with_reducible repeat (first | apply zA | apply zB | apply zC)); exact Kd.R_mono HO_7.out (fun _ hk => hk.1.2)⟩, ⟨by (with_reducible repeat (first | apply zA | apply zB | apply zC)); exact Kd.R_mono HO931.out (fun _ hk => hk.1.2)⟩, ⟨by repeat (first | (with_reducible first | exact HB.out | apply zD | apply zE | apply zF) | exact HB.out)⟩⟩
       ·as_aux_lemma =>
        rw [if_neg c31] at H
        have c31b0 : (t928 == t933) = false := beq_eq_false_iff_ne.mpr c31
        have c31b1 : (t928 != t933) = true := bne_iff_ne.mpr c31
        have H' := zM H
        clear H
        go_wp2
        repeat (go_quiet (fail); try go_wp2)
        go_meet
        case rel => exact ⟨_, (true), (by first | rfl | (simp; done) | (simp [*]; done)), H', ⟨by have := HJ6.out; first | omega | exact Nat.le_refl _⟩, ⟨by (with_reducible repeat (first | apply zA | apply zB | apply zC)); exact HO_4.out⟩, ⟨by (with_reducible repeat (first | apply zA | apply zB | apply zC)); exact Kd.R_mono HO_6.out (fun _ hk => trivial)⟩, ⟨by (with_reducible repeat (first | apply zA | apply zB | apply zC)); exact Kd.R_mono HO_7.out (fun _ hk => hk.1.2)⟩, ⟨by (with_reducible repeat (first | apply zA | apply zB | apply zC)); exact Kd.R_mono HO931.out (fun _ hk => hk.1.2)⟩, ⟨by repeat (first | (with_reducible first | exact HB.out | apply zD | apply zE | apply zF) | exact HB.out)⟩⟩
     case rest =>
      clear HC26
      try clear c1
      try clear c2
      try clear p2
      try clear c3
      try clear c11
      try clear c12
      try clear c12b0
      try clear c12b1
      try clear c12b2
      try clear c13
      try clear c13b0
      try clear c13b1
      try clear c15
      try clear c23
      try clear c30
      try clear c30b0
      try clear c30b1
      try clear c30b2
      try clear c31
      try clear c31b0
      try clear c31b1
      try clear p2
      obtain ⟨kq, x102_25, rfl, HA, HJ25, HO_4, HO_6, HO_7, HO_14, HB⟩ := hcut
      cases kq with
      | zero => exact absurd HA.out (by simp [laws_FnBerths.j1])
      | succ kj25 =>
       have H := HA.out
       clear HA
       simp only [laws_FnBerths.j1] at H
       by_cases c35 : x102_25 = true
       ·as_aux_lemma =>
        subst c35
        have H1 : (some false) = some r := by rw [if_pos rfl] at H; exact H
        clear H
        have H := H1
        clear H1
        obtain rfl := Option.some.inj H
        go_wp2
        repeat (go_quiet (fail); try go_wp2)
        go_ret
        exact ⟨by first | rfl | (simp [errW_none, errW_some] <;> rfl) | (simp [*, errW_none, errW_some] <;> rfl), by repeat (first | (with_reducible first | exact HB.out | apply zD | apply zE | apply zF) | exact HB.out)⟩
       ·as_aux_lemma =>
        replace c35 := Bool.eq_false_iff.mpr c35
        subst c35
        have H1 : (if t929 = true then (if t912 = true then (if t928 < t911 then (laws_FnBerths.j2 kj25 t902 t903 t909 t910 t911 t912 true) else ((impl_IsPossiblePlan.f kj25 t902 t903 t927).bind fun t938 => (laws_FnBerths.j2 kj25 t902 t903 t909 t910 t911 t912 (!t938)))) else (laws_FnBerths.j2 kj25 t902 t903 t909 t910 t911 t912 true)) else (laws_FnBerths.j2 kj25 t902 t903 t909 t910 t911 t912 false)) = some r := by rw [if_neg (show ¬ (false = true) by decide)] at H; exact H
        clear H
        have H := H1
        clear H1
        have HC36 := zM H
        clear H
        go_upto_region 12 with (fail)
        repeat (go_quiet (fail); go_upto_region 12 with (fail))
        go_cut [119] (fun v119 wc => ∃ (kq : Nat) (x119_35 : Bool), v119 = .bool x119_35 ∧ Aside0 (laws_FnBerths.j2 kq t902 t903 t909 t910 t911 t912 x119_35 = some r) ∧ Aside0 (kq ≤ kj25) ∧ Aside0 (Kd.R k62 62 wc w.heap.size (fun _ => True) (.slice Ao9 t903.length co9) t903) ∧ Aside0 (Kd.R (Kd.int .i64) 3 wc w.heap.size (fun _ => True) v913 t909) ∧ Aside0 (Kd.R k37 37 wc w.heap.size (fun _ => True) v915 t910) ∧ Aside0 (Below w.heap.size w wc))
        case first =>
         have H := HC36.out
         clear HC36
         by_cases c37 : t929 = true
         ·as_aux_lemma =>
          subst c37
          have H1 : (if t912 = true then (if t928 < t911 then (laws_FnBerths.j2 kj25 t902 t903 t909 t910 t911 t912 true) else ((impl_IsPossiblePlan.f kj25 t902 t903 t927).bind fun t938 => (laws_FnBerths.j2 kj25 t902 t903 t909 t910 t911 t912 (!t938)))) else (laws_FnBerths.j2 kj25 t902 t903 t909 t910 t911 t912 true)) = some r := by rw [if_pos rfl] at H; exact H
          clear H
          have H := H1
          clear H1
          by_cases c38 : t912 = true
          ·as_aux_lemma =>
           subst c38
           have H1 : (if t928 < t911 then (laws_FnBerths.j2 kj25 t902 t903 t909 t910 t911 true true) else ((impl_IsPossiblePlan.f kj25 t902 t903 t927).bind fun t938 => (laws_FnBerths.j2 kj25 t902 t903 t909 t910 t911 true (!t938)))) = some r := by rw [if_pos rfl] at H; exact H
           clear H
           have H := H1
           clear H1
           by_cases c39 : t928 < t911
           ·as_aux_lemma =>
            rw [if_pos c39] at H
            have c39b0 : decide (t928 < t911) = true := decide_eq_true c39
            clear c39
            (first | rw [c39b0] | (simp only [i64_w, i32_w]; rw [c39b0]) | skip)
            have H' := zM H
            clear H
            go_wp2
            repeat (go_quiet (fail); try go_wp2)
            go_meet
            case rel => exact ⟨_, (true), (by first | rfl | (simp; done) | (simp [*]; done)), H', ⟨by have := HJ6.out; have := HJ25.out; first | omega | exact Nat.le_refl _⟩, ⟨by (with_reducible repeat (first | apply zA | apply zB | apply zC)); exact HO_4.out⟩, ⟨by (with_reducible repeat (first | apply zA | apply zB | apply zC)); exact HO_6.out⟩, ⟨by (with_reducible repeat (first | apply zA | apply zB | apply zC)); exact Kd.R_mono HO_7.out (fun _ hk => trivial)⟩, ⟨by repeat (first | (with_reducible first | exact HB.out | apply zD | apply zE | apply zF) | exact HB.out)⟩⟩
           ·as_aux_lemma =>
            rw [if_neg c39] at H
            have c39b0 : decide (t928 < t911) = false := decide_eq_false c39
            clear c39
            (first | rw [c39b0] | (simp only [i64_w, i32_w]; rw [c39b0]) | skip)
            replace H := Option.bind_eq_some_iff.mp H
            obtain ⟨t938, A400, H⟩ := H
            replace H : (laws_FnBerths.j2 kj25 t902 t903 t909 t910 t911 true (!t938)) = some r := H
            have A40 := zM A400
            clear A400
            have H' := zM H
            clear H
            obtain ⟨Ao41, co41, eo41⟩ := Kd.R_slice HO_14.out
            subst eo41
            go_wp2_with (first | (go_at_call 18; (with_reducible refine (impl_IsPossiblePlan.calls kj25 t902 _ _ t903 _ _ t927 t938 _ ?side1 ?side2 ?side3 ?side4 A40.out).mono ?_); (case side1 => repeat (first | exact (zN HO_4.out).2.2 | (with_reducible refine zG ?_ _) | (with_reducible refine zH ?_ _) | (with_reducible refine zI ?_))); (case side2 => exact (zN HO_4.out).2.1); (case side3 => repeat (first | exact (zN HO_14.out).2.2 | (with_reducible refine zG ?_ _) | (with_reducible refine zH ?_ _) | (with_reducible refine zI ?_))); (case side4 => exact (zN HO_14.out).2.1); rintro e w42 ⟨rfl, hb⟩; have n0_ := zM (zP (by (with_reducible repeat (first | apply zA | apply zB | apply zC)); exact HO_4.out) hb); have n1_ := zM (zP (by (with_reducible repeat (first | apply zA | apply zB | apply zC)); exact HO_6.out) hb); have n2_ := zM (zP (by (with_reducible repeat (first | apply zA | apply zB | apply zC)); exact HO_7.out) hb); have n3_ := zM (zP (by (with_reducible repeat (first | apply zA | apply zB | apply zC)); exact HO_14.out) hb); have n4_ := zM (zQ (by repeat (first | (with_reducible first | exact HB.out | apply zD | apply zE | apply zF) | exact HB.out)) hb); clear HO_4; clear HO_6; clear HO_7; clear HO_14; clear HB; have HO_4 := n0_; have HO_6 := n1_; have HO_7 := n2_; have HO_14 := n3_; have HB := n4_; clear n0_ n1_ n2_ n3_ n4_; (try clear hb); (try clear hb2); (try clear hk); (try clear hi)))
            repeat (go_quiet (first | (go_at_call 18; (with_reducible refine (impl_IsPossiblePlan.calls kj25 t902 _ _ t903 _ _ t927 t938 _ ?side1 ?side2 ?side3 ?side4 A40.out).mono ?_); (case side1 => repeat (first | exact (zN HO_4.out).2.2 | (with_reducible refine zG ?_ _) | (with_reducible refine zH ?_ _) | (with_reducible refine zI ?_))); (case side2 => exact (zN HO_4.out).2.1); (case side3 => repeat (first | exact (zN HO_14.out).2.2 | (with_reducible refine zG ?_ _) | (with_reducible refine zH ?_ _) | (with_reducible refine zI ?_))); (case side4 => exact (zN HO_14.out).2.1); rintro e w42 ⟨rfl, hb⟩; have n0_ := zM (zP (by (with_reducible repeat (first | apply zA | apply zB | apply zC)); exact HO_4.out) hb); have n1_ := zM (zP (by (with_reducible repeat (first | apply zA | apply zB | apply zC)); exact HO_6.out) hb); have n2_ := zM (zP (by (with_reducible repeat (first | apply zA | apply zB | apply zC)); exact HO_7.out) hb); have n3_ := zM (zP (by (with_reducible repeat (first | apply zA | apply zB | apply zC)); exact HO_14.out) hb); have n4_ := zM (zQ (by repeat (first | (with_reducible first | exact HB.out | apply zD | apply zE | apply zF) | exact HB.out)) hb); clear HO_4; clear HO_6; clear HO_7; clear HO_14; clear HB; have HO_4 := n0_; have HO_6 := n1_; have HO_7 := n2_; have HO_14 := n3_; have HB := n4_; clear n0_ n1_ n2_ n3_ n4_; (try clear hb); (try clear hb2); (try clear hk); (try clear hi))); try go_wp2_with (first | (go_at_call 18; (with_reducible refine (impl_IsPossiblePlan.calls kj25 t902 _ _ t903 _ _ t927 t938 _ ?side1 ?side2 ?side3 ?side4 A40.out).mono ?_); (case side1 => repeat (first | exact (zN HO_4.out).2.2 | (with_reducible refine zG ?_ _) | (with_reducible refine zH ?_ _) | (with_reducible refine zI ?_))); (case side2 => exact (zN HO_4.out).2.1); (case side3 => repeat (first | exact (zN HO_14.out).2.2 | (with_reducible refine zG ?_ _) | (with_reducible refine zH ?_ _) | (with_reducible refine zI ?_))); (case side4 => exact (zN HO_14.out).2.1); rintro e w42 ⟨rfl, hb⟩; have n0_ := zM (zP (by (with_reducible repeat (first | apply zA | apply zB | apply zC)); exact HO_4.out) hb); have n1_ := zM (zP (by (with_reducible repeat (first | apply zA | apply zB | apply zC)); exact HO_6.out) hb); have n2_ := zM (zP (by (with_reducible repeat (first | apply zA | apply zB | apply zC)); exact HO_7.out) hb); have n3_ := zM (zP (by (with_reducible repeat (first | apply zA | apply zB | apply zC)); exact HO_14.out) hb); have n4_ := zM (zQ (by repeat (first | (with_reducible first | exact HB.out | apply zD | apply zE | apply zF) | exact HB.out)) hb); clear HO_4; clear HO_6; clear HO_7; clear HO_14; clear HB; have HO_4 := n0_; have HO_6 := n1_; have HO_7 := n2_; have HO_14 := n3_; have HB := n4_; clear n0_ n1_ n2_ n3_ n4_; (try clear hb); (try clear hb2); (try clear hk); (try clear hi))))
            go_meet
            case rel => exact ⟨_, (!t938), (by first | rfl | (simp; done) | (simp [*]; done)), H', ⟨by have := HJ6.out; have := HJ25.out; first | omega | exact Nat.le_refl _⟩, ⟨by (with_reducible repeat (first | apply zA | apply zB | apply zC)); exact HO_4.out⟩, ⟨by (with_reducible repeat (first | apply zA | apply zB | apply zC)); exact HO_6.out⟩, ⟨by (with_reducible repeat (first | apply zA | apply zB | apply zC)); exact Kd.R_mono HO_7.out (fun _ hk => trivial)⟩, ⟨by repeat (first | (with_reducible first | exact HB.out | apply zD | apply zE | apply zF) | exact HB.out)⟩⟩
          ·as_aux_lemma =>
           replace c38 := Bool.eq_false_iff.mpr c38
           subst c38
           have H1 : (laws_FnBerths.j2 kj25 t902 t903 t909 t910 t911 false true) = some r := by rw [if_neg (show ¬ (false = true) by decide)] at H; exact H
           clear H
           have H := H1
           clear H1
           have H' := zM H
           clear H
           go_wp2
           repeat (go_quiet (fail); try go_wp2)
           go_meet
           case rel => exact ⟨_, (true), (by first | rfl | (simp; done) | (simp [*]; done)), H', ⟨by have := HJ6.out; have := HJ25.out; first | omega | exact Nat.le_refl _⟩, ⟨by (with_reducible repeat (first | apply zA | apply zB | apply zC)); exact HO_4.out⟩, ⟨by (with_reducible repeat (first | apply zA | apply zB | apply zC)); exact HO_6.out⟩, ⟨by (with_reducible repeat (first | apply zA | apply zB | apply zC)); exact Kd.R_mono HO_7.out (fun _ hk => trivial)⟩, ⟨by repeat (first | (with_reducible first | exact HB.out | apply zD | apply zE | apply zF) | exact HB.out)⟩⟩
         ·as_aux_lemma =>
          replace c37 := Bool.eq_false_iff.mpr c37
          subst c37
          have H1 : (laws_FnBerths.j2 kj25 t902 t903 t909 t910 t911 t912 false) = some r := by rw [if_neg (show ¬ (false = true) by decide)] at H; exact H
          clear H
          have H := H1
          clear H1
          have H' := zM H
          clear H
          go_wp2
          repeat (go_quiet (fail); try go_wp2)
          go_meet
          case rel => exact ⟨_, (false), (by first | rfl | (simp; done) | (simp [*]; done)), H', ⟨by have := HJ6.out; have := HJ25.out; first | omega | exact Nat.le_refl _⟩, ⟨by (with_reducible repeat (first | apply zA | apply zB | apply zC)); exact HO_4.out⟩, ⟨by (with_reducible repeat (first | apply zA | apply zB | apply zC)); exact HO_6.out⟩, ⟨by (with_reducible repeat (first | apply zA | apply zB | apply zC)); exact Kd.R_mono HO_7.out (fun _ hk => trivial)⟩, ⟨by repeat (first | (with_reducible first | exact HB.out | apply zD | apply zE | apply zF) | exact HB.out)⟩⟩
        case rest =>
         clear HC36
         try clear c1
         try clear c2
         try clear p2
         try clear c3
         try clear c11
         try clear c12
         try clear c12b0
         try clear c12b1
         try clear c12b2
         try clear c13
         try clear c13b0
         try clear c13b1
         try clear c15
         try clear c23
         try clear c30
         try clear c30b0
         try clear c30b1
         try clear c30b2
         try clear c31
         try clear c31b0
         try clear c31b1
         try clear c35
         try clear c37
         try clear c38
         try clear c39
         try clear c39b0
         try clear p2
         obtain ⟨kq, x119_35, rfl, HA, HJ35, HO_4, HO_6, HO_7, HB⟩ := hcut
         cases kq with
         | zero => exact absurd HA.out (by simp [laws_FnBerths.j2])
         | succ kj35 =>
          have H := HA.out
          clear HA
          simp only [laws_FnBerths.j2] at H
          by_cases c43 : x119_35 = true
          ·as_aux_lemma =>
           subst c43
           have H1 : (some false) = some r := by rw [if_pos rfl] at H; exact H
           clear H
           have H := H1
           clear H1
           obtain rfl := Option.some.inj H
           go_wp2
           repeat (go_quiet (fail); try go_wp2)
           go_ret
           exact ⟨by first | rfl | (simp [errW_none, errW_some] <;> rfl) | (simp [*, errW_none, errW_some] <;> rfl), by repeat (first | (with_reducible first | exact HB.out | apply zD | apply zE | apply zF) | exact HB.out)⟩
          ·as_aux_lemma =>
           replace c43 := Bool.eq_false_iff.mpr c43
           subst c43
           have H1 : (if t912 = true then ((impl_PlanInOrder.f kj35 t902 t903 t909).bind fun bt939 => ((impl_PlanCost.f kj35 t902 t903 t910).bind fun bt944 => ((impl_WaitOf.f kj35 t902 t903 t910).bind fun bt946 => (laws_FnBerths.l0 kj35 t903 t910 t911 bt939.1 bt939.2.1 bt939.2.2 bt944.1 bt944.2 bt946.1 bt946.2 0 0)))) else (some ((t910.length : Int) == 0))) = some r := by rw [if_neg (show ¬ (false = true) by decide)] at H; exact H
           clear H
           have H := H1
           clear H1
           by_cases c44 : t912 = true
           ·as_aux_lemma =>
            subst c44
            have H1 : ((impl_PlanInOrder.f kj35 t902 t903 t909).bind fun bt939 => ((impl_PlanCost.f kj35 t902 t903 t910).bind fun bt944 => ((impl_WaitOf.f kj35 t902 t903 t910).bind fun bt946 => (laws_FnBerths.l0 kj35 t903 t910 t911 bt939.1 bt939.2.1 bt939.2.2 bt944.1 bt944.2 bt946.1 bt946.2 0 0)))) = some r := by rw [if_pos rfl] at H; exact H
            clear H
            have H := H1
            clear H1
            replace H := Option.bind_eq_some_iff.mp H
            obtain ⟨⟨t939, t940, t941⟩, A450, H⟩ := H
            replace H : ((impl_PlanCost.f kj35 t902 t903 t910).bind fun bt944 => ((impl_WaitOf.f kj35 t902 t903 t910).bind fun bt946 => (laws_FnBerths.l0 kj35 t903 t910 t911 t939 t940 t941 bt944.1 bt944.2 bt946.1 bt946.2 0 0))) = some r := H
            have A45 := zM A450
            clear A450
            replace H := Option.bind_eq_some_iff.mp H
            obtain ⟨⟨t944, t945⟩, A460, H⟩ := H
            replace H : ((impl_WaitOf.f kj35 t902 t903 t910).bind fun bt946 => (laws_FnBerths.l0 kj35 t903 t910 t911 t939 t940 t941 t944 t945 bt946.1 bt946.2 0 0)) = some r := H
            have A46 := zM A460
            clear A460
            replace H := Option.bind_eq_some_iff.mp H
            obtain ⟨⟨t946, t947⟩, A470, H⟩ := H
            replace H : (laws_FnBerths.l0 kj35 t903 t910 t911 t939 t940 t941 t944 t945 t946 t947 0 0) = some r := H
            have A47 := zM A470
            clear A470
            have H' := zM H
            clear H
            obtain ⟨Ao48, co48, eo48⟩ := Kd.R_slice HO_6.out
            subst eo48
            go_wp2_with (first | (go_at_call 39; (with_reducible refine (impl_PlanInOrder.calls kj35 t902 _ _ t903 _ _ t909 t939 t940 t941 _ ?side1 ?side2 ?side3 ?side4 A45.out).mono ?_); (case side1 => repeat (first | exact (zN HO_4.out).2.2 | (with_reducible refine zG ?_ _) | (with_reducible refine zH ?_ _) | (with_reducible refine zI ?_))); (case side2 => exact (zN HO_4.out).2.1); (case side3 => repeat (first | exact (zN HO_6.out).2.2 | (with_reducible refine zG ?_ _) | (with_reducible refine zH ?_ _) | (with_reducible refine zI ?_))); (case side4 => exact (zN HO_6.out).2.1); rintro e w49 ⟨v942, rfl, ho0, hb⟩; have n0_ := zM (zP (by (with_reducible repeat (first | apply zA | apply zB | apply zC)); exact HO_4.out) hb); have n1_ := zM (zP (by (with_reducible repeat (first | apply zA | apply zB | apply zC)); exact HO_6.out) hb); have n2_ := zM (Kd.R_elder' (by (with_reducible repeat (first | apply zA | apply zB | apply zC)); exact HO_7.out) (Kd.R_base ho0) hb); have n3_ := zM (Kd.R_lower (Kd.R_new' ho0 (Kd.R_lt (by (with_reducible repeat (first | apply zA | apply zB | apply zC)); exact HO_7.out))) (zR (by repeat (first | (with_reducible first | exact HB.out | apply zD | apply zE | apply zF) | exact HB.out)))); have n4_ := zM (zQ (by repeat (first | (with_reducible first | exact HB.out | apply zD | apply zE | apply zF) | exact HB.out)) hb); clear HO_4; clear HO_6; clear HO_7; clear HB; have HO_4 := n0_; have HO_6 := n1_; have HO_7 := n2_; have HO943 := n3_; have HB := n4_; clear n0_ n1_ n2_ n3_ n4_; (try clear hb); (try clear hb2); (try clear hk); (try clear hi); (try clear ho0); obtain ⟨Ao50, co50, eo50⟩ := Kd.R_slice HO_7.out; subst eo50) | (go_at_call 24; (with_reducible refine (impl_PlanCost.calls kj35 t902 _ _ t903 _ _ t910 t944 t945 _ ?side1 ?side2 ?side3 ?side4 A46.out).mono ?_); (case side1 => repeat (first | exact (zN HO_4.out).2.2 | (with_reducible refine zG ?_ _) | (with_reducible refine zH ?_ _) | (with_reducible refine zI ?_))); (case side2 => exact (zN HO_4.out).2.1); (case side3 => repeat (first | exact (zN HO_7.out).2.2 | (with_reducible refine zG ?_ _) | (with_reducible refine zH ?_ _) | (with_reducible refine zI ?_))); (case side4 => exact (zN HO_7.out).2.1); rintro e w51 ⟨rfl, hb⟩; have n0_ := zM (zP (by (with_reducible repeat (first | apply zA | apply zB | apply zC)); exact HO_4.out) hb); have n1_ := zM (zP (by (with_reducible repeat (first | apply zA | apply zB | apply zC)); exact HO_6.out) hb); have n2_ := zM (zP (by (with_reducible repeat (first | apply zA | apply zB | apply zC)); exact HO_7.out) hb); have n3_ := zM (zP (by (with_reducible repeat (first | apply zA | apply zB | apply zC)); exact HO943.out) hb); have n4_ := zM (zQ (by repeat (first | (with_reducible first | exact HB.out | apply zD | apply zE | apply zF) | exact HB.out)) hb); clear HO_4; clear HO_6; clear HO_7; clear HO943; clear HB; have HO_4 := n0_; have HO_6 := n1_; have HO_7 := n2_; have HO943 := n3_; have HB := n4_; clear n0_ n1_ n2_ n3_ n4_; (try clear hb); (try clear hb2); (try clear hk); (try clear hi)) | (go_at_call 29; (with_reducible refine (impl_WaitOf.calls kj35 t902 _ _ t903 _ _ t910 t946 t947 _ ?side1 ?side2 ?side3 ?side4 A47.out).mono ?_); (case side1 => repeat (first | exact (zN HO_4.out).2.2 | (with_reducible refine zG ?_ _) | (with_reducible refine zH ?_ _) | (with_reducible refine zI ?_))); (case side2 => exact (zN HO_4.out).2.1); (case side3 => repeat (first | exact (zN HO_7.out).2.2 | (with_reducible refine zG ?_ _) | (with_reducible refine zH ?_ _) | (with_reducible refine zI ?_))); (case side4 => exact (zN HO_7.out).2.1); rintro e w52 ⟨v948, rfl, ho0, hb⟩; have n0_ := zM (zP (by (with_reducible repeat (first | apply zA | apply zB | apply zC)); exact HO_4.out) hb); have n1_ := zM (Kd.R_elder' (by (with_reducible repeat (first | apply zA | apply zB | apply zC)); exact HO_6.out) (Kd.R_base ho0) hb); have n2_ := zM (zP (by (with_reducible repeat (first | apply zA | apply zB | apply zC)); exact HO_7.out) hb); have n3_ := zM (zP (by (with_reducible repeat (first | apply zA | apply zB | apply zC)); exact HO943.out) hb); have n4_ := zM (Kd.R_lower (Kd.R_new' ho0 (Kd.R_lt (by (with_reducible repeat (first | apply zA | apply zB | apply zC)); exact HO_6.out))) (zR (by repeat (first | (with_reducible first | exact HB.out | apply zD | apply zE | apply zF) | exact HB.out)))); have n5_ := zM (zQ (by repeat (first | (with_reducible first | exact HB.out | apply zD | apply zE | apply zF) | exact HB.out)) hb); clear HO_4; clear HO_6; clear HO_7; clear HO943; clear HB; have HO_4 := n0_; have HO_6 := n1_; have HO_7 := n2_; have HO943 := n3_; have HO949 := n4_; have HB := n5_; clear n0_ n1_ n2_ n3_ n4_ n5_; (try clear hb); (try clear hb2); (try clear hk); (try clear hi); (try clear ho0)))
            repeat (go_quiet (first | (go_at_call 39; (with_reducible refine (impl_PlanInOrder.calls kj35 t902 _ _ t903 _ _ t909 t939 t940 t941 _ ?side1 ?side2 ?side3 ?side4 A45.out).mono ?_); (case side1 => repeat (first | exact (zN HO_4.out).2.2 | (with_reducible refine zG ?_ _) | (with_reducible refine zH ?_ _) | (with_reducible refine zI ?_))); (case side2 => exact (zN HO_4.out).2.1); (case side3 => repeat (first | exact (zN HO_6.out).2.2 | (with_reducible refine zG ?_ _) | (with_reducible refine zH ?_ _) | (with_reducible refine zI ?_))); (case side4 => exact (zN HO_6.out).2.1); rintro e w49 ⟨v942, rfl, ho0, hb⟩; have n0_ := zM (zP (by (with_reducible repeat (first | apply zA | apply zB | apply zC)); exact HO_4.out) hb); have n1_ := zM (zP (by (with_reducible repeat (first | apply zA | apply zB | apply zC)); exact HO_6.out) hb); have n2_ := zM (Kd.R_elder' (by (with_reducible repeat (first | apply zA | apply zB | apply zC)); exact HO_7.out) (Kd.R_base ho0) hb); have n3_ := zM (Kd.R_lower (Kd.R_new' ho0 (Kd.R_lt (by (with_reducible repeat (first | apply zA | apply zB | apply zC)); exact HO_7.out))) (zR (by repeat (first | (with_reducible first | exact HB.out | apply zD | apply zE | apply zF) | exact HB.out)))); have n4_ := zM (zQ (by repeat (first | (with_reducible first | exact HB.out | apply zD | apply zE | apply zF) | exact HB.out)) hb); clear HO_4; clear HO_6; clear HO_7; clear HB; have HO_4 := n0_; have HO_6 := n1_; have HO_7 := n2_; have HO943 := n3_; have HB := n4_; clear n0_ n1_ n2_ n3_ n4_; (try clear hb); (try clear hb2); (try clear hk); (try clear hi); (try clear ho0); obtain ⟨Ao50, co50, eo50⟩ := Kd.R_slice HO_7.out; subst eo50) | (go_at_call 24; (with_reducible refine (impl_PlanCost.calls kj35 t902 _ _ t903 _ _ t910 t944 t945 _ ?side1 ?side2 ?side3 ?side4 A46.out).mono ?_); (case side1 => repeat (first | exact (zN HO_4.out).2.2 | (with_reducible refine zG ?_ _) | (with_reducible refine zH ?_ _) | (with_reducible refine zI ?_))); (case side2 => exact (zN HO_4.out).2.1); (case side3 => repeat (first | exact (zN HO_7.out).2.2 | (with_reducible refine zG ?_ _) | (with_reducible refine zH ?_ _) | (with_reducible refine zI ?_))); (case side4 => exact (zN HO_7.out).2.1); rintro e w51 ⟨rfl, hb⟩; have n0_ := zM (zP (by (with_reducible repeat (first | apply zA | apply zB | apply zC)); exact HO_4.out) hb); have n1_ := zM (zP (by (with_reducible repeat (first | apply zA | apply zB | apply zC)); exact HO_6.out) hb); have n2_ := zM (zP (by (with_reducible repeat (first | apply zA | apply zB | apply zC)); exact HO_7.out) hb); have n3_ := zM (zP (by (with_reducible repeat (first | apply zA | apply zB | apply zC)); exact HO943.out) hb); have n4_ := zM (zQ (by repeat (first | (with_reducible first | exact HB.out | apply zD | apply zE | apply zF) | exact HB.out)) hb); clear HO_4; clear HO_6; clear HO_7; clear HO943; clear HB; have HO_4 := n0_; have HO_6 := n1_; have HO_7 := n2_; have HO943 := n3_; have HB := n4_; clear n0_ n1_ n2_ n3_ n4_; (try clear hb); (try clear hb2); (try clear hk); (try clear hi)) | (go_at_call 29; (with_reducible refine (impl_WaitOf.calls kj35 t902 _ _ t903 _ _ t910 t946 t947 _ ?side1 ?side2 ?side3 ?side4 A47.out).mono ?_); (case side1 => repeat (first | exact (zN HO_4.out).2.2 | (with_reducible refine zG ?_ _) | (with_reducible refine zH ?_ _) | (with_reducible refine zI ?_))); (case side2 => exact (zN HO_4.out).2.1); (case side3 => repeat (first | exact (zN HO_7.out).2.2 | (with_reducible refine zG ?_ _) | (with_reducible refine zH ?_ _) | (with_reducible refine zI ?_))); (case side4 => exact (zN HO_7.out).2.1); rintro e w52 ⟨v948, rfl, ho0, hb⟩; have n0_ := zM (zP (by (with_reducible repeat (first | apply zA | apply zB | apply zC)); exact HO_4.out) hb); have n1_ := zM (Kd.R_elder' (by (with_reducible repeat (first | apply zA | apply zB | apply zC)); exact HO_6.out) (Kd.R_base ho0) hb); have n2_ := zM (zP (by (with_reducible repeat (first | apply zA | apply zB | apply zC)); exact HO_7.out) hb); have n3_ := zM (zP (by (with_reducible repeat (first | apply zA | apply zB | apply zC)); exact HO943.out) hb); have n4_ := zM (Kd.R_lower (Kd.R_new' ho0 (Kd.R_lt (by (with_reducible repeat (first | apply zA | apply zB | apply zC)); exact HO_6.out))) (zR (by repeat (first | (with_reducible first | exact HB.out | apply zD | apply zE | apply zF) | exact HB.out)))); have n5_ := zM (zQ (by repeat (first | (with_reducible first | exact HB.out | apply zD | apply zE | apply zF) | exact HB.out)) hb); clear HO_4; clear HO_6; clear HO_7; clear HO943; clear HB; have HO_4 := n0_; have HO_6 := n1_; have HO_7 := n2_; have HO943 := n3_; have HO949 := n4_; have HB := n5_; clear n0_ n1_ n2_ n3_ n4_ n5_; (try clear hb); (try clear hb2); (try clear hk); (try clear hi); (try clear ho0))); try go_wp2_with (first | (go_at_call 39; (with_reducible refine (impl_PlanInOrder.calls kj35 t902 _ _ t903 _ _ t909 t939 t940 t941 _ ?side1 ?side2 ?side3 ?side4 A45.out).mono ?_); (case side1 => repeat (first | exact (zN HO_4.out).2.2 | (with_reducible refine zG ?_ _) | (with_reducible refine zH ?_ _) | (with_reducible refine zI ?_))); (case side2 => exact (zN HO_4.out).2.1); (case side3 => repeat (first | exact (zN HO_6.out).2.2 | (with_reducible refine zG ?_ _) | (with_reducible refine zH ?_ _) | (with_reducible refine zI ?_))); (case side4 => exact (zN HO_6.out).2.1); rintro e w49 ⟨v942, rfl, ho0, hb⟩; have n0_ := zM (zP (by (with_reducible repeat (first | apply zA | apply zB | apply zC)); exact HO_4.out) hb); have n1_ := zM (zP (by (with_reducible repeat (first | apply zA | apply zB | apply zC)); exact HO_6.out) hb); have n2_ := zM (Kd.R_elder' (by (with_reducible repeat (first | apply zA | apply zB | apply zC)); exact HO_7.out) (Kd.R_base ho0) hb); have n3_ := zM (Kd.R_lower (Kd.R_new' ho0 (Kd.R_lt (by (with_reducible repeat (first | apply zA | apply zB | apply zC)); exact HO_7.out))) (zR (by repeat (first | (with_reducible first | exact HB.out | apply zD | apply zE | apply zF) | exact HB.out)))); have n4_ := zM (zQ (by repeat (first | (with_reducible first | exact HB.out | apply zD | apply zE | apply zF) | exact HB.out)) hb); clear HO_4; clear HO_6; clear HO_7; clear HB; have HO_4 := n0_; have HO_6 := n1_; have HO_7 := n2_; have HO943 := n3_; have HB := n4_; clear n0_ n1_ n2_ n3_ n4_; (try clear hb); (try clear hb2); (try clear hk); (try clear hi); (try clear ho0); obtain ⟨Ao50, co50, eo50⟩ := Kd.R_slice HO_7.out; subst eo50) | (go_at_call 24; (with_reducible refine (impl_PlanCost.calls kj35 t902 _ _ t903 _ _ t910 t944 t945 _ ?side1 ?side2 ?side3 ?side4 A46.out).mono ?_); (case side1 => repeat (first | exact (zN HO_4.out).2.2 | (with_reducible refine zG ?_ _) | (with_reducible refine zH ?_ _) | (with_reducible refine zI ?_))); (case side2 => exact (zN HO_4.out).2.1); (case side3 => repeat (first | exact (zN HO_7.out).2.2 | (with_reducible refine zG ?_ _) | (with_reducible refine zH ?_ _) | (with_reducible refine zI ?_))); (case side4 => exact (zN HO_7.out).2.1); rintro e w51 ⟨rfl, hb⟩; have n0_ := zM (zP (by (with_reducible repeat (first | apply zA | apply zB | apply zC)); exact HO_4.out) hb); have n1_ := zM (zP (by (with_reducible repeat (first | apply zA | apply zB | apply zC)); exact HO_6.out) hb); have n2_ := zM (zP (by (with_reducible repeat (first | apply zA | apply zB | apply zC)); exact HO_7.out) hb); have n3_ := zM (zP (by (with_reducible repeat (first | apply zA | apply zB | apply zC)); exact HO943.out) hb); have n4_ := zM (zQ (by repeat (first | (with_reducible first | exact HB.out | apply zD | apply zE | apply zF) | exact HB.out)) hb); clear HO_4; clear HO_6; clear HO_7; clear HO943; clear HB; have HO_4 := n0_; have HO_6 := n1_; have HO_7 := n2_; have HO943 := n3_; have HB := n4_; clear n0_ n1_ n2_ n3_ n4_; (try clear hb); (try clear hb2); (try clear hk); (try clear hi)) | (go_at_call 29; (with_reducible refine (impl_WaitOf.calls kj35 t902 _ _ t903 _ _ t910 t946 t947 _ ?side1 ?side2 ?side3 ?side4 A47.out).mono ?_); (case side1 => repeat (first | exact (zN HO_4.out).2.2 | (with_reducible refine zG ?_ _) | (with_reducible refine zH ?_ _) | (with_reducible refine zI ?_))); (case side2 => exact (zN HO_4.out).2.1); (case side3 => repeat (first | exact (zN HO_7.out).2.2 | (with_reducible refine zG ?_ _) | (with_reducible refine zH ?_ _) | (with_reducible refine zI ?_))); (case side4 => exact (zN HO_7.out).2.1); rintro e w52 ⟨v948, rfl, ho0, hb⟩; have n0_ := zM (zP (by (with_reducible repeat (first | apply zA | apply zB | apply zC)); exact HO_4.out) hb); have n1_ := zM (Kd.R_elder' (by (with_reducible repeat (first | apply zA | apply zB | apply zC)); exact HO_6.out) (Kd.R_base ho0) hb); have n2_ := zM (zP (by (with_reducible repeat (first | apply zA | apply zB | apply zC)); exact HO_7.out) hb); have n3_ := zM (zP (by (with_reducible repeat (first | apply zA | apply zB | apply zC)); exact HO943.out) hb); have n4_ := zM (Kd.R_lower (Kd.R_new' ho0 (Kd.R_lt (by (with_reducible repeat (first | apply zA | apply zB | apply zC)); exact HO_6.out))) (zR (by repeat (first | (with_reducible first | exact HB.out | apply zD | apply zE | apply zF) | exact HB.out)))); have n5_ := zM (zQ (by repeat (first | (with_reducible first | exact HB.out | apply zD | apply zE | apply zF) | exact HB.out)) hb); clear HO_4; clear HO_6; clear HO_7; clear HO943; clear HB; have HO_4 := n0_; have HO_6 := n1_; have HO_7 := n2_; have HO943 := n3_; have HO949 := n4_; have HB := n5_; clear n0_ n1_ n2_ n3_ n4_ n5_; (try clear hb); (try clear hb2); (try clear hk); (try clear hi); (try clear ho0))))
            go_loopg [27, 28] kj35 (fun kq v27 v28 w' => ∃ (x27_4 : Int) (x28_4 : Int), v27 = .int .i64 x27_4 ∧ v28 = .int .i64 x28_4 ∧ Aside0 (laws_FnBerths.l0 kq t903 t910 t911 t939 t940 t941 t944 t945 t946 t947 x27_4 x28_4 = some r) ∧ Aside0 (kq ≤ kj35) ∧ Aside0 (Kd.R k62 62 w' w.heap.size (fun _ => True) (.slice Ao9 t903.length co9) t903) ∧ Aside0 (Kd.R k37 37 w' w.heap.size (fun k_ => some k_ ≠ (v942 : Value).ownBlock) (.slice Ao50 t910.length co50) t910) ∧ Aside0 (Kd.R k37 37 w' w.heap.size (fun k_ => some k_ ≠ ((.slice Ao50 t910.length co50) : Value).ownBlock) v942 t939) ∧ Aside0 (Kd.R (Kd.int .i64) 3 w' w.heap.size (fun _ => True) v948 t946) ∧ Aside0 (Below w.heap.size w w'))
            case atStart => exact ⟨(0), (0), (by first | rfl | (simp; done) | (simp [*]; done)), (by first | rfl | (simp; done) | (simp [*]; done)), H', ⟨Nat.le_refl _⟩, ⟨by (with_reducible repeat (first | apply zA | apply zB | apply zC)); exact HO_4.out⟩, ⟨by (with_reducible repeat (first | apply zA | apply zB | apply zC)); exact Kd.R_mono HO_7.out (fun _ hk => hk.2)⟩, ⟨by (with_reducible repeat (first | apply zA | apply zB | apply zC)); exact Kd.R_mono HO943.out (fun _ hk => hk.2)⟩, ⟨by (with_reducible repeat (first | apply zA | apply zB | apply zC)); exact Kd.R_mono HO949.out (fun _ hk => trivial)⟩, ⟨by repeat (first | (with_reducible first | exact HB.out | apply zD | apply zE | apply zF) | exact HB.out)⟩⟩
            case round =>
             clear H'
             try clear c1
             try clear c2
             try clear p2
             try clear c3
             try clear c4
             try clear c11
             try clear c12
             try clear c12b0
             try clear c12b1
             try clear c12b2
             try clear c13
             try clear c13b0
             try clear c13b1
             try clear c15
             try clear c23
             try clear c30
             try clear c30b0
             try clear c30b1
             try clear c30b2
             try clear c31
             try clear c31b0
             try clear c31b1
             try clear c35
             try clear c37
             try clear c38
             try clear c39
             try clear c39b0
             try clear c43
             try clear c44
             try clear p2
             obtain ⟨x27_4, x28_4, rfl, rfl, HA, HK4, HO_4, HO_7, HO_20, HO_25, HB⟩ := hrel
             cases gk with
             | zero => exact absurd HA.out (by simp [laws_FnBerths.l0])
             | succ k4 =>
              have H := HA.out
              clear HA
              simp only [laws_FnBerths.l0] at H
              by_cases c53 : x28_4 < (t946.length : Int)
              ·as_aux_lemma =>
               rw [if_pos c53] at H
               have c53b0 : decide (x28_4 < (t946.length : Int)) = true := decide_eq_true c53
               clear c53
               by_cases c54 : x28_4 < (t903.length : Int)
               ·as_aux_lemma =>
                rw [if_pos c54] at H
                have c54b0 : decide (x28_4 < (t903.length : Int)) = true := decide_eq_true c54
                clear c54
                by_cases c55 : 0 ≤ x28_4
                ·as_aux_lemma =>
                 rw [if_pos c55] at H
                 have c55b0 : decide (0 ≤ x28_4) = true := decide_eq_true c55
                 clear c55
                 have H' := zM H
                 clear H
                 obtain ⟨Ao56, co56, eo56⟩ := Kd.R_slice HO_25.out
                 subst eo56
                 have p950 : 0 ≤ (x28_4 : Int) := of_decide_eq_true (by first | (with_reducible assumption) | assumption)
                 have q950 : x28_4 < (t946.length : Int) := of_decide_eq_true (by first | (with_reducible assumption) | assumption)
                 obtain ⟨ad950, e950, hx950_0⟩ := Kd.at_int (zN HO_25.out).2.2 x28_4 p950 q950
                 cases e950
                 replace p950 := eq_true p950
                 replace q950 := eq_true q950
                 have p951 : 0 ≤ (x28_4 : Int) := of_decide_eq_true (by first | (with_reducible assumption) | assumption)
                 have q951 : x28_4 < (t903.length : Int) := of_decide_eq_true (by first | (with_reducible assumption) | assumption)
                 obtain ⟨ad951, e951, hx951_0, hx951_1, hx951_2, hx951_3⟩ := at_T62 (zN HO_4.out).2.2 x28_4 p951 q951
                 cases e951
                 replace p951 := eq_true p951
                 replace q951 := eq_true q951
                 go_wp2
                 repeat (go_quiet (fail); try go_wp2)
                 go_roundg k4
                 case measure => have := HJ6.out; have := HJ25.out; have := HJ35.out; have := HK4.out; omega
                 case rel => exact ⟨(wrap64 (x27_4 + (wrap64 ((rd t946 x28_4) * ((rd_T62 t903 x28_4).f3))))), (wrap64 (x28_4 + 1)), (by first | rfl | (simp; done) | (simp [*]; done)), (by first | rfl | (simp; done) | (simp [*]; done)), H', ⟨by have := HJ6.out; have := HJ25.out; have := HJ35.out; have := HK4.out; omega⟩, ⟨by (with_reducible repeat (first | apply zA | apply zB | apply zC)); exact HO_4.out⟩, ⟨by (with_reducible repeat (first | apply zA | apply zB | apply zC)); exact HO_7.out⟩, ⟨by (with_reducible repeat (first | apply zA | apply zB | apply zC)); exact HO_20.out⟩, ⟨by (with_reducible repeat (first | apply zA | apply zB | apply zC)); exact HO_25.out⟩, ⟨by repeat (first | (with_reducible first | exact HB.out | apply zD | apply zE | apply zF) | exact HB.out)⟩⟩
                ·as_aux_lemma =>
                 rw [if_neg c55] at H
                 exact absurd H (by simp)
               ·as_aux_lemma =>
                rw [if_neg c54] at H
                have c54b0 : decide (x28_4 < (t903.length : Int)) = false := decide_eq_false c54
                clear c54
                by_cases c57 : t941 = true
                ·as_aux_lemma =>
                 subst c57
                 have H1 : (if t940 = t911 then ((laws_vBerths.f k4 t939 t910).bind fun t952 => (if t952 = true then (if t945 = true then (if t944 = t911 then (if t947 = true then (some (x27_4 == t911)) else (some false)) else (some false)) else (some false)) else (some false))) else (some false)) = some r := by rw [if_pos rfl] at H; exact H
                 clear H
                 have H := H1
                 clear H1
                 by_cases c58 : t940 = t911
                 ·as_aux_lemma =>
                  rw [if_pos c58] at H
                  have c58b0 : (t940 == t911) = true := beq_iff_eq.mpr c58
                  have c58b1 : (t940 != t911) = false := bne_eq_false_iff_eq.mpr c58
                  clear c58
                  replace H := Option.bind_eq_some_iff.mp H
                  obtain ⟨t952, A590, H⟩ := H
                  replace H : (if t952 = true then (if t945 = true then (if t944 = t911 then (if t947 = true then (some (x27_4 == t911)) else (some false)) else (some false)) else (some false)) else (some false)) = some r := H
                  have A59 := zM A590
                  clear A590
                  by_cases c60 : t952 = true
                  ·as_aux_lemma =>
                   subst c60
                   have H1 : (if t945 = true then (if t944 = t911 then (if t947 = true then (some (x27_4 == t911)) else (some false)) else (some false)) else (some false)) = some r := by rw [if_pos rfl] at H; exact H
                   clear H
                   have H := H1
                   clear H1
                   by_cases c61 : t945 = true
                   ·as_aux_lemma =>
                    subst c61
                    have H1 : (if t944 = t911 then (if t947 = true then (some (x27_4 == t911)) else (some false)) else (some false)) = some r := by rw [if_pos rfl] at H; exact H
                    clear H
                    have H := H1
                    clear H1
                    by_cases c62 : t944 = t911
                    ·as_aux_lemma =>
                     rw [if_pos c62] at H
                     have c62b0 : (t944 == t911) = true := beq_iff_eq.mpr c62
                     have c62b1 : (t944 != t911) = false := bne_eq_false_iff_eq.mpr c62
                     clear c62
                     by_cases c63 : t947 = true
                     ·as_aux_lemma =>
                      subst c63
                      have H1 : (some (x27_4 == t911)) = some r := by rw [if_pos rfl] at H; exact H
                      clear H
                      have H := H1
                      clear H1
                      obtain rfl := Option.some.inj H
                      obtain ⟨Ao64, co64, eo64⟩ := Kd.R_slice HO_25.out
                      subst eo64
                      obtain ⟨Ao65, co65, eo65⟩ := Kd.R_slice HO_20.out
                      subst eo65
                      go_wp2_with (first | (go_at_call 46; (with_reducible refine (laws_vBerths.calls k4 _ _ t939 _ _ t910 true _ ?side1 ?side2 ?side3 ?side4 A59.out).mono ?_); (case side1 => repeat (first | exact (zN HO_20.out).2.2 | (with_reducible refine zG ?_ _) | (with_reducible refine zH ?_ _) | (with_reducible refine zI ?_))); (case side2 => exact (zN HO_20.out).2.1); (case side3 => repeat (first | exact (zN HO_7.out).2.2 | (with_reducible refine zG ?_ _) | (with_reducible refine zH ?_ _) | (with_reducible refine zI ?_))); (case side4 => exact (zN HO_7.out).2.1); rintro e w' ⟨rfl, ⟨nd, rfl⟩⟩; (try first | exact ⟨rfl, _, World.drewN_drewN _ _ _⟩ | exact ⟨rfl, _, Eq.trans (World.drewN_drewN _ _ _) (congrArg (World.drewN _) (Nat.add_assoc _ _ _))⟩)))
                      repeat (go_quiet (first | (go_at_call 46; (with_reducible refine (laws_vBerths.calls k4 _ _ t939 _ _ t910 true _ ?side1 ?side2 ?side3 ?side4 A59.out).mono ?_); (case side1 => repeat (first | exact (zN HO_20.out).2.2 | (with_reducible refine zG ?_ _) | (with_reducible refine zH ?_ _) | (with_reducible refine zI ?_))); (case side2 => exact (zN HO_20.out).2.1); (case side3 => repeat (first | exact (zN HO_7.out).2.2 | (with_reducible refine zG ?_ _) | (with_reducible refine zH ?_ _) | (with_reducible refine zI ?_))); (case side4 => exact (zN HO_7.out).2.1); rintro e w' ⟨rfl, ⟨nd, rfl⟩⟩; (try first | exact ⟨rfl, _, World.drewN_drewN _ _ _⟩ | exact ⟨rfl, _, Eq.trans (World.drewN_drewN _ _ _) (congrArg (World.drewN _) (Nat.add_assoc _ _ _))⟩))); try go_wp2_with (first | (go_at_call 46; (with_reducible refine (laws_vBerths.calls k4 _ _ t939 _ _ t910 true _ ?side1 ?side2 ?side3 ?side4 A59.out).mono ?_); (case side1 => repeat (first | exact (zN HO_20.out).2.2 | (with_reducible refine zG ?_ _) | (with_reducible refine zH ?_ _) | (with_reducible refine zI ?_))); (case side2 => exact (zN HO_20.out).2.1); (case side3 => repeat (first | exact (zN HO_7.out).2.2 | (with_reducible refine zG ?_ _) | (with_reducible refine zH ?_ _) | (with_reducible refine zI ?_))); (case side4 => exact (zN HO_7.out).2.1); rintro e w' ⟨rfl, ⟨nd, rfl⟩⟩; (try first | exact ⟨rfl, _, World.drewN_drewN _ _ _⟩ | exact ⟨rfl, _, Eq.trans (World.drewN_drewN _ _ _) (congrArg (World.drewN _) (Nat.add_assoc _ _ _))⟩))))
                      go_ret
                      exact ⟨by first | rfl | (simp [errW_none, errW_some] <;> rfl) | (simp [*, errW_none, errW_some] <;> rfl), by repeat (first | (with_reducible first | exact HB.out | apply zD | apply zE | apply zF) | exact HB.out)⟩
                     ·as_aux_lemma =>
                      replace c63 := Bool.eq_false_iff.mpr c63
                      subst c63
                      have H1 : (some false) = some r := by rw [if_neg (show ¬ (false = true) by decide)] at H; exact H
                      clear H
                      have H := H1
                      clear H1
                      obtain rfl := Option.some.inj H
                      obtain ⟨Ao66, co66, eo66⟩ := Kd.R_slice HO_25.out
                      subst eo66
                      obtain ⟨Ao67, co67, eo67⟩ := Kd.R_slice HO_20.out
                      subst eo67
                      go_wp2_with (first | (go_at_call 46; (with_reducible refine (laws_vBerths.calls k4 _ _ t939 _ _ t910 true _ ?side1 ?side2 ?side3 ?side4 A59.out).mono ?_); (case side1 => repeat (first | exact (zN HO_20.out).2.2 | (with_reducible refine zG ?_ _) | (with_reducible refine zH ?_ _) | (with_reducible refine zI ?_))); (case side2 => exact (zN HO_20.out).2.1); (case side3 => repeat (first | exact (zN HO_7.out).2.2 | (with_reducible refine zG ?_ _) | (with_reducible refine zH ?_ _) | (with_reducible refine zI ?_))); (case side4 => exact (zN HO_7.out).2.1); rintro e w' ⟨rfl, ⟨nd, rfl⟩⟩; (try first | exact ⟨rfl, _, World.drewN_drewN _ _ _⟩ | exact ⟨rfl, _, Eq.trans (World.drewN_drewN _ _ _) (congrArg (World.drewN _) (Nat.add_assoc _ _ _))⟩)))
                      repeat (go_quiet (first | (go_at_call 46; (with_reducible refine (laws_vBerths.calls k4 _ _ t939 _ _ t910 true _ ?side1 ?side2 ?side3 ?side4 A59.out).mono ?_); (case side1 => repeat (first | exact (zN HO_20.out).2.2 | (with_reducible refine zG ?_ _) | (with_reducible refine zH ?_ _) | (with_reducible refine zI ?_))); (case side2 => exact (zN HO_20.out).2.1); (case side3 => repeat (first | exact (zN HO_7.out).2.2 | (with_reducible refine zG ?_ _) | (with_reducible refine zH ?_ _) | (with_reducible refine zI ?_))); (case side4 => exact (zN HO_7.out).2.1); rintro e w' ⟨rfl, ⟨nd, rfl⟩⟩; (try first | exact ⟨rfl, _, World.drewN_drewN _ _ _⟩ | exact ⟨rfl, _, Eq.trans (World.drewN_drewN _ _ _) (congrArg (World.drewN _) (Nat.add_assoc _ _ _))⟩))); try go_wp2_with (first | (go_at_call 46; (with_reducible refine (laws_vBerths.calls k4 _ _ t939 _ _ t910 true _ ?side1 ?side2 ?side3 ?side4 A59.out).mono ?_); (case side1 => repeat (first | exact (zN HO_20.out).2.2 | (with_reducible refine zG ?_ _) | (with_reducible refine zH ?_ _) | (with_reducible refine zI ?_))); (case side2 => exact (zN HO_20.out).2.1); (case side3 => repeat (first | exact (zN HO_7.out).2.2 | (with_reducible refine zG ?_ _) | (with_reducible refine zH ?_ _) | (with_reducible refine zI ?_))); (case side4 => exact (zN HO_7.out).2.1); rintro e w' ⟨rfl, ⟨nd, rfl⟩⟩; (try first | exact ⟨rfl, _, World.drewN_drewN _ _ _⟩ | exact ⟨rfl, _, Eq.trans (World.drewN_drewN _ _ _) (congrArg (World.drewN _) (Nat.add_assoc _ _ _))⟩))))
                      go_ret
                      exact ⟨by first | rfl | (simp [errW_none, errW_some] <;> rfl) | (simp [*, errW_none, errW_some] <;> rfl), by repeat (first | (with_reducible first | exact HB.out | apply zD | apply zE | apply zF) | exact HB.out)⟩
                    ·as_aux_lemma =>
                     rw [if_neg c62] at H
                     have c62b0 : (t944 == t911) = false := beq_eq_false_iff_ne.mpr c62
                     have c62b1 : (t944 != t911) = true := bne_iff_ne.mpr c62
                     obtain rfl := Option.some.inj H
                     obtain ⟨Ao68, co68, eo68⟩ := Kd.R_slice HO_25.out
                     subst eo68
                     obtain ⟨Ao69, co69, eo69⟩ := Kd.R_slice HO_20.out
                     subst eo69
                     go_wp2_with (first | (go_at_call 46; (with_reducible refine (laws_vBerths.calls k4 _ _ t939 _ _ t910 true _ ?side1 ?side2 ?side3 ?side4 A59.out).mono ?_); (case side1 => repeat (first | exact (zN HO_20.out).2.2 | (with_reducible refine zG ?_ _) | (with_reducible refine zH ?_ _) | (with_reducible refine zI ?_))); (case side2 => exact (zN HO_20.out).2.1); (case side3 => repeat (first | exact (zN HO_7.out).2.2 | (with_reducible refine zG ?_ _) | (with_reducible refine zH ?_ _) | (with_reducible refine zI ?_))); (case side4 => exact (zN HO_7.out).2.1); rintro e w' ⟨rfl, ⟨nd, rfl⟩⟩; (try first | exact ⟨rfl, _, World.drewN_drewN _ _ _⟩ | exact ⟨rfl, _, Eq.trans (World.drewN_drewN _ _ _) (congrArg (World.drewN _) (Nat.add_assoc _ _ _))⟩)))
                     repeat (go_quiet (first | (go_at_call 46; (with_reducible refine (laws_vBerths.calls k4 _ _ t939 _ _ t910 true _ ?side1 ?side2 ?side3 ?side4 A59.out).mono ?_); (case side1 => repeat (first | exact (zN HO_20.out).2.2 | (with_reducible refine zG ?_ _) | (with_reducible refine zH ?_ _) | (with_reducible refine zI ?_))); (case side2 => exact (zN HO_20.out).2.1); (case side3 => repeat (first | exact (zN HO_7.out).2.2 | (with_reducible refine zG ?_ _) | (with_reducible refine zH ?_ _) | (with_reducible refine zI ?_))); (case side4 => exact (zN HO_7.out).2.1); rintro e w' ⟨rfl, ⟨nd, rfl⟩⟩; (try first | exact ⟨rfl, _, World.drewN_drewN _ _ _⟩ | exact ⟨rfl, _, Eq.trans (World.drewN_drewN _ _ _) (congrArg (World.drewN _) (Nat.add_assoc _ _ _))⟩))); try go_wp2_with (first | (go_at_call 46; (with_reducible refine (laws_vBerths.calls k4 _ _ t939 _ _ t910 true _ ?side1 ?side2 ?side3 ?side4 A59.out).mono ?_); (case side1 => repeat (first | exact (zN HO_20.out).2.2 | (with_reducible refine zG ?_ _) | (with_reducible refine zH ?_ _) | (with_reducible refine zI ?_))); (case side2 => exact (zN HO_20.out).2.1); (case side3 => repeat (first | exact (zN HO_7.out).2.2 | (with_reducible refine zG ?_ _) | (with_reducible refine zH ?_ _) | (with_reducible refine zI ?_))); (case side4 => exact (zN HO_7.out).2.1); rintro e w' ⟨rfl, ⟨nd, rfl⟩⟩; (try first | exact ⟨rfl, _, World.drewN_drewN _ _ _⟩ | exact ⟨rfl, _, Eq.trans (World.drewN_drewN _ _ _) (congrArg (World.drewN _) (Nat.add_assoc _ _ _))⟩))))
                     go_ret
                     exact ⟨by first | rfl | (simp [errW_none, errW_some] <;> rfl) | (simp [*, errW_none, errW_some] <;> rfl), by repeat (first | (with_reducible first | exact HB.out | apply zD | apply zE | apply zF) | exact HB.out)⟩
                   ·as_aux_lemma =>
                    replace c61 := Bool.eq_false_iff.mpr c61
                    subst c61
                    have H1 : (some false) = some r := by rw [if_neg (show ¬ (false = true) by decide)] at H; exact H
                    clear H
                    have H := H1
                    clear H1
                    obtain rfl := Option.some.inj H
                    obtain ⟨Ao70, co70, eo70⟩ := Kd.R_slice HO_25.out
                    subst eo70
                    obtain ⟨Ao71, co71, eo71⟩ := Kd.R_slice HO_20.out
                    subst eo71
                    go_wp2_with (first | (go_at_call 46; (with_reducible refine (laws_vBerths.calls k4 _ _ t939 _ _ t910 true _ ?side1 ?side2 ?side3 ?side4 A59.out).mono ?_); (case side1 => repeat (first | exact (zN HO_20.out).2.2 | (with_reducible refine zG ?_ _) | (with_reducible refine zH ?_ _) | (with_reducible refine zI ?_))); (case side2 => exact (zN HO_20.out).2.1); (case side3 => repeat (first | exact (zN HO_7.out).2.2 | (with_reducible refine zG ?_ _) | (with_reducible refine zH ?_ _) | (with_reducible refine zI ?_))); (case side4 => exact (zN HO_7.out).2.1); rintro e w' ⟨rfl, ⟨nd, rfl⟩⟩; (try first | exact ⟨rfl, _, World.drewN_drewN _ _ _⟩ | exact ⟨rfl, _, Eq.trans (World.drewN_drewN _ _ _) (congrArg (World.drewN _) (Nat.add_assoc _ _ _))⟩)))
                    repeat (go_quiet (first | (go_at_call 46; (with_reducible refine (laws_vBerths.calls k4 _ _ t939 _ _ t910 true _ ?side1 ?side2 ?side3 ?side4 A59.out).mono ?_); (case side1 => repeat (first | exact (zN HO_20.out).2.2 | (with_reducible refine zG ?_ _) | (with_reducible refine zH ?_ _) | (with_reducible refine zI ?_))); (case side2 => exact (zN HO_20.out).2.1); (case side3 => repeat (first | exact (zN HO_7.out).2.2 | (with_reducible refine zG ?_ _) | (with_reducible refine zH ?_ _) | (with_reducible refine zI ?_))); (case side4 => exact (zN HO_7.out).2.1); rintro e w' ⟨rfl, ⟨nd, rfl⟩⟩; (try first | exact ⟨rfl, _, World.drewN_drewN _ _ _⟩ | exact ⟨rfl, _, Eq.trans (World.drewN_drewN _ _ _) (congrArg (World.drewN _) (Nat.add_assoc _ _ _))⟩))); try go_wp2_with (first | (go_at_call 46; (with_reducible refine (laws_vBerths.calls k4 _ _ t939 _ _ t910 true _ ?side1 ?side2 ?side3 ?side4 A59.out).mono ?_); (case side1 => repeat (first | exact (zN HO_20.out).2.2 | (with_reducible refine zG ?_ _) | (with_reducible refine zH ?_ _) | (with_reducible refine zI ?_))); (case side2 => exact (zN HO_20.out).2.1); (case side3 => repeat (first | exact (zN HO_7.out).2.2 | (with_reducible refine zG ?_ _) | (with_reducible refine zH ?_ _) | (with_reducible refine zI ?_))); (case side4 => exact (zN HO_7.out).2.1); rintro e w' ⟨rfl, ⟨nd, rfl⟩⟩; (try first | exact ⟨rfl, _, World.drewN_drewN _ _ _⟩ | exact ⟨rfl, _, Eq.trans (World.drewN_drewN _ _ _) (congrArg (World.drewN _) (Nat.add_assoc _ _ _))⟩))))
                    go_ret
                    exact ⟨by first | rfl | (simp [errW_none, errW_some] <;> rfl) | (simp [*, errW_none, errW_some] <;> rfl), by repeat (first | (with_reducible first | exact HB.out | apply zD | apply zE | apply zF) | exact HB.out)⟩
                  ·as_aux_lemma =>
                   replace c60 := Bool.eq_false_iff.mpr c60
                   subst c60
                   have H1 : (some false) = some r := by rw [if_neg (show ¬ (false = true) by decide)] at H; exact H
                   clear H
                   have H := H1
                   clear H1
                   obtain rfl := Option.some.inj H
                   obtain ⟨Ao72, co72, eo72⟩ := Kd.R_slice HO_25.out
                   subst eo72
                   obtain ⟨Ao73, co73, eo73⟩ := Kd.R_slice HO_20.out
                   subst eo73
                   go_wp2_with (first | (go_at_call 46; (with_reducible refine (laws_vBerths.calls k4 _ _ t939 _ _ t910 false _ ?side1 ?side2 ?side3 ?side4 A59.out).mono ?_); (case side1 => repeat (first | exact (zN HO_20.out).2.2 | (with_reducible refine zG ?_ _) | (with_reducible refine zH ?_ _) | (with_reducible refine zI ?_))); (case side2 => exact (zN HO_20.out).2.1); (case side3 => repeat (first | exact (zN HO_7.out).2.2 | (with_reducible refine zG ?_ _) | (with_reducible refine zH ?_ _) | (with_reducible refine zI ?_))); (case side4 => exact (zN HO_7.out).2.1); rintro e w' ⟨rfl, ⟨nd, rfl⟩⟩; (try first | exact ⟨rfl, _, World.drewN_drewN _ _ _⟩ | exact ⟨rfl, _, Eq.trans (World.drewN_drewN _ _ _) (congrArg (World.drewN _) (Nat.add_assoc _ _ _))⟩)))
                   repeat (go_quiet (first | (go_at_call 46; (with_reducible refine (laws_vBerths.calls k4 _ _ t939 _ _ t910 false _ ?side1 ?side2 ?side3 ?side4 A59.out).mono ?_); (case side1 => repeat (first | exact (zN HO_20.out).2.2 | (with_reducible refine zG ?_ _) | (with_reducible refine zH ?_ _) | (with_reducible refine zI ?_))); (case side2 => exact (zN HO_20.out).2.1); (case side3 => repeat (first | exact (zN HO_7.out).2.2 | (with_reducible refine zG ?_ _) | (with_reducible refine zH ?_ _) | (with_reducible refine zI ?_))); (case side4 => exact (zN HO_7.out).2.1); rintro e w' ⟨rfl, ⟨nd, rfl⟩⟩; (try first | exact ⟨rfl, _, World.drewN_drewN _ _ _⟩ | exact ⟨rfl, _, Eq.trans (World.drewN_drewN _ _ _) (congrArg (World.drewN _) (Nat.add_assoc _ _ _))⟩))); try go_wp2_with (first | (go_at_call 46; (with_reducible refine (laws_vBerths.calls k4 _ _ t939 _ _ t910 false _ ?side1 ?side2 ?side3 ?side4 A59.out).mono ?_); (case side1 => repeat (first | exact (zN HO_20.out).2.2 | (with_reducible refine zG ?_ _) | (with_reducible refine zH ?_ _) | (with_reducible refine zI ?_))); (case side2 => exact (zN HO_20.out).2.1); (case side3 => repeat (first | exact (zN HO_7.out).2.2 | (with_reducible refine zG ?_ _) | (with_reducible refine zH ?_ _) | (with_reducible refine zI ?_))); (case side4 => exact (zN HO_7.out).2.1); rintro e w' ⟨rfl, ⟨nd, rfl⟩⟩; (try first | exact ⟨rfl, _, World.drewN_drewN _ _ _⟩ | exact ⟨rfl, _, Eq.trans (World.drewN_drewN _ _ _) (congrArg (World.drewN _) (Nat.add_assoc _ _ _))⟩))))
                   go_ret
                   exact ⟨by first | rfl | (simp [errW_none, errW_some] <;> rfl) | (simp [*, errW_none, errW_some] <;> rfl), by repeat (first | (with_reducible first | exact HB.out | apply zD | apply zE | apply zF) | exact HB.out)⟩
                 ·as_aux_lemma =>
                  rw [if_neg c58] at H
                  have c58b0 : (t940 == t911) = false := beq_eq_false_iff_ne.mpr c58
                  have c58b1 : (t940 != t911) = true := bne_iff_ne.mpr c58
                  obtain rfl := Option.some.inj H
                  obtain ⟨Ao74, co74, eo74⟩ := Kd.R_slice HO_25.out
                  subst eo74
                  go_wp2
                  repeat (go_quiet (fail); try go_wp2)
                  go_ret
                  exact ⟨by first | rfl | (simp [errW_none, errW_some] <;> rfl) | (simp [*, errW_none, errW_some] <;> rfl), by repeat (first | (with_reducible first | exact HB.out | apply zD | apply zE | apply zF) | exact HB.out)⟩
                ·as_aux_lemma =>
                 replace c57 := Bool.eq_false_iff.mpr c57
                 subst c57
                 have H1 : (some false) = some r := by rw [if_neg (show ¬ (false = true) by decide)] at H; exact H
                 clear H
                 have H := H1
                 clear H1
                 obtain rfl := Option.some.inj H
                 obtain ⟨Ao75, co75, eo75⟩ := Kd.R_slice HO_25.out
                 subst eo75
                 go_wp2
                 repeat (go_quiet (fail); try go_wp2)
                 go_ret
                 exact ⟨by first | rfl | (simp [errW_none, errW_some] <;> rfl) | (simp [*, errW_none, errW_some] <;> rfl), by repeat (first | (with_reducible first | exact HB.out | apply zD | apply zE | apply zF) | exact HB.out)⟩
              ·as_aux_lemma =>
               rw [if_neg c53] at H
               have c53b0 : decide (x28_4 < (t946.length : Int)) = false := decide_eq_false c53
               clear c53
               by_cases c76 : t941 = true
               ·as_aux_lemma =>
                subst c76
                have H1 : (if t940 = t911 then ((laws_vBerths.f k4 t939 t910).bind fun t953 => (if t953 = true then (if t945 = true then (if t944 = t911 then (if t947 = true then (some (x27_4 == t911)) else (some false)) else (some false)) else (some false)) else (some false))) else (some false)) = some r := by rw [if_pos rfl] at H; exact H
                clear H
                have H := H1
                clear H1
                by_cases c77 : t940 = t911
                ·as_aux_lemma =>
                 rw [if_pos c77] at H
                 have c77b0 : (t940 == t911) = true := beq_iff_eq.mpr c77
                 have c77b1 : (t940 != t911) = false := bne_eq_false_iff_eq.mpr c77
                 clear c77
                 replace H := Option.bind_eq_some_iff.mp H
                 obtain ⟨t953, A780, H⟩ := H
                 replace H : (if t953 = true then (if t945 = true then (if t944 = t911 then (if t947 = true then (some (x27_4 == t911)) else (some false)) else (some false)) else (some false)) else (some false)) = some r := H
                 have A78 := zM A780
                 clear A780
                 by_cases c79 : t953 = true
                 ·as_aux_lemma =>
                  subst c79
                  have H1 : (if t945 = true then (if t944 = t911 then (if t947 = true then (some (x27_4 == t911)) else (some false)) else (some false)) else (some false)) = some r := by rw [if_pos rfl] at H; exact H
                  clear H
                  have H := H1
                  clear H1
                  by_cases c80 : t945 = true
                  ·as_aux_lemma =>
                   subst c80
                   have H1 : (if t944 = t911 then (if t947 = true then (some (x27_4 == t911)) else (some false)) else (some false)) = some r := by rw [if_pos rfl] at H; exact H
                   clear H
                   have H := H1
                   clear H1
                   by_cases c81 : t944 = t911
                   ·as_aux_lemma =>
                    rw [if_pos c81] at H
                    have c81b0 : (t944 == t911) = true := beq_iff_eq.mpr c81
                    have c81b1 : (t944 != t911) = false := bne_eq_false_iff_eq.mpr c81
                    clear c81
                    by_cases c82 : t947 = true
                    ·as_aux_lemma =>
                     subst c82
                     have H1 : (some (x27_4 == t911)) = some r := by rw [if_pos rfl] at H; exact H
                     clear H
                     have H := H1
                     clear H1
                     obtain rfl := Option.some.inj H
                     obtain ⟨Ao83, co83, eo83⟩ := Kd.R_slice HO_25.out
                     subst eo83
                     obtain ⟨Ao84, co84, eo84⟩ := Kd.R_slice HO_20.out
                     subst eo84
                     go_wp2_with (first | (go_at_call 46; (with_reducible refine (laws_vBerths.calls k4 _ _ t939 _ _ t910 true _ ?side1 ?side2 ?side3 ?side4 A78.out).mono ?_); (case side1 => repeat (first | exact (zN HO_20.out).2.2 | (with_reducible refine zG ?_ _) | (with_reducible refine zH ?_ _) | (with_reducible refine zI ?_))); (case side2 => exact (zN HO_20.out).2.1); (case side3 => repeat (first | exact (zN HO_7.out).2.2 | (with_reducible refine zG ?_ _) | (with_reducible refine zH ?_ _) | (with_reducible refine zI ?_))); (case side4 => exact (zN HO_7.out).2.1); rintro e w' ⟨rfl, ⟨nd, rfl⟩⟩; (try first | exact ⟨rfl, _, World.drewN_drewN _ _ _⟩ | exact ⟨rfl, _, Eq.trans (World.drewN_drewN _ _ _) (congrArg (World.drewN _) (Nat.add_assoc _ _ _))⟩)))
                     repeat (go_quiet (first | (go_at_call 46; (with_reducible refine (laws_vBerths.calls k4 _ _ t939 _ _ t910 true _ ?side1 ?side2 ?side3 ?side4 A78.out).mono ?_); (case side1 => repeat (first | exact (zN HO_20.out).2.2 | (with_reducible refine zG ?_ _) | (with_reducible refine zH ?_ _) | (with_reducible refine zI ?_))); (case side2 => exact (zN HO_20.out).2.1); (case side3 => repeat (first | exact (zN HO_7.out).2.2 | (with_reducible refine zG ?_ _) | (with_reducible refine zH ?_ _) | (with_reducible refine zI ?_))); (case side4 => exact (zN HO_7.out).2.1); rintro e w' ⟨rfl, ⟨nd, rfl⟩⟩; (try first | exact ⟨rfl, _, World.drewN_drewN _ _ _⟩ | exact ⟨rfl, _, Eq.trans (World.drewN_drewN _ _ _) (congrArg (World.drewN _) (Nat.add_assoc _ _ _))⟩))); try go_wp2_with (first | (go_at_call 46; (with_reducible refine (laws_vBerths.calls k4 _ _ t939 _ _ t910 true _ ?side1 ?side2 ?side3 ?side4 A78.out).mono ?_); (case side1 => repeat (first | exact (zN HO_20.out).2.2 | (with_reducible refine zG ?_ _) | (with_reducible refine zH ?_ _) | (with_reducible refine zI ?_))); (case side2 => exact (zN HO_20.out).2.1); (case side3 => repeat (first | exact (zN HO_7.out).2.2 | (with_reducible refine zG ?_ _) | (with_reducible refine zH ?_ _) | (with_reducible refine zI ?_))); (case side4 => exact (zN HO_7.out).2.1); rintro e w' ⟨rfl, ⟨nd, rfl⟩⟩; (try first | exact ⟨rfl, _, World.drewN_drewN _ _ _⟩ | exact ⟨rfl, _, Eq.trans (World.drewN_drewN _ _ _) (congrArg (World.drewN _) (Nat.add_assoc _ _ _))⟩))))
                     go_ret
                     exact ⟨by first | rfl | (simp [errW_none, errW_some] <;> rfl) | (simp [*, errW_none, errW_some] <;> rfl), by repeat (first | (with_reducible first | exact HB.out | apply zD | apply zE | apply zF) | exact HB.out)⟩
                    ·as_aux_lemma =>
                     replace c82 := Bool.eq_false_iff.mpr c82
                     subst c82
                     have H1 : (some false) = some r := by rw [if_neg (show ¬ (false = true) by decide)] at H; exact H
                     clear H
                     have H := H1
                     clear H1
                     obtain rfl := Option.some.inj H
                     obtain ⟨Ao85, co85, eo85⟩ := Kd.R_slice HO_25.out
                     subst eo85
                     obtain ⟨Ao86, co86, eo86⟩ := Kd.R_slice HO_20.out
                     subst eo86
                     go_wp2_with (first | (go_at_call 46; (with_reducible refine (laws_vBerths.calls k4 _ _ t939 _ _ t910 true _ ?side1 ?side2 ?side3 ?side4 A78.out).mono ?_); (case side1 => repeat (first | exact (zN HO_20.out).2.2 | (with_reducible refine zG ?_ _) | (with_reducible refine zH ?_ _) | (with_reducible refine zI ?_))); (case side2 => exact (zN HO_20.out).2.1); (case side3 => repeat (first | exact (zN HO_7.out).2.2 | (with_reducible refine zG ?_ _) | (with_reducible refine zH ?_ _) | (with_reducible refine zI ?_))); (case side4 => exact (zN HO_7.out).2.1); rintro e w' ⟨rfl, ⟨nd, rfl⟩⟩; (try first | exact ⟨rfl, _, World.drewN_drewN _ _ _⟩ | exact ⟨rfl, _, Eq.trans (World.drewN_drewN _ _ _) (congrArg (World.drewN _) (Nat.add_assoc _ _ _))⟩)))
                     repeat (go_quiet (first | (go_at_call 46; (with_reducible refine (laws_vBerths.calls k4 _ _ t939 _ _ t910 true _ ?side1 ?side2 ?side3 ?side4 A78.out).mono ?_); (case side1 => repeat (first | exact (zN HO_20.out).2.2 | (with_reducible refine zG ?_ _) | (with_reducible refine zH ?_ _) | (with_reducible refine zI ?_))); (case side2 => exact (zN HO_20.out).2.1); (case side3 => repeat (first | exact (zN HO_7.out).2.2 | (with_reducible refine zG ?_ _) | (with_reducible refine zH ?_ _) | (with_reducible refine zI ?_))); (case side4 => exact (zN HO_7.out).2.1); rintro e w' ⟨rfl, ⟨nd, rfl⟩⟩; (try first | exact ⟨rfl, _, World.drewN_drewN _ _ _⟩ | exact ⟨rfl, _, Eq.trans (World.drewN_drewN _ _ _) (congrArg (World.drewN _) (Nat.add_assoc _ _ _))⟩))); try go_wp2_with (first | (go_at_call 46; (with_reducible refine (laws_vBerths.calls k4 _ _ t939 _ _ t910 true _ ?side1 ?side2 ?side3 ?side4 A78.out).mono ?_); (case side1 => repeat (first | exact (zN HO_20.out).2.2 | (with_reducible refine zG ?_ _) | (with_reducible refine zH ?_ _) | (with_reducible refine zI ?_))); (case side2 => exact (zN HO_20.out).2.1); (case side3 => repeat (first | exact (zN HO_7.out).2.2 | (with_reducible refine zG ?_ _) | (with_reducible refine zH ?_ _) | (with_reducible refine zI ?_))); (case side4 => exact (zN HO_7.out).2.1); rintro e w' ⟨rfl, ⟨nd, rfl⟩⟩; (try first | exact ⟨rfl, _, World.drewN_drewN _ _ _⟩ | exact ⟨rfl, _, Eq.trans (World.drewN_drewN _ _ _) (congrArg (World.drewN _) (Nat.add_assoc _ _ _))⟩))))
                     go_ret
                     exact ⟨by first | rfl | (simp [errW_none, errW_some] <;> rfl) | (simp [*, errW_none, errW_some] <;> rfl), by repeat (first | (with_reducible first | exact HB.out | apply zD | apply zE | apply zF) | exact HB.out)⟩
                   ·as_aux_lemma =>
                    rw [if_neg c81] at H
                    have c81b0 : (t944 == t911) = false := beq_eq_false_iff_ne.mpr c81
                    have c81b1 : (t944 != t911) = true := bne_iff_ne.mpr c81
                    obtain rfl := Option.some.inj H
                    obtain ⟨Ao87, co87, eo87⟩ := Kd.R_slice HO_25.out
                    subst eo87
                    obtain ⟨Ao88, co88, eo88⟩ := Kd.R_slice HO_20.out
                    subst eo88
                    go_wp2_with (first | (go_at_call 46; (with_reducible refine (laws_vBerths.calls k4 _ _ t939 _ _ t910 true _ ?side1 ?side2 ?side3 ?side4 A78.out).mono ?_); (case side1 => repeat (first | exact (zN HO_20.out).2.2 | (with_reducible refine zG ?_ _) | (with_reducible refine zH ?_ _) | (with_reducible refine zI ?_))); (case side2 => exact (zN HO_20.out).2.1); (case side3 => repeat (first | exact (zN HO_7.out).2.2 | (with_reducible refine zG ?_ _) | (with_reducible refine zH ?_ _) | (with_reducible refine zI ?_))); (case side4 => exact (zN HO_7.out).2.1); rintro e w' ⟨rfl, ⟨nd, rfl⟩⟩; (try first | exact ⟨rfl, _, World.drewN_drewN _ _ _⟩ | exact ⟨rfl, _, Eq.trans (World.drewN_drewN _ _ _) (congrArg (World.drewN _) (Nat.add_assoc _ _ _))⟩)))
                    repeat (go_quiet (first | (go_at_call 46; (with_reducible refine (laws_vBerths.calls k4 _ _ t939 _ _ t910 true _ ?side1 ?side2 ?side3 ?side4 A78.out).mono ?_); (case side1 => repeat (first | exact (zN HO_20.out).2.2 | (with_reducible refine zG ?_ _) | (with_reducible refine zH ?_ _) | (with_reducible refine zI ?_))); (case side2 => exact (zN HO_20.out).2.1); (case side3 => repeat (first | exact (zN HO_7.out).2.2 | (with_reducible refine zG ?_ _) | (with_reducible refine zH ?_ _) | (with_reducible refine zI ?_))); (case side4 => exact (zN HO_7.out).2.1); rintro e w' ⟨rfl, ⟨nd, rfl⟩⟩; (try first | exact ⟨rfl, _, World.drewN_drewN _ _ _⟩ | exact ⟨rfl, _, Eq.trans (World.drewN_drewN _ _ _) (congrArg (World.drewN _) (Nat.add_assoc _ _ _))⟩))); try go_wp2_with (first | (go_at_call 46; (with_reducible refine (laws_vBerths.calls k4 _ _ t939 _ _ t910 true _ ?side1 ?side2 ?side3 ?side4 A78.out).mono ?_); (case side1 => repeat (first | exact (zN HO_20.out).2.2 | (with_reducible refine zG ?_ _) | (with_reducible refine zH ?_ _) | (with_reducible refine zI ?_))); (case side2 => exact (zN HO_20.out).2.1); (case side3 => repeat (first | exact (zN HO_7.out).2.2 | (with_reducible refine zG ?_ _) | (with_reducible refine zH ?_ _) | (with_reducible refine zI ?_))); (case side4 => exact (zN HO_7.out).2.1); rintro e w' ⟨rfl, ⟨nd, rfl⟩⟩; (try first | exact ⟨rfl, _, World.drewN_drewN _ _ _⟩ | exact ⟨rfl, _, Eq.trans (World.drewN_drewN _ _ _) (congrArg (World.drewN _) (Nat.add_assoc _ _ _))⟩))))
                    go_ret
                    exact ⟨by first | rfl | (simp [errW_none, errW_some] <;> rfl) | (simp [*, errW_none, errW_some] <;> rfl), by repeat (first | (with_reducible first | exact HB.out | apply zD | apply zE | apply zF) | exact HB.out)⟩
                  ·as_aux_lemma =>
                   replace c80 := Bool.eq_false_iff.mpr c80
                   subst c80
                   have H1 : (some false) = some r := by rw [if_neg (show ¬ (false = true) by decide)] at H; exact H
                   clear H
                   have H := H1
                   clear H1
                   obtain rfl := Option.some.inj H
                   obtain ⟨Ao89, co89, eo89⟩ := Kd.R_slice HO_25.out
                   subst eo89
                   obtain ⟨Ao90, co90, eo90⟩ := Kd.R_slice HO_20.out
                   subst eo90
                   go_wp2_with (first | (go_at_call 46; (with_reducible refine (laws_vBerths.calls k4 _ _ t939 _ _ t910 true _ ?side1 ?side2 ?side3 ?side4 A78.out).mono ?_); (case side1 => repeat (first | exact (zN HO_20.out).2.2 | (with_reducible refine zG ?_ _) | (with_reducible refine zH ?_ _) | (with_reducible refine zI ?_))); (case side2 => exact (zN HO_20.out).2.1); (case side3 => repeat (first | exact (zN HO_7.out).2.2 | (with_reducible refine zG ?_ _) | (with_reducible refine zH ?_ _) | (with_reducible refine zI ?_))); (case side4 => exact (zN HO_7.out).2.1); rintro e w' ⟨rfl, ⟨nd, rfl⟩⟩; (try first | exact ⟨rfl, _, World.drewN_drewN _ _ _⟩ | exact ⟨rfl, _, Eq.trans (World.drewN_drewN _ _ _) (congrArg (World.drewN _) (Nat.add_assoc _ _ _))⟩)))
                   repeat (go_quiet (first | (go_at_call 46; (with_reducible refine (laws_vBerths.calls k4 _ _ t939 _ _ t910 true _ ?side1 ?side2 ?side3 ?side4 A78.out).mono ?_); (case side1 => repeat (first | exact (zN HO_20.out).2.2 | (with_reducible refine zG ?_ _) | (with_reducible refine zH ?_ _) | (with_reducible refine zI ?_))); (case side2 => exact (zN HO_20.out).2.1); (case side3 => repeat (first | exact (zN HO_7.out).2.2 | (with_reducible refine zG ?_ _) | (with_reducible refine zH ?_ _) | (with_reducible refine zI ?_))); (case side4 => exact (zN HO_7.out).2.1); rintro e w' ⟨rfl, ⟨nd, rfl⟩⟩; (try first | exact ⟨rfl, _, World.drewN_drewN _ _ _⟩ | exact ⟨rfl, _, Eq.trans (World.drewN_drewN _ _ _) (congrArg (World.drewN _) (Nat.add_assoc _ _ _))⟩))); try go_wp2_with (first | (go_at_call 46; (with_reducible refine (laws_vBerths.calls k4 _ _ t939 _ _ t910 true _ ?side1 ?side2 ?side3 ?side4 A78.out).mono ?_); (case side1 => repeat (first | exact (zN HO_20.out).2.2 | (with_reducible refine zG ?_ _) | (with_reducible refine zH ?_ _) | (with_reducible refine zI ?_))); (case side2 => exact (zN HO_20.out).2.1); (case side3 => repeat (first | exact (zN HO_7.out).2.2 | (with_reducible refine zG ?_ _) | (with_reducible refine zH ?_ _) | (with_reducible refine zI ?_))); (case side4 => exact (zN HO_7.out).2.1); rintro e w' ⟨rfl, ⟨nd, rfl⟩⟩; (try first | exact ⟨rfl, _, World.drewN_drewN _ _ _⟩ | exact ⟨rfl, _, Eq.trans (World.drewN_drewN _ _ _) (congrArg (World.drewN _) (Nat.add_assoc _ _ _))⟩))))
                   go_ret
                   exact ⟨by first | rfl | (simp [errW_none, errW_some] <;> rfl) | (simp [*, errW_none, errW_some] <;> rfl), by repeat (first | (with_reducible first | exact HB.out | apply zD | apply zE | apply zF) | exact HB.out)⟩
                 ·as_aux_lemma =>
                  replace c79 := Bool.eq_false_iff.mpr c79
                  subst c79
                  have H1 : (some false) = some r := by rw [if_neg (show ¬ (false = true) by decide)] at H; exact H
                  clear H
                  have H := H1
                  clear H1
                  obtain rfl := Option.some.inj H
                  obtain ⟨Ao91, co91, eo91⟩ := Kd.R_slice HO_25.out
                  subst eo91
                  obtain ⟨Ao92, co92, eo92⟩ := Kd.R_slice HO_20.out
                  subst eo92
                  go_wp2_with (first | (go_at_call 46; (with_reducible refine (laws_vBerths.calls k4 _ _ t939 _ _ t910 false _ ?side1 ?side2 ?side3 ?side4 A78.out).mono ?_); (case side1 => repeat (first | exact (zN HO_20.out).2.2 | (with_reducible refine zG ?_ _) | (with_reducible refine zH ?_ _) | (with_reducible refine zI ?_))); (case side2 => exact (zN HO_20.out).2.1); (case side3 => repeat (first | exact (zN HO_7.out).2.2 | (with_reducible refine zG ?_ _) | (with_reducible refine zH ?_ _) | (with_reducible refine zI ?_))); (case side4 => exact (zN HO_7.out).2.1); rintro e w' ⟨rfl, ⟨nd, rfl⟩⟩; (try first | exact ⟨rfl, _, World.drewN_drewN _ _ _⟩ | exact ⟨rfl, _, Eq.trans (World.drewN_drewN _ _ _) (congrArg (World.drewN _) (Nat.add_assoc _ _ _))⟩)))
                  repeat (go_quiet (first | (go_at_call 46; (with_reducible refine (laws_vBerths.calls k4 _ _ t939 _ _ t910 false _ ?side1 ?side2 ?side3 ?side4 A78.out).mono ?_); (case side1 => repeat (first | exact (zN HO_20.out).2.2 | (with_reducible refine zG ?_ _) | (with_reducible refine zH ?_ _) | (with_reducible refine zI ?_))); (case side2 => exact (zN HO_20.out).2.1); (case side3 => repeat (first | exact (zN HO_7.out).2.2 | (with_reducible refine zG ?_ _) | (with_reducible refine zH ?_ _) | (with_reducible refine zI ?_))); (case side4 => exact (zN HO_7.out).2.1); rintro e w' ⟨rfl, ⟨nd, rfl⟩⟩; (try first | exact ⟨rfl, _, World.drewN_drewN _ _ _⟩ | exact ⟨rfl, _, Eq.trans (World.drewN_drewN _ _ _) (congrArg (World.drewN _) (Nat.add_assoc _ _ _))⟩))); try go_wp2_with (first | (go_at_call 46; (with_reducible refine (laws_vBerths.calls k4 _ _ t939 _ _ t910 false _ ?side1 ?side2 ?side3 ?side4 A78.out).mono ?_); (case side1 => repeat (first | exact (zN HO_20.out).2.2 | (with_reducible refine zG ?_ _) | (with_reducible refine zH ?_ _) | (with_reducible refine zI ?_))); (case side2 => exact (zN HO_20.out).2.1); (case side3 => repeat (first | exact (zN HO_7.out).2.2 | (with_reducible refine zG ?_ _) | (with_reducible refine zH ?_ _) | (with_reducible refine zI ?_))); (case side4 => exact (zN HO_7.out).2.1); rintro e w' ⟨rfl, ⟨nd, rfl⟩⟩; (try first | exact ⟨rfl, _, World.drewN_drewN _ _ _⟩ | exact ⟨rfl, _, Eq.trans (World.drewN_drewN _ _ _) (congrArg (World.drewN _) (Nat.add_assoc _ _ _))⟩))))
                  go_ret
                  exact ⟨by first | rfl | (simp [errW_none, errW_some] <;> rfl) | (simp [*, errW_none, errW_some] <;> rfl), by repeat (first | (with_reducible first | exact HB.out | apply zD | apply zE | apply zF) | exact HB.out)⟩
                ·as_aux_lemma =>
                 rw [if_neg c77] at H
                 have c77b0 : (t940 == t911) = false := beq_eq_false_iff_ne.mpr c77
                 have c77b1 : (t940 != t911) = true := bne_iff_ne.mpr c77
                 obtain rfl := Option.some.inj H
                 obtain ⟨Ao93, co93, eo93⟩ := Kd.R_slice HO_25.out
                 subst eo93
                 go_wp2
                 repeat (go_quiet (fail); try go_wp2)
                 go_ret
                 exact ⟨by first | rfl | (simp [errW_none, errW_some] <;> rfl) | (simp [*, errW_none, errW_some] <;> rfl), by repeat (first | (with_reducible first | exact HB.out | apply zD | apply zE | apply zF) | exact HB.out)⟩
               ·as_aux_lemma =>
                replace c76 := Bool.eq_false_iff.mpr c76
                subst c76
                have H1 : (some false) = some r := by rw [if_neg (show ¬ (false = true) by decide)] at H; exact H
                clear H
                have H := H1
                clear H1
                obtain rfl := Option.some.inj H
                obtain ⟨Ao94, co94, eo94⟩ := Kd.R_slice HO_25.out
                subst eo94
                go_wp2
                repeat (go_quiet (fail); try go_wp2)
                go_ret
                exact ⟨by first | rfl | (simp [errW_none, errW_some] <;> rfl) | (simp [*, errW_none, errW_some] <;> rfl), by repeat (first | (with_reducible first | exact HB.out | apply zD | apply zE | apply zF) | exact HB.out)⟩
           ·as_aux_lemma =>
            replace c44 := Bool.eq_false_iff.mpr c44
            subst c44
            have H1 : (some ((t910.length : Int) == 0)) = some r := by rw [if_neg (show ¬ (false = true) by decide)] at H; exact H
            clear H
            have H := H1
            clear H1
            obtain rfl := Option.some.inj H
            obtain ⟨Ao95, co95, eo95⟩ := Kd.R_slice HO_7.out
            subst eo95
            go_wp2
            repeat (go_quiet (fail); try go_wp2)
            go_ret
            exact ⟨by first | rfl | (simp [errW_none, errW_some] <;> rfl) | (simp [*, errW_none, errW_some] <;> rfl), by repeat (first | (with_reducible first | exact HB.out | apply zD | apply zE | apply zF) | exact HB.out)⟩

/-- THE ONE PURE STATEMENT of laws_FnBerths. -/
def laws_FnBerths.Pure : Prop := ∀ (l0 : List Int), (l0.length ≤ maxLen ∧ ∀ y ∈ l0, (Lit.int .u8 y).wf = true) → ∃ k, laws_FnBerths.f k l0 = some true
theorem laws_FnBerths.walk (P : laws_FnBerths.Pure) (A0 : Option Addr) (c0 : Nat) (l0 : List Int) (w : World) (hr0 : Kd.C (Kd.int .u8) w A0 l0.length l0) (hc0 : l0.length ≤ c0) (hw0 : (l0.length ≤ maxLen ∧ ∀ y ∈ l0, (Lit.int .u8 y).wf = true)) :
  Calls Try.prog 11 #[.slice A0 l0.length c0] w fun e w' => e = .returned (.bool true) ∧ Below w.heap.size w w' := by
 obtain ⟨k, h⟩ := P l0 hw0
 refine (laws_FnBerths.calls k _ _ l0 true w hr0 hc0 h).mono ?_
 rintro e w' ⟨rfl, hd⟩
 exact ⟨rfl, hd⟩

end Go.Proofs.Ytcciljjnpfgaeaa.G

namespace Go.Proofs.Ytcciljjnpfgaeaa.G
open Go.RowKit Go.Proofs.YtcciljjnpfgaeaaW.PrintWords Go.Proofs.YtcciljjnpfgaeaaW.PrintLast
set_option linter.unusedVariables false
set_option linter.unusedSimpArgs false
/-- From some number of rounds on a value comes, and P holds of it. -/
def EvP {α : Type} (g : Nat → Option α) (P : α → Prop) : Prop := ∃ r, P r ∧ Ev g r
theorem EvP.now {α : Type} {P : α → Prop} (v : α) (h : P v) : EvP (fun _ => some v) P := ⟨v, h, Ev.now v⟩
theorem EvP.step {α : Type} {g f : Nat → Option α} {P : α → Prop} (h : ∀ k, g (k + 1) = f k) (k : EvP f P) : EvP g P := by
  obtain ⟨r, p, e⟩ := k
  exact ⟨r, p, Ev.step h e⟩
theorem EvP.bind {α β : Type} {g : Nat → Option α} {f : Nat → α → Option β} {P : α → Prop} {Q : β → Prop} (h : EvP g P) (k : ∀ a, P a → EvP (fun n => f n a) Q) : EvP (fun n => (g n).bind (f n)) Q := by
  obtain ⟨a, p, e⟩ := h
  obtain ⟨r, q, e2⟩ := k a p
  exact ⟨r, q, Ev.bind e e2⟩
theorem EvP.ite {α : Type} {c : Prop} [Decidable c] {A B : Nat → Option α} {P : α → Prop} (h1 : c → EvP A P) (h2 : ¬ c → EvP B P) : EvP (fun k => if c then A k else B k) P := by
  by_cases h : c
  · simpa only [if_pos h] using h1 h
  · simpa only [if_neg h] using h2 h
/-- The bytes that a case is drawn of. -/
def Cd (l : List Int) : Prop := (l.length : Int) ≤ 65536 ∧ ∀ y ∈ l, 0 ≤ y ∧ y ≤ 255
theorem cd_of {l : List Int} (h : (l.length : Int) ≤ 65536) (hw : ∀ y ∈ l, (Lit.int .u8 y).wf = true) : Cd l := by
  refine ⟨h, fun y hy => ?_⟩
  have e : (Lit.int .u8 y).wf = (decide (0 ≤ y) && decide (y ≤ 255)) := rfl
  have := hw y hy
  rw [e] at this
  simpa using this
theorem rd_mem (l : List Int) (i : Int) (h0 : 0 ≤ i) (h1 : i < (l.length : Int)) : rd l i ∈ l := by
  unfold rd
  rw [List.getD_eq_getElem?_getD, List.getElem?_eq_getElem (show i.toNat < l.length by omega)]
  exact List.getElem_mem _
theorem and255 (x : Int) : 0 ≤ Go.bits .and .u64 x 255 ∧ Go.bits .and .u64 x 255 ≤ 255 := by
  show 0 ≤ IntKind.u64.wrap (((BitVec.ofInt 64 x) &&& (BitVec.ofInt 64 255)).toNat : Int) ∧ IntKind.u64.wrap (((BitVec.ofInt 64 x) &&& (BitVec.ofInt 64 255)).toNat : Int) ≤ 255
  have h : ((BitVec.ofInt 64 x) &&& (BitVec.ofInt 64 255)).toNat ≤ 255 := by
    rw [BitVec.toNat_and]
    exact Nat.le_trans Nat.and_le_right (by decide)
  have e : IntKind.u64.wrap (((BitVec.ofInt 64 x) &&& (BitVec.ofInt 64 255)).toNat : Int) = (((BitVec.ofInt 64 x) &&& (BitVec.ofInt 64 255)).toNat : Int) := by
    generalize (((BitVec.ofInt 64 x) &&& (BitVec.ofInt 64 255)).toNat) = n at h ⊢
    simp only [IntKind.wrap, IntKind.signed, IntKind.bits]
    simp
    omega
  rw [e]
  omega
theorem next_ok {l : List Int} (hc : Cd l) (a s : Int) (h0 : 0 ≤ a) (h1 : a ≤ 1099511627776) : ∃ b s', spec_l1Cur_next.f l a s = some (b, a + 1, s') ∧ 0 ≤ b ∧ b ≤ 255 := by
  have hl := hc.1
  unfold spec_l1Cur_next.f
  rw [wrap64_id (x := a + 1) (by omega) (by omega)]
  by_cases h : a < (l.length : Int)
  · have hm := hc.2 _ (rd_mem l a h0 h)
    rw [if_pos h, if_pos h0, if_pos (by omega), wrap64_id (x := rd l a) (by omega) (by omega)]
    exact ⟨_, _, rfl, hm.1, hm.2⟩
  · rw [if_neg h, if_neg (by omega)]
    refine ⟨_, _, rfl, ?_⟩
    generalize hX : Go.bits _ _ _ _ = X
    have := and255 (IntKind.u64.wrap (IntKind.u64.wrap (IntKind.u64.wrap (s * 6364136223846793005)) + 906906) / 1099511627776)
    have hb : 0 ≤ X ∧ X ≤ 255 := by rw [← hX]; exact this
    rw [wrap64_id (by omega) (by omega)]
    exact hb
theorem pick_ok {l : List Int} (hc : Cd l) (a s n : Int) (h0 : 0 ≤ a) (h1 : a ≤ 1000000) : ∃ b a' s', spec_l1Cur_pick.f l a s n = some (b, a', s') ∧ 0 ≤ b ∧ (b = 0 ∨ b < n) ∧ a ≤ a' ∧ a' ≤ a + 2 := by
  unfold spec_l1Cur_pick.f
  by_cases g : n ≤ 1
  · rw [if_pos g]
    exact ⟨_, _, _, rfl, by omega, by omega, by omega, by omega⟩
  · obtain ⟨x, s1, e1, x0, x1⟩ := next_ok hc a s h0 (by omega)
    rw [if_neg g, e1]
    simp only [Option.bind_some]
    by_cases g2 : n > 200
    · obtain ⟨y, s2, e2, y0, y1⟩ := next_ok hc (a + 1) s1 (by omega) (by omega)
      rw [if_pos g2, e2]
      simp only [Option.bind_some]
      rw [if_neg (by omega), wrap64_id (x := x * 256) (by omega) (by omega), wrap64_id (x := x * 256 + y) (by omega) (by omega)]
      refine ⟨_, _, _, rfl, Int.tmod_nonneg _ (by omega), .inr ?_, by omega, by omega⟩
      exact Int.tmod_lt_of_pos _ (by omega)
    · rw [if_neg g2, if_neg (by omega)]
      refine ⟨_, _, _, rfl, Int.tmod_nonneg _ (by omega), .inr ?_, by omega, by omega⟩
      exact Int.tmod_lt_of_pos _ (by omega)
theorem EvP.pick {β : Type} {l : List Int} (hc : Cd l) {a s n : Int} {f : Nat → Int × Int × Int → Option β} {Q : β → Prop} (h0 : 0 ≤ a) (h1 : a ≤ 1000000)
    (k : ∀ b a' s', 0 ≤ b → (b = 0 ∨ b < n) → a ≤ a' → a' ≤ a + 2 → EvP (fun k => f k (b, a', s')) Q) : EvP (fun k => (spec_l1Cur_pick.f l a s n).bind (f k)) Q := by
  obtain ⟨b, a', s', e, h2, h3, h4, h5⟩ := pick_ok hc a s n h0 h1
  rw [e]
  exact k b a' s' h2 h3 h4 h5
theorem EvP.one {β : Type} {l : List Int} (hc : Cd l) {a s n : Int} {f : Nat → Bool × Int × Int → Option β} {Q : β → Prop} (h0 : 0 ≤ a) (h1 : a ≤ 1000000)
    (k : ∀ b a' s', a ≤ a' → a' ≤ a + 2 → EvP (fun k => f k (b, a', s')) Q) : EvP (fun k => (spec_l1Cur_one.f l a s n).bind (f k)) Q := by
  obtain ⟨b, a', s', e, h2, h3, h4, h5⟩ := pick_ok hc a s n h0 h1
  unfold spec_l1Cur_one.f
  rw [e]
  simp only [Option.bind_some]
  exact k _ a' s' h4 h5
theorem EvP.among {β : Type} {l : List Int} (hc : Cd l) {a s : Int} {xs : List Int} {f : Nat → Int × Int × Int → Option β} {Q : β → Prop} (h0 : 0 ≤ a) (h1 : a ≤ 1000000) (hx : 0 < (xs.length : Int))
    (k : ∀ b a' s', b ∈ xs → a ≤ a' → a' ≤ a + 2 → EvP (fun k => f k (b, a', s')) Q) : EvP (fun k => (spec_l1Cur_among.f l a s xs).bind (f k)) Q := by
  obtain ⟨b, a', s', e, h2, h3, h4, h5⟩ := pick_ok hc a s (xs.length : Int) h0 h1
  unfold spec_l1Cur_among.f
  rw [e]
  simp only [Option.bind_some]
  rw [if_pos h2, if_pos (by omega)]
  exact k _ a' s' (rd_mem xs b h2 (by omega)) h4 h5
end Go.Proofs.Ytcciljjnpfgaeaa.G

namespace Go.Proofs.Ytcciljjnpfgaeaa.G
open Go.RowKit Go.Proofs.YtcciljjnpfgaeaaW.PrintWords Go.Proofs.YtcciljjnpfgaeaaW.PrintLast
set_option linter.unusedVariables false
set_option linter.unusedSimpArgs false
theorem len_app {α : Type} (x : List α) (y : α) : ((x ++ [y]).length : Int) = (x.length : Int) + 1 := by simp
def ShipsQ (r : Int × List S62 × Int × Int) : Prop := (r.2.1.length : Int) ≤ 30 ∧ 0 ≤ r.2.2.1 ∧ r.2.2.1 ≤ 1000
theorem shipsQ {q : Int} {x : List S62} {a s : Int} (h1 : (x.length : Int) ≤ 30) (h2 : 0 ≤ a) (h3 : a ≤ 1000) : ShipsQ (q, x, a, s) := ⟨h1, h2, h3⟩
theorem ships1 {l : List Int} (hc : Cd l) (q : Int) : ∀ (d : Nat) (x5 : List S62) (x7 a s : Int), x7 + d = 7 → 0 ≤ x7 → (x5.length : Int) ≤ 10 + x7 → 0 ≤ a → a + 2 * d ≤ 900 → EvP (fun k => spec_l1Cur_ships.l1 k q x5 x7 l a s) ShipsQ := by
  intro d
  induction d with
  | zero =>
    intro x5 x7 a s hd h0 hl ha ha2
    refine EvP.step (fun k => by rw [spec_l1Cur_ships.l1]) ?_
    refine EvP.pick hc ha (by omega) (fun b a' s' b0 b1 a0 a1 => ?_)
    dsimp only
    rw [wrap64_id (x := 5 + b) (by omega) (by omega)]
    refine EvP.ite (fun g => ?_) (fun g => EvP.now _ (shipsQ (by omega) (by omega) (by omega)))
    simp (disch := omega) only [if_neg]
    exact EvP.now _ (shipsQ (by omega) (by omega) (by omega))
  | succ d ih =>
    intro x5 x7 a s hd h0 hl ha ha2
    refine EvP.step (fun k => by rw [spec_l1Cur_ships.l1]) ?_
    refine EvP.pick hc ha (by omega) (fun b a' s' b0 b1 a0 a1 => ?_)
    dsimp only
    rw [wrap64_id (x := 5 + b) (by omega) (by omega)]
    refine EvP.ite (fun g => ?_) (fun g => EvP.now _ (shipsQ (by omega) (by omega) (by omega)))
    simp (disch := omega) only [if_pos]
    rw [wrap64_id (x := x7 + 1) (by omega) (by omega)]
    exact ih _ _ _ _ (by omega) (by omega) (by rw [len_app]; omega) (by omega) (by omega)
theorem ships0 {l : List Int} (hc : Cd l) (q : Int) : ∀ (d : Nat) (x5 : List S62) (x6 a s : Int), x6 = d → (x5.length : Int) + d ≤ 5 → 0 ≤ a → a + 8 * d ≤ 100 → EvP (fun k => spec_l1Cur_ships.l0 k q x5 x6 l a s) ShipsQ := by
  intro d
  induction d with
  | zero =>
    intro x5 x6 a s hd hl ha ha2
    refine EvP.step (fun k => by rw [spec_l1Cur_ships.l0]) ?_
    simp (disch := omega) only [if_neg]
    refine EvP.pick hc ha (by omega) (fun b a' s' b0 b1 a0 a1 => ?_)
    dsimp only
    refine EvP.ite (fun g => ?_) (fun g => ?_)
    · refine EvP.among hc (by omega) (by omega) (by decide) (fun v a2 s2 hv a3 a4 => ?_)
      dsimp only
      exact EvP.now _ (shipsQ (by omega) (by omega) (by omega))
    · refine EvP.ite (fun g => ?_) (fun g => ?_)
      · refine EvP.among hc (by omega) (by omega) (by decide) (fun v a2 s2 hv a3 a4 => ?_)
        dsimp only
        refine EvP.among hc (by omega) (by omega) (by decide) (fun v2 a5 s5 hv2 a6 a7 => ?_)
        dsimp only
        refine EvP.among hc (by omega) (by omega) (by decide) (fun v3 a8 s8 hv3 a9 a10 => ?_)
        dsimp only
        refine EvP.among hc (by omega) (by omega) (by decide) (fun v4 a11 s11 hv4 a12 a13 => ?_)
        dsimp only
        simp (disch := omega) only [if_pos]
        exact EvP.now _ (shipsQ (by rw [len_app]; omega) (by omega) (by omega))
      · refine EvP.ite (fun g => ?_) (fun g => EvP.now _ (shipsQ (by omega) (by omega) (by omega)))
        exact ships1 hc q 7 _ _ _ _ (by omega) (by omega) (by omega) (by omega) (by omega)
  | succ d ih =>
    intro x5 x6 a s hd hl ha ha2
    refine EvP.step (fun k => by rw [spec_l1Cur_ships.l0]) ?_
    simp (disch := omega) only [if_pos]
    refine EvP.pick hc ha (by omega) (fun b a2 s2 b0 b1 a0 a1 => ?_)
    dsimp only
    refine EvP.pick hc (by omega) (by omega) (fun b2 a3 s3 b3 b4 a4 a5 => ?_)
    dsimp only
    refine EvP.pick hc (by omega) (by omega) (fun b5 a6 s6 b6 b7 a7 a8 => ?_)
    dsimp only
    refine EvP.pick hc (by omega) (by omega) (fun b8 a9 s9 b9 b10 a10 a11 => ?_)
    dsimp only
    rw [wrap64_id (x := x6 - 1) (by omega) (by omega)]
    exact ih _ _ _ _ (by omega) (by rw [len_app]; omega) (by omega) (by omega)
theorem ships_ok {l : List Int} (hc : Cd l) (s : Int) : EvP (fun k => spec_l1Cur_ships.f k l 0 s) ShipsQ := by
  unfold spec_l1Cur_ships.f
  refine EvP.among hc (by omega) (by omega) (by decide) (fun v a2 s2 hv a3 a4 => ?_)
  dsimp only
  refine EvP.pick hc (by omega) (by omega) (fun b a' s' b0 b1 a0 a1 => ?_)
  dsimp only
  exact ships0 hc v b.toNat _ _ _ _ (by omega) (by simp; omega) (by omega) (by omega)
end Go.Proofs.Ytcciljjnpfgaeaa.G

namespace Go.Proofs.Ytcciljjnpfgaeaa.G
open Go.RowKit Go.Proofs.YtcciljjnpfgaeaaW.PrintWords Go.Proofs.YtcciljjnpfgaeaaW.PrintLast
set_option linter.unusedVariables false
set_option linter.unusedSimpArgs false
def PlanQ (r : Int × List S62 × List Int) : Prop := (r.2.1.length : Int) ≤ 30 ∧ (r.2.2.length : Int) ≤ 1000
theorem drawPlan0 {l : List Int} (hc : Cd l) (q : Int) (x : List S62) (hx : (x.length : Int) ≤ 30) : ∀ (d : Nat) (o : List Int) (i a s : Int), i + d = (x.length : Int) → (o.length : Int) = i → 0 ≤ a → a + 2 * d ≤ 4000 → EvP (fun k => spec_DrawPlanInOrder.l0 k q x o i l a s) PlanQ := by
  intro d
  induction d with
  | zero =>
    intro o i a s hd ho ha ha2
    refine EvP.step (fun k => by rw [spec_DrawPlanInOrder.l0]) ?_
    simp (disch := omega) only [if_neg]
    refine EvP.one hc ha (by omega) (fun b a' s' a0 a1 => ?_)
    dsimp only
    refine EvP.ite (fun g => ?_) (fun g => EvP.now _ ⟨hx, by dsimp only; omega⟩)
    refine EvP.pick hc (by omega) (by omega) (fun b a2 s2 b0 b1 a3 a4 => ?_)
    simp only [Option.bind_some]
    simp only [if_pos (show o.length + [wrap64 (b - 1)].length < 17592186044416 by simp only [List.length_cons, List.length_nil]; omega)]
    exact EvP.now _ ⟨hx, by dsimp only; rw [len_app]; omega⟩
  | succ d ih =>
    intro o i a s hd ho ha ha2
    refine EvP.step (fun k => by rw [spec_DrawPlanInOrder.l0]) ?_
    simp (disch := omega) only [if_pos]
    rw [wrap64_id (x := (o.length : Int) + 1) (by omega) (by omega)]
    refine EvP.pick hc ha (by omega) (fun b a' s' b0 b1 a0 a1 => ?_)
    have hb : b ≤ (o.length : Int) := by omega
    simp only [Option.bind_some]
    simp only [if_pos b0, if_pos hb]
    have hL : (([] : List Int) ++ o.take b.toNat).length ≤ 100 := by rw [List.nil_append, List.length_take]; omega
    have hL2 : (([] : List Int) ++ o.take b.toNat ++ [i]).length ≤ 101 := by rw [List.length_append]; simp only [List.length_cons, List.length_nil]; omega
    have hD : (o.drop b.toNat).length ≤ 100 := by rw [List.length_drop]; omega
    have hT : (o.take b.toNat).length ≤ 100 := by rw [List.length_take]; omega
    simp only [if_pos (show ([] : List Int).length + (o.take b.toNat).length < 17592186044416 by simp only [List.length_nil]; omega), if_pos (show (([] : List Int) ++ o.take b.toNat).length + [i].length < 17592186044416 by simp only [List.length_cons, List.length_nil]; omega), if_pos (show (([] : List Int) ++ o.take b.toNat ++ [i]).length + (o.drop b.toNat).length < 17592186044416 by omega)]
    rw [wrap64_id (x := i + 1) (by omega) (by omega)]
    refine ih _ _ _ _ (by omega) ?_ (by omega) (by omega)
    rw [List.length_append, List.length_append, List.nil_append, List.length_take, List.length_drop]
    simp only [List.length_cons, List.length_nil]
    omega
theorem drawPlan {l : List Int} (hc : Cd l) : EvP (fun k => spec_DrawPlanInOrder.f k l) PlanQ := by
  unfold spec_DrawPlanInOrder.f
  refine EvP.bind (ships_ok hc 0) (fun r h => ?_)
  obtain ⟨q, x, a, s⟩ := r
  obtain ⟨h1, h2, h3⟩ := h
  dsimp only at h1 h2 h3 ⊢
  exact drawPlan0 hc q x h1 x.length [] 0 a s (by omega) (by simp) h2 (by omega)
end Go.Proofs.Ytcciljjnpfgaeaa.G

namespace Go.Proofs.Ytcciljjnpfgaeaa.G
open Go.RowKit Go.Proofs.YtcciljjnpfgaeaaW.PrintWords Go.Proofs.YtcciljjnpfgaeaaW.PrintLast
set_option linter.unusedVariables false
set_option linter.unusedSimpArgs false
theorem spec_own (l : List Int) (h : (l.length : Int) ≤ 1048576) : spec_l1Own.f l = some l := by
  unfold spec_l1Own.f
  simp only [Option.bind_some, List.length_nil, List.nil_append]
  rw [if_pos (by omega)]
theorem spec_bestO {q : Int} {l : List S62} (hs : Ships q l) : ∀ (d : Nat) (jobs : List Int), jobs.length + d = l.length → PreO jobs (l.length : Int) → Ev (fun k => spec_l14Best.f k q l jobs) (bestO q l d jobs) := by
  have h5 := hs.2.1
  intro d
  induction d with
  | zero =>
    intro jobs hd hp
    have hP : Perm jobs (l.length : Int) := ⟨by omega, hp⟩
    have hok := inOrd_ok hs hP
    obtain ⟨r, es, er⟩ := hok.2.2.2.2
    subst er
    refine Ev.step (fun k => by rw [spec_l14Best.f]) ?_
    simp (disch := omega) only [if_pos]
    refine Ev.bind es ?_
    unfold bestO itemO costO
    by_cases e : (inOrd q l jobs).2 = true
    · rw [if_pos e]
      simp only [if_pos e]
      exact Ev.bind (spec_costW (hok.1 e).2.1 h5) (Ev.now _)
    · rw [if_neg e]
      simp only [if_neg e]
      exact Ev.now _
  | succ d ih =>
    intro jobs hd hp
    have main : ∀ (r : Nat) (i : Int) (s : List Int × List S37 × Int), 0 ≤ i → i + r = (l.length : Int) → Ev (fun k => spec_l14Best.l0 k q l jobs s.1 s.2.1 s.2.2 i) (bestInO (bestO q l d) jobs r i s) := by
      intro r
      induction r with
      | zero =>
        intro i s i0 hi
        refine Ev.step (fun k => by rw [spec_l14Best.l0]) ?_
        simp (disch := omega) only [if_neg]
        exact Ev.now _
      | succ r ihr =>
        intro i s i0 hi
        refine Ev.step (fun k => by rw [spec_l14Best.l0]) ?_
        simp only [if_pos (show i < (l.length : Int) by omega)]
        refine Ev.bind (spec_has jobs i (by omega)) ?_
        rw [wrap64_id (x := i + 1) (by omega) (by omega)]
        unfold bestInO
        by_cases hh : Has jobs i
        · rw [chk_pos hh, chk_pos hh]
          simp only [if_true]
          exact ihr (i + 1) s (by omega) (by omega)
        · rw [chk_neg hh, chk_neg hh, spec_own jobs (by omega)]
          simp only [Bool.false_eq_true, if_false, Option.bind_some]
          simp only [if_pos (show jobs.length < 17592186044416 by omega)]
          refine Ev.bind (ih (jobs ++ [i]) (by simp; omega) (preO_snoc.2 ⟨hp, by omega, hh⟩)) ?_
          generalize bestO q l d (jobs ++ [i]) = b
          have yes : 0 ≤ b.2.2 → (s.2.2 < 0 ∨ b.2.2 < s.2.2) → pickO s b = b := fun h1 h2 => if_pos ⟨h1, h2⟩
          have no : ¬ (0 ≤ b.2.2 ∧ (s.2.2 < 0 ∨ b.2.2 < s.2.2)) → pickO s b = s := fun h => if_neg h
          refine Ev.ite (fun g0 => ?_) (fun g0 => ?_)
          · refine Ev.ite (fun g1 => ?_) (fun g1 => ?_)
            · rw [yes g0 (.inl g1)]; exact ihr (i + 1) b (by omega) (by omega)
            · refine Ev.ite (fun g2 => ?_) (fun g2 => ?_)
              · rw [yes g0 (.inr g2)]; exact ihr (i + 1) b (by omega) (by omega)
              · rw [no (fun h => h.2.elim g1 g2)]; exact ihr (i + 1) s (by omega) (by omega)
          · rw [no (fun h => g0 h.1)]; exact ihr (i + 1) s (by omega) (by omega)
    refine Ev.step (fun k => by rw [spec_l14Best.f]) ?_
    simp only [if_neg (show ¬ ((jobs.length : Int) = (l.length : Int)) by omega)]
    exact main l.length 0 ([], [], -1) (by omega) (by omega)
noncomputable def bestOR (q : Int) (l : List S62) : List Int × List S37 × Int × Bool := chk (Ships q l ∧ Short q l) ((foldO q l).1, (foldO q l).2.1, (foldO q l).2.2, true) ([], [], 0, false)
theorem impl_bestOR (q : Int) (l : List S62) : impl_BestOrder.f q l = some (bestOR q l) := rfl
theorem bestOR_len (q : Int) (l : List S62) : ((bestOR q l).1.length : Int) ≤ 1000 ∧ ((bestOR q l).2.1.length : Int) ≤ 1000 := by
  unfold bestOR
  by_cases h : Ships q l ∧ Short q l
  · rw [chk_pos h]
    have h5 := h.1.2.1
    rcases (foldO_inv h.1).1 with e | ⟨o, ho, e, he⟩
    · rw [e]; exact ⟨by simp, by simp⟩
    · rw [he]
      have hP := (inOrd_ok h.1 ho).1 e
      exact ⟨by show (o.length : Int) ≤ _; have := ho.1; omega, by show ((inOrd q l o).1.length : Int) ≤ _; have := hP.2.1; omega⟩
  · rw [chk_neg h]; exact ⟨by simp, by simp⟩
theorem spec_bestOR (q : Int) (l : List S62) : Ev (fun k => spec_BestOrder.f k q l) (bestOR q l) := by
  unfold spec_BestOrder.f bestOR
  refine Ev.bind (spec_ships q l) ?_
  by_cases hs : Ships q l
  · rw [chk_pos hs]
    simp only [if_true]
    refine Ev.bind (spec_bestO hs l.length [] (by simp) (preO_nil _)) ?_
    have e := foldO_eq hs
    have sh := foldO_short hs
    by_cases hS : Short q l
    · rw [chk_pos ⟨hs, hS⟩]
      have h0 := sh.1 hS
      have eb : foldO q l = bestO q l l.length [] := by
        rw [e] at h0 ⊢
        by_cases g : 0 ≤ (bestO q l l.length []).2.2
        · exact if_pos ⟨g, .inl (by decide)⟩
        · rw [pickO_none _ _ (by omega)] at h0
          exact absurd h0 (by decide)
      rw [← eb]
      simp only [if_neg (show ¬ ((foldO q l).2.2 < 0) by omega)]
      exact Ev.now _
    · rw [chk_neg (fun m => hS m.2)]
      have h0 := sh.2 hS
      have g : (bestO q l l.length []).2.2 < 0 := by
        refine Classical.byContradiction fun g => ?_
        rw [e, show pickO ([], [], -1) (bestO q l l.length []) = bestO q l l.length [] from if_pos ⟨by omega, .inl (by decide)⟩] at h0
        rw [h0] at g
        exact g (by decide)
      simp only [if_pos g]
      exact Ev.now _
  · rw [chk_neg hs, chk_neg (fun m => hs m.1)]
    simp only [Bool.false_eq_true, if_false]
    exact Ev.now _
end Go.Proofs.Ytcciljjnpfgaeaa.G

namespace Go.Proofs.Ytcciljjnpfgaeaa.G
open Go.RowKit Go.Proofs.YtcciljjnpfgaeaaW.PrintWords Go.Proofs.YtcciljjnpfgaeaaW.PrintLast
set_option linter.unusedVariables false
set_option linter.unusedSimpArgs false
theorem rd62_take (l : List S62) (n k : Int) (h0 : 0 ≤ k) (h1 : k < n) : rd_T62 (l.take n.toNat) k = rd_T62 l k := by
  unfold rd_T62
  rw [List.getD_eq_getElem?_getD, List.getD_eq_getElem?_getD, List.getElem?_take_of_lt (by omega)]
theorem rd37_take (l : List S37) (n k : Int) (h0 : 0 ≤ k) (h1 : k < n) : rd_T37 (l.take n.toNat) k = rd_T37 l k := by
  unfold rd_T37
  rw [List.getD_eq_getElem?_getD, List.getD_eq_getElem?_getD, List.getElem?_take_of_lt (by omega)]
theorem len62_take (l : List S62) (i : Int) (h0 : 0 ≤ i) (h1 : i ≤ (l.length : Int)) : ((l.take i.toNat).length : Int) = i := by rw [List.length_take]; omega
theorem len37_take (l : List S37) (i : Int) (h0 : 0 ≤ i) (h1 : i ≤ (l.length : Int)) : ((l.take i.toNat).length : Int) = i := by rw [List.length_take]; omega
theorem beside_take (q : Int) (x : S62) (b : S37) (l : List S62) (p : List S37) (n : Int) : Beside q x b (l.take n.toNat) (p.take n.toNat) n ↔ Beside q x b l p n := by
  constructor
  · rintro ⟨h1, h2⟩
    refine ⟨h1, fun k k0 k1 => ?_⟩
    have := h2 k k0 k1
    show Apart x b (rd_T62 l k) (rd_T37 p k)
    rw [← rd62_take l n k k0 k1, ← rd37_take p n k k0 k1]
    exact this
  · rintro ⟨h1, h2⟩
    refine ⟨h1, fun k k0 k1 => ?_⟩
    show Apart x b (rd_T62 (l.take n.toNat) k) (rd_T37 (p.take n.toNat) k)
    rw [rd62_take l n k k0 k1, rd37_take p n k k0 k1]
    exact h2 k k0 k1
theorem poss_small {q : Int} {l : List S62} {p : List S37} (hs : Ships q l) (n : Int) (hn : n ≤ (l.length : Int)) (h : All (Stand q l p) 0 n) : All (fun k => small (rd_T37 p k)) 0 n := by
  intro k k0 k1
  exact fit_small hs.1.2 (hs.2.2 k k0 (by omega)) (h k k0 k1).1
theorem impl_stand {q : Int} {l : List S62} (hs : Ships q l) (p : List S37) (i : Int) (h0 : 0 ≤ i) (h1 : i < (p.length : Int)) (h2 : i < (l.length : Int)) (ha : All (Stand q l p) 0 i) : Ev (fun k => impl_fits.f k q (rd_T62 l i).f0 (rd_T62 l i).f1 (rd_T62 l i).f2 (rd_T62 l i).f3 (rd_T37 p i).f0 (rd_T37 p i).f1 (l.take i.toNat) (p.take i.toNat)) (chk (Stand q l p i) true false) := by
  have hl := hs.2.1
  have e1 := len62_take l i h0 (by omega)
  have e2 := len37_take p i h0 (by omega)
  have h := impl_Fits q hs.1 (rd_T62 l i) (hs.2.2 i h0 h2) (rd_T37 p i) (l.take i.toNat) (p.take i.toNat) (by omega) (by omega) (by
      rw [e2]; intro k k0 k1
      show shipOk (rd_T62 (l.take i.toNat) k)
      rw [rd62_take l i k k0 k1]
      exact hs.2.2 k k0 (by omega)) (by
      rw [e2]; intro k k0 k1
      show small (rd_T37 (p.take i.toNat) k)
      rw [rd37_take p i k k0 k1]
      exact poss_small hs i (by omega) ha k k0 k1)
  rw [e2, chk_congr (beside_take q (rd_T62 l i) (rd_T37 p i) l p i)] at h
  exact h
theorem check_all {P : Int → Prop} (g : Nat → Int → Option Bool) (n : Int) (hend : Ev (fun k => g k n) true) (hstep : ∀ i, 0 ≤ i → i < n → All P 0 i → (P i → Ev (fun k => g k (i + 1)) (chk (All P (i + 1) n) true false)) → Ev (fun k => g k i) (chk (All P i n) true false)) : ∀ (d : Nat) (i : Int), 0 ≤ i → i + d = n → All P 0 i → Ev (fun k => g k i) (chk (All P i n) true false) := by
  intro d
  induction d with
  | zero =>
    intro i h0 hd ha
    obtain rfl : i = n := by omega
    rw [chk_pos (All.end_ P i)]
    exact hend
  | succ d ih =>
    intro i h0 hd ha
    refine hstep i h0 (by omega) ha (fun hp => ih (i + 1) (by omega) (by omega) (fun j a b => ?_))
    by_cases e : j = i
    · rw [e]; exact hp
    · exact ha j a (by omega)
theorem impl_poss (q : Int) (l : List S62) (p : List S37) : Ev (fun k => impl_IsPossiblePlan.f k q l p) (chk (Poss q l p) true false) := by
  have no : ¬ Poss q l p → Ev (fun k => impl_IsPossiblePlan.j0 k q l p true) (chk (Poss q l p) true false) := by
    intro h
    rw [chk_neg h]
    refine Ev.step (fun k => by rw [impl_IsPossiblePlan.j0]) ?_
    simp only [if_true]; exact Ev.now _
  unfold impl_IsPossiblePlan.f
  simp only [impl_ships, Option.bind_some]
  refine Ev.ite (fun hs => ?_) (fun hs => no (fun m => hs (chk_true.2 m.1)))
  have hs := chk_true.1 hs
  have hl := hs.2.1
  by_cases hn : (p.length : Int) = (l.length : Int)
  · rw [show ((p.length : Int) != (l.length : Int)) = false from by rw [hn]; exact bne_self_eq_false _]
    refine Ev.step (fun k => by rw [impl_IsPossiblePlan.j0]) ?_
    simp only [Bool.false_eq_true, if_false]
    rw [chk_congr (show Poss q l p ↔ All (Stand q l p) 0 (p.length : Int) from ⟨fun m => m.2.2, fun m => ⟨hs, hn, m⟩⟩)]
    refine check_all (fun k i => impl_IsPossiblePlan.l0 k q l p p (p.length : Int) i) (p.length : Int) ?_ ?_ p.length 0 (by omega) (by omega) (fun j a b => by omega)
    · refine Ev.step (fun k => by rw [impl_IsPossiblePlan.l0]) ?_
      simp only [Int.lt_irrefl, if_false]
      exact Ev.now _
    · intro i h0 hlt ha nx
      refine Ev.step (fun k => by rw [impl_IsPossiblePlan.l0]) ?_
      simp (disch := omega) only [if_pos]
      refine Ev.bind (impl_stand hs p i h0 hlt (by omega) ha) ?_
      refine Ev.ite (fun g => ?_) (fun g => ?_)
      · rw [wrap64_id (by omega) (by omega), chk_congr (All.step hlt), chk_congr (show Stand q l p i ∧ All (Stand q l p) (i + 1) (p.length : Int) ↔ All (Stand q l p) (i + 1) (p.length : Int) from ⟨fun m => m.2, fun m => ⟨chk_true.1 g, m⟩⟩)]
        exact nx (chk_true.1 g)
      · rw [chk_neg (fun m => g (chk_true.2 (m i (by omega) hlt)))]; exact Ev.now _
  · rw [show ((p.length : Int) != (l.length : Int)) = true from by rw [bne_iff_ne]; exact hn]
    exact no (fun m => hn m.2.1)
end Go.Proofs.Ytcciljjnpfgaeaa.G

namespace Go.Proofs.Ytcciljjnpfgaeaa.G
open Go.RowKit Go.Proofs.YtcciljjnpfgaeaaW.PrintWords Go.Proofs.YtcciljjnpfgaeaaW.PrintLast
set_option linter.unusedVariables false
set_option linter.unusedSimpArgs false
noncomputable def costR (q : Int) (l : List S62) (p : List S37) : Int × Bool := chk (Poss q l p) (costTo l p l.length, true) (0, false)
theorem impl_planC (q : Int) (l : List S62) (p : List S37) : Ev (fun k => impl_PlanCost.f k q l p) (costR q l p) := by
  unfold impl_PlanCost.f costR
  refine Ev.bind (impl_poss q l p) ?_
  refine Ev.ite (fun h => ?_) (fun h => ?_)
  · have h := chk_true.1 h
    rw [chk_pos h]
    exact Ev.bind (impl_cost (poss_timed h)) (Ev.now _)
  · rw [chk_neg (fun m => h (chk_true.2 m))]; exact Ev.now _
def waitTo (l : List S62) (p : List S37) : Nat → List Int
  | 0 => []
  | d + 1 => waitTo l p d ++ [(rd_T37 p d).f1 - (rd_T62 l d).f1]
theorem waitTo_succ (l : List S62) (p : List S37) (d : Nat) : waitTo l p (d + 1) = waitTo l p d ++ [(rd_T37 p d).f1 - (rd_T62 l d).f1] := rfl
theorem wait_len (l : List S62) (p : List S37) : ∀ d : Nat, (waitTo l p d).length = d := by
  intro d
  induction d with
  | zero => rfl
  | succ d ih => rw [waitTo_succ, List.length_append, ih]; rfl
noncomputable def waitR (q : Int) (l : List S62) (p : List S37) : List Int × Bool := chk (Poss q l p) (waitTo l p l.length, true) ([], false)
theorem impl_wait (q : Int) (l : List S62) (p : List S37) : Ev (fun k => impl_WaitOf.f k q l p) (waitR q l p) := by
  unfold impl_WaitOf.f waitR
  refine Ev.bind (impl_poss q l p) ?_
  refine Ev.ite (fun h => ?_) (fun h => ?_)
  · have h := chk_true.1 h
    rw [chk_pos h]
    have hn := h.2.1
    have h5 := h.1.2.1
    rw [hn]
    refine Ev.up (fun k (s : List Int) i => impl_WaitOf.l0 k l s p (l.length : Int) i) (fun _ _ => (waitTo l p l.length, true)) (fun s i => 0 ≤ i ∧ s = waitTo l p i.toNat) (l.length : Int) ?_ ?_ [] 0 ⟨by omega, rfl⟩ (by omega)
    · rintro s ⟨_, rfl⟩
      refine Ev.step (fun k => by rw [impl_WaitOf.l0]) ?_
      simp only [Int.lt_irrefl, if_false, Int.toNat_natCast]
      exact Ev.now _
    · rintro s i ⟨i0, rfl⟩ hlt ih
      have o := poss_at h i i0 hlt
      unfold shipOk Fit at o
      have wl := wait_len l p i.toNat
      refine Ev.step (fun k => by rw [impl_WaitOf.l0]) ?_
      simp (disch := omega) only [if_pos, wrap64_id]
      refine ih _ ⟨by omega, ?_⟩
      rw [show (i + 1).toNat = i.toNat + 1 from by omega, waitTo_succ, show ((i.toNat : Nat) : Int) = i from by omega]
  · rw [chk_neg (fun m => h (chk_true.2 m))]; exact Ev.now _
end Go.Proofs.Ytcciljjnpfgaeaa.G

namespace Go.Proofs.Ytcciljjnpfgaeaa.G
open Go.RowKit Go.Proofs.YtcciljjnpfgaeaaW.PrintWords Go.Proofs.YtcciljjnpfgaeaaW.PrintLast
set_option linter.unusedVariables false
set_option linter.unusedSimpArgs false
theorem order_end (o : List Int) (n : Int) : chk (All (itemOk o n) 0 (o.length : Int)) ((o.length : Int) == n) false = chk (Perm o n) true false := by
  by_cases h : All (itemOk o n) 0 (o.length : Int)
  · rw [chk_pos h]
    by_cases e : (o.length : Int) = n
    · rw [chk_pos (show Perm o n from ⟨e, h⟩)]; exact beq_iff_eq.2 e
    · rw [chk_neg (fun m : Perm o n => e m.1)]; exact beq_eq_false_iff_ne.2 e
  · rw [chk_neg h, chk_neg (fun m : Perm o n => h m.2)]
theorem spec_order (o : List Int) (n : Int) (hn : 0 ≤ n ∧ n ≤ 5) (hl : (o.length : Int) ≤ 1099511627776) : Ev (fun k => spec_l14Order.f k o n) (chk (Perm o n) true false) := by
  unfold spec_l14Order.f
  refine Ev.eq (Ev.check (fun k i => spec_l14Order.l0 k o n i) (o.length : Int) (itemOk o n) ((o.length : Int) == n) false 0 ?_ ?_ 0 (by omega) (by omega)) (order_end o n)
  · refine Ev.step (fun k => by rw [spec_l14Order.l0]) ?_
    simp only [Int.lt_irrefl, if_false]
    exact Ev.now _
  · intro i h0 hlt r hr
    have tl := take_len o i h0 (by omega)
    refine Ev.step (fun k => by rw [spec_l14Order.l0]) ?_
    simp (disch := omega) only [if_pos, wrap64_id, spec_l1In_eq, Option.bind_some, decide_eq_true_eq]
    refine Ev.ite (fun g1 => ?_) (fun g1 => ?_)
    · try simp (disch := omega) only [if_pos]
      refine Ev.bind (spec_has _ _ (by omega)) ?_
      refine Ev.ite (fun g3 => ?_) (fun g3 => ?_)
      · rw [chk_neg (fun m : itemOk o n i => m.2 (chk_true.1 g3))]; exact Ev.now _
      · rw [chk_pos (show itemOk o n i from ⟨g1, fun h => g3 (chk_true.2 h)⟩)]; exact hr
    · rw [chk_neg (fun m : itemOk o n i => g1 m.1)]; exact Ev.now _
theorem impl_perm (o : List Int) (n : Int) (hn : 0 ≤ n ∧ n ≤ 5) (hl : (o.length : Int) ≤ 1099511627776) : Ev (fun k => impl_isPermutation.f k o n) (chk (Perm o n) true false) := by
  unfold impl_isPermutation.f
  refine Ev.eq (Ev.check (fun k i => impl_isPermutation.l0 k o n o (o.length : Int) i) (o.length : Int) (itemOk o n) ((o.length : Int) == n) false 0 ?_ ?_ 0 (by omega) (by omega)) (order_end o n)
  · refine Ev.step (fun k => by rw [impl_isPermutation.l0]) ?_
    simp only [Int.lt_irrefl, if_false]
    exact Ev.now _
  · intro i h0 hlt r hr
    have tl := take_len o i h0 (by omega)
    refine Ev.step (fun k => by rw [impl_isPermutation.l0]) ?_
    simp (disch := omega) only [if_pos, wrap64_id, impl_within_eq, Option.bind_some, decide_eq_true_eq]
    refine Ev.ite (fun g1 => ?_) (fun g1 => ?_)
    · try simp (disch := omega) only [if_pos]
      refine Ev.bind (impl_has _ _ (by omega)) ?_
      refine Ev.ite (fun g3 => ?_) (fun g3 => ?_)
      · rw [chk_neg (fun m : itemOk o n i => m.2 (chk_true.1 g3))]; exact Ev.now _
      · rw [chk_pos (show itemOk o n i from ⟨g1, fun h => g3 (chk_true.2 h)⟩)]; exact hr
    · rw [chk_neg (fun m : itemOk o n i => g1 m.1)]; exact Ev.now _
theorem planIn_R (q : Int) (l : List S62) (o : List Int) (hl : (o.length : Int) ≤ 1099511627776) : ∃ r : List S37 × Int × Bool, (r.1.length : Int) ≤ 5 ∧ Ev (fun k => impl_PlanInOrder.f k q l o) r ∧ Ev (fun k => spec_PlanInOrder.f k q l o) r := by
  unfold impl_PlanInOrder.f spec_PlanInOrder.f
  simp only [impl_ships, Option.bind_some]
  have noI : Ev (fun k => impl_PlanInOrder.j0 k q l o true) ([], 0, false) := by
    refine Ev.step (fun k => by rw [impl_PlanInOrder.j0]) ?_
    simp only [if_true]; exact Ev.now _
  have noS : Ev (fun k => spec_PlanInOrder.j0 k q l o true) ([], 0, false) := by
    refine Ev.step (fun k => by rw [spec_PlanInOrder.j0]) ?_
    simp only [if_true]; exact Ev.now _
  by_cases hs : Ships q l
  · have h5 := hs.2.1
    rw [chk_pos hs]
    by_cases hp : Perm o (l.length : Int)
    · obtain ⟨⟨p, ok⟩, r1, r2, ei, es⟩ := inOrder_both q l hs o hp
      cases ok with
      | false =>
        refine ⟨([], 0, false), by simp, ?_, ?_⟩
        · simp only [if_true]
          refine Ev.bind (impl_perm o _ (by omega) hl) ?_
          rw [chk_pos hp]
          refine Ev.step (fun k => by rw [impl_PlanInOrder.j0]) ?_
          simp only [Bool.not_true, Bool.false_eq_true, if_false]
          refine Ev.bind ei ?_
          simp only [Bool.false_eq_true, if_false]
          exact Ev.now _
        · refine Ev.bind (spec_ships q l) ?_
          rw [chk_pos hs]
          simp only [if_true]
          refine Ev.bind (spec_order o _ (by omega) hl) ?_
          rw [chk_pos hp]
          refine Ev.step (fun k => by rw [spec_PlanInOrder.j0]) ?_
          simp only [Bool.not_true, Bool.false_eq_true, if_false]
          refine Ev.bind es ?_
          simp only [Bool.false_eq_true, if_false]
          exact Ev.now _
      | true =>
        have e := r2 rfl
        refine ⟨(p, costW l p l.length, true), r1, ?_, ?_⟩
        · simp only [if_true]
          refine Ev.bind (impl_perm o _ (by omega) hl) ?_
          rw [chk_pos hp]
          refine Ev.step (fun k => by rw [impl_PlanInOrder.j0]) ?_
          simp only [Bool.not_true, Bool.false_eq_true, if_false]
          refine Ev.bind ei ?_
          simp only [if_true]
          exact Ev.bind (impl_costW e h5) (Ev.now _)
        · refine Ev.bind (spec_ships q l) ?_
          rw [chk_pos hs]
          simp only [if_true]
          refine Ev.bind (spec_order o _ (by omega) hl) ?_
          rw [chk_pos hp]
          refine Ev.step (fun k => by rw [spec_PlanInOrder.j0]) ?_
          simp only [Bool.not_true, Bool.false_eq_true, if_false]
          refine Ev.bind es ?_
          simp only [if_true]
          exact Ev.bind (spec_costW e h5) (Ev.now _)
    · refine ⟨([], 0, false), by simp, ?_, ?_⟩
      · simp only [if_true]
        refine Ev.bind (impl_perm o _ (by omega) hl) ?_
        rw [chk_neg hp]
        exact noI
      · refine Ev.bind (spec_ships q l) ?_
        rw [chk_pos hs]
        simp only [if_true]
        refine Ev.bind (spec_order o _ (by omega) hl) ?_
        rw [chk_neg hp]
        exact noS
  · rw [chk_neg hs]
    refine ⟨([], 0, false), by simp, ?_, ?_⟩
    · simp only [Bool.false_eq_true, if_false]; exact noI
    · refine Ev.bind (spec_ships q l) ?_
      rw [chk_neg hs]
      simp only [Bool.false_eq_true, if_false]; exact noS
end Go.Proofs.Ytcciljjnpfgaeaa.G

/- FnBerths: the best order has a possible plan that costs not more than that of a drawn order (for drawn bytes of at most 2^16; else the statement is true at once). -/
namespace Go.Proofs.Ytcciljjnpfgaeaa.Pure
open Go.RowKit Go.Proofs.Ytcciljjnpfgaeaa.G Go.Proofs.YtcciljjnpfgaeaaW.PrintWords Go.Proofs.YtcciljjnpfgaeaaW.PrintLast
set_option linter.unusedVariables false
set_option linter.unusedSimpArgs false
theorem bInts_I (xs : List Int) (h : (xs.length : Int) ≤ 1048576) : Ev (fun k => laws_vInts.f k xs xs) true := by
  unfold laws_vInts.f
  simp only [if_true]
  refine Ev.upc (fun k i => laws_vInts.l0 k xs xs i) true (xs.length : Int) 0 ?_ ?_ 0 (by omega) (by omega)
  · refine Ev.step (fun k => by rw [laws_vInts.l0]) ?_
    simp only [Int.lt_irrefl, if_false]
    exact Ev.now _
  · intro i h0 hlt hr
    refine Ev.step (fun k => by rw [laws_vInts.l0]) ?_
    simp (disch := omega) only [wrap64_id, if_pos, if_true]
    exact hr
theorem bBerths_B (xs : List S37) (h : (xs.length : Int) ≤ 1048576) : Ev (fun k => laws_vBerths.f k xs xs) true := by
  unfold laws_vBerths.f
  simp only [if_true]
  refine Ev.upc (fun k i => laws_vBerths.l0 k xs xs i) true (xs.length : Int) 0 ?_ ?_ 0 (by omega) (by omega)
  · refine Ev.step (fun k => by rw [laws_vBerths.l0]) ?_
    simp only [Int.lt_irrefl, if_false]
    exact Ev.now _
  · intro i h0 hlt hr
    refine Ev.step (fun k => by rw [laws_vBerths.l0]) ?_
    simp (disch := omega) only [wrap64_id, if_pos]
    simp only [beq_self_eq_true, Bool.not_true, Bool.or_self, Bool.false_eq_true, if_false]
    exact hr
theorem planIn_yes {q : Int} {l : List S62} (hs : Ships q l) {o : List Int} (hp : Perm o (l.length : Int)) : Ev (fun k => impl_PlanInOrder.f k q l o) (if (inOrd q l o).2 = true then ((inOrd q l o).1, costW l (inOrd q l o).1 l.length, true) else ([], 0, false)) := by
  have h5 := hs.2.1
  have hn := hp.1
  have hok := inOrd_ok hs hp
  unfold impl_PlanInOrder.f
  simp only [impl_ships, Option.bind_some]
  rw [chk_pos hs]
  simp only [if_true]
  refine Ev.bind (impl_perm o _ (by omega) (by omega)) ?_
  rw [chk_pos hp]
  refine Ev.step (fun k => by rw [impl_PlanInOrder.j0]) ?_
  simp only [Bool.not_true, Bool.false_eq_true, if_false]
  refine Ev.bind hok.2.2.2.1 ?_
  by_cases e : (inOrd q l o).2 = true
  · simp only [if_pos e]
    exact Ev.bind (impl_costW (hok.1 e).2.1 h5) (Ev.now _)
  · simp only [if_neg e]
    exact Ev.now _
theorem planIn_no {q : Int} {l : List S62} {o : List Int} (hl : (o.length : Int) ≤ 1099511627776) (h : ¬ (Ships q l ∧ Perm o (l.length : Int))) : Ev (fun k => impl_PlanInOrder.f k q l o) ([], 0, false) := by
  have noI : Ev (fun k => impl_PlanInOrder.j0 k q l o true) ([], 0, false) := by
    refine Ev.step (fun k => by rw [impl_PlanInOrder.j0]) ?_
    simp only [if_true]; exact Ev.now _
  unfold impl_PlanInOrder.f
  simp only [impl_ships, Option.bind_some]
  by_cases hs : Ships q l
  · have h5 := hs.2.1
    rw [chk_pos hs]
    simp only [if_true]
    refine Ev.bind (impl_perm o _ (by omega) hl) ?_
    rw [chk_neg (fun m => h ⟨hs, m⟩)]
    exact noI
  · rw [chk_neg hs]
    simp only [Bool.false_eq_true, if_false]
    exact noI
theorem rd_wait (l : List S62) (p : List S37) : ∀ (d : Nat) (i : Int), 0 ≤ i → i < (d : Int) → rd (waitTo l p d) i = (rd_T37 p i).f1 - (rd_T62 l i).f1 := by
  intro d
  induction d with
  | zero => intro i a b; omega
  | succ d ih =>
    intro i a b
    have hl := wait_len l p d
    rw [waitTo_succ]
    by_cases e : i < (d : Int)
    · have : rd (waitTo l p d ++ [(rd_T37 p d).f1 - (rd_T62 l d).f1]) i = rd (waitTo l p d) i := by
        unfold rd
        rw [List.getD_eq_getElem?_getD, List.getD_eq_getElem?_getD, List.getElem?_append_left (by omega)]
      rw [this]
      exact ih i a e
    · obtain rfl : i = (d : Int) := by omega
      unfold rd
      rw [List.getD_eq_getElem?_getD, Int.toNat_natCast, List.getElem?_append_right (by omega), hl, Nat.sub_self]
      rfl
theorem berth0 {q : Int} {l : List S62} {p : List S37} (hP : Poss q l p) : ∀ (d : Nat) (i : Int), 0 ≤ i → i + d = (l.length : Int) → Ev (fun k => laws_FnBerths.l0 k l p (costTo l p l.length) p (costTo l p l.length) true (costTo l p l.length) true (waitTo l p l.length) true (costTo l p i.toNat) i) true := by
  have hT := poss_timed hP
  have h5 := hP.1.2.1
  have hpl := hP.2.1
  have hw : ((waitTo l p l.length).length : Int) = (l.length : Int) := by rw [wait_len]
  intro d
  induction d with
  | zero =>
    intro i i0 hd
    refine Ev.step (fun k => by rw [laws_FnBerths.l0]) ?_
    simp only [if_neg (show ¬ (i < ((waitTo l p l.length).length : Int)) by omega), if_true]
    refine Ev.bind (bBerths_B p (by omega)) ?_
    rw [show i.toNat = l.length from by omega]
    simp only [if_true, beq_self_eq_true]
    exact Ev.now _
  | succ d ih =>
    intro i i0 hd
    have ht := timed_at hT i i0 (by omega)
    have hb := cost_bd hT i.toNat (by omega)
    have e : costTo l p (i + 1).toNat = costTo l p i.toNat + (rd_T62 l i).f3 * ((rd_T37 p i).f1 - (rd_T62 l i).f1) := by
      rw [show (i + 1).toNat = i.toNat + 1 from by omega, costTo_succ, show ((i.toNat : Nat) : Int) = i from by omega]
    have hn := ih (i + 1) (by omega) (by omega)
    refine Ev.step (fun k => by rw [laws_FnBerths.l0]) ?_
    simp only [if_pos (show i < ((waitTo l p l.length).length : Int) by omega), if_pos (show i < (l.length : Int) by omega), if_pos i0]
    have h1 := ht.1
    rw [rd_wait l p l.length i i0 (by omega), Int.mul_comm, wrap64_id (x := (rd_T62 l i).f3 * ((rd_T37 p i).f1 - (rd_T62 l i).f1)) (by omega) (by omega), wrap64_id (x := i + 1) (by omega) (by omega), wrap64_id (x := costTo l p i.toNat + (rd_T62 l i).f3 * ((rd_T37 p i).f1 - (rd_T62 l i).f1)) (by omega) (by omega), ← e]
    exact hn
theorem berth2 (q : Int) (l : List S62) : Ev (fun k => laws_FnBerths.j2 k q l (bestOR q l).1 (bestOR q l).2.1 (bestOR q l).2.2.1 (bestOR q l).2.2.2 false) true := by
  refine Ev.step (fun k => by rw [laws_FnBerths.j2]) ?_
  simp only [Bool.false_eq_true, if_false]
  unfold bestOR
  by_cases h : Ships q l ∧ Short q l
  · rw [chk_pos h]
    have h0 := (foldO_short h.1).1 h.2
    rcases (foldO_inv h.1).1 with e | ⟨o, ho, e, he⟩
    · rw [e] at h0; exact absurd h0 (by decide)
    · rw [he]
      have hP := (inOrd_ok h.1 ho).1 e
      have hy := planIn_yes h.1 ho
      rw [if_pos e] at hy
      have hc : costO q l o = costW l (inOrd q l o).1 l.length := if_pos e
      unfold itemO
      simp only [if_true]
      rw [hc]
      generalize (inOrd q l o).1 = p at hP hy
      rw [costW_eq (poss_timed hP)] at hy ⊢
      refine Ev.bind hy (Ev.bind (impl_planC q l p) (Ev.bind (impl_wait q l p) ?_))
      unfold costR waitR
      rw [chk_pos hP, chk_pos hP]
      exact berth0 hP l.length 0 (by omega) (by omega)
  · rw [chk_neg h]
    simp only [Bool.false_eq_true, if_false]
    exact Ev.now _
theorem berth1 (q : Int) (l : List S62) (o : List Int) (hl : (o.length : Int) ≤ 1000) : Ev (fun k => laws_FnBerths.j0 k q l o (bestOR q l).1 (bestOR q l).2.1 (bestOR q l).2.2.1 (bestOR q l).2.2.2 false) true := by
  refine Ev.step (fun k => by rw [laws_FnBerths.j0]) ?_
  simp only [Bool.false_eq_true, if_false]
  obtain ⟨r, r1, hi, hs⟩ := planIn_R q l o (by omega)
  refine Ev.bind hi (Ev.bind hs ?_)
  simp only [bne_self_eq_false, Bool.false_eq_true, if_false, if_true]
  refine Ev.bind (bBerths_B r.1 (by omega)) ?_
  refine Ev.step (fun k => by rw [laws_FnBerths.j1]) ?_
  simp only [Bool.not_true, Bool.false_eq_true, if_false]
  have no : r.2.2 = false → Ev (fun k => if r.2.2 = true then (if (bestOR q l).2.2.2 = true then (if r.2.1 < (bestOR q l).2.2.1 then (laws_FnBerths.j2 k q l (bestOR q l).1 (bestOR q l).2.1 (bestOR q l).2.2.1 (bestOR q l).2.2.2 true) else ((impl_IsPossiblePlan.f k q l r.1).bind fun t938 => (laws_FnBerths.j2 k q l (bestOR q l).1 (bestOR q l).2.1 (bestOR q l).2.2.1 (bestOR q l).2.2.2 (!t938)))) else (laws_FnBerths.j2 k q l (bestOR q l).1 (bestOR q l).2.1 (bestOR q l).2.2.1 (bestOR q l).2.2.2 true)) else (laws_FnBerths.j2 k q l (bestOR q l).1 (bestOR q l).2.1 (bestOR q l).2.2.1 (bestOR q l).2.2.2 false)) true := by
    intro e
    simp only [e, Bool.false_eq_true, if_false]
    exact berth2 q l
  by_cases h : Ships q l ∧ Perm o (l.length : Int)
  · have hy := planIn_yes h.1 h.2
    by_cases e : (inOrd q l o).2 = true
    · rw [if_pos e] at hy
      obtain rfl := Ev.same hi hy
      have hP := (inOrd_ok h.1 h.2).1 e
      have hS : Short q l := fun i i0 i1 => by
        have := (hP.2.2 i i0 (by have := hP.2.1; omega)).1
        unfold Fit at this
        show (rd_T62 l i).f0 ≤ q
        omega
      have hm := (foldO_inv h.1).2 o h.2 e
      have hc : costO q l o = costW l (inOrd q l o).1 l.length := if_pos e
      rw [hc] at hm
      have eb : (bestOR q l).2.2.2 = true := by unfold bestOR; rw [chk_pos ⟨h.1, hS⟩]
      have ec : (bestOR q l).2.2.1 = (foldO q l).2.2 := by unfold bestOR; rw [chk_pos ⟨h.1, hS⟩]
      have b2 := berth2 q l
      rw [eb] at b2 ⊢
      simp only [if_true]
      simp only [if_neg (show ¬ (costW l (inOrd q l o).1 l.length < (bestOR q l).2.2.1) by omega)]
      refine Ev.bind (impl_poss q l _) ?_
      rw [chk_pos hP]
      exact b2
    · rw [if_neg e] at hy
      obtain rfl := Ev.same hi hy
      exact no rfl
  · obtain rfl := Ev.same hi (planIn_no (by omega) h)
    exact no rfl
theorem FnBerths : laws_FnBerths.Pure := by
  intro l0 h0
  refine Ev.rounds (g := fun k => laws_FnBerths.f k l0) (r := true) ?_
  unfold laws_FnBerths.f laws_vBig.f
  simp only [Option.bind_some]
  refine Ev.ite (fun _ => Ev.now _) (fun g => ?_)
  have hc : Cd l0 := cd_of (by simpa using g) h0.2
  obtain ⟨⟨q, x, o⟩, ⟨h1, h2⟩, e⟩ := drawPlan hc
  dsimp only at h1 h2
  refine Ev.bind e ?_
  dsimp only
  rw [impl_bestOR]
  simp only [Option.bind_some]
  refine Ev.bind (spec_bestOR q x) ?_
  have ln := bestOR_len q x
  simp only [bne_self_eq_false, Bool.false_eq_true, if_false, if_true]
  refine Ev.bind (bInts_I _ (by omega)) ?_
  simp only [if_true]
  refine Ev.bind (bBerths_B _ (by omega)) ?_
  exact berth1 q x o h2
end Go.Proofs.Ytcciljjnpfgaeaa.Pure

-- Written by wip/tools/gen.py out of the translation (the kit's printer, one namespace a seat). Lean checks it.
namespace Go.Proofs.Ytcciljjnpfgaeaa.G
open Go.RowKit Go.ChangeShapes Go.WideShapes Go.Deep Go.Proofs.YtcciljjnpfgaeaaW.PrintWords Go.Proofs.YtcciljjnpfgaeaaW.PrintLast
set_option linter.unusedVariables false
/-! Opening the arguments of a law: whatever reads as data of type t reads as a value of kind d, within what its type allows. -/
def Opens {α : Type} (P : Program) (t : TypeId) (d : Kd α) (Wf : α → Prop) : Prop :=
  ∀ {H : Type} {enc : TypeId × Value → H} {W : World} {spare : Nat → Bool} {held : Bool} {fuel : Nat} {cs : List Value} {x : DataW H × List MemPlace},
    DataW.trod enc P W 0 spare held fuel t cs = some x → ∃ a, d.K W a cs ∧ Wf a
theorem opens_int {P : Program} {t : TypeId} {k : IntKind} (ht : P.underlying t = some (.int k)) : Opens P t (Kd.int k) (fun x => (Lit.int k x).wf = true) := by
  intro H enc W spare held fuel cs x h
  obtain ⟨n, rfl, _, hw⟩ := DataW.trod_int ht h
  exact ⟨n, rfl, hw⟩
theorem opens_row {α : Type} {d : Kd α} {Wf : α → Prop} {W : World} (Q : Nat → List Value → Prop) (hq : ∀ i cs, Q i cs → ∃ a, d.K W a cs ∧ Wf a) (n : Nat) (h : ∀ i, i < n → ∃ cs, Q i cs) :
    ∃ xs : List α, xs.length = n ∧ (∀ y ∈ xs, Wf y) ∧ ∀ j p, xs[j]? = some p → ∃ cs, Q j cs ∧ d.K W p cs := by
  induction n with
  | zero => exact ⟨[], rfl, fun y hy => by simp at hy, fun j p hp => by simp at hp⟩
  | succ n ih =>
    obtain ⟨xs, hl, hw, hx⟩ := ih (fun i hi => h i (by omega))
    obtain ⟨cs, hcs⟩ := h n (by omega)
    obtain ⟨a, ha, hwa⟩ := hq n cs hcs
    refine ⟨xs ++ [a], by simp [hl], fun y hy => ?_, fun j p hp => ?_⟩
    · rcases List.mem_append.1 hy with hy | hy
      · exact hw y hy
      · rw [List.mem_singleton.1 hy]; exact hwa
    · rcases Nat.lt_or_ge j xs.length with hj | hj
      · rw [List.getElem?_append_left hj] at hp
        exact hx j p hp
      · rw [List.getElem?_append_right hj] at hp
        have h0 : j - xs.length = 0 := by
          rcases Nat.eq_zero_or_pos (j - xs.length) with h0 | h0
          · exact h0
          · rw [List.getElem?_eq_none (by simp; omega)] at hp; cases hp
        rw [h0] at hp
        simp at hp
        subst hp
        have : j = n := by omega
        subst this
        exact ⟨cs, hcs, ha⟩
theorem opens_slice {α : Type} {P : Program} {t e : TypeId} {d : Kd α} {Wf : α → Prop} (ht : P.underlying t = some (.slice e)) (hC : P.cellsOf e = d.sz) (ho : Opens P e d Wf) :
    Opens P t (Kd.slice e d) (fun xs => xs.length ≤ maxLen ∧ ∀ y ∈ xs, Wf y) := by
  intro H enc W spare held fuel cs x h
  rcases open_slice ht h with ⟨rfl, _⟩ | ⟨a, len, cap, m, n, D, Pl, rfl, _, hl, hm, hmm, _, hi⟩
  · exact ⟨[], ⟨none, 0, rfl, Nat.le_refl _, rfl, by simp, fun h => by simp at h⟩, by simp [maxLen], fun y hy => by simp at hy⟩
  · have hml : len ≤ m := by rw [hmm]; split <;> omega
    obtain ⟨xs, hxl, hw, hx⟩ := opens_row (W := W) (d := d) (Wf := Wf) (fun i cs' => W.cells? 0 (a.add (i * P.cellsOf e)) (P.cellsOf e) = some cs' ∧ DataW.trod enc P W 0 spare held n e cs' = some (D i, Pl i))
      (fun i cs' hq => ho hq.2) len (fun i hi' => hi i (by omega))
    refine ⟨xs, ⟨some a, cap, by rw [hxl], by omega, rfl, ?_, fun _ => ⟨a, rfl, fun j p hj => ?_⟩⟩, by omega, hw⟩
    · simp only [maxLen] at hm
      omega
    · obtain ⟨cs', ⟨hc, _⟩, hK⟩ := hx j p hj
      obtain ⟨_, hcl, hat⟩ := World.cells?_some hc
      refine ⟨cs', d.K_len hK, hK, fun i u hu => ?_⟩
      have hil : i < cs'.length := (List.getElem?_eq_some_iff.1 hu).1
      have h1 := hat i (by omega)
      rw [hC] at h1
      rw [← Go.Deep.add_add, h1, hu]
section
variable {α β γ δ : Type} {P : Program} {t : TypeId} {f0 f1 f2 f3 : Field} {d0 : Kd α} {d1 : Kd β} {d2 : Kd γ} {d3 : Kd δ} {W0 : α → Prop} {W1 : β → Prop} {W2 : γ → Prop} {W3 : δ → Prop}
end
theorem opens_arg {α : Type} {P : Program} {t e : TypeId} {d : Kd α} {Wf : List α → Prop} (ho : Opens P t (Kd.slice e d) Wf) {H : Type} {enc : TypeId × Value → H} {W : World} {spare : Nat → Bool} {held : Bool} {a : Option Addr} {len cap : Nat} {dd : DataW H} {p : List MemPlace}
    (h : DataW.Trod enc P W 0 spare held t (.slice a len cap) dd p) : ∃ l : List α, len = l.length ∧ l.length ≤ cap ∧ Kd.C d W a l.length l ∧ Wf l := by
  obtain ⟨fuel, hf⟩ := h
  obtain ⟨l, ⟨A, c, he, hl, hC⟩, hw⟩ := ho hf
  simp [Value.cells] at he
  obtain ⟨rfl, rfl, rfl⟩ := he
  exact ⟨l, rfl, hl, hC, hw⟩
end Go.Proofs.Ytcciljjnpfgaeaa.G
