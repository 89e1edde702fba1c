/- Texts of the proof of FnExactBestOrder, joined in build order. -/
import Derived.Test.YtcciljjnpfgaeaaMgFnExactBestOrder3
import Derived.Test.YtcciljjnpfgaeaaMgFnExactBestOrder1
import Derived.Test.YtcciljjnpfgaeaaMgFnExactBestOrder2
import Derived.Deep.Slices
import Derived.ChangeArms
import Derived.WideShapes
import Derived.ChangeShapes
namespace Go.Proofs.Ytcciljjnpfgaeaa.G
open Go.RowKit Go.Proofs.YtcciljjnpfgaeaaW.PrintWords Go.Proofs.YtcciljjnpfgaeaaW.PrintLast
set_option linter.unusedVariables false
set_option linter.unusedSimpArgs false
def costTo (l : List S62) (p : List S37) : Nat → Int
  | 0 => 0
  | d + 1 => costTo l p d + (rd_T62 l d).f3 * ((rd_T37 p d).f1 - (rd_T62 l d).f1)
theorem costTo_succ (l : List S62) (p : List S37) (d : Nat) : costTo l p (d + 1) = costTo l p d + (rd_T62 l d).f3 * ((rd_T37 p d).f1 - (rd_T62 l d).f1) := rfl
/-- What a plan's costs need: the ships are valid, the starts are in their bounds. -/
def Timed (l : List S62) (p : List S37) : Prop := (p.length : Int) = (l.length : Int) ∧ (l.length : Int) ≤ 5 ∧ All (fun i => shipOk (rd_T62 l i) ∧ (rd_T62 l i).f1 ≤ (rd_T37 p i).f1 ∧ (rd_T37 p i).f1 ≤ 1000) 0 (l.length : Int)
theorem poss_timed {q : Int} {l : List S62} {p : List S37} (h : Poss q l p) : Timed l p := ⟨h.2.1, h.1.2.1, fun i a b => by
  have o := poss_at h i a b
  refine ⟨o.1, ?_⟩
  have := o.2
  unfold Fit at this
  omega⟩
theorem timed_at {l : List S62} {p : List S37} (h : Timed l p) (i : Int) (h0 : 0 ≤ i) (h1 : i < (l.length : Int)) : (0 ≤ (rd_T62 l i).f3 * ((rd_T37 p i).f1 - (rd_T62 l i).f1) ∧ (rd_T62 l i).f3 * ((rd_T37 p i).f1 - (rd_T62 l i).f1) ≤ 9000) ∧ 0 ≤ (rd_T37 p i).f1 - (rd_T62 l i).f1 ∧ (rd_T37 p i).f1 - (rd_T62 l i).f1 ≤ 1000 := by
  have o := h.2.2 i h0 h1
  have o1 : shipOk (rd_T62 l i) := o.1
  have o2 : (rd_T62 l i).f1 ≤ (rd_T37 p i).f1 ∧ (rd_T37 p i).f1 ≤ 1000 := o.2
  unfold shipOk at o1
  have m := mul_bd (x := (rd_T62 l i).f3) (y := (rd_T37 p i).f1 - (rd_T62 l i).f1) (A := 9) (B := 1000) (by omega) (by omega) (by omega) (by omega) (by omega) (by omega)
  exact ⟨⟨Int.mul_nonneg (by omega) (by omega), by omega⟩, by omega, by omega⟩
theorem cost_bd {l : List S62} {p : List S37} (h : Timed l p) : ∀ d : Nat, (d : Int) ≤ (l.length : Int) → 0 ≤ costTo l p d ∧ costTo l p d ≤ 9000 * d := by
  intro d
  induction d with
  | zero => intro _; simp [costTo]
  | succ d ih =>
    intro hd
    have := ih (by omega)
    have t := timed_at h (d : Int) (by omega) (by omega)
    rw [costTo_succ]
    omega
theorem impl_cost {l : List S62} {p : List S37} (h : Timed l p) : Ev (fun k => impl_planCost.f k l p) (costTo l p l.length) := by
  have hn := h.1
  have h5 := h.2.1
  unfold impl_planCost.f
  refine Ev.up (fun k (s : Int) i => impl_planCost.l0 k p s l (l.length : Int) i) (fun _ _ => costTo l p l.length) (fun s i => 0 ≤ i ∧ s = costTo l p i.toNat) (l.length : Int) ?_ ?_ 0 0 ⟨by omega, rfl⟩ (by omega)
  · rintro s ⟨_, rfl⟩
    refine Ev.step (fun k => by rw [impl_planCost.l0]) ?_
    simp only [Int.lt_irrefl, if_false, Int.toNat_natCast]
    exact Ev.now _
  · rintro s i ⟨i0, rfl⟩ hlt ih
    have t := timed_at h i i0 hlt
    have b := cost_bd h i.toNat (by omega)
    refine Ev.step (fun k => by rw [impl_planCost.l0]) ?_
    simp (disch := omega) only [if_pos, wrap64_id]
    refine ih _ ⟨by omega, ?_⟩
    rw [show (i + 1).toNat = i.toNat + 1 from by omega, costTo_succ, show ((i.toNat : Nat) : Int) = i from by omega]
end Go.Proofs.Ytcciljjnpfgaeaa.G

namespace Go.Proofs.Ytcciljjnpfgaeaa.G
open Go.RowKit Go.Proofs.YtcciljjnpfgaeaaW.PrintWords Go.Proofs.YtcciljjnpfgaeaaW.PrintLast
set_option linter.unusedVariables false
set_option linter.unusedSimpArgs false
theorem perm_ne {o : List Int} {n : Int} (hp : Perm o n) (i k : Int) (k0 : 0 ≤ k) (hk : k < i) (hi : i < (o.length : Int)) : rd o k ≠ rd o i := by
  intro e
  have h := (hp.2 i (by omega) hi).2
  apply h
  rw [has_iff]
  exact ⟨k, k0, by rw [take_len o i (by omega) (by omega)]; exact hk, by rw [rd_take o i k k0 hk]; exact e⟩
theorem perm_inj {o : List Int} {n : Int} (hp : Perm o n) (i k : Int) (i0 : 0 ≤ i) (k0 : 0 ≤ k) (hi : i < (o.length : Int)) (hk : k < (o.length : Int)) (hne : i ≠ k) : rd o i ≠ rd o k := by
  by_cases h : k < i
  · exact fun e => perm_ne hp i k k0 h hi e.symm
  · exact perm_ne hp k i i0 (by omega) hk
theorem erase_len (x : Int) : ∀ S : List Int, x ∈ S → (S.erase x).length + 1 = S.length := by
  intro S h
  have := List.length_erase_of_mem h
  have h2 : 0 < S.length := List.length_pos_of_mem h
  omega
/-- A list of numbers told apart, all of them out of S, is not longer than S. -/
theorem apart_len : ∀ (d : Nat) (f : Nat → Int) (S : List Int), (∀ i, i < d → f i ∈ S) → (∀ i k, i < d → k < d → i ≠ k → f i ≠ f k) → d ≤ S.length := by
  intro d
  induction d with
  | zero => intro f S _ _; omega
  | succ d ih =>
    intro f S hm hi
    have h := ih f (S.erase (f d)) (fun i h => (List.mem_erase_of_ne (hi i d (by omega) (by omega) (by omega))).2 (hm i (by omega))) (fun i k a b => hi i k (by omega) (by omega))
    have := erase_len (f d) S (hm d (by omega))
    omega
theorem perm_onto {o : List Int} {n : Int} (hp : Perm o n) (m : Int) (m0 : 0 ≤ m) (m1 : m < n) : ∃ k, 0 ≤ k ∧ k < (o.length : Int) ∧ rd o k = m := by
  refine Classical.byContradiction fun hn => ?_
  have hl := hp.1
  have h := apart_len o.length (fun i => rd o (i : Int)) (((List.range n.toNat).map (fun (i : Nat) => (i : Int))).erase m) (fun i hi => by
    have h1 := (hp.2 (i : Int) (by omega) (by omega)).1
    refine (List.mem_erase_of_ne (fun e => hn ⟨(i : Int), by omega, by omega, e⟩)).2 ?_
    exact List.mem_map.2 ⟨(rd o (i : Int)).toNat, List.mem_range.2 (by omega), by omega⟩) (fun i k a b c => perm_inj hp i k (by omega) (by omega) (by omega) (by omega) (by omega))
  have he := erase_len m ((List.range n.toNat).map (fun (i : Nat) => (i : Int))) (List.mem_map.2 ⟨m.toNat, List.mem_range.2 (by omega), by omega⟩)
  rw [List.length_map, List.length_range] at he
  omega
theorem apart_symm {x y : S62} {a b : S37} (h : Apart x a y b) : Apart y b x a := by
  unfold Apart at h ⊢
  omega
/-- A berth that is possible from place 0 at some hour: a next one is found, and not later. -/
theorem next_first (q : Int) (hq : 1 ≤ q ∧ q ≤ 30) (x : S62) (hx : shipOk x) (o : List S62) (bs : List S37) (hn : o.length = bs.length) (h5 : (bs.length : Int) ≤ 5) (ho : All (fun k => shipOk (rd_T62 o k)) 0 (bs.length : Int)) (hb : All (fun k => small (rd_T37 bs k)) 0 (bs.length : Int))
    (s : Int) (hs : Beside q x ⟨0, s⟩ o bs (bs.length : Int)) : ∃ r : Int × Int × Bool, Ev (fun k => impl_nextBerth.f k q x.f0 x.f1 x.f2 x.f3 o bs) r ∧ r.2.2 = true ∧ r.2.1 ≤ s := by
  have hx' := hx
  unfold shipOk at hx'
  have hs' := hs.1
  unfold Fit at hs'
  dsimp only at hs'
  unfold impl_nextBerth.f
  have main : ∀ (d : Nat) (start : Int), x.f1 ≤ start → start + d = s → ∃ r : Int × Int × Bool, Ev (fun k => impl_nextBerth.l0 k q o bs start x.f0 x.f1 x.f2 x.f3) r ∧ r.2.2 = true ∧ r.2.1 ≤ s := by
    intro d
    induction d with
    | zero =>
      intro start s0 hd
      obtain rfl : start = s := by omega
      refine ⟨(0, start, true), ?_, rfl, Int.le_refl _⟩
      refine Ev.step (fun k => by rw [impl_nextBerth.l0]) ?_
      simp (disch := omega) only [if_pos]
      refine Ev.step (fun k => by rw [impl_nextBerth.l1]) ?_
      rw [wrap64_id (x := q - x.f0) (by omega) (by omega)]
      simp (disch := omega) only [if_pos]
      refine Ev.bind (impl_Fits q hq x hx ⟨0, start⟩ o bs (by omega) h5 ho hb) ?_
      rw [chk_pos hs]
      simp only [if_true]
      exact Ev.now _
    | succ d ih =>
      intro start s0 hd
      obtain ⟨r0, e0, t0, f0⟩ := ih (start + 1) (by omega) (by omega)
      have inner : ∀ (e : Nat) (place : Int), 0 ≤ place → place ≤ 31 → place + e = 31 → ∃ r : Int × Int × Bool, Ev (fun k => impl_nextBerth.l1 k q o bs start place x.f0 x.f1 x.f2 x.f3) r ∧ r.2.2 = true ∧ r.2.1 ≤ s := by
        intro e
        induction e with
        | zero =>
          intro place p0 p1 he
          refine ⟨r0, ?_, t0, f0⟩
          refine Ev.step (fun k => by rw [impl_nextBerth.l1]) ?_
          rw [wrap64_id (x := q - x.f0) (by omega) (by omega), wrap64_id (x := start + 1) (by omega) (by omega)]
          simp (disch := omega) only [if_neg]
          exact e0
        | succ e ihe =>
          intro place p0 p1 he
          by_cases g : place ≤ q - x.f0
          · by_cases hB : Beside q x ⟨place, start⟩ o bs (bs.length : Int)
            · refine ⟨(place, start, true), ?_, rfl, by dsimp only; omega⟩
              refine Ev.step (fun k => by rw [impl_nextBerth.l1]) ?_
              rw [wrap64_id (x := q - x.f0) (by omega) (by omega)]
              simp (disch := omega) only [if_pos]
              refine Ev.bind (impl_Fits q hq x hx ⟨place, start⟩ o bs (by omega) h5 ho hb) ?_
              rw [chk_pos hB]
              simp only [if_true]
              exact Ev.now _
            · obtain ⟨r, e1, t1, f1⟩ := ihe (place + 1) (by omega) (by omega) (by omega)
              refine ⟨r, ?_, t1, f1⟩
              refine Ev.step (fun k => by rw [impl_nextBerth.l1]) ?_
              rw [wrap64_id (x := q - x.f0) (by omega) (by omega)]
              simp (disch := omega) only [if_pos]
              refine Ev.bind (impl_Fits q hq x hx ⟨place, start⟩ o bs (by omega) h5 ho hb) ?_
              rw [chk_neg hB, wrap64_id (x := place + 1) (by omega) (by omega)]
              simp only [Bool.false_eq_true, if_false]
              exact e1
          · refine ⟨r0, ?_, t0, f0⟩
            refine Ev.step (fun k => by rw [impl_nextBerth.l1]) ?_
            rw [wrap64_id (x := q - x.f0) (by omega) (by omega), wrap64_id (x := start + 1) (by omega) (by omega)]
            simp (disch := omega) only [if_neg]
            exact e0
      obtain ⟨r, e1, t1, f1⟩ := inner 31 0 (by omega) (by omega) (by omega)
      refine ⟨r, ?_, t1, f1⟩
      refine Ev.step (fun k => by rw [impl_nextBerth.l0]) ?_
      simp (disch := omega) only [if_pos]
      exact e1
  exact main (s - x.f1).toNat x.f1 (Int.le_refl _) (by omega)
theorem small_of_fit {q : Int} {l : List S62} (hs : Ships q l) {o : List Int} (hp : Perm o (l.length : Int)) {i : Int} (h0 : 0 ≤ i) (h1 : i < (o.length : Int)) {b : S37} (h : Fit q (rd_T62 l (rd o i)) b) : small b := by
  have hl := hp.1
  have := (hp.2 i h0 h1).1
  exact fit_small hs.1.2 (hs.2.2 _ this.1 (by omega)) h
theorem rd37_set (p : List S37) (j k : Int) (b : S37) (j0 : 0 ≤ j) (k0 : 0 ≤ k) (hj : j < (p.length : Int)) : rd_T37 (p.set j.toNat b) k = if k = j then b else rd_T37 p k := by
  unfold rd_T37
  rw [getD_set _ _ _ _ _ (by omega)]
  by_cases e : k = j
  · rw [if_pos (by omega), if_pos e]
  · rw [if_neg (by omega), if_neg e]
/-- What stands while ships get their berths, in full. -/
structure Put (q : Int) (l : List S62) (o : List Int) (p : List S37) (os : List S62) (bs : List S37) (i : Int) : Prop where
  p0 : 0 ≤ i
  pn : (p.length : Int) = (l.length : Int)
  ol : (os.length : Int) = i
  bl : (bs.length : Int) = i
  os_ : ∀ k, 0 ≤ k → k < i → rd_T62 os k = rd_T62 l (rd o k)
  bs_ : ∀ k, 0 ≤ k → k < i → rd_T37 bs k = rd_T37 p (rd o k)
  fit : ∀ k, 0 ≤ k → k < i → Fit q (rd_T62 l (rd o k)) (rd_T37 p (rd o k))
  apt : ∀ k j, 0 ≤ j → j < k → k < i → Apart (rd_T62 l (rd o k)) (rd_T37 p (rd o k)) (rd_T62 l (rd o j)) (rd_T37 p (rd o j))
def Short (q : Int) (l : List S62) : Prop := All (fun i => (rd_T62 l i).f0 ≤ q) 0 (l.length : Int)
def Early (bs : List S37) (os : List S62) (i : Int) : Prop := ∀ k, 0 ≤ k → k < i → (rd_T37 bs k).f1 + (rd_T62 os k).f2 ≤ 200 + 48 * i
theorem put_end {q : Int} {l : List S62} (hs : Ships q l) {o : List Int} (hp : Perm o (l.length : Int)) {p : List S37} {os : List S62} {bs : List S37} (h : Put q l o p os bs (o.length : Int)) : Poss q l p := by
  refine ⟨hs, h.pn, fun m m0 m1 => ?_⟩
  obtain ⟨a, a0, a1, rfl⟩ := perm_onto hp m m0 (by have := h.pn; omega)
  refine ⟨h.fit a a0 a1, fun k k0 k1 => ?_⟩
  obtain ⟨b, b0, b1, rfl⟩ := perm_onto hp k k0 (by have := h.pn; omega)
  by_cases e : b < a
  · exact h.apt a b b0 e a1
  · by_cases e2 : a = b
    · subst e2; omega
    · exact apart_symm (h.apt b a a0 (by omega) b1)
theorem put_step {q : Int} {l : List S62} (hs : Ships q l) {o : List Int} (hp : Perm o (l.length : Int)) {p : List S37} {os : List S62} {bs : List S37} {i : Int} (h : Put q l o p os bs i) (hi : i < (o.length : Int)) {b : S37}
    (hb : Beside q (rd_T62 l (rd o i)) b os bs (bs.length : Int)) : Put q l o (p.set (rd o i).toNat b) (os ++ [rd_T62 l (rd o i)]) (bs ++ [b]) (i + 1) := by
  obtain ⟨p0, pn, ol, bl, os_, bs_, fit, apt⟩ := h
  have hl := hp.1
  have hx := (hp.2 i p0 hi).1
  have old : ∀ k, 0 ≤ k → k < i → rd_T37 (p.set (rd o i).toNat b) (rd o k) = rd_T37 p (rd o k) := fun k k0 k1 => by
    have hk := (hp.2 k k0 (by omega)).1
    rw [rd37_set p _ _ b hx.1 hk.1 (by omega), if_neg (perm_ne hp i k k0 k1 hi)]
  have new : rd_T37 (p.set (rd o i).toNat b) (rd o i) = b := by rw [rd37_set p _ _ b hx.1 hx.1 (by omega), if_pos rfl]
  refine ⟨by omega, by rw [List.length_set]; exact pn, by rw [List.length_append]; simp only [List.length_cons, List.length_nil]; omega, by rw [List.length_append]; simp only [List.length_cons, List.length_nil]; omega, fun k k0 k1 => ?_, fun k k0 k1 => ?_, fun k k0 k1 => ?_, fun k j j0 jk k1 => ?_⟩
  · rw [rd62_app _ _ k k0]
    by_cases e : k < i
    · rw [if_pos (by omega)]; exact os_ k k0 e
    · rw [if_neg (by omega), if_pos (by omega), show k = i from by omega]
  · rw [rd37_app _ _ k k0]
    by_cases e : k < i
    · rw [if_pos (by omega), old k k0 e]; exact bs_ k k0 e
    · rw [if_neg (by omega), if_pos (by omega), show k = i from by omega, new]
  · by_cases e : k < i
    · rw [old k k0 e]; exact fit k k0 e
    · rw [show k = i from by omega, new]; exact hb.1
  · by_cases e : k < i
    · rw [old k (by omega) e, old j j0 (by omega)]; exact apt k j j0 jk e
    · rw [show k = i from by omega, new, old j j0 (by omega)]
      have this : Apart (rd_T62 l (rd o i)) b (rd_T62 os j) (rd_T37 bs j) := hb.2 j j0 (by omega)
      rw [os_ j j0 (by omega), bs_ j j0 (by omega)] at this
      exact this
theorem put_ok {q : Int} {l : List S62} (hs : Ships q l) {o : List Int} (hp : Perm o (l.length : Int)) {p : List S37} {os : List S62} {bs : List S37} {i : Int} (h : Put q l o p os bs i) (hi : i ≤ (o.length : Int)) :
    All (fun k => shipOk (rd_T62 os k)) 0 (bs.length : Int) ∧ All (fun k => small (rd_T37 bs k)) 0 (bs.length : Int) := by
  have hl := hp.1
  have hb := h.bl
  refine ⟨fun k k0 k1 => ?_, fun k k0 k1 => ?_⟩
  · show shipOk (rd_T62 os k)
    rw [h.os_ k k0 (by omega)]
    have := (hp.2 k k0 (by omega)).1
    exact hs.2.2 _ this.1 (by omega)
  · show small (rd_T37 bs k)
    rw [h.bs_ k k0 (by omega)]
    exact small_of_fit hs hp k0 (by omega) (h.fit k k0 (by omega))
theorem inOrder_strong (q : Int) (l : List S62) (hs : Ships q l) (o : List Int) (hp : Perm o (l.length : Int)) :
    ∃ r : List S37 × Bool, (r.2 = true → Poss q l r.1) ∧ (Short q l → r.2 = true) ∧ (r.2 = false → r.1 = []) ∧ Ev (fun k => impl_planInOrder.f k q l o) r := by
  have h5 := hs.2.1
  have hn := hp.1
  unfold impl_planInOrder.f
  simp (disch := omega) only [if_pos]
  have main : ∀ (d : Nat) (i : Int) (p : List S37) (os : List S62) (bs : List S37), Put q l o p os bs i → (Short q l → Early bs os i) → i + d = (o.length : Int) →
      ∃ r : List S37 × Bool, (r.2 = true → Poss q l r.1) ∧ (Short q l → r.2 = true) ∧ (r.2 = false → r.1 = []) ∧ Ev (fun k => impl_planInOrder.l0 k q l p os bs o (o.length : Int) i) r := by
    intro d
    induction d with
    | zero =>
      intro i p os bs hL hE hd
      obtain rfl : i = (o.length : Int) := by omega
      refine ⟨(p, true), fun _ => put_end hs hp hL, fun _ => rfl, (fun h => by cases h), ?_⟩
      refine Ev.step (fun k => by rw [impl_planInOrder.l0]) ?_
      simp (disch := omega) only [if_neg]
      exact Ev.now _
    | succ d ih =>
      intro i p os bs hL hE hd
      have p0 := hL.p0
      have ol := hL.ol
      have bl := hL.bl
      have pn := hL.pn
      have hi := (hp.2 i p0 (by omega)).1
      have hx : shipOk (rd_T62 l (rd o i)) := hs.2.2 (rd o i) hi.1 (by omega)
      obtain ⟨ho, hb⟩ := put_ok hs hp hL (by omega)
      obtain ⟨r, hF, ei, es⟩ := next_both q hs.1 (rd_T62 l (rd o i)) hx os bs (by omega) (by omega) ho hb
      have hN : Short q l → r.2.2 = true ∧ r.2.1 ≤ 200 + 48 * i := by
        intro hS
        have hx' := hx
        unfold shipOk at hx'
        have hq := hS (rd o i) hi.1 (by omega)
        dsimp only at hq
        obtain ⟨r', e', t', f'⟩ := next_first q hs.1 (rd_T62 l (rd o i)) hx os bs (by omega) (by omega) ho hb (200 + 48 * i) ⟨by unfold Fit; dsimp only; omega, fun k k0 k1 => by
          have := hE hS k k0 (by omega)
          show Apart _ _ _ _
          unfold Apart
          exact .inr (.inr (.inr this))⟩
        obtain rfl := Ev.same ei e'
        exact ⟨t', f'⟩
      obtain ⟨b0, b1, bt⟩ := r
      cases bt with
      | false =>
        refine ⟨([], false), (fun h => by cases h), fun h => (by have h2 : false = true := (hN h).1; cases h2), fun _ => rfl, ?_⟩
        refine Ev.step (fun k => by rw [impl_planInOrder.l0]) ?_
        simp (disch := omega) only [if_pos]
        refine Ev.bind ei ?_
        simp only [Bool.false_eq_true, if_false]
        exact Ev.now _
      | true =>
        have hB := hF rfl
        obtain ⟨r, r1, r2, r3, ri⟩ := ih (i + 1) (p.set (rd o i).toNat ⟨b0, b1⟩) (os ++ [rd_T62 l (rd o i)]) (bs ++ [(⟨b0, b1⟩ : S37)]) (put_step hs hp hL (by omega) hB) (fun hS k k0 k1 => by
          have hx' := hx
          unfold shipOk at hx'
          have h2 := (hN hS).2
          dsimp only at h2
          rw [rd62_app _ _ k k0, rd37_app _ _ k k0]
          by_cases e : k < i
          · rw [if_pos (by omega), if_pos (by omega)]
            have := hE hS k k0 e
            omega
          · rw [if_neg (show ¬ (k < (bs.length : Int)) by omega), if_pos (show k = (bs.length : Int) by omega), if_neg (show ¬ (k < (os.length : Int)) by omega), if_pos (show k = (os.length : Int) by omega)]
            dsimp only
            omega) (by omega)
        refine ⟨r, r1, r2, r3, ?_⟩
        refine Ev.step (fun k => by rw [impl_planInOrder.l0]) ?_
        simp (disch := omega) only [if_pos]
        refine Ev.bind ei ?_
        simp only [if_true, Option.bind_some, List.length_cons, List.length_nil]
        simp (disch := omega) only [if_pos, wrap64_id]
        exact ri
  exact main o.length 0 (List.replicate ((l.length : Int) : Int).toNat z37) [] [] ⟨by omega, by rw [List.length_replicate]; omega, rfl, rfl, fun k a b => by omega, fun k a b => by omega, fun k a b => by omega, fun k j a b c => by omega⟩ (fun _ k a b => by omega) (by omega)
/-- The plan in an order, as both make it. -/
noncomputable def inOrd (q : Int) (l : List S62) (o : List Int) : List S37 × Bool := by
  classical exact if h : Ships q l ∧ Perm o (l.length : Int) then Classical.choose (inOrder_strong q l h.1 o h.2) else ([], false)
theorem inOrd_ok {q : Int} {l : List S62} (hs : Ships q l) {o : List Int} (hp : Perm o (l.length : Int)) :
    ((inOrd q l o).2 = true → Poss q l (inOrd q l o).1) ∧ (Short q l → (inOrd q l o).2 = true) ∧ ((inOrd q l o).2 = false → (inOrd q l o).1 = []) ∧ Ev (fun k => impl_planInOrder.f k q l o) (inOrd q l o) ∧ ∃ r, Ev (fun k => spec_l14InOrder.f k q l o) r ∧ r = inOrd q l o := by
  have e : inOrd q l o = Classical.choose (inOrder_strong q l hs o hp) := by
    unfold inOrd
    exact dif_pos ⟨hs, hp⟩
  have h := Classical.choose_spec (inOrder_strong q l hs o hp)
  rw [← e] at h
  obtain ⟨r, _, _, ei, es⟩ := inOrder_both q l hs o hp
  exact ⟨h.1, h.2.1, h.2.2.1, h.2.2.2, r, es, Ev.same ei h.2.2.2⟩
end Go.Proofs.Ytcciljjnpfgaeaa.G

namespace Go.Proofs.Ytcciljjnpfgaeaa.G
open Go.RowKit Go.Proofs.YtcciljjnpfgaeaaW.PrintWords Go.Proofs.YtcciljjnpfgaeaaW.PrintLast
set_option linter.unusedVariables false
set_option linter.unusedSimpArgs false
/-! The best order: the fold over all orders is what the reference's recursion finds. -/
theorem rd_appL (xs q : List Int) (i : Int) (h0 : 0 ≤ i) (h1 : i < (xs.length : Int)) : rd (xs ++ q) i = rd xs i := by
  unfold rd
  rw [List.getD_eq_getElem?_getD, List.getD_eq_getElem?_getD, List.getElem?_append_left (by omega)]
theorem rd_appE (xs : List Int) (x : Int) (q : List Int) : rd (xs ++ (x :: q)) (xs.length : Int) = x := by
  unfold rd
  rw [List.getD_eq_getElem?_getD, Int.toNat_natCast, List.getElem?_append_right (Nat.le_refl _), Nat.sub_self]
  rfl
theorem item_app {o q : List Int} {n i : Int} (h0 : 0 ≤ i) (h1 : i < (o.length : Int)) : itemOk (o ++ q) n i ↔ itemOk o n i := by
  unfold itemOk
  rw [rd_appL o q i h0 h1, List.take_append_of_le_length (by omega)]
theorem item_next {o q : List Int} {n x : Int} : itemOk (o ++ (x :: q)) n (o.length : Int) ↔ (0 ≤ x ∧ x ≤ n - 1) ∧ ¬ Has o x := by
  unfold itemOk
  rw [rd_appE, Int.toNat_natCast, List.take_append_of_le_length (Nat.le_refl _), List.take_length]
/-- The beginning of an order. -/
def PreO (o : List Int) (n : Int) : Prop := All (itemOk o n) 0 (o.length : Int)
theorem preO_nil (n : Int) : PreO [] n := fun i a b => by simp at b; omega
theorem preO_snoc {o : List Int} {n x : Int} : PreO (o ++ [x]) n ↔ PreO o n ∧ (0 ≤ x ∧ x ≤ n - 1) ∧ ¬ Has o x := by
  have hl : ((o ++ [x]).length : Int) = (o.length : Int) + 1 := by simp
  constructor
  · intro h
    exact ⟨fun i a b => (item_app (q := [x]) a b).1 (h i a (by omega)), item_next.1 (h (o.length : Int) (by omega) (by omega))⟩
  · rintro ⟨h, h2⟩ i a b
    by_cases e : i < (o.length : Int)
    · exact (item_app (q := [x]) a e).2 (h i a e)
    · obtain rfl : i = (o.length : Int) := by omega
      exact item_next.2 h2
theorem ordIn_mem (f : List Int → List (List Int)) (jobs l : List Int) : ∀ (r : Nat) (i : Int), l ∈ ordIn f jobs r i ↔ ∃ k : Int, i ≤ k ∧ k < i + r ∧ ¬ Has jobs k ∧ l ∈ f (jobs ++ [k]) := by
  intro r
  induction r with
  | zero =>
    intro i
    unfold ordIn
    constructor
    · intro h; cases h
    · rintro ⟨k, a, b, _⟩; omega
  | succ r ih =>
    intro i
    unfold ordIn
    rw [List.mem_append, ih (i + 1)]
    constructor
    · rintro (h | ⟨k, a, b, c⟩)
      · by_cases hh : Has jobs i
        · rw [chk_pos hh] at h; cases h
        · rw [chk_neg hh] at h; exact ⟨i, by omega, by omega, hh, h⟩
      · exact ⟨k, by omega, by omega, c⟩
    · rintro ⟨k, a, b, c, h⟩
      by_cases e : k = i
      · subst e; rw [chk_neg c]; exact .inl h
      · exact .inr ⟨k, by omega, by omega, c, h⟩
theorem ords_mem {n : Nat} (l : List Int) : ∀ (d : Nat) (jobs : List Int), jobs.length + d = n → PreO jobs n → (l ∈ ords n d jobs ↔ ∃ t, l = jobs ++ t ∧ Perm l n) := by
  intro d
  induction d with
  | zero =>
    intro jobs hd hp
    unfold ords
    rw [List.mem_singleton]
    constructor
    · rintro rfl; exact ⟨[], by simp, by omega, hp⟩
    · rintro ⟨t, e, h⟩
      have h1 := h.1
      rw [e, List.length_append] at h1
      rw [e, List.eq_nil_of_length_eq_zero (show t.length = 0 by omega), List.append_nil]
  | succ d ih =>
    intro jobs hd hp
    unfold ords
    rw [ordIn_mem]
    constructor
    · rintro ⟨k, k0, k1, hh, h⟩
      obtain ⟨t, e, hP⟩ := (ih (jobs ++ [k]) (by simp; omega) (preO_snoc.2 ⟨hp, by omega, hh⟩)).1 h
      exact ⟨k :: t, by rw [e]; simp, hP⟩
    · rintro ⟨t, e, hP⟩
      cases t with
      | nil =>
        have := hP.1
        rw [e, List.append_nil] at this
        omega
      | cons k t =>
        have h1 := hP.1
        have hi : itemOk l n (jobs.length : Int) := hP.2 (jobs.length : Int) (by omega) (by omega)
        rw [e] at hi
        have h2 := item_next.1 hi
        refine ⟨k, by omega, by omega, h2.2, (ih (jobs ++ [k]) (by simp; omega) (preO_snoc.2 ⟨hp, h2⟩)).2 ⟨t, by rw [e]; simp, hP⟩⟩
theorem ords_all {n : Nat} (l : List Int) : l ∈ ords n n [] ↔ Perm l n := by
  rw [ords_mem l n [] (by simp) (preO_nil _)]
  exact ⟨fun ⟨_, _, h⟩ => h, fun h => ⟨l, rfl, h⟩⟩
def pickO (s o : List Int × List S37 × Int) : List Int × List S37 × Int := if 0 ≤ o.2.2 ∧ (s.2.2 < 0 ∨ o.2.2 < s.2.2) then o else s
theorem pickO_assoc (s a b : List Int × List S37 × Int) : pickO (pickO s a) b = pickO s (pickO a b) := by
  by_cases ha : 0 ≤ a.2.2 ∧ (s.2.2 < 0 ∨ a.2.2 < s.2.2)
  · rw [show pickO s a = a from if_pos ha]
    by_cases hb : 0 ≤ b.2.2 ∧ (a.2.2 < 0 ∨ b.2.2 < a.2.2)
    · rw [show pickO a b = b from if_pos hb]; symm; exact if_pos ⟨hb.1, by omega⟩
    · rw [show pickO a b = a from if_neg hb]; symm; exact if_pos ha
  · rw [show pickO s a = s from if_neg ha]
    by_cases hb : 0 ≤ b.2.2 ∧ (a.2.2 < 0 ∨ b.2.2 < a.2.2)
    · rw [show pickO a b = b from if_pos hb]
    · rw [show pickO a b = a from if_neg hb, show pickO s a = s from if_neg ha]
      exact if_neg (fun h => by omega)
theorem pickO_none (s : List Int × List S37 × Int) (o : List Int × List S37 × Int) (h : o.2.2 < 0) : pickO s o = s := if_neg (fun m => by omega)
noncomputable def costO (q : Int) (l : List S62) (o : List Int) : Int := if (inOrd q l o).2 = true then costW l (inOrd q l o).1 l.length else -1
noncomputable def itemO (q : Int) (l : List S62) (o : List Int) : List Int × List S37 × Int := (o, (inOrd q l o).1, costO q l o)
noncomputable def stepO (q : Int) (l : List S62) (s : List Int × List S37 × Int) (o : List Int) : List Int × List S37 × Int :=
  if (inOrd q l o).2 = true then (if s.2.2 < 0 ∨ costW l (inOrd q l o).1 l.length < s.2.2 then (o, (inOrd q l o).1, costW l (inOrd q l o).1 l.length) else s) else s
theorem costW_eq {l : List S62} {p : List S37} (h : Timed l p) : costW l p l.length = costTo l p l.length := Ev.same (impl_costW h.1 h.2.1) (impl_cost h)
theorem costW_nonneg {q : Int} {l : List S62} {p : List S37} (h : Poss q l p) : 0 ≤ costW l p l.length := by
  rw [costW_eq (poss_timed h)]
  exact (cost_bd (poss_timed h) l.length (Int.le_refl _)).1
theorem step_pick {q : Int} {l : List S62} (hs : Ships q l) {o : List Int} (hp : Perm o (l.length : Int)) (s : List Int × List S37 × Int) : stepO q l s o = pickO s (itemO q l o) := by
  have h := inOrd_ok hs hp
  unfold stepO itemO costO
  by_cases e : (inOrd q l o).2 = true
  · have hn := costW_nonneg (h.1 e)
    rw [if_pos e, if_pos e]
    unfold pickO
    dsimp only
    by_cases g : s.2.2 < 0 ∨ costW l (inOrd q l o).1 l.length < s.2.2
    · rw [if_pos g, if_pos ⟨hn, g⟩]
    · rw [if_neg g, if_neg (fun m => g m.2)]
  · rw [if_neg e, if_neg e]
    exact (pickO_none _ _ (show (-1 : Int) < 0 by decide)).symm
noncomputable def bestInO (f : List Int → List Int × List S37 × Int) (jobs : List Int) : Nat → Int → List Int × List S37 × Int → List Int × List S37 × Int
  | 0, _, s => s
  | r + 1, i, s => bestInO f jobs r (i + 1) (chk (Has jobs i) s (pickO s (f (jobs ++ [i]))))
noncomputable def bestO (q : Int) (l : List S62) : Nat → List Int → List Int × List S37 × Int
  | 0, jobs => itemO q l jobs
  | d + 1, jobs => bestInO (bestO q l d) jobs l.length 0 ([], [], -1)
theorem bestIn_pick (f : List Int → List Int × List S37 × Int) (jobs : List Int) : ∀ (r : Nat) (i : Int) (s a : List Int × List S37 × Int), bestInO f jobs r i (pickO s a) = pickO s (bestInO f jobs r i a) := by
  intro r
  induction r with
  | zero => intro i s a; rfl
  | succ r ih =>
    intro i s a
    unfold bestInO
    rw [← ih]
    by_cases hh : Has jobs i
    · rw [chk_pos hh, chk_pos hh]
    · rw [chk_neg hh, chk_neg hh, pickO_assoc]
theorem fold_bestO {q : Int} {l : List S62} (hs : Ships q l) : ∀ (d : Nat) (jobs : List Int), jobs.length + d = l.length → PreO jobs (l.length : Int) →
    ∀ s, (ords l.length d jobs).foldl (stepO q l) s = pickO s (bestO q l d jobs) := by
  intro d
  induction d with
  | zero =>
    intro jobs hd hp s
    exact step_pick hs ⟨by omega, hp⟩ s
  | succ d ih =>
    intro jobs hd hp s
    have main : ∀ (r : Nat) (i : Int), 0 ≤ i → i + r = (l.length : Int) → ∀ s, (ordIn (ords l.length d) jobs r i).foldl (stepO q l) s = bestInO (bestO q l d) jobs r i s := by
      intro r
      induction r with
      | zero => intro i _ _ s; rfl
      | succ r ihr =>
        intro i i0 hi s
        unfold ordIn bestInO
        rw [List.foldl_append, ihr (i + 1) (by omega) (by omega)]
        congr 1
        by_cases hh : Has jobs i
        · rw [chk_pos hh, chk_pos hh]; rfl
        · rw [chk_neg hh, chk_neg hh]
          exact ih (jobs ++ [i]) (by simp; omega) (preO_snoc.2 ⟨hp, by omega, hh⟩) s
    show (ordIn (ords l.length d) jobs l.length 0).foldl (stepO q l) s = _
    rw [main l.length 0 (by omega) (by omega)]
    have e : s = pickO s ([], [], -1) := (pickO_none _ _ (show (-1 : Int) < 0 by decide)).symm
    conv => lhs; rw [e]
    rw [bestIn_pick]
    rfl
noncomputable def foldO (q : Int) (l : List S62) : List Int × List S37 × Int := (ords l.length l.length []).foldl (stepO q l) ([], [], -1)
theorem foldO_eq {q : Int} {l : List S62} (hs : Ships q l) : foldO q l = pickO ([], [], -1) (bestO q l l.length []) := fold_bestO hs l.length [] (by simp) (preO_nil _) _
/-- What is known of the fold: it is the none, or one order's item; and no order's cost is smaller. -/
theorem fold_inv {q : Int} {l : List S62} (hs : Ships q l) : ∀ (ls : List (List Int)), (∀ o ∈ ls, Perm o (l.length : Int)) → ∀ s : List Int × List S37 × Int, (s = ([], [], -1) ∨ ∃ o, Perm o (l.length : Int) ∧ (inOrd q l o).2 = true ∧ s = itemO q l o) →
    ((ls.foldl (stepO q l) s = ([], [], -1) ∨ ∃ o, Perm o (l.length : Int) ∧ (inOrd q l o).2 = true ∧ ls.foldl (stepO q l) s = itemO q l o) ∧
      ((ls.foldl (stepO q l) s).2.2 < 0 → s.2.2 < 0) ∧ (0 ≤ s.2.2 → 0 ≤ (ls.foldl (stepO q l) s).2.2 ∧ (ls.foldl (stepO q l) s).2.2 ≤ s.2.2) ∧
      ∀ o ∈ ls, (inOrd q l o).2 = true → 0 ≤ (ls.foldl (stepO q l) s).2.2 ∧ (ls.foldl (stepO q l) s).2.2 ≤ costO q l o) := by
  intro ls
  induction ls with
  | nil => intro _ s h; exact ⟨h, fun e => e, fun e => ⟨e, Int.le_refl _⟩, fun o ho => by cases ho⟩
  | cons o ls ih =>
    intro hP s h
    rw [List.foldl_cons]
    have hp := hP o List.mem_cons_self
    rw [step_pick hs hp]
    by_cases e : (inOrd q l o).2 = true
    · have hc : 0 ≤ costO q l o := by
        unfold costO; rw [if_pos e]; exact costW_nonneg ((inOrd_ok hs hp).1 e)
      have hi : (itemO q l o).2.2 = costO q l o := rfl
      by_cases g : s.2.2 < 0 ∨ costO q l o < s.2.2
      · rw [show pickO s (itemO q l o) = itemO q l o from if_pos ⟨hc, g⟩]
        obtain ⟨a, b, c, d⟩ := ih (fun o ho => hP o (List.mem_cons_of_mem _ ho)) _ (.inr ⟨o, hp, e, rfl⟩)
        have c' := c (by omega)
        refine ⟨a, fun f => by have := b f; omega, fun f => ⟨c'.1, by omega⟩, fun o' ho' e' => ?_⟩
        rcases List.mem_cons.1 ho' with rfl | h2
        · exact ⟨c'.1, by omega⟩
        · exact d o' h2 e'
      · rw [show pickO s (itemO q l o) = s from if_neg (fun m => g m.2)]
        obtain ⟨a, b, c, d⟩ := ih (fun o ho => hP o (List.mem_cons_of_mem _ ho)) s h
        refine ⟨a, b, c, fun o' ho' e' => ?_⟩
        rcases List.mem_cons.1 ho' with rfl | h2
        · have c' := c (by omega)
          exact ⟨c'.1, by omega⟩
        · exact d o' h2 e'
    · have hi : (itemO q l o).2.2 = -1 := by
        show costO q l o = -1
        unfold costO; rw [if_neg e]
      rw [pickO_none _ _ (by omega)]
      obtain ⟨a, b, c, d⟩ := ih (fun o ho => hP o (List.mem_cons_of_mem _ ho)) s h
      refine ⟨a, b, c, fun o' ho' e' => ?_⟩
      rcases List.mem_cons.1 ho' with rfl | h2
      · exact absurd e' e
      · exact d o' h2 e'
theorem foldO_inv {q : Int} {l : List S62} (hs : Ships q l) : (foldO q l = ([], [], -1) ∨ ∃ o, Perm o (l.length : Int) ∧ (inOrd q l o).2 = true ∧ foldO q l = itemO q l o) ∧ ∀ o, Perm o (l.length : Int) → (inOrd q l o).2 = true → 0 ≤ (foldO q l).2.2 ∧ (foldO q l).2.2 ≤ costO q l o := by
  have h := fold_inv hs (ords l.length l.length []) (fun o ho => (ords_all o).1 ho) ([], [], -1) (.inl rfl)
  exact ⟨h.1, fun o ho => h.2.2.2 o ((ords_all o).2 ho)⟩
theorem perm_some (n : Nat) : ∃ o, Perm o (n : Int) := by
  refine ⟨(List.range n).map (fun (i : Nat) => (i : Int)), by simp, ?_⟩
  have hr : ∀ k : Int, 0 ≤ k → k < (n : Int) → rd ((List.range n).map (fun (i : Nat) => (i : Int))) k = k := fun k k0 k1 => by
    unfold rd
    rw [List.getD_eq_getElem?_getD, List.getElem?_map, List.getElem?_range (by omega)]
    show ((k.toNat : Nat) : Int) = k
    omega
  intro i i0 i1
  rw [List.length_map, List.length_range] at i1
  refine ⟨by rw [hr i i0 i1]; omega, ?_⟩
  rw [has_iff]
  rintro ⟨j, j0, j1, e⟩
  rw [take_len _ i i0 (by rw [List.length_map, List.length_range]; omega)] at j1
  rw [rd_take _ i j j0 j1, hr i i0 i1, hr j j0 (by omega)] at e
  omega
/-- Short ships have a best order; others none. -/
theorem foldO_short {q : Int} {l : List S62} (hs : Ships q l) : (Short q l → 0 ≤ (foldO q l).2.2) ∧ (¬ Short q l → foldO q l = ([], [], -1)) := by
  obtain ⟨h1, h2⟩ := foldO_inv hs
  refine ⟨fun hS => ?_, fun hS => ?_⟩
  · obtain ⟨o, ho⟩ := perm_some l.length
    exact (h2 o ho ((inOrd_ok hs ho).2.1 hS)).1
  · rcases h1 with h | ⟨o, ho, e, _⟩
    · exact h
    · refine absurd (fun i i0 i1 => ?_) hS
      have hP := (inOrd_ok hs ho).1 e
      have := (hP.2.2 i i0 (by have := hP.2.1; omega)).1
      unfold Fit at this
      show (rd_T62 l i).f0 ≤ q
      omega
end Go.Proofs.Ytcciljjnpfgaeaa.G

/- The contract of BestOrder: of valid ships that are not longer than the quay, the first order whose plan costs least, the plan and the cost. -/
namespace Go.Proofs.Ytcciljjnpfgaeaa.G
open Go.RowKit Go.Proofs.YtcciljjnpfgaeaaW.PrintWords Go.Proofs.YtcciljjnpfgaeaaW.PrintLast
set_option linter.unusedVariables false
set_option linter.unusedSimpArgs false
theorem keeps_mono {S S' : Nat → Prop} {w w' : World} (h : Keeps S w w') (hs : ∀ k, S k → S' k) : Keeps S' w w' := ⟨h.os, h.tape, h.output, h.size, fun k hk hn => h.block k hk (fun m => hn (hs k m))⟩
theorem Keeps.of_set (w : World) (g i : Nat) (u : Value) : Keeps (fun k => k = g) w (w.setCell ⟨g, i, none⟩ u) := ⟨rfl, rfl, rfl, by simp [World.setCell], fun k hk hn => Below.heap_setCell w ⟨g, i, none⟩ u k hn⟩
theorem below_cell {B : Nat} {w w' : World} (hb : Below w.heap.size w w') {v : Value} (h : w.cell? ⟨B, 0, none⟩ = some v) : w'.cell? ⟨B, 0, none⟩ = some v := (Keeps.of_below (S := fun _ => False) hb).cell h (fun h => h)
set_option maxRecDepth 100000 in
theorem lit70t (q : Int) (x : S62) (B : Nat) (w : World) (hq : w.cell? ⟨B, 0, none⟩ = some (.int .i64 q)) (h : q < x.f0) :
    Calls Try.prog 70 #[.agg #[.int .i64 x.f0, .int .i64 x.f1, .int .i64 x.f2, .int .i64 x.f3], .pointer (some ⟨B, 0, none⟩)] w fun e w' => e = .returned (.bool true) ∧ Below w.heap.size w w' := by
  have hu62 := Try.underlying62
  have hlt := World.block_lt_of_cell? w _ hq
  go_enter Try.func70, Try.ntmps70
  go_wp2
  go_ret
  exact ⟨rfl, (Below.refl _ _).alloc (Nat.le_refl _) _⟩
set_option maxRecDepth 100000 in
theorem lit70f (q : Int) (x : S62) (B : Nat) (w : World) (hq : w.cell? ⟨B, 0, none⟩ = some (.int .i64 q)) (h : x.f0 ≤ q) :
    Calls Try.prog 70 #[.agg #[.int .i64 x.f0, .int .i64 x.f1, .int .i64 x.f2, .int .i64 x.f3], .pointer (some ⟨B, 0, none⟩)] w fun e w' => e = .returned (.bool false) ∧ Below w.heap.size w w' := by
  have hu62 := Try.underlying62
  have hlt := World.block_lt_of_cell? w _ hq
  go_enter Try.func70, Try.ntmps70
  go_wp2
  go_ret
  exact ⟨by show Ending.returned (.bool (decide (q < x.f0))) = _; rw [decide_eq_false (by omega)], (Below.refl _ _).alloc (Nat.le_refl _) _⟩
def longAt (q : Int) (l : List S62) : Nat → Nat → Int
  | 0, _ => -1
  | d + 1, i => if (rd_T62 l i).f0 ≤ q then longAt q l d (i + 1) else i
theorem longAt_iff (q : Int) (l : List S62) : ∀ d i, longAt q l d i ≥ 0 ↔ ¬ All (fun j => (rd_T62 l j).f0 ≤ q) i ((i : Int) + d) := by
  intro d
  induction d with
  | zero => intro i; unfold longAt; exact ⟨fun h => by omega, fun h => absurd (fun j a b => by omega) h⟩
  | succ d ih =>
    intro i
    unfold longAt
    by_cases h : (rd_T62 l i).f0 ≤ q
    · rw [if_pos h, ih (i + 1), All.step (show (i : Int) < (i : Int) + ((d + 1 : Nat) : Int) by omega)]
      rw [show (((i + 1 : Nat) : Int) + (d : Int)) = (i : Int) + ((d + 1 : Nat) : Int) from by omega, show ((i + 1 : Nat) : Int) = (i : Int) + 1 from by omega]
      exact ⟨fun m a => m a.2, fun m a => m ⟨h, a⟩⟩
    · rw [if_neg h]
      exact ⟨fun _ a => h (a i (by omega) (by omega)), fun _ => by omega⟩
set_option maxHeartbeats 2000000 in
set_option maxRecDepth 100000 in
theorem idx70 (q : Int) (B : Nat) (A0 : Option Addr) (c0 : Nat) (l0 : List S62) (w : World) (hq : w.cell? ⟨B, 0, none⟩ = some (.int .i64 q)) (hr0 : Kd.C k62 w A0 l0.length l0) (hn : l0.length ≤ 9223372036854775807) (hc0 : l0.length ≤ c0) :
    Calls Try.prog 85 #[.slice A0 l0.length c0, .func (.func 70) #[] #[.pointer (some ⟨B, 0, none⟩)]] w fun e w' => e = .returned (.int .i64 (longAt q l0 l0.length 0)) ∧ Below w.heap.size w w' := by
  have HR := Aside0.mk hr0
  have HQ := Aside0.mk hq
  clear hr0 hq
  have HN : Aside0 (longAt q l0 l0.length 0 = longAt q l0 (l0.length - 0) 0) := Aside0.mk rfl
  go_enter Try.func85, Try.ntmps85
  go_wp2
  go_loopw [8] (fun i w' => ∃ k : Nat, k ≤ l0.length ∧ i = .int .i64 k ∧ Aside0 (longAt q l0 l0.length 0 = longAt q l0 (l0.length - k) k) ∧ Below w.heap.size w w') (fun i _ => l0.length - (intOf i).toNat)
  case atStart => exact ⟨0, Nat.zero_le _, rfl, HN, Below.refl _ _⟩
  case round =>
    obtain ⟨k, hk, rfl, hb, hd⟩ := hrel
    by_cases hlt : k < l0.length
    · obtain ⟨ad, rfl, hx0, hx1, hx2, hx3⟩ := at_T62 (Kd.C_below HR.out hd) (k : Int) (by omega) (by omega)
      rw [Int.toNat_natCast] at hx0 hx1 hx2 hx3
      have HQr := Aside0.mk (below_cell hd HQ.out)
      by_cases hg : (rd_T62 l0 k).f0 ≤ q
      · have hs : Aside0 (longAt q l0 l0.length 0 = longAt q l0 (l0.length - (k + 1)) (k + 1)) := Aside0.mk (by
          rw [hb.out, show l0.length - k = (l0.length - (k + 1)) + 1 from by omega]
          conv => lhs; unfold longAt
          rw [if_pos hg])
        have HG := Aside0.mk hg
        clear hb hg
        go_wp2_with (go_at_call 70; refine (lit70f q (rd_T62 l0 k) B _ HQr.out HG.out).mono ?_; rintro e w' ⟨rfl, hd2⟩)
        go_roundw
        case rel => exact ⟨k + 1, by omega, by go_num, hs, below_step hd hd2⟩
        case measure => simp [intOf]; omega
      · have hs : Aside0 (longAt q l0 l0.length 0 = (k : Int)) := Aside0.mk (by
          rw [hb.out, show l0.length - k = (l0.length - (k + 1)) + 1 from by omega]
          conv => lhs; unfold longAt
          rw [if_neg hg])
        have HG : Aside0 (q < (rd_T62 l0 k).f0) := Aside0.mk (by omega)
        clear hb hg
        go_wp2_with (go_at_call 70; refine (lit70t q (rd_T62 l0 k) B _ HQr.out HG.out).mono ?_; rintro e w' ⟨rfl, hd2⟩)
        go_ret
        exact ⟨ret_int hs.out.symm, below_step hd hd2⟩
    · have hs : Aside0 (longAt q l0 l0.length 0 = -1) := Aside0.mk (by
        rw [hb.out, show l0.length - k = 0 from by omega]; rfl)
      clear hb
      go_wp2
      go_ret
      exact ⟨ret_int hs.out.symm, hd⟩
set_option maxHeartbeats 2000000 in
set_option maxRecDepth 100000 in
theorem cont70 (q : Int) (B : Nat) (A0 : Option Addr) (c0 : Nat) (l0 : List S62) (r : Bool) (w : World) (hq : w.cell? ⟨B, 0, none⟩ = some (.int .i64 q)) (hr0 : Kd.C k62 w A0 l0.length l0) (hc0 : l0.length ≤ c0) (h : decide (longAt q l0 l0.length 0 ≥ 0) = r) :
    Calls Try.prog 69 #[.slice A0 l0.length c0, .func (.func 70) #[] #[.pointer (some ⟨B, 0, none⟩)]] w fun e w' => e = .returned (.bool r) ∧ Below w.heap.size w w' := by
  subst h
  have hn : l0.length ≤ 9223372036854775807 := hr0.2.1
  have HR := Aside0.mk hr0
  have HQ := Aside0.mk hq
  clear hr0 hq
  go_enter Try.func69, Try.ntmps69
  go_wp2_with (go_at_call 85; refine (idx70 q B A0 c0 l0 _ HQ.out HR.out hn hc0).mono ?_; rintro e w' ⟨rfl, hd⟩)
  go_ret
  exact ⟨rfl, hd⟩
theorem short_long (q : Int) (l : List S62) : decide (longAt q l l.length 0 ≥ 0) = chk (Short q l) false true := by
  have h := longAt_iff q l l.length 0
  rw [show ((0 : Nat) : Int) + (l.length : Int) = (l.length : Int) from by omega] at h
  by_cases hS : Short q l
  · rw [chk_pos hS]; exact decide_eq_false (fun g => h.1 g hS)
  · rw [chk_neg hS]; exact decide_eq_true (h.2 hS)
/-- The boxes of the best order, its plan and its cost. -/
def BoxO (Bl Bb Bp : Nat) (k : Nat) : Prop := k = Bl ∨ k = Bb ∨ k = Bp
structure OrdI (wc : World) (q : Int) (l : List S62) (Aw : Option Addr) (cw Bq Bw Bl Bb Bp : Nat) (w : World) (s : List Int × List S37 × Int) : Prop where
  old : Below wc.heap.size wc w
  cq : w.cell? ⟨Bq, 0, none⟩ = some (.int .i64 q)
  cw_ : w.cell? ⟨Bw, 0, none⟩ = some (.slice Aw l.length cw)
  bl : w.heap[Bl]? = some (.cells #[.int .i64 s.2.2] 3 (0, 0))
  bb : ∃ v, w.heap[Bb]? = some (.cells #[v] 41 (0, 0)) ∧ Kd.R (Kd.int .i64) 3 w wc.heap.size (fun k => ¬ BoxO Bl Bb Bp k) v s.1
  bp : ∃ v, w.heap[Bp]? = some (.cells #[v] 29 (0, 0)) ∧ Kd.R k37 37 w wc.heap.size (fun k => ¬ BoxO Bl Bb Bp k) v s.2.1
structure PlacesO (wc : World) (Bq Bw Bl Bb Bp : Nat) : Prop where
  l : wc.heap.size ≤ Bl
  b : wc.heap.size ≤ Bb
  p : wc.heap.size ≤ Bp
  n1 : Bl ≠ Bb ∧ Bl ≠ Bp ∧ Bb ≠ Bp
  nq : ¬ BoxO Bl Bb Bp Bq
  nw : ¬ BoxO Bl Bb Bp Bw
theorem OrdI.stay {wc : World} {q : Int} {l : List S62} {Aw : Option Addr} {cw Bq Bw Bl Bb Bp : Nat} {w w' : World} {s : List Int × List S37 × Int} (h : OrdI wc q l Aw cw Bq Bw Bl Bb Bp w s) (hb : Below w.heap.size w w') : OrdI wc q l Aw cw Bq Bw Bl Bb Bp w' s := by
  obtain ⟨v, hv, hr⟩ := h.bb
  obtain ⟨u, hu, hs⟩ := h.bp
  exact ⟨below_step h.old hb, below_cell hb h.cq, below_cell hb h.cw_, blk_below h.bl hb, ⟨v, blk_below hv hb, Kd.R_below hr hb⟩, ⟨u, blk_below hu hb, Kd.R_below hs hb⟩⟩
theorem OrdI.put {wc : World} {q : Int} {l : List S62} {Aw : Option Addr} {cw Bq Bw Bl Bb Bp : Nat} (hp : PlacesO wc Bq Bw Bl Bb Bp) {w : World} {s : List Int × List S37 × Int} (h : OrdI wc q l Aw cw Bq Bw Bl Bb Bp w s) {v vp : Value} {o : List Int} {p : List S37}
    (hR : Kd.R (Kd.int .i64) 3 w wc.heap.size (fun k => ¬ BoxO Bl Bb Bp k) v o) (hRp : Kd.R k37 37 w wc.heap.size (fun k => ¬ BoxO Bl Bb Bp k) vp p) (m : Int) :
    OrdI wc q l Aw cw Bq Bw Bl Bb Bp (((w.setCell ⟨Bb, 0, none⟩ v).setCell ⟨Bp, 0, none⟩ vp).setCell ⟨Bl, 0, none⟩ (.int .i64 m)) (o, p, m) ∧ Keeps (BoxO Bl Bb Bp) w (((w.setCell ⟨Bb, 0, none⟩ v).setCell ⟨Bp, 0, none⟩ vp).setCell ⟨Bl, 0, none⟩ (.int .i64 m)) := by
  obtain ⟨p1, p2, p3, ⟨n1, n2, n3⟩, nq, nw⟩ := hp
  have k : Keeps (BoxO Bl Bb Bp) w (((w.setCell ⟨Bb, 0, none⟩ v).setCell ⟨Bp, 0, none⟩ vp).setCell ⟨Bl, 0, none⟩ (.int .i64 m)) :=
    (keeps_mono (Keeps.of_set w Bb 0 v) (fun _ e => .inr (.inl e))).trans ((keeps_mono (Keeps.of_set _ Bp 0 vp) (fun _ e => .inr (.inr e))).trans (keeps_mono (Keeps.of_set _ Bl 0 _) (fun _ e => .inl e)))
  obtain ⟨v0, hv, hr⟩ := h.bb
  obtain ⟨u0, hu, hs⟩ := h.bp
  refine ⟨⟨⟨k.os.trans h.old.os, k.tape.trans h.old.tape, k.output.trans h.old.output, Nat.le_trans h.old.size k.size, fun i hi => (k.block i (Nat.lt_of_lt_of_le hi h.old.size) (fun e => by unfold BoxO at e; omega)).trans (h.old.block i hi)⟩,
    k.cell h.cq nq, k.cell h.cw_ nw, ?_, ⟨v, ?_, Kd.R_step hR (fun b hb hl => k.block b hl hb)⟩, ⟨vp, ?_, Kd.R_step hRp (fun b hb hl => k.block b hl hb)⟩⟩, k⟩
  · exact blk_set ((Below.heap_setCell _ ⟨Bp, 0, none⟩ vp Bl n2).trans ((Below.heap_setCell w ⟨Bb, 0, none⟩ v Bl n1).trans h.bl)) 0 _
  · exact (Below.heap_setCell _ ⟨Bl, 0, none⟩ _ Bb (fun e => n1 e.symm)).trans ((Below.heap_setCell _ ⟨Bp, 0, none⟩ vp Bb n3).trans (blk_set hv 0 v))
  · exact (Below.heap_setCell _ ⟨Bl, 0, none⟩ _ Bp (fun e => n2 e.symm)).trans (blk_set ((Below.heap_setCell w ⟨Bb, 0, none⟩ v Bp (fun e => n3 e.symm)).trans hu) 0 vp)
/-- The cells that the walk reads and writes ahead of the stores. -/
structure Ready (w : World) (Bl Bb Bp : Nat) (m : Int) (v vp : Value) : Prop where
  l : w.cell? ⟨Bl, 0, none⟩ = some (.int .i64 m)
  lf : w.frozen? ⟨Bl, 0, none⟩ = false
  b : ∃ u, w.cell? ⟨Bb, 0, none⟩ = some u
  bf : w.frozen? ⟨Bb, 0, none⟩ = false
  p : ∃ u, (w.setCell ⟨Bb, 0, none⟩ v).cell? ⟨Bp, 0, none⟩ = some u
  pf : (w.setCell ⟨Bb, 0, none⟩ v).frozen? ⟨Bp, 0, none⟩ = false
  l2 : ((w.setCell ⟨Bb, 0, none⟩ v).setCell ⟨Bp, 0, none⟩ vp).cell? ⟨Bl, 0, none⟩ = some (.int .i64 m)
  l2f : ((w.setCell ⟨Bb, 0, none⟩ v).setCell ⟨Bp, 0, none⟩ vp).frozen? ⟨Bl, 0, none⟩ = false
theorem OrdI.ready {wc : World} {q : Int} {l : List S62} {Aw : Option Addr} {cw Bq Bw Bl Bb Bp : Nat} (hp : PlacesO wc Bq Bw Bl Bb Bp) {w : World} {s : List Int × List S37 × Int} (h : OrdI wc q l Aw cw Bq Bw Bl Bb Bp w s) (v vp : Value) : Ready w Bl Bb Bp s.2.2 v vp := by
  obtain ⟨v0, hv, hr⟩ := h.bb
  obtain ⟨u0, hu, hs⟩ := h.bp
  have n := hp.n1
  have hl := (Below.heap_setCell w ⟨Bb, 0, none⟩ v Bl n.1).trans h.bl
  have hu2 := (Below.heap_setCell w ⟨Bb, 0, none⟩ v Bp (fun e => n.2.2 e.symm)).trans hu
  have hl2 := (Below.heap_setCell (w.setCell ⟨Bb, 0, none⟩ v) ⟨Bp, 0, none⟩ vp Bl n.2.1).trans hl
  exact ⟨(blk_cell h.bl 0).trans rfl, blk_frozen h.bl 0, ⟨v0, (blk_cell hv 0).trans rfl⟩, blk_frozen hv 0, ⟨u0, (blk_cell hu2 0).trans rfl⟩, blk_frozen hu2 0, (blk_cell hl2 0).trans rfl, blk_frozen hl2 0⟩
set_option maxHeartbeats 4000000 in
set_option maxRecDepth 100000 in
theorem ordO_call {wc : World} {q : Int} {l : List S62} (hs : Ships q l) {Aw : Option Addr} {cw Bq Bw Bl Bb Bp : Nat} (hp : PlacesO wc Bq Bw Bl Bb Bp) (hCw : Kd.C k62 wc Aw l.length l) (hcw : l.length ≤ cw) (w : World) (s : List Int × List S37 × Int) (v : Value) (o : List Int) (hI : OrdI wc q l Aw cw Bq Bw Bl Bb Bp w s) (hP : Perm o (l.length : Int)) (hR : Kd.R (Kd.int .i64) 3 w wc.heap.size (fun k => ¬ BoxO Bl Bb Bp k) v o) :
    Calls Try.prog 72 (#[v] ++ #[.pointer (some ⟨Bq, 0, none⟩), .pointer (some ⟨Bw, 0, none⟩), .pointer (some ⟨Bl, 0, none⟩), .pointer (some ⟨Bb, 0, none⟩), .pointer (some ⟨Bp, 0, none⟩)]) w fun e w' => e = .returned (.tuple #[]) ∧ OrdI wc q l Aw cw Bq Bw Bl Bb Bp w' (stepO q l s o) ∧ Keeps (BoxO Bl Bb Bp) w w' := by
  obtain ⟨A, c1, rfl⟩ := Kd.R_slice hR
  obtain ⟨best, plan0, least⟩ := s
  have hc1 : o.length ≤ c1 := (Kd.R_reads' hR).2.1
  have hok := inOrd_ok hs hP
  have hlen : (inOrd q l o).2 = true → ((inOrd q l o).1.length : Int) = (l.length : Int) := fun e => (hok.1 e).2.1
  obtain ⟨kd, hkd⟩ := Ev.rounds hok.2.2.2.1
  have hst : stepO q l (best, plan0, least) o = if (inOrd q l o).2 = true then (if least < 0 ∨ costW l (inOrd q l o).1 l.length < least then (o, (inOrd q l o).1, costW l (inOrd q l o).1 l.length) else (best, plan0, least)) else (best, plan0, least) := rfl
  obtain ⟨⟨pl, ok⟩, hpl⟩ : ∃ r, inOrd q l o = r := ⟨_, rfl⟩
  rw [hpl] at hkd hst hlen
  dsimp only at hst hlen
  have HK := Aside0.mk hkd
  have hq := hI.cq
  have hw := hI.cw_
  have HI := Aside0.mk hI
  have HR := Aside0.mk hR
  have HP := Aside0.mk hp
  have HCW := Aside0.mk (Kd.C_below hCw hI.old)
  clear hI hR hp hCw hok hkd hpl hP
  show Calls Try.prog 72 #[.slice A o.length c1, .pointer (some ⟨Bq, 0, none⟩), .pointer (some ⟨Bw, 0, none⟩), .pointer (some ⟨Bl, 0, none⟩), .pointer (some ⟨Bb, 0, none⟩), .pointer (some ⟨Bp, 0, none⟩)] w _
  cases ok with
  | false =>
    have HS : Aside0 (stepO q l (best, plan0, least) o = (best, plan0, least)) := Aside0.mk (by rw [hst]; exact if_neg (by decide))
    clear hst hlen
    go_enter Try.func72, Try.ntmps72
    go_wp2_with (go_at_call 67; refine (impl_planInOrder.calls kd q Aw cw l A c1 o pl false _ HCW.out hcw (Kd.R_reads' HR.out).2.2 hc1 HK.out).mono ?_; rintro e w1 ⟨vp, rfl, hRp, hd1⟩; have HB1 := Aside0.mk hd1; clear hd1 hRp)
    refine bodyPost_ret (results_none rfl _ _ _) rfl ?_
    rw [HS.out]
    exact ⟨rfl, HI.out.stay HB1.out, Keeps.of_below HB1.out⟩
  | true =>
    have HL := Aside0.mk (hlen rfl)
    obtain ⟨kc, hkc⟩ := Ev.rounds (impl_costW HL.out hs.2.1)
    obtain ⟨m, hm⟩ : ∃ m, costW l pl l.length = m := ⟨_, rfl⟩
    rw [hm] at hst hkc
    have HC := Aside0.mk hkc
    rw [if_pos rfl] at hst
    clear hkc hm hlen
    by_cases h0 : least < 0
    · have HS : Aside0 (stepO q l (best, plan0, least) o = (o, pl, m)) := Aside0.mk (by rw [hst]; exact if_pos (.inl h0))
      clear hst
      go_enter Try.func72, Try.ntmps72
      go_wp2_with (first | (go_at_call 67; refine (impl_planInOrder.calls kd q Aw cw l A c1 o pl true _ HCW.out hcw (Kd.R_reads' HR.out).2.2 hc1 HK.out).mono ?_; rintro e w1 ⟨vp, rfl, hRp, hd1⟩; obtain ⟨Ap, cp, rfl⟩ := Kd.R_slice hRp; have HRP := Aside0.mk hRp; have HB1 := Aside0.mk hd1; have hw1 := below_cell hd1 hw; clear hd1 hRp) | (go_at_call 57; refine (impl_planCost.calls kc Aw cw l Ap cp pl m _ (Kd.C_below HCW.out HB1.out) hcw (Kd.R_reads' HRP.out).2.2 (Kd.R_reads' HRP.out).2.1 HC.out).mono ?_; rintro e w2 ⟨rfl, hd2⟩; have HB2 := Aside0.mk (below_step HB1.out hd2); have HRP2 := Aside0.mk (Kd.R_below HRP.out hd2); have HI2 := Aside0.mk (HI.out.stay HB2.out); have hz := HI2.out.ready HP.out (.slice A o.length c1) (.slice Ap pl.length cp); have z1 := hz.l; have z2 := hz.lf; obtain ⟨u3, z3⟩ := hz.b; have z4 := hz.bf; obtain ⟨u5, z5⟩ := hz.p; have z6 := hz.pf; have z7 := hz.l2; have z8 := hz.l2f; clear hz hd2))
      go_end0
      have r := HI2.out.put HP.out (Kd.R_below HR.out HB2.out) (Kd.R_lower (Kd.R_mono (Kd.R_bound HRP2.out) (fun b hb e => by have := hb.2.1; have h1 := blk_lt HI.out.bl; obtain ⟨_, h2, _⟩ := HI.out.bb; have h2 := blk_lt h2; obtain ⟨_, h3, _⟩ := HI.out.bp; have h3 := blk_lt h3; unfold BoxO at e; omega)) HI.out.old.size) m
      rw [HS.out]
      exact ⟨rfl, r.1, (Keeps.of_below HB2.out).trans r.2⟩
    · have h0' : 0 ≤ least := by omega
      by_cases h1 : m < least
      · have HS : Aside0 (stepO q l (best, plan0, least) o = (o, pl, m)) := Aside0.mk (by rw [hst]; exact if_pos (.inr h1))
        clear hst
        go_enter Try.func72, Try.ntmps72
        go_wp2_with (first | (go_at_call 67; refine (impl_planInOrder.calls kd q Aw cw l A c1 o pl true _ HCW.out hcw (Kd.R_reads' HR.out).2.2 hc1 HK.out).mono ?_; rintro e w1 ⟨vp, rfl, hRp, hd1⟩; obtain ⟨Ap, cp, rfl⟩ := Kd.R_slice hRp; have HRP := Aside0.mk hRp; have HB1 := Aside0.mk hd1; have hw1 := below_cell hd1 hw; clear hd1 hRp) | (go_at_call 57; refine (impl_planCost.calls kc Aw cw l Ap cp pl m _ (Kd.C_below HCW.out HB1.out) hcw (Kd.R_reads' HRP.out).2.2 (Kd.R_reads' HRP.out).2.1 HC.out).mono ?_; rintro e w2 ⟨rfl, hd2⟩; have HB2 := Aside0.mk (below_step HB1.out hd2); have HRP2 := Aside0.mk (Kd.R_below HRP.out hd2); have HI2 := Aside0.mk (HI.out.stay HB2.out); have hz := HI2.out.ready HP.out (.slice A o.length c1) (.slice Ap pl.length cp); have z1 := hz.l; have z2 := hz.lf; obtain ⟨u3, z3⟩ := hz.b; have z4 := hz.bf; obtain ⟨u5, z5⟩ := hz.p; have z6 := hz.pf; have z7 := hz.l2; have z8 := hz.l2f; clear hz hd2))
        go_end0
        have r := HI2.out.put HP.out (Kd.R_below HR.out HB2.out) (Kd.R_lower (Kd.R_mono (Kd.R_bound HRP2.out) (fun b hb e => by have := hb.2.1; have h1 := blk_lt HI.out.bl; obtain ⟨_, h2, _⟩ := HI.out.bb; have h2 := blk_lt h2; obtain ⟨_, h3, _⟩ := HI.out.bp; have h3 := blk_lt h3; unfold BoxO at e; omega)) HI.out.old.size) m
        rw [HS.out]
        exact ⟨rfl, r.1, (Keeps.of_below HB2.out).trans r.2⟩
      · have HS : Aside0 (stepO q l (best, plan0, least) o = (best, plan0, least)) := Aside0.mk (by rw [hst]; exact if_neg (fun h => h.elim h0 h1))
        have h1' : least ≤ m := by omega
        clear hst
        go_enter Try.func72, Try.ntmps72
        go_wp2_with (first | (go_at_call 67; refine (impl_planInOrder.calls kd q Aw cw l A c1 o pl true _ HCW.out hcw (Kd.R_reads' HR.out).2.2 hc1 HK.out).mono ?_; rintro e w1 ⟨vp, rfl, hRp, hd1⟩; obtain ⟨Ap, cp, rfl⟩ := Kd.R_slice hRp; have HRP := Aside0.mk hRp; have HB1 := Aside0.mk hd1; have hw1 := below_cell hd1 hw; clear hd1 hRp) | (go_at_call 57; refine (impl_planCost.calls kc Aw cw l Ap cp pl m _ (Kd.C_below HCW.out HB1.out) hcw (Kd.R_reads' HRP.out).2.2 (Kd.R_reads' HRP.out).2.1 HC.out).mono ?_; rintro e w2 ⟨rfl, hd2⟩; have HB2 := Aside0.mk (below_step HB1.out hd2); have HI2 := Aside0.mk (HI.out.stay HB2.out); have hz := HI2.out.ready HP.out (.slice A o.length c1) (.slice Ap pl.length cp); have z1 := hz.l; have z2 := hz.lf; clear hz hd2))
        go_end0
        rw [HS.out]
        exact ⟨rfl, HI2.out, Keeps.of_below HB2.out⟩
theorem ordO_back {wc : World} {q : Int} {l : List S62} (hs : Ships q l) {Aw : Option Addr} {cw Bq Bw Bl Bb Bp : Nat} (hp : PlacesO wc Bq Bw Bl Bb Bp) (hCw : Kd.C k62 wc Aw l.length l) (hcw : l.length ≤ cw) :
    Back (σ := List Int × List S37 × Int) 72 #[.pointer (some ⟨Bq, 0, none⟩), .pointer (some ⟨Bw, 0, none⟩), .pointer (some ⟨Bl, 0, none⟩), .pointer (some ⟨Bb, 0, none⟩), .pointer (some ⟨Bp, 0, none⟩)] (BoxO Bl Bb Bp) wc.heap.size (OrdI wc q l Aw cw Bq Bw Bl Bb Bp) (fun o => Perm o (l.length : Int)) (stepO q l) where
  enters := fun args w => enters_ Try.func72 (by kernel_rfl) rfl args w
  call := fun w s v o hI hP hR => ordO_call hs hp hCw hcw w s v o hI hP hR
  stay := fun w w' s hI hb => hI.stay hb
  low := fun w s hI k hk => by
    obtain ⟨v, hv, _⟩ := hI.bb
    obtain ⟨u, hu, _⟩ := hI.bp
    rcases hk with rfl | rfl | rfl
    · exact blk_lt hI.bl
    · exact blk_lt hv
    · exact blk_lt hu
end Go.Proofs.Ytcciljjnpfgaeaa.G

/- The contract of BestOrder, joined: of any quay and ships. -/
namespace Go.Proofs.Ytcciljjnpfgaeaa.G
open Go.RowKit Go.Proofs.YtcciljjnpfgaeaaW.PrintWords Go.Proofs.YtcciljjnpfgaeaaW.PrintLast
set_option linter.unusedVariables false
set_option linter.unusedSimpArgs false
theorem bestO_boxes {w w1 w2 w2' w3 w4 w5 : World} {g1 g2 g3 g4 g5 : Nat} (q : Int) (A0 : Option Addr) (c0 : Nat) (l0 : List S62)
    (h1 : g1 = w.heap.size) (x1 : w1.heap[g1]? = some (.cells #[.int .i64 q] 3 (0, 0))) (b1 : Below w.heap.size w w1)
    (h2 : g2 = w1.heap.size) (x2 : w2.heap[g2]? = some (.cells #[.slice A0 l0.length c0] 27 (0, 0))) (b2 : Below w1.heap.size w1 w2)
    (b2' : Below w2.heap.size w2 w2')
    (h3 : g3 = w2'.heap.size) (x3 : w3.heap[g3]? = some (.cells #[.slice none 0 0] 41 (0, 0))) (b3 : Below w2'.heap.size w2' w3)
    (h4 : g4 = w3.heap.size) (x4 : w4.heap[g4]? = some (.cells #[.slice none 0 0] 29 (0, 0))) (b4 : Below w3.heap.size w3 w4)
    (h5 : g5 = w4.heap.size) (x5 : w5.heap[g5]? = some (.cells #[.int .i64 0] 3 (0, 0))) (b5 : Below w4.heap.size w4 w5) :
    PlacesO w g1 g2 g5 g3 g4 ∧ OrdI w q l0 A0 c0 g1 g2 g5 g3 g4 (w5.setCell ⟨g5, 0, none⟩ (.int .i64 (-1))) ([], [], -1) ∧ Below w.heap.size w (w5.setCell ⟨g5, 0, none⟩ (.int .i64 (-1))) := by
  have s1 := b1.size
  have s2 := b2.size
  have s2' := b2'.size
  have s3 := b3.size
  have s4 := b4.size
  have s5 := b5.size
  have l1 := blk_lt x1
  have l2 := blk_lt x2
  have l3 := blk_lt x3
  have l4 := blk_lt x4
  have l5 := blk_lt x5
  have hB : Below w.heap.size w (w5.setCell ⟨g5, 0, none⟩ (.int .i64 (-1))) := Below.setCell (below_step b1 (below_step b2 (below_step b2' (below_step b3 (below_step b4 b5))))) (by show w.heap.size ≤ g5; omega) _
  have y1 := blk_below (blk_below (blk_below (blk_below (blk_below x1 b2) b2') b3) b4) b5
  have y2 := blk_below (blk_below (blk_below (blk_below x2 b2') b3) b4) b5
  have y3 := blk_below (blk_below x3 b4) b5
  have y4 := blk_below x4 b5
  refine ⟨⟨by omega, by omega, by omega, by omega, by unfold BoxO; omega, by unfold BoxO; omega⟩, ⟨hB, ?_, ?_, blk_set x5 0 _, ⟨.slice none 0 0, ?_, Kd.R_nil _ _ _ _ _⟩, ⟨.slice none 0 0, ?_, Kd.R_nil _ _ _ _ _⟩⟩, hB⟩
  · exact (cell_far (p := ⟨g5, 0, none⟩) (by show g1 ≠ g5; omega) _).trans ((blk_cell y1 0).trans rfl)
  · exact (cell_far (p := ⟨g5, 0, none⟩) (by show g2 ≠ g5; omega) _).trans ((blk_cell y2 0).trans rfl)
  · exact (Below.heap_setCell w5 ⟨g5, 0, none⟩ _ g3 (by show g3 ≠ g5; omega)).trans y3
  · exact (Below.heap_setCell w5 ⟨g5, 0, none⟩ _ g4 (by show g4 ≠ g5; omega)).trans y4
theorem bestO_below {w w4 w5 : World} {a b c : Nat} (h : Below w.heap.size w w4) (k : Keeps (BoxO a b c) w4 w5) (ha : w.heap.size ≤ a) (hb : w.heap.size ≤ b) (hc : w.heap.size ≤ c) : Below w.heap.size w w5 :=
  ⟨k.os.trans h.os, k.tape.trans h.tape, k.output.trans h.output, Nat.le_trans h.size k.size, fun i hi => (k.block i (Nat.lt_of_lt_of_le hi h.size) (fun e => by unfold BoxO at e; omega)).trans (h.block i hi)⟩
noncomputable def impl_BestOrder.f (a0 : Int) (l1 : List S62) : Option (List Int × (List S37) × Int × Bool) := some (chk (Ships a0 l1 ∧ Short a0 l1) ((foldO a0 l1).1, (foldO a0 l1).2.1, (foldO a0 l1).2.2, true) ([], [], 0, false))
set_option maxHeartbeats 4000000 in
set_option maxRecDepth 100000 in
theorem impl_BestOrder.calls (a0 : Int) (A1 : Option Addr) (c1 : Nat) (l1 : List (S62)) (r1 : List Int) (r2 : List (S37)) (r3 : Int) (r4 : Bool) (w : World) (hr1 : Kd.C k62 w A1 l1.length l1) (hc1 : l1.length ≤ c1) (h : impl_BestOrder.f a0 l1 = some (r1, r2, r3, r4)) :
    Calls Try.prog 42 #[.int .i64 a0, .slice A1 l1.length c1] w fun e w' => ∃ v0_ v1_ : Value, e = .returned (.tuple #[v0_, v1_, .int .i64 r3, .bool r4]) ∧ Kd.R (Kd.int .i64) 3 w' w.heap.size (fun _ => True) v0_ r1 ∧ Kd.R k37 37 w' w.heap.size (fun _ => True) v1_ r2 ∧ Below w.heap.size w w' := by
  unfold impl_BestOrder.f at h
  have h := Option.some.inj h
  have HR := Aside0.mk hr1
  clear hr1
  by_cases hS : Ships a0 l1
  · have HA : Aside0 (impl_areShips.f a0 l1 = some true) := Aside0.mk (by rw [impl_ships, chk_pos hS])
    by_cases hT : Short a0 l1
    · rw [chk_pos ⟨hS, hT⟩] at h
      obtain ⟨rfl, rfl, rfl, rfl⟩ : (foldO a0 l1).1 = r1 ∧ (foldO a0 l1).2.1 = r2 ∧ (foldO a0 l1).2.2 = r3 ∧ true = r4 := by
        injection h with e1 h
        injection h with e2 h
        injection h with e3 h
        exact ⟨e1, e2, e3, h⟩
      have HL : Aside0 (decide (longAt a0 l1 l1.length 0 ≥ 0) = false) := Aside0.mk (by rw [short_long, chk_pos hT])
      have HS := Aside0.mk hS
      have h5 : l1.length ≤ 5 := by have := hS.2.1; omega
      obtain ⟨fo, hfo⟩ : ∃ fo, foldO a0 l1 = fo := ⟨_, rfl⟩
      have HF : Aside0 ((ords l1.length l1.length []).foldl (stepO a0 l1) ([], [], -1) = fo) := Aside0.mk hfo
      rw [hfo]
      clear hS hT h hfo
      obtain ⟨f1, f2, f3⟩ := fo
      go_enter Try.func42, Try.ntmps42
      go_wp2_with (first | ((with_reducible refine gate_dst (N := 2) rfl ?_); refine box_event ?hg2 (N := 2) ?hd2 (cs := #[.int .i64 a0]) (t := 3) ?hr2 ?_; (case hd2 => rfl); (case hg2 => rfl); (case hr2 => first | (go_simp; done) | (go_simp; rfl)); intro g1 hgg1 w1 hboxg1 hbg1; have HG1 := Aside0.mk hgg1; have HX1 := Aside0.mk hboxg1; have HB1 := Aside0.mk hbg1; clear hgg1 hboxg1 hbg1) | ((with_reducible refine gate_dst (N := 3) rfl ?_); refine box_event ?hg3 (N := 3) ?hd3 (cs := #[.slice A1 l1.length c1]) (t := 27) ?hr3 ?_; (case hd3 => rfl); (case hg3 => rfl); (case hr3 => first | (go_simp; done) | (go_simp; rfl)); intro g2 hgg2 w2 hboxg2 hbg2; have HG2 := Aside0.mk hgg2; have HX2 := Aside0.mk hboxg2; have HB2 := Aside0.mk hbg2; have hz1 : w2.cell? ⟨g1, 0, none⟩ = some (.int .i64 a0) := below_cell hbg2 ((blk_cell HX1.out 0).trans rfl); have hz2 : w2.cell? ⟨g2, 0, none⟩ = some (.slice A1 l1.length c1) := (blk_cell hboxg2 0).trans rfl; clear hgg2 hboxg2 hbg2) | (go_at_call 52; refine (impl_areShips.calls a0 A1 c1 l1 true _ (Kd.C_below HR.out (below_step HB1.out HB2.out)) hc1 HA.out).mono ?_; rintro e w3 ⟨rfl, hd3⟩; have HB3 := Aside0.mk hd3; have hz3 := below_cell hd3 hz1; have hz4 := below_cell hd3 hz2; clear hd3) | (go_at_call 69; refine (cont70 a0 g1 A1 c1 l1 false _ hz3 (Kd.C_below HR.out (below_step HB1.out (below_step HB2.out HB3.out))) hc1 HL.out).mono ?_; rintro e w4 ⟨rfl, hd4⟩; have HB4 := Aside0.mk (below_step HB3.out hd4); clear hd4) | ((with_reducible refine gate_dst (N := 8) rfl ?_); refine box_event ?hg8 (N := 8) ?hd8 (cs := #[.slice none 0 0]) (t := 41) ?hr8 ?_; (case hd8 => rfl); (case hg8 => rfl); (case hr8 => first | (go_simp; done) | (go_simp; rfl)); intro g3 hgg3 w5 hboxg3 hbg3; have HG3 := Aside0.mk hgg3; have HX3 := Aside0.mk hboxg3; have HB5 := Aside0.mk hbg3; clear hgg3 hboxg3 hbg3) | ((with_reducible refine gate_dst (N := 9) rfl ?_); refine box_event ?hg9 (N := 9) ?hd9 (cs := #[.slice none 0 0]) (t := 29) ?hr9 ?_; (case hd9 => rfl); (case hg9 => rfl); (case hr9 => first | (go_simp; done) | (go_simp; rfl)); intro g4 hgg4 w6 hboxg4 hbg4; have HG4 := Aside0.mk hgg4; have HX4 := Aside0.mk hboxg4; have HB6 := Aside0.mk hbg4; clear hgg4 hboxg4 hbg4) | ((with_reducible refine gate_dst (N := 10) rfl ?_); refine box_event ?hg10 (N := 10) ?hd10 (cs := #[.int .i64 0]) (t := 3) ?hr10 ?_; (case hd10 => rfl); (case hg10 => rfl); (case hr10 => first | (go_simp; done) | (go_simp; rfl)); intro g5 hgg5 w7 hboxg5 hbg5; have HG5 := Aside0.mk hgg5; have HX5 := Aside0.mk hboxg5; have HB7 := Aside0.mk hbg5; have hz5 : w7.cell? ⟨g5, 0, none⟩ = some (.int .i64 0) := (blk_cell hboxg5 0).trans rfl; have hz6 := blk_frozen hboxg5 0; have HBX := Aside0.mk (bestO_boxes a0 A1 c1 l1 HG1.out HX1.out HB1.out HG2.out HX2.out HB2.out HB4.out HG3.out HX3.out HB5.out HG4.out HX4.out HB6.out HG5.out HX5.out HB7.out); have hz7 := HBX.out.2.1.cw_; clear hgg5 hboxg5 hbg5) | (go_at_call 71; refine calls_of_args (args' := #[.int .i64 l1.length, .func (.func 72) #[] #[.pointer (some ⟨g1, 0, none⟩), .pointer (some ⟨g2, 0, none⟩), .pointer (some ⟨g5, 0, none⟩), .pointer (some ⟨g3, 0, none⟩), .pointer (some ⟨g4, 0, none⟩)]]) ?ca ?_; (case ca => (first | rfl | (simp; done) | (simp; omega))); refine (orders_any (ordO_back HS.out HBX.out.1 HR.out hc1) l1.length (by omega) _ ([], [], -1) (fun o ho => (ords_all o).1 ho) HBX.out.2.2.size HBX.out.2.1).mono ?_; rintro e w8 ⟨rfl, hI8, hK8⟩; have HB8 := Aside0.mk (bestO_below HBX.out.2.2 hK8 HBX.out.1.l HBX.out.1.b HBX.out.1.p); rw [HF.out] at hI8; obtain ⟨v5, hv5, hr5⟩ := hI8.bb; obtain ⟨v6, hv6, hr6⟩ := hI8.bp; have HR5 := Aside0.mk hr5; have HR6 := Aside0.mk hr6; have hz8 : w8.cell? ⟨g5, 0, none⟩ = some (.int .i64 f3) := (blk_cell hI8.bl 0).trans rfl; have hz9 : w8.cell? ⟨g3, 0, none⟩ = some v5 := (blk_cell hv5 0).trans rfl; have hz10 : w8.cell? ⟨g4, 0, none⟩ = some v6 := (blk_cell hv6 0).trans rfl; clear hI8 hv5 hr5 hv6 hr6 hK8))
      repeat (go_quiet (fail); try go_wp2)
      refine bodyPost_ret (results_list (rs := [.tmp 4, .tmp 5, .tmp 6, .tmp 7]) rfl (by simp) (.tmp (.tmp (.tmp (.tmp .nil))))) rfl ?_
      exact ⟨v5, v6, by first | rfl | (simp; done), by (with_reducible repeat (first | apply Kd.R_alloc | apply Kd.R_drewN | apply Kd.R_drew)); exact Kd.R_mono HR5.out (fun _ _ => trivial), by (with_reducible repeat (first | apply Kd.R_alloc | apply Kd.R_drewN | apply Kd.R_drew)); exact Kd.R_mono HR6.out (fun _ _ => trivial), by repeat (first | (with_reducible first | exact HB8.out | apply below_alloc | apply pw_below_drewN | apply below_drew1) | exact HB8.out)⟩
    · rw [chk_neg (fun m => hT m.2)] at h
      obtain ⟨rfl, rfl, rfl, rfl⟩ : [] = r1 ∧ [] = r2 ∧ 0 = r3 ∧ false = r4 := by
        injection h with e1 h
        injection h with e2 h
        injection h with e3 h
        exact ⟨e1, e2, e3, h⟩
      have HL : Aside0 (decide (longAt a0 l1 l1.length 0 ≥ 0) = true) := Aside0.mk (by rw [short_long, chk_neg hT])
      clear hS hT h
      go_enter Try.func42, Try.ntmps42
      go_wp2_with (first | ((with_reducible refine gate_dst (N := 2) rfl ?_); refine box_event ?hg2 (N := 2) ?hd2 (cs := #[.int .i64 a0]) (t := 3) ?hr2 ?_; (case hd2 => rfl); (case hg2 => rfl); (case hr2 => first | (go_simp; done) | (go_simp; rfl)); intro g1 hgg1 w1 hboxg1 hbg1; have HX1 := Aside0.mk hboxg1; have HB1 := Aside0.mk hbg1; clear hgg1 hboxg1 hbg1) | ((with_reducible refine gate_dst (N := 3) rfl ?_); refine box_event ?hg3 (N := 3) ?hd3 (cs := #[.slice A1 l1.length c1]) (t := 27) ?hr3 ?_; (case hd3 => rfl); (case hg3 => rfl); (case hr3 => first | (go_simp; done) | (go_simp; rfl)); intro g2 hgg2 w2 hboxg2 hbg2; have HB2 := Aside0.mk hbg2; have hz1 : w2.cell? ⟨g1, 0, none⟩ = some (.int .i64 a0) := below_cell hbg2 ((blk_cell HX1.out 0).trans rfl); have hz2 : w2.cell? ⟨g2, 0, none⟩ = some (.slice A1 l1.length c1) := (blk_cell hboxg2 0).trans rfl; clear hgg2 hboxg2 hbg2) | (go_at_call 52; refine (impl_areShips.calls a0 A1 c1 l1 true _ (Kd.C_below HR.out (below_step HB1.out HB2.out)) hc1 HA.out).mono ?_; rintro e w3 ⟨rfl, hd3⟩; have HB3 := Aside0.mk hd3; have hz3 := below_cell hd3 hz1; have hz4 := below_cell hd3 hz2; clear hd3) | (go_at_call 69; refine (cont70 a0 g1 A1 c1 l1 true _ hz3 (Kd.C_below HR.out (below_step HB1.out (below_step HB2.out HB3.out))) hc1 HL.out).mono ?_; rintro e w4 ⟨rfl, hd4⟩; have HB4 := Aside0.mk (below_step HB3.out hd4); clear hd4))
      refine bodyPost_ret (results_list (rs := [.tmp 4, .tmp 5, .tmp 6, .tmp 7]) rfl (by simp) (.tmp (.tmp (.tmp (.tmp .nil))))) rfl ?_
      exact ⟨.slice none 0 0, .slice none 0 0, by first | rfl | (simp; done), Kd.R_nil _ _ _ _ _, Kd.R_nil _ _ _ _ _, below_step HB1.out (below_step HB2.out HB4.out)⟩
  · have HA : Aside0 (impl_areShips.f a0 l1 = some false) := Aside0.mk (by rw [impl_ships, chk_neg hS])
    rw [chk_neg (fun m => hS m.1)] at h
    obtain ⟨rfl, rfl, rfl, rfl⟩ : [] = r1 ∧ [] = r2 ∧ 0 = r3 ∧ false = r4 := by
      injection h with e1 h
      injection h with e2 h
      injection h with e3 h
      exact ⟨e1, e2, e3, h⟩
    clear hS h
    go_enter Try.func42, Try.ntmps42
    go_wp2_with (first | ((with_reducible refine gate_dst (N := 2) rfl ?_); refine box_event ?hg2 (N := 2) ?hd2 (cs := #[.int .i64 a0]) (t := 3) ?hr2 ?_; (case hd2 => rfl); (case hg2 => rfl); (case hr2 => first | (go_simp; done) | (go_simp; rfl)); intro g1 hgg1 w1 hboxg1 hbg1; have HX1 := Aside0.mk hboxg1; have HB1 := Aside0.mk hbg1; clear hgg1 hboxg1 hbg1) | ((with_reducible refine gate_dst (N := 3) rfl ?_); refine box_event ?hg3 (N := 3) ?hd3 (cs := #[.slice A1 l1.length c1]) (t := 27) ?hr3 ?_; (case hd3 => rfl); (case hg3 => rfl); (case hr3 => first | (go_simp; done) | (go_simp; rfl)); intro g2 hgg2 w2 hboxg2 hbg2; have HB2 := Aside0.mk hbg2; have hz1 : w2.cell? ⟨g1, 0, none⟩ = some (.int .i64 a0) := below_cell hbg2 ((blk_cell HX1.out 0).trans rfl); have hz2 : w2.cell? ⟨g2, 0, none⟩ = some (.slice A1 l1.length c1) := (blk_cell hboxg2 0).trans rfl; clear hgg2 hboxg2 hbg2) | (go_at_call 52; refine (impl_areShips.calls a0 A1 c1 l1 false _ (Kd.C_below HR.out (below_step HB1.out HB2.out)) hc1 HA.out).mono ?_; rintro e w3 ⟨rfl, hd3⟩; have HB3 := Aside0.mk hd3; clear hd3))
    refine bodyPost_ret (results_list (rs := [.tmp 4, .tmp 5, .tmp 6, .tmp 7]) rfl (by simp) (.tmp (.tmp (.tmp (.tmp .nil))))) rfl ?_
    exact ⟨.slice none 0 0, .slice none 0 0, by first | rfl | (simp; done), Kd.R_nil _ _ _ _ _, Kd.R_nil _ _ _ _ _, below_step HB1.out (below_step HB2.out HB3.out)⟩
end Go.Proofs.Ytcciljjnpfgaeaa.G

-- Written by wip/tools/gen.py out of the translation (the kit's printer, one namespace a seat). Lean checks it.
namespace Go.Proofs.Ytcciljjnpfgaeaa.G
open Go.RowKit Go.Proofs.YtcciljjnpfgaeaaW.PrintWords Go.Proofs.YtcciljjnpfgaeaaW.PrintLast Go.Proofs.YtcciljjnpfgaeaaW.PrintMore
attribute [local go_sem] max2_int min2_int max_two min_two max_three min_three max_four min_four   -- for this text's walks alone
set_option linter.unusedVariables false
set_option linter.unusedSimpArgs false

/-! ### laws_FnExactBestOrder: function 10 -/
mutual
noncomputable def laws_FnExactBestOrder.j0 : Nat → Int → List (S68) → List Int → List (S37) → Int → Bool → List (S62) → List Int → List (S37) → Int → Bool → Bool → Option (Bool)
 | 0, _, _, _, _, _, _, _, _, _, _, _, _ => none
 | k + 1, x0, x1, x6, x7, x8, x9, x10, x11, x12, x13, x14, x65 => if x65 = true then (some false) else ((laws_toShipS.f k x1).bind fun t737 => ((laws_eqShipS.f k x10 t737).bind fun t740 => (if t740 = true then ((laws_markShipS.f k x10 1).bind fun bt741 => (if bt741.1 < 0 then (laws_FnExactBestOrder.j1 k x0 x1 x6 x7 x8 x9 x11 x12 true) else ((laws_eqIntS.f k x11 x6).bind fun t743 => (if t743 = true then ((laws_eqBerthS.f k x12 x7).bind fun t744 => (if t744 = true then (if x13 = x8 then (laws_FnExactBestOrder.j1 k x0 x1 x6 x7 x8 x9 x11 x12 (x14 != x9)) else (laws_FnExactBestOrder.j1 k x0 x1 x6 x7 x8 x9 x11 x12 true)) else (laws_FnExactBestOrder.j1 k x0 x1 x6 x7 x8 x9 x11 x12 true))) else (laws_FnExactBestOrder.j1 k x0 x1 x6 x7 x8 x9 x11 x12 true))))) else (some false))))
noncomputable def laws_FnExactBestOrder.j1 : Nat → Int → List (S68) → List Int → List (S37) → Int → Bool → List Int → List (S37) → Bool → Option (Bool)
 | 0, _, _, _, _, _, _, _, _, _ => none
 | k + 1, x0, x1, x6, x7, x8, x9, x11, x12, x97 => if x97 = true then (some false) else ((laws_markIntS.f k x11 1).bind fun bt745 => ((laws_markBerthS.f k x12 bt745.1).bind fun bt747 => ((laws_heldIntS.f k bt745.2 1).bind fun t749 => (if t749 < 0 then (some false) else ((laws_heldBerthS.f k bt747.2 t749).bind fun t750 => (if t750 < 0 then (some false) else (if t750 = bt747.1 then ((laws_toShipS.f k x1).bind fun t751 => ((impl_BestOrder.f x0 t751).bind fun bt754 => ((laws_eqIntS.f k bt754.1 x6).bind fun t762 => (if t762 = true then ((laws_eqBerthS.f k bt754.2.1 x7).bind fun t763 => (if t763 = true then (if bt754.2.2.1 = x8 then (laws_FnExactBestOrder.j2 k bt745.2 bt747.2 bt747.1 (bt754.2.2.2 != x9)) else (laws_FnExactBestOrder.j2 k bt745.2 bt747.2 bt747.1 true)) else (laws_FnExactBestOrder.j2 k bt745.2 bt747.2 bt747.1 true))) else (laws_FnExactBestOrder.j2 k bt745.2 bt747.2 bt747.1 true))))) else (some false))))))))
noncomputable def laws_FnExactBestOrder.j2 : Nat → List Int → List (S37) → Int → Bool → Option (Bool)
 | 0, _, _, _, _ => none
 | k + 1, x11, x12, x16, x145 => if x145 = true then (some false) else ((laws_heldIntS.f k x11 1).bind fun t764 => (if t764 < 0 then (some false) else ((laws_heldBerthS.f k x12 t764).bind fun t765 => (if t765 < 0 then (some false) else (if t765 = x16 then (some true) else (some false))))))
end
noncomputable def laws_FnExactBestOrder.f (k : Nat) (a0 : Int) (l1 : List (S68)) : Option (Bool) := (laws_szShipS.f l1 1048576).bind fun t712 => (if t712 < 0 then (some true) else ((laws_toShipS.f k l1).bind fun t713 => ((spec_BestOrder.f k a0 t713).bind fun bt716 => ((laws_toShipS.f k l1).bind fun t724 => ((impl_BestOrder.f a0 t724).bind fun bt727 => ((laws_eqIntS.f k bt727.1 bt716.1).bind fun t735 => (if t735 = true then ((laws_eqBerthS.f k bt727.2.1 bt716.2.1).bind fun t736 => (if t736 = true then (if bt727.2.2.1 = bt716.2.2.1 then (laws_FnExactBestOrder.j0 k a0 l1 bt716.1 bt716.2.1 bt716.2.2.1 bt716.2.2.2 t724 bt727.1 bt727.2.1 bt727.2.2.1 bt727.2.2.2 (bt727.2.2.2 != bt716.2.2.2)) else (laws_FnExactBestOrder.j0 k a0 l1 bt716.1 bt716.2.1 bt716.2.2.1 bt716.2.2.2 t724 bt727.1 bt727.2.1 bt727.2.2.1 bt727.2.2.2 true)) else (laws_FnExactBestOrder.j0 k a0 l1 bt716.1 bt716.2.1 bt716.2.2.1 bt716.2.2.2 t724 bt727.1 bt727.2.1 bt727.2.2.1 bt727.2.2.2 true))) else (laws_FnExactBestOrder.j0 k a0 l1 bt716.1 bt716.2.1 bt716.2.2.1 bt716.2.2.2 t724 bt727.1 bt727.2.1 bt727.2.2.1 bt727.2.2.2 true))))))))
set_option maxHeartbeats 8000000 in
set_option maxRecDepth 100000 in
theorem laws_FnExactBestOrder.calls (k : Nat) (a0 : Int) (A1 : Option Addr) (c1 : Nat) (l1 : List (S68)) (r : Bool) (w : World) (hr1 : Kd.C k68 w A1 l1.length l1) (hc1 : l1.length ≤ c1) (h : laws_FnExactBestOrder.f k a0 l1 = some r) :
  Calls Try.prog 10 #[.int .i64 a0, .slice A1 l1.length c1] w fun e w' => e = .returned (.bool r) ∧ Below w.heap.size w w' := by
 have HR1 := zM hr1
 have HC1 := zM hc1
 clear hr1 hc1
 have HB := zM (Below.refl w.heap.size w)
 have H : ((laws_szShipS.f l1 1048576).bind fun t712 => (if t712 < 0 then (some true) else ((laws_toShipS.f k l1).bind fun t713 => ((spec_BestOrder.f k a0 t713).bind fun bt716 => ((laws_toShipS.f k l1).bind fun t724 => ((impl_BestOrder.f a0 t724).bind fun bt727 => ((laws_eqIntS.f k bt727.1 bt716.1).bind fun t735 => (if t735 = true then ((laws_eqBerthS.f k bt727.2.1 bt716.2.1).bind fun t736 => (if t736 = true then (if bt727.2.2.1 = bt716.2.2.1 then (laws_FnExactBestOrder.j0 k a0 l1 bt716.1 bt716.2.1 bt716.2.2.1 bt716.2.2.2 t724 bt727.1 bt727.2.1 bt727.2.2.1 bt727.2.2.2 (bt727.2.2.2 != bt716.2.2.2)) else (laws_FnExactBestOrder.j0 k a0 l1 bt716.1 bt716.2.1 bt716.2.2.1 bt716.2.2.2 t724 bt727.1 bt727.2.1 bt727.2.2.1 bt727.2.2.2 true)) else (laws_FnExactBestOrder.j0 k a0 l1 bt716.1 bt716.2.1 bt716.2.2.1 bt716.2.2.2 t724 bt727.1 bt727.2.1 bt727.2.2.1 bt727.2.2.2 true))) else (laws_FnExactBestOrder.j0 k a0 l1 bt716.1 bt716.2.1 bt716.2.2.1 bt716.2.2.2 t724 bt727.1 bt727.2.1 bt727.2.2.1 bt727.2.2.2 true))))))))) = some r := h
 clear h
 replace H := Option.bind_eq_some_iff.mp H
 obtain ⟨t712, A30, H⟩ := H
 replace H : (if t712 < 0 then (some true) else ((laws_toShipS.f k l1).bind fun t713 => ((spec_BestOrder.f k a0 t713).bind fun bt716 => ((laws_toShipS.f k l1).bind fun t724 => ((impl_BestOrder.f a0 t724).bind fun bt727 => ((laws_eqIntS.f k bt727.1 bt716.1).bind fun t735 => (if t735 = true then ((laws_eqBerthS.f k bt727.2.1 bt716.2.1).bind fun t736 => (if t736 = true then (if bt727.2.2.1 = bt716.2.2.1 then (laws_FnExactBestOrder.j0 k a0 l1 bt716.1 bt716.2.1 bt716.2.2.1 bt716.2.2.2 t724 bt727.1 bt727.2.1 bt727.2.2.1 bt727.2.2.2 (bt727.2.2.2 != bt716.2.2.2)) else (laws_FnExactBestOrder.j0 k a0 l1 bt716.1 bt716.2.1 bt716.2.2.1 bt716.2.2.2 t724 bt727.1 bt727.2.1 bt727.2.2.1 bt727.2.2.2 true)) else (laws_FnExactBestOrder.j0 k a0 l1 bt716.1 bt716.2.1 bt716.2.2.1 bt716.2.2.2 t724 bt727.1 bt727.2.1 bt727.2.2.1 bt727.2.2.2 true))) else (laws_FnExactBestOrder.j0 k a0 l1 bt716.1 bt716.2.1 bt716.2.2.1 bt716.2.2.2 t724 bt727.1 bt727.2.1 bt727.2.2.1 bt727.2.2.2 true)))))))) = some r := H
 have A3 := zM A30
 clear A30
 by_cases c4 : t712 < 0
 ·rw [if_pos c4] at H
  have c4b0 : decide (t712 < 0) = true := decide_eq_true c4
  clear c4
  obtain rfl := Option.some.inj H
  go_enter Try.func10, Try.ntmps10
  go_wp2_with (first | ((with_reducible refine gate_callee (f := 13) rfl ?_); refine goesL_ (some 24) rfl rfl Try.func13 (by kernel_rfl) rfl #[.slice A1 l1.length c1, .int .i64 1048576] rfl (by (try simp only [List.map_toArray, List.map_cons, List.map_nil]); first | done | rfl | (simp only [List.length_drop, List.length_take]; rfl)) ?_; (with_reducible refine (laws_szShipS.calls _ _ l1 1048576 t712 _ ?side1 ?side2 A3.out).mono ?_); (case side1 => repeat (first | exact HR1.out | (with_reducible refine zG ?_ _) | (with_reducible refine zH ?_ _) | (with_reducible refine zI ?_))); (case side2 => exact HC1.out); rintro e w' ⟨rfl, ⟨nd, rfl⟩⟩; refine ⟨_, rfl, ?_⟩))
  go_ret
  exact ⟨by first | rfl | (simp [errW_none, errW_some] <;> rfl) | (simp [*, errW_none, errW_some] <;> rfl), by repeat (first | (with_reducible first | exact HB.out | apply zD | apply zE | apply zF) | exact HB.out)⟩
 ·rw [if_neg c4] at H
  have c4b0 : decide (t712 < 0) = false := decide_eq_false c4
  clear c4
  replace H := Option.bind_eq_some_iff.mp H
  obtain ⟨t713, A50, H⟩ := H
  replace H : ((spec_BestOrder.f k a0 t713).bind fun bt716 => ((laws_toShipS.f k l1).bind fun t724 => ((impl_BestOrder.f a0 t724).bind fun bt727 => ((laws_eqIntS.f k bt727.1 bt716.1).bind fun t735 => (if t735 = true then ((laws_eqBerthS.f k bt727.2.1 bt716.2.1).bind fun t736 => (if t736 = true then (if bt727.2.2.1 = bt716.2.2.1 then (laws_FnExactBestOrder.j0 k a0 l1 bt716.1 bt716.2.1 bt716.2.2.1 bt716.2.2.2 t724 bt727.1 bt727.2.1 bt727.2.2.1 bt727.2.2.2 (bt727.2.2.2 != bt716.2.2.2)) else (laws_FnExactBestOrder.j0 k a0 l1 bt716.1 bt716.2.1 bt716.2.2.1 bt716.2.2.2 t724 bt727.1 bt727.2.1 bt727.2.2.1 bt727.2.2.2 true)) else (laws_FnExactBestOrder.j0 k a0 l1 bt716.1 bt716.2.1 bt716.2.2.1 bt716.2.2.2 t724 bt727.1 bt727.2.1 bt727.2.2.1 bt727.2.2.2 true))) else (laws_FnExactBestOrder.j0 k a0 l1 bt716.1 bt716.2.1 bt716.2.2.1 bt716.2.2.2 t724 bt727.1 bt727.2.1 bt727.2.2.1 bt727.2.2.2 true)))))) = some r := H
  have A5 := zM A50
  clear A50
  replace H := Option.bind_eq_some_iff.mp H
  obtain ⟨⟨t716, t717, t718, t719⟩, A60, H⟩ := H
  replace H : ((laws_toShipS.f k l1).bind fun t724 => ((impl_BestOrder.f a0 t724).bind fun bt727 => ((laws_eqIntS.f k bt727.1 t716).bind fun t735 => (if t735 = true then ((laws_eqBerthS.f k bt727.2.1 t717).bind fun t736 => (if t736 = true then (if bt727.2.2.1 = t718 then (laws_FnExactBestOrder.j0 k a0 l1 t716 t717 t718 t719 t724 bt727.1 bt727.2.1 bt727.2.2.1 bt727.2.2.2 (bt727.2.2.2 != t719)) else (laws_FnExactBestOrder.j0 k a0 l1 t716 t717 t718 t719 t724 bt727.1 bt727.2.1 bt727.2.2.1 bt727.2.2.2 true)) else (laws_FnExactBestOrder.j0 k a0 l1 t716 t717 t718 t719 t724 bt727.1 bt727.2.1 bt727.2.2.1 bt727.2.2.2 true))) else (laws_FnExactBestOrder.j0 k a0 l1 t716 t717 t718 t719 t724 bt727.1 bt727.2.1 bt727.2.2.1 bt727.2.2.2 true))))) = some r := H
  have A6 := zM A60
  clear A60
  replace H := Option.bind_eq_some_iff.mp H
  obtain ⟨t724, A70, H⟩ := H
  replace H : ((impl_BestOrder.f a0 t724).bind fun bt727 => ((laws_eqIntS.f k bt727.1 t716).bind fun t735 => (if t735 = true then ((laws_eqBerthS.f k bt727.2.1 t717).bind fun t736 => (if t736 = true then (if bt727.2.2.1 = t718 then (laws_FnExactBestOrder.j0 k a0 l1 t716 t717 t718 t719 t724 bt727.1 bt727.2.1 bt727.2.2.1 bt727.2.2.2 (bt727.2.2.2 != t719)) else (laws_FnExactBestOrder.j0 k a0 l1 t716 t717 t718 t719 t724 bt727.1 bt727.2.1 bt727.2.2.1 bt727.2.2.2 true)) else (laws_FnExactBestOrder.j0 k a0 l1 t716 t717 t718 t719 t724 bt727.1 bt727.2.1 bt727.2.2.1 bt727.2.2.2 true))) else (laws_FnExactBestOrder.j0 k a0 l1 t716 t717 t718 t719 t724 bt727.1 bt727.2.1 bt727.2.2.1 bt727.2.2.2 true)))) = some r := H
  have A7 := zM A70
  clear A70
  replace H := Option.bind_eq_some_iff.mp H
  obtain ⟨⟨t727, t728, t729, t730⟩, A80, H⟩ := H
  replace H : ((laws_eqIntS.f k t727 t716).bind fun t735 => (if t735 = true then ((laws_eqBerthS.f k t728 t717).bind fun t736 => (if t736 = true then (if t729 = t718 then (laws_FnExactBestOrder.j0 k a0 l1 t716 t717 t718 t719 t724 t727 t728 t729 t730 (t730 != t719)) else (laws_FnExactBestOrder.j0 k a0 l1 t716 t717 t718 t719 t724 t727 t728 t729 t730 true)) else (laws_FnExactBestOrder.j0 k a0 l1 t716 t717 t718 t719 t724 t727 t728 t729 t730 true))) else (laws_FnExactBestOrder.j0 k a0 l1 t716 t717 t718 t719 t724 t727 t728 t729 t730 true))) = some r := H
  have A8 := zM A80
  clear A80
  have HC9 := zM H
  clear H
  go_enter Try.func10, Try.ntmps10
  go_upto_region 8 with (first | ((with_reducible refine gate_callee (f := 13) rfl ?_); refine goesL_ (some 24) rfl rfl Try.func13 (by kernel_rfl) rfl #[.slice A1 l1.length c1, .int .i64 1048576] rfl (by (try simp only [List.map_toArray, List.map_cons, List.map_nil]); first | done | rfl | (simp only [List.length_drop, List.length_take]; rfl)) ?_; (with_reducible refine (laws_szShipS.calls _ _ l1 1048576 t712 _ ?side1 ?side2 A3.out).mono ?_); (case side1 => repeat (first | exact HR1.out | (with_reducible refine zG ?_ _) | (with_reducible refine zH ?_ _) | (with_reducible refine zI ?_))); (case side2 => exact HC1.out); rintro e w' ⟨rfl, ⟨nd, rfl⟩⟩; refine ⟨_, rfl, ?_⟩) | ((with_reducible refine gate_callee (f := 16) rfl ?_); refine goesL_ (some 30) rfl rfl Try.func16 (by kernel_rfl) rfl #[.slice A1 l1.length c1] rfl (by (try simp only [List.map_toArray, List.map_cons, List.map_nil]); first | done | rfl | (simp only [List.length_drop, List.length_take]; rfl)) ?_; (with_reducible refine (laws_toShipS.calls k _ _ l1 t713 _ ?side1 ?side2 A5.out).mono ?_); (case side1 => repeat (first | exact HR1.out | (with_reducible refine zG ?_ _) | (with_reducible refine zH ?_ _) | (with_reducible refine zI ?_))); (case side2 => exact HC1.out); rintro e w10 ⟨v714, rfl, ho0, hb⟩; refine ⟨_, rfl, ?_⟩; have n0_ := zM (Kd.R_lower ho0 (zR (by repeat (first | (with_reducible first | exact HB.out | apply zD | apply zE | apply zF) | exact HB.out)))); have n1_ := zM (zQ (by repeat (first | (with_reducible first | exact HB.out | apply zD | apply zE | apply zF) | exact HB.out)) hb); clear HB; have HO715 := n0_; have HB := n1_; clear n0_ n1_; (try clear hb); (try clear hb2); (try clear hk); (try clear hi); (try clear ho0); obtain ⟨Ao11, co11, eo11⟩ := Kd.R_slice HO715.out; subst eo11) | ((with_reducible refine gate_callee (f := 41) rfl ?_); refine goesL_ (some 31) rfl rfl Try.func41 (by kernel_rfl) rfl #[.int .i64 a0, .slice Ao11 t713.length co11] rfl (by (try simp only [List.map_toArray, List.map_cons, List.map_nil]); first | done | rfl | (simp only [List.length_drop, List.length_take]; rfl)) ?_; (with_reducible refine (spec_BestOrder.calls k a0 _ _ t713 t716 t717 t718 t719 _ ?side1 ?side2 A6.out).mono ?_); (case side1 => repeat (first | exact (zN HO715.out).2.2 | (with_reducible refine zG ?_ _) | (with_reducible refine zH ?_ _) | (with_reducible refine zI ?_))); (case side2 => exact (zN HO715.out).2.1); rintro e w12 ⟨v720, v722, rfl, ho0, ho1, hb⟩; refine ⟨_, rfl, ?_⟩; have n0_ := zM (zP (by (with_reducible repeat (first | apply zA | apply zB | apply zC)); exact HO715.out) hb); have n1_ := zM (Kd.R_lower ho0 (zR (by repeat (first | (with_reducible first | exact HB.out | apply zD | apply zE | apply zF) | exact HB.out)))); have n2_ := zM (Kd.R_lower ho1 (zR (by repeat (first | (with_reducible first | exact HB.out | apply zD | apply zE | apply zF) | exact HB.out)))); have n3_ := zM (zQ (by repeat (first | (with_reducible first | exact HB.out | apply zD | apply zE | apply zF) | exact HB.out)) hb); clear HO715; clear HB; have HO715 := n0_; have HO721 := n1_; have HO723 := n2_; have HB := n3_; clear n0_ n1_ n2_ n3_; (try clear hb); (try clear hb2); (try clear hk); (try clear hi); (try clear ho0); (try clear ho1)) | ((with_reducible refine gate_callee (f := 16) rfl ?_); refine goesL_ (some 37) rfl rfl Try.func16 (by kernel_rfl) rfl #[.slice A1 l1.length c1] rfl (by (try simp only [List.map_toArray, List.map_cons, List.map_nil]); first | done | rfl | (simp only [List.length_drop, List.length_take]; rfl)) ?_; (with_reducible refine (laws_toShipS.calls k _ _ l1 t724 _ ?side1 ?side2 A7.out).mono ?_); (case side1 => repeat (first | exact (zO HR1.out HB.out) | (with_reducible refine zG ?_ _) | (with_reducible refine zH ?_ _) | (with_reducible refine zI ?_))); (case side2 => exact HC1.out); rintro e w13 ⟨v725, rfl, ho0, hb⟩; refine ⟨_, rfl, ?_⟩; have n0_ := zM (Kd.R_elder' (by (with_reducible repeat (first | apply zA | apply zB | apply zC)); exact HO715.out) (Kd.R_base ho0) hb); have n1_ := zM (zP (by (with_reducible repeat (first | apply zA | apply zB | apply zC)); exact HO721.out) hb); have n2_ := zM (zP (by (with_reducible repeat (first | apply zA | apply zB | apply zC)); exact HO723.out) hb); have n3_ := zM (Kd.R_lower (Kd.R_new' ho0 (Kd.R_lt (by (with_reducible repeat (first | apply zA | apply zB | apply zC)); exact HO715.out))) (zR (by repeat (first | (with_reducible first | exact HB.out | apply zD | apply zE | apply zF) | exact HB.out)))); have n4_ := zM (zQ (by repeat (first | (with_reducible first | exact HB.out | apply zD | apply zE | apply zF) | exact HB.out)) hb); clear HO715; clear HO721; clear HO723; clear HB; have HO715 := n0_; have HO721 := n1_; have HO723 := n2_; have HO726 := n3_; have HB := n4_; clear n0_ n1_ n2_ n3_ n4_; (try clear hb); (try clear hb2); (try clear hk); (try clear hi); (try clear ho0); obtain ⟨Ao14, co14, eo14⟩ := Kd.R_slice HO726.out; subst eo14) | ((with_reducible refine gate_callee (f := 42) rfl ?_); refine goesL_ (some 41) rfl rfl Try.func42 (by kernel_rfl) rfl #[.int .i64 a0, .slice Ao14 t724.length co14] rfl (by (try simp only [List.map_toArray, List.map_cons, List.map_nil]); first | done | rfl | (simp only [List.length_drop, List.length_take]; rfl)) ?_; (with_reducible refine (impl_BestOrder.calls a0 _ _ t724 t727 t728 t729 t730 _ ?side1 ?side2 A8.out).mono ?_); (case side1 => repeat (first | exact (zN HO726.out).2.2 | (with_reducible refine zG ?_ _) | (with_reducible refine zH ?_ _) | (with_reducible refine zI ?_))); (case side2 => exact (zN HO726.out).2.1); rintro e w15 ⟨v731, v733, rfl, ho0, ho1, hb⟩; refine ⟨_, rfl, ?_⟩; have n0_ := zM (zP (by (with_reducible repeat (first | apply zA | apply zB | apply zC)); exact HO715.out) hb); have n1_ := zM (Kd.R_elder' (by (with_reducible repeat (first | apply zA | apply zB | apply zC)); exact HO721.out) (Kd.R_base ho0) hb); have n2_ := zM (Kd.R_elder' (by (with_reducible repeat (first | apply zA | apply zB | apply zC)); exact HO723.out) (Kd.R_base ho1) hb); have n3_ := zM (zP (by (with_reducible repeat (first | apply zA | apply zB | apply zC)); exact HO726.out) hb); have n4_ := zM (Kd.R_lower (Kd.R_new' ho0 (Kd.R_lt (by (with_reducible repeat (first | apply zA | apply zB | apply zC)); exact HO721.out))) (zR (by repeat (first | (with_reducible first | exact HB.out | apply zD | apply zE | apply zF) | exact HB.out)))); have n5_ := zM (Kd.R_lower (Kd.R_new' ho1 (Kd.R_lt (by (with_reducible repeat (first | apply zA | apply zB | apply zC)); exact HO723.out))) (zR (by repeat (first | (with_reducible first | exact HB.out | apply zD | apply zE | apply zF) | exact HB.out)))); have n6_ := zM (zQ (by repeat (first | (with_reducible first | exact HB.out | apply zD | apply zE | apply zF) | exact HB.out)) hb); clear HO715; clear HO721; clear HO723; clear HO726; clear HB; have HO715 := n0_; have HO721 := n1_; have HO723 := n2_; have HO726 := n3_; have HO732 := n4_; have HO734 := n5_; have HB := n6_; clear n0_ n1_ n2_ n3_ n4_ n5_ n6_; (try clear hb); (try clear hb2); (try clear hk); (try clear hi); (try clear ho0); (try clear ho1)))
  (try simp only [Act.put, List.setIfInBounds_toArray, List.set_cons_zero, List.set_cons_succ])
  go_cut [65] (fun v65 wc => ∃ (kq : Nat) (x65_8 : Bool), v65 = .bool x65_8 ∧ Aside0 (laws_FnExactBestOrder.j0 kq a0 l1 t716 t717 t718 t719 t724 t727 t728 t729 t730 x65_8 = some r) ∧ Aside0 (kq ≤ k) ∧ Aside0 (Kd.R (Kd.int .i64) 3 wc w.heap.size (fun k_ => some k_ ≠ (v731 : Value).ownBlock) v720 t716) ∧ Aside0 (Kd.R k37 37 wc w.heap.size (fun k_ => some k_ ≠ (v733 : Value).ownBlock) v722 t717) ∧ Aside0 (Kd.R k62 62 wc w.heap.size (fun _ => True) (.slice Ao14 t724.length co14) t724) ∧ Aside0 (Kd.R (Kd.int .i64) 3 wc w.heap.size (fun k_ => some k_ ≠ (v720 : Value).ownBlock) v731 t727) ∧ Aside0 (Kd.R k37 37 wc w.heap.size (fun k_ => some k_ ≠ (v722 : Value).ownBlock) v733 t728) ∧ Aside0 (Below w.heap.size w wc))
  case first =>
   have H := HC9.out
   clear HC9
   replace H := Option.bind_eq_some_iff.mp H
   obtain ⟨t735, A160, H⟩ := H
   replace H : (if t735 = true then ((laws_eqBerthS.f k t728 t717).bind fun t736 => (if t736 = true then (if t729 = t718 then (laws_FnExactBestOrder.j0 k a0 l1 t716 t717 t718 t719 t724 t727 t728 t729 t730 (t730 != t719)) else (laws_FnExactBestOrder.j0 k a0 l1 t716 t717 t718 t719 t724 t727 t728 t729 t730 true)) else (laws_FnExactBestOrder.j0 k a0 l1 t716 t717 t718 t719 t724 t727 t728 t729 t730 true))) else (laws_FnExactBestOrder.j0 k a0 l1 t716 t717 t718 t719 t724 t727 t728 t729 t730 true)) = some r := H
   have A16 := zM A160
   clear A160
   by_cases c17 : t735 = true
   ·subst c17
    have H1 : ((laws_eqBerthS.f k t728 t717).bind fun t736 => (if t736 = true then (if t729 = t718 then (laws_FnExactBestOrder.j0 k a0 l1 t716 t717 t718 t719 t724 t727 t728 t729 t730 (t730 != t719)) else (laws_FnExactBestOrder.j0 k a0 l1 t716 t717 t718 t719 t724 t727 t728 t729 t730 true)) else (laws_FnExactBestOrder.j0 k a0 l1 t716 t717 t718 t719 t724 t727 t728 t729 t730 true))) = some r := by rw [if_pos rfl] at H; exact H
    clear H
    have H := H1
    clear H1
    replace H := Option.bind_eq_some_iff.mp H
    obtain ⟨t736, A180, H⟩ := H
    replace H : (if t736 = true then (if t729 = t718 then (laws_FnExactBestOrder.j0 k a0 l1 t716 t717 t718 t719 t724 t727 t728 t729 t730 (t730 != t719)) else (laws_FnExactBestOrder.j0 k a0 l1 t716 t717 t718 t719 t724 t727 t728 t729 t730 true)) else (laws_FnExactBestOrder.j0 k a0 l1 t716 t717 t718 t719 t724 t727 t728 t729 t730 true)) = some r := H
    have A18 := zM A180
    clear A180
    by_cases c19 : t736 = true
    ·subst c19
     have H1 : (if t729 = t718 then (laws_FnExactBestOrder.j0 k a0 l1 t716 t717 t718 t719 t724 t727 t728 t729 t730 (t730 != t719)) else (laws_FnExactBestOrder.j0 k a0 l1 t716 t717 t718 t719 t724 t727 t728 t729 t730 true)) = some r := by rw [if_pos rfl] at H; exact H
     clear H
     have H := H1
     clear H1
     by_cases c20 : t729 = t718
     ·rw [if_pos c20] at H
      have c20b0 : (t729 == t718) = true := beq_iff_eq.mpr c20
      have c20b1 : (t729 != t718) = false := bne_eq_false_iff_eq.mpr c20
      clear c20
      (first | rw [c20b0] | (simp only [i64_w, i32_w]; rw [c20b0]) | skip)
      have H' := zM H
      clear H
      obtain ⟨Ao21, co21, eo21⟩ := Kd.R_slice HO732.out
      subst eo21
      obtain ⟨Ao22, co22, eo22⟩ := Kd.R_slice HO721.out
      subst eo22
      go_wp2_with (first | ((with_reducible refine gate_callee (f := 30) rfl ?_); refine goesL_ (some 48) rfl rfl Try.func30 (by kernel_rfl) rfl #[.slice Ao21 t727.length co21, .slice Ao22 t716.length co22] rfl (by (try simp only [List.map_toArray, List.map_cons, List.map_nil]); first | done | rfl | (simp only [List.length_drop, List.length_take]; rfl)) ?_; (with_reducible refine (laws_eqIntS.calls k _ _ t727 _ _ t716 true _ ?side1 ?side2 ?side3 ?side4 A16.out).mono ?_); (case side1 => repeat (first | exact (zN HO732.out).2.2 | (with_reducible refine zG ?_ _) | (with_reducible refine zH ?_ _) | (with_reducible refine zI ?_))); (case side2 => exact (zN HO732.out).2.1); (case side3 => repeat (first | exact (zN HO721.out).2.2 | (with_reducible refine zG ?_ _) | (with_reducible refine zH ?_ _) | (with_reducible refine zI ?_))); (case side4 => exact (zN HO721.out).2.1); rintro e w' ⟨rfl, ⟨nd, rfl⟩⟩; refine ⟨_, rfl, ?_⟩; obtain ⟨Ao23, co23, eo23⟩ := Kd.R_slice HO734.out; subst eo23; obtain ⟨Ao24, co24, eo24⟩ := Kd.R_slice HO723.out; subst eo24) | (go_at_call 20; (with_reducible refine (laws_eqBerthS.calls k _ _ t728 _ _ t717 true _ ?side1 ?side2 ?side3 ?side4 A18.out).mono ?_); (case side1 => repeat (first | exact (zN HO734.out).2.2 | (with_reducible refine zG ?_ _) | (with_reducible refine zH ?_ _) | (with_reducible refine zI ?_))); (case side2 => exact (zN HO734.out).2.1); (case side3 => repeat (first | exact (zN HO723.out).2.2 | (with_reducible refine zG ?_ _) | (with_reducible refine zH ?_ _) | (with_reducible refine zI ?_))); (case side4 => exact (zN HO723.out).2.1); rintro e w25 ⟨rfl, hb⟩; have n0_ := zM (zP (by (with_reducible repeat (first | apply zA | apply zB | apply zC)); exact HO715.out) hb); have n1_ := zM (zP (by (with_reducible repeat (first | apply zA | apply zB | apply zC)); exact HO721.out) hb); have n2_ := zM (zP (by (with_reducible repeat (first | apply zA | apply zB | apply zC)); exact HO723.out) hb); have n3_ := zM (zP (by (with_reducible repeat (first | apply zA | apply zB | apply zC)); exact HO726.out) hb); have n4_ := zM (zP (by (with_reducible repeat (first | apply zA | apply zB | apply zC)); exact HO732.out) hb); have n5_ := zM (zP (by (with_reducible repeat (first | apply zA | apply zB | apply zC)); exact HO734.out) hb); have n6_ := zM (zQ (by repeat (first | (with_reducible first | exact HB.out | apply zD | apply zE | apply zF) | exact HB.out)) hb); clear HO715; clear HO721; clear HO723; clear HO726; clear HO732; clear HO734; clear HB; have HO715 := n0_; have HO721 := n1_; have HO723 := n2_; have HO726 := n3_; have HO732 := n4_; have HO734 := n5_; have HB := n6_; clear n0_ n1_ n2_ n3_ n4_ n5_ n6_; (try clear hb); (try clear hb2); (try clear hk); (try clear hi)))
      go_meet
      case rel => exact ⟨_, ((t730 != t719)), (by first | rfl | (simp; done) | (simp [*]; done)), H', ⟨by first | omega | exact Nat.le_refl _⟩, ⟨by (with_reducible repeat (first | apply zA | apply zB | apply zC)); exact Kd.R_mono HO721.out (fun _ hk => hk.2)⟩, ⟨by (with_reducible repeat (first | apply zA | apply zB | apply zC)); exact Kd.R_mono HO723.out (fun _ hk => hk.2)⟩, ⟨by (with_reducible repeat (first | apply zA | apply zB | apply zC)); exact Kd.R_mono HO726.out (fun _ hk => trivial)⟩, ⟨by (with_reducible repeat (first | apply zA | apply zB | apply zC)); exact Kd.R_mono HO732.out (fun _ hk => hk.2)⟩, ⟨by (with_reducible repeat (first | apply zA | apply zB | apply zC)); exact Kd.R_mono HO734.out (fun _ hk => hk.2)⟩, ⟨by repeat (first | (with_reducible first | exact HB.out | apply zD | apply zE | apply zF) | exact HB.out)⟩⟩
     ·rw [if_neg c20] at H
      have c20b0 : (t729 == t718) = false := beq_eq_false_iff_ne.mpr c20
      have c20b1 : (t729 != t718) = true := bne_iff_ne.mpr c20
      (first | rw [c20b0] | (simp only [i64_w, i32_w]; rw [c20b0]) | skip)
      have H' := zM H
      clear H
      obtain ⟨Ao26, co26, eo26⟩ := Kd.R_slice HO732.out
      subst eo26
      obtain ⟨Ao27, co27, eo27⟩ := Kd.R_slice HO721.out
      subst eo27
      go_wp2_with (first | ((with_reducible refine gate_callee (f := 30) rfl ?_); refine goesL_ (some 48) rfl rfl Try.func30 (by kernel_rfl) rfl #[.slice Ao26 t727.length co26, .slice Ao27 t716.length co27] rfl (by (try simp only [List.map_toArray, List.map_cons, List.map_nil]); first | done | rfl | (simp only [List.length_drop, List.length_take]; rfl)) ?_; (with_reducible refine (laws_eqIntS.calls k _ _ t727 _ _ t716 true _ ?side1 ?side2 ?side3 ?side4 A16.out).mono ?_); (case side1 => repeat (first | exact (zN HO732.out).2.2 | (with_reducible refine zG ?_ _) | (with_reducible refine zH ?_ _) | (with_reducible refine zI ?_))); (case side2 => exact (zN HO732.out).2.1); (case side3 => repeat (first | exact (zN HO721.out).2.2 | (with_reducible refine zG ?_ _) | (with_reducible refine zH ?_ _) | (with_reducible refine zI ?_))); (case side4 => exact (zN HO721.out).2.1); rintro e w' ⟨rfl, ⟨nd, rfl⟩⟩; refine ⟨_, rfl, ?_⟩; obtain ⟨Ao28, co28, eo28⟩ := Kd.R_slice HO734.out; subst eo28; obtain ⟨Ao29, co29, eo29⟩ := Kd.R_slice HO723.out; subst eo29) | (go_at_call 20; (with_reducible refine (laws_eqBerthS.calls k _ _ t728 _ _ t717 true _ ?side1 ?side2 ?side3 ?side4 A18.out).mono ?_); (case side1 => repeat (first | exact (zN HO734.out).2.2 | (with_reducible refine zG ?_ _) | (with_reducible refine zH ?_ _) | (with_reducible refine zI ?_))); (case side2 => exact (zN HO734.out).2.1); (case side3 => repeat (first | exact (zN HO723.out).2.2 | (with_reducible refine zG ?_ _) | (with_reducible refine zH ?_ _) | (with_reducible refine zI ?_))); (case side4 => exact (zN HO723.out).2.1); rintro e w30 ⟨rfl, hb⟩; have n0_ := zM (zP (by (with_reducible repeat (first | apply zA | apply zB | apply zC)); exact HO715.out) hb); have n1_ := zM (zP (by (with_reducible repeat (first | apply zA | apply zB | apply zC)); exact HO721.out) hb); have n2_ := zM (zP (by (with_reducible repeat (first | apply zA | apply zB | apply zC)); exact HO723.out) hb); have n3_ := zM (zP (by (with_reducible repeat (first | apply zA | apply zB | apply zC)); exact HO726.out) hb); have n4_ := zM (zP (by (with_reducible repeat (first | apply zA | apply zB | apply zC)); exact HO732.out) hb); have n5_ := zM (zP (by (with_reducible repeat (first | apply zA | apply zB | apply zC)); exact HO734.out) hb); have n6_ := zM (zQ (by repeat (first | (with_reducible first | exact HB.out | apply zD | apply zE | apply zF) | exact HB.out)) hb); clear HO715; clear HO721; clear HO723; clear HO726; clear HO732; clear HO734; clear HB; have HO715 := n0_; have HO721 := n1_; have HO723 := n2_; have HO726 := n3_; have HO732 := n4_; have HO734 := n5_; have HB := n6_; clear n0_ n1_ n2_ n3_ n4_ n5_ n6_; (try clear hb); (try clear hb2); (try clear hk); (try clear hi)))
      go_meet
      case rel => exact ⟨_, (true), (by first | rfl | (simp; done) | (simp [*]; done)), H', ⟨by first | omega | exact Nat.le_refl _⟩, ⟨by (with_reducible repeat (first | apply zA | apply zB | apply zC)); exact Kd.R_mono HO721.out (fun _ hk => hk.2)⟩, ⟨by (with_reducible repeat (first | apply zA | apply zB | apply zC)); exact Kd.R_mono HO723.out (fun _ hk => hk.2)⟩, ⟨by (with_reducible repeat (first | apply zA | apply zB | apply zC)); exact Kd.R_mono HO726.out (fun _ hk => trivial)⟩, ⟨by (with_reducible repeat (first | apply zA | apply zB | apply zC)); exact Kd.R_mono HO732.out (fun _ hk => hk.2)⟩, ⟨by (with_reducible repeat (first | apply zA | apply zB | apply zC)); exact Kd.R_mono HO734.out (fun _ hk => hk.2)⟩, ⟨by repeat (first | (with_reducible first | exact HB.out | apply zD | apply zE | apply zF) | exact HB.out)⟩⟩
    ·replace c19 := Bool.eq_false_iff.mpr c19
     subst c19
     have H1 : (laws_FnExactBestOrder.j0 k a0 l1 t716 t717 t718 t719 t724 t727 t728 t729 t730 true) = some r := by rw [if_neg (show ¬ (false = true) by decide)] at H; exact H
     clear H
     have H := H1
     clear H1
     have H' := zM H
     clear H
     obtain ⟨Ao31, co31, eo31⟩ := Kd.R_slice HO732.out
     subst eo31
     obtain ⟨Ao32, co32, eo32⟩ := Kd.R_slice HO721.out
     subst eo32
     go_wp2_with (first | ((with_reducible refine gate_callee (f := 30) rfl ?_); refine goesL_ (some 48) rfl rfl Try.func30 (by kernel_rfl) rfl #[.slice Ao31 t727.length co31, .slice Ao32 t716.length co32] rfl (by (try simp only [List.map_toArray, List.map_cons, List.map_nil]); first | done | rfl | (simp only [List.length_drop, List.length_take]; rfl)) ?_; (with_reducible refine (laws_eqIntS.calls k _ _ t727 _ _ t716 true _ ?side1 ?side2 ?side3 ?side4 A16.out).mono ?_); (case side1 => repeat (first | exact (zN HO732.out).2.2 | (with_reducible refine zG ?_ _) | (with_reducible refine zH ?_ _) | (with_reducible refine zI ?_))); (case side2 => exact (zN HO732.out).2.1); (case side3 => repeat (first | exact (zN HO721.out).2.2 | (with_reducible refine zG ?_ _) | (with_reducible refine zH ?_ _) | (with_reducible refine zI ?_))); (case side4 => exact (zN HO721.out).2.1); rintro e w' ⟨rfl, ⟨nd, rfl⟩⟩; refine ⟨_, rfl, ?_⟩; obtain ⟨Ao33, co33, eo33⟩ := Kd.R_slice HO734.out; subst eo33; obtain ⟨Ao34, co34, eo34⟩ := Kd.R_slice HO723.out; subst eo34) | (go_at_call 20; (with_reducible refine (laws_eqBerthS.calls k _ _ t728 _ _ t717 false _ ?side1 ?side2 ?side3 ?side4 A18.out).mono ?_); (case side1 => repeat (first | exact (zN HO734.out).2.2 | (with_reducible refine zG ?_ _) | (with_reducible refine zH ?_ _) | (with_reducible refine zI ?_))); (case side2 => exact (zN HO734.out).2.1); (case side3 => repeat (first | exact (zN HO723.out).2.2 | (with_reducible refine zG ?_ _) | (with_reducible refine zH ?_ _) | (with_reducible refine zI ?_))); (case side4 => exact (zN HO723.out).2.1); rintro e w35 ⟨rfl, hb⟩; have n0_ := zM (zP (by (with_reducible repeat (first | apply zA | apply zB | apply zC)); exact HO715.out) hb); have n1_ := zM (zP (by (with_reducible repeat (first | apply zA | apply zB | apply zC)); exact HO721.out) hb); have n2_ := zM (zP (by (with_reducible repeat (first | apply zA | apply zB | apply zC)); exact HO723.out) hb); have n3_ := zM (zP (by (with_reducible repeat (first | apply zA | apply zB | apply zC)); exact HO726.out) hb); have n4_ := zM (zP (by (with_reducible repeat (first | apply zA | apply zB | apply zC)); exact HO732.out) hb); have n5_ := zM (zP (by (with_reducible repeat (first | apply zA | apply zB | apply zC)); exact HO734.out) hb); have n6_ := zM (zQ (by repeat (first | (with_reducible first | exact HB.out | apply zD | apply zE | apply zF) | exact HB.out)) hb); clear HO715; clear HO721; clear HO723; clear HO726; clear HO732; clear HO734; clear HB; have HO715 := n0_; have HO721 := n1_; have HO723 := n2_; have HO726 := n3_; have HO732 := n4_; have HO734 := n5_; have HB := n6_; clear n0_ n1_ n2_ n3_ n4_ n5_ n6_; (try clear hb); (try clear hb2); (try clear hk); (try clear hi)))
     go_meet
     case rel => exact ⟨_, (true), (by first | rfl | (simp; done) | (simp [*]; done)), H', ⟨by first | omega | exact Nat.le_refl _⟩, ⟨by (with_reducible repeat (first | apply zA | apply zB | apply zC)); exact Kd.R_mono HO721.out (fun _ hk => hk.2)⟩, ⟨by (with_reducible repeat (first | apply zA | apply zB | apply zC)); exact Kd.R_mono HO723.out (fun _ hk => hk.2)⟩, ⟨by (with_reducible repeat (first | apply zA | apply zB | apply zC)); exact Kd.R_mono HO726.out (fun _ hk => trivial)⟩, ⟨by (with_reducible repeat (first | apply zA | apply zB | apply zC)); exact Kd.R_mono HO732.out (fun _ hk => hk.2)⟩, ⟨by (with_reducible repeat (first | apply zA | apply zB | apply zC)); exact Kd.R_mono HO734.out (fun _ hk => hk.2)⟩, ⟨by repeat (first | (with_reducible first | exact HB.out | apply zD | apply zE | apply zF) | exact HB.out)⟩⟩
   ·replace c17 := Bool.eq_false_iff.mpr c17
    subst c17
    have H1 : (laws_FnExactBestOrder.j0 k a0 l1 t716 t717 t718 t719 t724 t727 t728 t729 t730 true) = some r := by rw [if_neg (show ¬ (false = true) by decide)] at H; exact H
    clear H
    have H := H1
    clear H1
    have H' := zM H
    clear H
    obtain ⟨Ao36, co36, eo36⟩ := Kd.R_slice HO732.out
    subst eo36
    obtain ⟨Ao37, co37, eo37⟩ := Kd.R_slice HO721.out
    subst eo37
    go_wp2_with (first | ((with_reducible refine gate_callee (f := 30) rfl ?_); refine goesL_ (some 48) rfl rfl Try.func30 (by kernel_rfl) rfl #[.slice Ao36 t727.length co36, .slice Ao37 t716.length co37] rfl (by (try simp only [List.map_toArray, List.map_cons, List.map_nil]); first | done | rfl | (simp only [List.length_drop, List.length_take]; rfl)) ?_; (with_reducible refine (laws_eqIntS.calls k _ _ t727 _ _ t716 false _ ?side1 ?side2 ?side3 ?side4 A16.out).mono ?_); (case side1 => repeat (first | exact (zN HO732.out).2.2 | (with_reducible refine zG ?_ _) | (with_reducible refine zH ?_ _) | (with_reducible refine zI ?_))); (case side2 => exact (zN HO732.out).2.1); (case side3 => repeat (first | exact (zN HO721.out).2.2 | (with_reducible refine zG ?_ _) | (with_reducible refine zH ?_ _) | (with_reducible refine zI ?_))); (case side4 => exact (zN HO721.out).2.1); rintro e w' ⟨rfl, ⟨nd, rfl⟩⟩; refine ⟨_, rfl, ?_⟩))
    go_meet
    case rel => exact ⟨_, (true), (by first | rfl | (simp; done) | (simp [*]; done)), H', ⟨by first | omega | exact Nat.le_refl _⟩, ⟨by (with_reducible repeat (first | apply zA | apply zB | apply zC)); exact Kd.R_mono HO721.out (fun _ hk => hk.2)⟩, ⟨by (with_reducible repeat (first | apply zA | apply zB | apply zC)); exact Kd.R_mono HO723.out (fun _ hk => hk.2)⟩, ⟨by (with_reducible repeat (first | apply zA | apply zB | apply zC)); exact Kd.R_mono HO726.out (fun _ hk => trivial)⟩, ⟨by (with_reducible repeat (first | apply zA | apply zB | apply zC)); exact Kd.R_mono HO732.out (fun _ hk => hk.2)⟩, ⟨by (with_reducible repeat (first | apply zA | apply zB | apply zC)); exact Kd.R_mono HO734.out (fun _ hk => hk.2)⟩, ⟨by repeat (first | (with_reducible first | exact HB.out | apply zD | apply zE | apply zF) | exact HB.out)⟩⟩
  case rest =>
   clear HC9
   try clear c1
   try clear c2
   try clear p2
   try clear c3
   try clear c4
   try clear c4b0
   try clear c10
   try clear c13
   try clear c16
   try clear c17
   try clear c19
   try clear c20
   try clear c20b0
   try clear c20b1
   try clear c30
   obtain ⟨kq, x65_8, rfl, HA, HJ8, HO_6, HO_7, HO_10, HO_11, HO_12, HB⟩ := hcut
   cases kq with
   | zero => exact absurd HA.out (by simp [laws_FnExactBestOrder.j0])
   | succ kj8 =>
    have H := HA.out
    clear HA
    simp only [laws_FnExactBestOrder.j0] at H
    by_cases c38 : x65_8 = true
    ·subst c38
     have H1 : (some false) = some r := by rw [if_pos rfl] at H; exact H
     clear H
     have H := H1
     clear H1
     obtain rfl := Option.some.inj H
     go_wp2
     go_ret
     exact ⟨by first | rfl | (simp [errW_none, errW_some] <;> rfl) | (simp [*, errW_none, errW_some] <;> rfl), by repeat (first | (with_reducible first | exact HB.out | apply zD | apply zE | apply zF) | exact HB.out)⟩
    ·replace c38 := Bool.eq_false_iff.mpr c38
     subst c38
     have H1 : ((laws_toShipS.f kj8 l1).bind fun t737 => ((laws_eqShipS.f kj8 t724 t737).bind fun t740 => (if t740 = true then ((laws_markShipS.f kj8 t724 1).bind fun bt741 => (if bt741.1 < 0 then (laws_FnExactBestOrder.j1 kj8 a0 l1 t716 t717 t718 t719 t727 t728 true) else ((laws_eqIntS.f kj8 t727 t716).bind fun t743 => (if t743 = true then ((laws_eqBerthS.f kj8 t728 t717).bind fun t744 => (if t744 = true then (if t729 = t718 then (laws_FnExactBestOrder.j1 kj8 a0 l1 t716 t717 t718 t719 t727 t728 (t730 != t719)) else (laws_FnExactBestOrder.j1 kj8 a0 l1 t716 t717 t718 t719 t727 t728 true)) else (laws_FnExactBestOrder.j1 kj8 a0 l1 t716 t717 t718 t719 t727 t728 true))) else (laws_FnExactBestOrder.j1 kj8 a0 l1 t716 t717 t718 t719 t727 t728 true))))) else (some false)))) = some r := by rw [if_neg (show ¬ (false = true) by decide)] at H; exact H
     clear H
     have H := H1
     clear H1
     replace H := Option.bind_eq_some_iff.mp H
     obtain ⟨t737, A390, H⟩ := H
     replace H : ((laws_eqShipS.f kj8 t724 t737).bind fun t740 => (if t740 = true then ((laws_markShipS.f kj8 t724 1).bind fun bt741 => (if bt741.1 < 0 then (laws_FnExactBestOrder.j1 kj8 a0 l1 t716 t717 t718 t719 t727 t728 true) else ((laws_eqIntS.f kj8 t727 t716).bind fun t743 => (if t743 = true then ((laws_eqBerthS.f kj8 t728 t717).bind fun t744 => (if t744 = true then (if t729 = t718 then (laws_FnExactBestOrder.j1 kj8 a0 l1 t716 t717 t718 t719 t727 t728 (t730 != t719)) else (laws_FnExactBestOrder.j1 kj8 a0 l1 t716 t717 t718 t719 t727 t728 true)) else (laws_FnExactBestOrder.j1 kj8 a0 l1 t716 t717 t718 t719 t727 t728 true))) else (laws_FnExactBestOrder.j1 kj8 a0 l1 t716 t717 t718 t719 t727 t728 true))))) else (some false))) = some r := H
     have A39 := zM A390
     clear A390
     replace H := Option.bind_eq_some_iff.mp H
     obtain ⟨t740, A400, H⟩ := H
     replace H : (if t740 = true then ((laws_markShipS.f kj8 t724 1).bind fun bt741 => (if bt741.1 < 0 then (laws_FnExactBestOrder.j1 kj8 a0 l1 t716 t717 t718 t719 t727 t728 true) else ((laws_eqIntS.f kj8 t727 t716).bind fun t743 => (if t743 = true then ((laws_eqBerthS.f kj8 t728 t717).bind fun t744 => (if t744 = true then (if t729 = t718 then (laws_FnExactBestOrder.j1 kj8 a0 l1 t716 t717 t718 t719 t727 t728 (t730 != t719)) else (laws_FnExactBestOrder.j1 kj8 a0 l1 t716 t717 t718 t719 t727 t728 true)) else (laws_FnExactBestOrder.j1 kj8 a0 l1 t716 t717 t718 t719 t727 t728 true))) else (laws_FnExactBestOrder.j1 kj8 a0 l1 t716 t717 t718 t719 t727 t728 true))))) else (some false)) = some r := H
     have A40 := zM A400
     clear A400
     by_cases c41 : t740 = true
     ·subst c41
      have H1 : ((laws_markShipS.f kj8 t724 1).bind fun bt741 => (if bt741.1 < 0 then (laws_FnExactBestOrder.j1 kj8 a0 l1 t716 t717 t718 t719 t727 t728 true) else ((laws_eqIntS.f kj8 t727 t716).bind fun t743 => (if t743 = true then ((laws_eqBerthS.f kj8 t728 t717).bind fun t744 => (if t744 = true then (if t729 = t718 then (laws_FnExactBestOrder.j1 kj8 a0 l1 t716 t717 t718 t719 t727 t728 (t730 != t719)) else (laws_FnExactBestOrder.j1 kj8 a0 l1 t716 t717 t718 t719 t727 t728 true)) else (laws_FnExactBestOrder.j1 kj8 a0 l1 t716 t717 t718 t719 t727 t728 true))) else (laws_FnExactBestOrder.j1 kj8 a0 l1 t716 t717 t718 t719 t727 t728 true))))) = some r := by rw [if_pos rfl] at H; exact H
      clear H
      have H := H1
      clear H1
      replace H := Option.bind_eq_some_iff.mp H
      obtain ⟨⟨t741, t742⟩, A420, H⟩ := H
      replace H : (if t741 < 0 then (laws_FnExactBestOrder.j1 kj8 a0 l1 t716 t717 t718 t719 t727 t728 true) else ((laws_eqIntS.f kj8 t727 t716).bind fun t743 => (if t743 = true then ((laws_eqBerthS.f kj8 t728 t717).bind fun t744 => (if t744 = true then (if t729 = t718 then (laws_FnExactBestOrder.j1 kj8 a0 l1 t716 t717 t718 t719 t727 t728 (t730 != t719)) else (laws_FnExactBestOrder.j1 kj8 a0 l1 t716 t717 t718 t719 t727 t728 true)) else (laws_FnExactBestOrder.j1 kj8 a0 l1 t716 t717 t718 t719 t727 t728 true))) else (laws_FnExactBestOrder.j1 kj8 a0 l1 t716 t717 t718 t719 t727 t728 true)))) = some r := H
      have A42 := zM A420
      clear A420
      have HC43 := zM H
      clear H
      go_upto_region 14 with (first | ((with_reducible refine gate_callee (f := 16) rfl ?_); refine goesL_ (some 68) rfl rfl Try.func16 (by kernel_rfl) rfl #[.slice A1 l1.length c1] rfl (by (try simp only [List.map_toArray, List.map_cons, List.map_nil]); first | done | rfl | (simp only [List.length_drop, List.length_take]; rfl)) ?_; (with_reducible refine (laws_toShipS.calls kj8 _ _ l1 t737 _ ?side1 ?side2 A39.out).mono ?_); (case side1 => repeat (first | exact (zO HR1.out HB.out) | (with_reducible refine zG ?_ _) | (with_reducible refine zH ?_ _) | (with_reducible refine zI ?_))); (case side2 => exact HC1.out); rintro e w44 ⟨v738, rfl, ho0, hb⟩; refine ⟨_, rfl, ?_⟩; have n0_ := zM (zP (by (with_reducible repeat (first | apply zA | apply zB | apply zC)); exact HO_6.out) hb); have n1_ := zM (zP (by (with_reducible repeat (first | apply zA | apply zB | apply zC)); exact HO_7.out) hb); have n2_ := zM (Kd.R_elder' (by (with_reducible repeat (first | apply zA | apply zB | apply zC)); exact HO_10.out) (Kd.R_base ho0) hb); have n3_ := zM (zP (by (with_reducible repeat (first | apply zA | apply zB | apply zC)); exact HO_11.out) hb); have n4_ := zM (zP (by (with_reducible repeat (first | apply zA | apply zB | apply zC)); exact HO_12.out) hb); have n5_ := zM (Kd.R_lower (Kd.R_new' ho0 (Kd.R_lt (by (with_reducible repeat (first | apply zA | apply zB | apply zC)); exact HO_10.out))) (zR (by repeat (first | (with_reducible first | exact HB.out | apply zD | apply zE | apply zF) | exact HB.out)))); have n6_ := zM (zQ (by repeat (first | (with_reducible first | exact HB.out | apply zD | apply zE | apply zF) | exact HB.out)) hb); clear HO_6; clear HO_7; clear HO_10; clear HO_11; clear HO_12; clear HB; have HO_6 := n0_; have HO_7 := n1_; have HO_10 := n2_; have HO_11 := n3_; have HO_12 := n4_; have HO739 := n5_; have HB := n6_; clear n0_ n1_ n2_ n3_ n4_ n5_ n6_; (try clear hb); (try clear hb2); (try clear hk); (try clear hi); (try clear ho0); obtain ⟨Ao45, co45, eo45⟩ := Kd.R_slice HO739.out; subst eo45) | ((with_reducible refine gate_callee (f := 19) rfl ?_); refine goesL_ (some 69) rfl rfl Try.func19 (by kernel_rfl) rfl #[.slice Ao14 t724.length co14, .slice Ao45 t737.length co45] rfl (by (try simp only [List.map_toArray, List.map_cons, List.map_nil]); first | done | rfl | (simp only [List.length_drop, List.length_take]; rfl)) ?_; (with_reducible refine (laws_eqShipS.calls kj8 _ _ t724 _ _ t737 true _ ?side1 ?side2 ?side3 ?side4 A40.out).mono ?_); (case side1 => repeat (first | exact (zN HO_10.out).2.2 | (with_reducible refine zG ?_ _) | (with_reducible refine zH ?_ _) | (with_reducible refine zI ?_))); (case side2 => exact (zN HO_10.out).2.1); (case side3 => repeat (first | exact (zN HO739.out).2.2 | (with_reducible refine zG ?_ _) | (with_reducible refine zH ?_ _) | (with_reducible refine zI ?_))); (case side4 => exact (zN HO739.out).2.1); rintro e w46 ⟨rfl, hb⟩; refine ⟨_, rfl, ?_⟩; have n0_ := zM (zP (by (with_reducible repeat (first | apply zA | apply zB | apply zC)); exact HO_6.out) hb); have n1_ := zM (zP (by (with_reducible repeat (first | apply zA | apply zB | apply zC)); exact HO_7.out) hb); have n2_ := zM (zP (by (with_reducible repeat (first | apply zA | apply zB | apply zC)); exact HO_10.out) hb); have n3_ := zM (zP (by (with_reducible repeat (first | apply zA | apply zB | apply zC)); exact HO_11.out) hb); have n4_ := zM (zP (by (with_reducible repeat (first | apply zA | apply zB | apply zC)); exact HO_12.out) hb); have n5_ := zM (zP (by (with_reducible repeat (first | apply zA | apply zB | apply zC)); exact HO739.out) hb); have n6_ := zM (zQ (by repeat (first | (with_reducible first | exact HB.out | apply zD | apply zE | apply zF) | exact HB.out)) hb); clear HO_6; clear HO_7; clear HO_10; clear HO_11; clear HO_12; clear HO739; clear HB; have HO_6 := n0_; have HO_7 := n1_; have HO_10 := n2_; have HO_11 := n3_; have HO_12 := n4_; have HO739 := n5_; have HB := n6_; clear n0_ n1_ n2_ n3_ n4_ n5_ n6_; (try clear hb); (try clear hb2); (try clear hk); (try clear hi)) | ((with_reducible refine gate_callee (f := 31) rfl ?_); refine goesL_ (some 73) rfl rfl Try.func31 (by kernel_rfl) rfl #[.slice Ao14 t724.length co14, .int .i64 1] rfl (by (try simp only [List.map_toArray, List.map_cons, List.map_nil]); first | done | rfl | (simp only [List.length_drop, List.length_take]; rfl)) ?_; (with_reducible refine (laws_markShipS.calls kj8 (fun k_ => some k_ = (.slice Ao14 t724.length co14 : Value).ownBlock) (.slice Ao14 t724.length co14) t724 1 t741 t742 w _ ?side1 ?side2 A42.out).mono ?_); (case side1 => repeat (first | (with_reducible first | exact HB.out | apply zD | apply zE | apply zF) | exact HB.out)); (case side2 => exact Kd.R_tight rfl HO_10.out); rintro e w47 ⟨rfl, hy0, hb, hkp⟩; refine ⟨_, rfl, ?_⟩; have n0_ := zM (Kd.R_mono (ok' := fun k_ => some k_ ≠ (v731 : Value).ownBlock) (Kd.R_keptB ((Kd.R_apart' HO_6.out (Kd.R_typed HO_10.out) (by decide))) hkp (fun k_ hk_ hs_ => (hk_.2) hs_)) (fun k_ hk_ => hk_.1.1)); have n1_ := zM (Kd.R_mono (ok' := fun k_ => some k_ ≠ (v733 : Value).ownBlock) (Kd.R_keptB ((Kd.R_apart' HO_7.out (Kd.R_typed HO_10.out) (by decide))) hkp (fun k_ hk_ hs_ => (hk_.2) hs_)) (fun k_ hk_ => hk_.1.1)); have n2_ := zM (Kd.R_reok rfl hy0 (fun k_ e_ => HO_10.out.1 k_ e_)); have n3_ := zM (Kd.R_mono (ok' := fun k_ => some k_ ≠ (v720 : Value).ownBlock) (Kd.R_keptB ((Kd.R_apart' HO_11.out (Kd.R_typed HO_10.out) (by decide))) hkp (fun k_ hk_ hs_ => (hk_.2) hs_)) (fun k_ hk_ => hk_.1.1)); have n4_ := zM (Kd.R_mono (ok' := fun k_ => some k_ ≠ (v722 : Value).ownBlock) (Kd.R_keptB ((Kd.R_apart' HO_12.out (Kd.R_typed HO_10.out) (by decide))) hkp (fun k_ hk_ hs_ => (hk_.2) hs_)) (fun k_ hk_ => hk_.1.1)); have n5_ := zM (Kd.R_mono (ok' := fun k_ => some k_ ≠ (.slice Ao14 t724.length co14 : Value).ownBlock) (Kd.R_keptB (HO739.out) hkp (fun k_ hk_ hs_ => (hk_.2) hs_)) (fun k_ hk_ => hk_.1.2)); have n6_ := zM (hb); clear HO_6; clear HO_7; clear HO_10; clear HO_11; clear HO_12; clear HO739; clear HB; have HO_6 := n0_; have HO_7 := n1_; have HO_10 := n2_; have HO_11 := n3_; have HO_12 := n4_; have HO739 := n5_; have HB := n6_; clear n0_ n1_ n2_ n3_ n4_ n5_ n6_; (try clear hb); (try clear hkp); (try clear hy0)))
      (try simp only [Act.put, List.setIfInBounds_toArray, List.set_cons_zero, List.set_cons_succ])
      go_cut [97] (fun v97 wc => ∃ (kq : Nat) (x97_42 : Bool), v97 = .bool x97_42 ∧ Aside0 (laws_FnExactBestOrder.j1 kq a0 l1 t716 t717 t718 t719 t727 t728 x97_42 = some r) ∧ Aside0 (kq ≤ kj8) ∧ Aside0 (Kd.R (Kd.int .i64) 3 wc w.heap.size (fun k_ => some k_ ≠ (v731 : Value).ownBlock) v720 t716) ∧ Aside0 (Kd.R k37 37 wc w.heap.size (fun k_ => some k_ ≠ (v733 : Value).ownBlock) v722 t717) ∧ Aside0 (Kd.R (Kd.int .i64) 3 wc w.heap.size (fun k_ => some k_ ≠ (v720 : Value).ownBlock) v731 t727) ∧ Aside0 (Kd.R k37 37 wc w.heap.size (fun k_ => some k_ ≠ (v722 : Value).ownBlock) v733 t728) ∧ Aside0 (Below w.heap.size w wc))
      case first =>
       have H := HC43.out
       clear HC43
       by_cases c48 : t741 < 0
       ·rw [if_pos c48] at H
        have c48b0 : decide (t741 < 0) = true := decide_eq_true c48
        clear c48
        (first | rw [c48b0] | (simp only [i64_w, i32_w]; rw [c48b0]) | skip)
        have H' := zM H
        clear H
        go_wp2
        go_meet
        case rel => exact ⟨_, (true), (by first | rfl | (simp; done) | (simp [*]; done)), H', ⟨by have := HJ8.out; first | omega | exact Nat.le_refl _⟩, ⟨by (with_reducible repeat (first | apply zA | apply zB | apply zC)); exact HO_6.out⟩, ⟨by (with_reducible repeat (first | apply zA | apply zB | apply zC)); exact HO_7.out⟩, ⟨by (with_reducible repeat (first | apply zA | apply zB | apply zC)); exact HO_11.out⟩, ⟨by (with_reducible repeat (first | apply zA | apply zB | apply zC)); exact HO_12.out⟩, ⟨by repeat (first | (with_reducible first | exact HB.out | apply zD | apply zE | apply zF) | exact HB.out)⟩⟩
       ·rw [if_neg c48] at H
        have c48b0 : decide (t741 < 0) = false := decide_eq_false c48
        clear c48
        (first | rw [c48b0] | (simp only [i64_w, i32_w]; rw [c48b0]) | skip)
        replace H := Option.bind_eq_some_iff.mp H
        obtain ⟨t743, A490, H⟩ := H
        replace H : (if t743 = true then ((laws_eqBerthS.f kj8 t728 t717).bind fun t744 => (if t744 = true then (if t729 = t718 then (laws_FnExactBestOrder.j1 kj8 a0 l1 t716 t717 t718 t719 t727 t728 (t730 != t719)) else (laws_FnExactBestOrder.j1 kj8 a0 l1 t716 t717 t718 t719 t727 t728 true)) else (laws_FnExactBestOrder.j1 kj8 a0 l1 t716 t717 t718 t719 t727 t728 true))) else (laws_FnExactBestOrder.j1 kj8 a0 l1 t716 t717 t718 t719 t727 t728 true)) = some r := H
        have A49 := zM A490
        clear A490
        by_cases c50 : t743 = true
        ·subst c50
         have H1 : ((laws_eqBerthS.f kj8 t728 t717).bind fun t744 => (if t744 = true then (if t729 = t718 then (laws_FnExactBestOrder.j1 kj8 a0 l1 t716 t717 t718 t719 t727 t728 (t730 != t719)) else (laws_FnExactBestOrder.j1 kj8 a0 l1 t716 t717 t718 t719 t727 t728 true)) else (laws_FnExactBestOrder.j1 kj8 a0 l1 t716 t717 t718 t719 t727 t728 true))) = some r := by rw [if_pos rfl] at H; exact H
         clear H
         have H := H1
         clear H1
         replace H := Option.bind_eq_some_iff.mp H
         obtain ⟨t744, A510, H⟩ := H
         replace H : (if t744 = true then (if t729 = t718 then (laws_FnExactBestOrder.j1 kj8 a0 l1 t716 t717 t718 t719 t727 t728 (t730 != t719)) else (laws_FnExactBestOrder.j1 kj8 a0 l1 t716 t717 t718 t719 t727 t728 true)) else (laws_FnExactBestOrder.j1 kj8 a0 l1 t716 t717 t718 t719 t727 t728 true)) = some r := H
         have A51 := zM A510
         clear A510
         by_cases c52 : t744 = true
         ·subst c52
          have H1 : (if t729 = t718 then (laws_FnExactBestOrder.j1 kj8 a0 l1 t716 t717 t718 t719 t727 t728 (t730 != t719)) else (laws_FnExactBestOrder.j1 kj8 a0 l1 t716 t717 t718 t719 t727 t728 true)) = some r := by rw [if_pos rfl] at H; exact H
          clear H
          have H := H1
          clear H1
          by_cases c53 : t729 = t718
          ·rw [if_pos c53] at H
           have c53b0 : (t729 == t718) = true := beq_iff_eq.mpr c53
           have c53b1 : (t729 != t718) = false := bne_eq_false_iff_eq.mpr c53
           clear c53
           have H' := zM H
           clear H
           obtain ⟨Ao54, co54, eo54⟩ := Kd.R_slice HO_11.out
           subst eo54
           obtain ⟨Ao55, co55, eo55⟩ := Kd.R_slice HO_6.out
           subst eo55
           go_wp2_with (first | (go_at_call 30; (with_reducible refine (laws_eqIntS.calls kj8 _ _ t727 _ _ t716 true _ ?side1 ?side2 ?side3 ?side4 A49.out).mono ?_); (case side1 => repeat (first | exact (zN HO_11.out).2.2 | (with_reducible refine zG ?_ _) | (with_reducible refine zH ?_ _) | (with_reducible refine zI ?_))); (case side2 => exact (zN HO_11.out).2.1); (case side3 => repeat (first | exact (zN HO_6.out).2.2 | (with_reducible refine zG ?_ _) | (with_reducible refine zH ?_ _) | (with_reducible refine zI ?_))); (case side4 => exact (zN HO_6.out).2.1); rintro e w' ⟨rfl, ⟨nd, rfl⟩⟩; obtain ⟨Ao56, co56, eo56⟩ := Kd.R_slice HO_12.out; subst eo56; obtain ⟨Ao57, co57, eo57⟩ := Kd.R_slice HO_7.out; subst eo57) | (go_at_call 20; (with_reducible refine (laws_eqBerthS.calls kj8 _ _ t728 _ _ t717 true _ ?side1 ?side2 ?side3 ?side4 A51.out).mono ?_); (case side1 => repeat (first | exact (zN HO_12.out).2.2 | (with_reducible refine zG ?_ _) | (with_reducible refine zH ?_ _) | (with_reducible refine zI ?_))); (case side2 => exact (zN HO_12.out).2.1); (case side3 => repeat (first | exact (zN HO_7.out).2.2 | (with_reducible refine zG ?_ _) | (with_reducible refine zH ?_ _) | (with_reducible refine zI ?_))); (case side4 => exact (zN HO_7.out).2.1); rintro e w58 ⟨rfl, hb⟩; have n0_ := zM (zP (by (with_reducible repeat (first | apply zA | apply zB | apply zC)); exact HO_6.out) hb); have n1_ := zM (zP (by (with_reducible repeat (first | apply zA | apply zB | apply zC)); exact HO_7.out) hb); have n2_ := zM (zP (by (with_reducible repeat (first | apply zA | apply zB | apply zC)); exact HO_10.out) hb); have n3_ := zM (zP (by (with_reducible repeat (first | apply zA | apply zB | apply zC)); exact HO_11.out) hb); have n4_ := zM (zP (by (with_reducible repeat (first | apply zA | apply zB | apply zC)); exact HO_12.out) hb); have n5_ := zM (zP (by (with_reducible repeat (first | apply zA | apply zB | apply zC)); exact HO739.out) hb); have n6_ := zM (zQ (by repeat (first | (with_reducible first | exact HB.out | apply zD | apply zE | apply zF) | exact HB.out)) hb); clear HO_6; clear HO_7; clear HO_10; clear HO_11; clear HO_12; clear HO739; clear HB; have HO_6 := n0_; have HO_7 := n1_; have HO_10 := n2_; have HO_11 := n3_; have HO_12 := n4_; have HO739 := n5_; have HB := n6_; clear n0_ n1_ n2_ n3_ n4_ n5_ n6_; (try clear hb); (try clear hb2); (try clear hk); (try clear hi)))
           go_meet
           case rel => exact ⟨_, ((t730 != t719)), (by first | rfl | (simp; done) | (simp [*]; done)), H', ⟨by have := HJ8.out; first | omega | exact Nat.le_refl _⟩, ⟨by (with_reducible repeat (first | apply zA | apply zB | apply zC)); exact HO_6.out⟩, ⟨by (with_reducible repeat (first | apply zA | apply zB | apply zC)); exact HO_7.out⟩, ⟨by (with_reducible repeat (first | apply zA | apply zB | apply zC)); exact HO_11.out⟩, ⟨by (with_reducible repeat (first | apply zA | apply zB | apply zC)); exact HO_12.out⟩, ⟨by repeat (first | (with_reducible first | exact HB.out | apply zD | apply zE | apply zF) | exact HB.out)⟩⟩
          ·rw [if_neg c53] at H
           have c53b0 : (t729 == t718) = false := beq_eq_false_iff_ne.mpr c53
           have c53b1 : (t729 != t718) = true := bne_iff_ne.mpr c53
           have H' := zM H
           clear H
           obtain ⟨Ao59, co59, eo59⟩ := Kd.R_slice HO_11.out
           subst eo59
           obtain ⟨Ao60, co60, eo60⟩ := Kd.R_slice HO_6.out
           subst eo60
           go_wp2_with (first | (go_at_call 30; (with_reducible refine (laws_eqIntS.calls kj8 _ _ t727 _ _ t716 true _ ?side1 ?side2 ?side3 ?side4 A49.out).mono ?_); (case side1 => repeat (first | exact (zN HO_11.out).2.2 | (with_reducible refine zG ?_ _) | (with_reducible refine zH ?_ _) | (with_reducible refine zI ?_))); (case side2 => exact (zN HO_11.out).2.1); (case side3 => repeat (first | exact (zN HO_6.out).2.2 | (with_reducible refine zG ?_ _) | (with_reducible refine zH ?_ _) | (with_reducible refine zI ?_))); (case side4 => exact (zN HO_6.out).2.1); rintro e w' ⟨rfl, ⟨nd, rfl⟩⟩; obtain ⟨Ao61, co61, eo61⟩ := Kd.R_slice HO_12.out; subst eo61; obtain ⟨Ao62, co62, eo62⟩ := Kd.R_slice HO_7.out; subst eo62) | (go_at_call 20; (with_reducible refine (laws_eqBerthS.calls kj8 _ _ t728 _ _ t717 true _ ?side1 ?side2 ?side3 ?side4 A51.out).mono ?_); (case side1 => repeat (first | exact (zN HO_12.out).2.2 | (with_reducible refine zG ?_ _) | (with_reducible refine zH ?_ _) | (with_reducible refine zI ?_))); (case side2 => exact (zN HO_12.out).2.1); (case side3 => repeat (first | exact (zN HO_7.out).2.2 | (with_reducible refine zG ?_ _) | (with_reducible refine zH ?_ _) | (with_reducible refine zI ?_))); (case side4 => exact (zN HO_7.out).2.1); rintro e w63 ⟨rfl, hb⟩; have n0_ := zM (zP (by (with_reducible repeat (first | apply zA | apply zB | apply zC)); exact HO_6.out) hb); have n1_ := zM (zP (by (with_reducible repeat (first | apply zA | apply zB | apply zC)); exact HO_7.out) hb); have n2_ := zM (zP (by (with_reducible repeat (first | apply zA | apply zB | apply zC)); exact HO_10.out) hb); have n3_ := zM (zP (by (with_reducible repeat (first | apply zA | apply zB | apply zC)); exact HO_11.out) hb); have n4_ := zM (zP (by (with_reducible repeat (first | apply zA | apply zB | apply zC)); exact HO_12.out) hb); have n5_ := zM (zP (by (with_reducible repeat (first | apply zA | apply zB | apply zC)); exact HO739.out) hb); have n6_ := zM (zQ (by repeat (first | (with_reducible first | exact HB.out | apply zD | apply zE | apply zF) | exact HB.out)) hb); clear HO_6; clear HO_7; clear HO_10; clear HO_11; clear HO_12; clear HO739; clear HB; have HO_6 := n0_; have HO_7 := n1_; have HO_10 := n2_; have HO_11 := n3_; have HO_12 := n4_; have HO739 := n5_; have HB := n6_; clear n0_ n1_ n2_ n3_ n4_ n5_ n6_; (try clear hb); (try clear hb2); (try clear hk); (try clear hi)))
           go_meet
           case rel => exact ⟨_, (true), (by first | rfl | (simp; done) | (simp [*]; done)), H', ⟨by have := HJ8.out; first | omega | exact Nat.le_refl _⟩, ⟨by (with_reducible repeat (first | apply zA | apply zB | apply zC)); exact HO_6.out⟩, ⟨by (with_reducible repeat (first | apply zA | apply zB | apply zC)); exact HO_7.out⟩, ⟨by (with_reducible repeat (first | apply zA | apply zB | apply zC)); exact HO_11.out⟩, ⟨by (with_reducible repeat (first | apply zA | apply zB | apply zC)); exact HO_12.out⟩, ⟨by repeat (first | (with_reducible first | exact HB.out | apply zD | apply zE | apply zF) | exact HB.out)⟩⟩
         ·replace c52 := Bool.eq_false_iff.mpr c52
          subst c52
          have H1 : (laws_FnExactBestOrder.j1 kj8 a0 l1 t716 t717 t718 t719 t727 t728 true) = some r := by rw [if_neg (show ¬ (false = true) by decide)] at H; exact H
          clear H
          have H := H1
          clear H1
          have H' := zM H
          clear H
          obtain ⟨Ao64, co64, eo64⟩ := Kd.R_slice HO_11.out
          subst eo64
          obtain ⟨Ao65, co65, eo65⟩ := Kd.R_slice HO_6.out
          subst eo65
          go_wp2_with (first | (go_at_call 30; (with_reducible refine (laws_eqIntS.calls kj8 _ _ t727 _ _ t716 true _ ?side1 ?side2 ?side3 ?side4 A49.out).mono ?_); (case side1 => repeat (first | exact (zN HO_11.out).2.2 | (with_reducible refine zG ?_ _) | (with_reducible refine zH ?_ _) | (with_reducible refine zI ?_))); (case side2 => exact (zN HO_11.out).2.1); (case side3 => repeat (first | exact (zN HO_6.out).2.2 | (with_reducible refine zG ?_ _) | (with_reducible refine zH ?_ _) | (with_reducible refine zI ?_))); (case side4 => exact (zN HO_6.out).2.1); rintro e w' ⟨rfl, ⟨nd, rfl⟩⟩; obtain ⟨Ao66, co66, eo66⟩ := Kd.R_slice HO_12.out; subst eo66; obtain ⟨Ao67, co67, eo67⟩ := Kd.R_slice HO_7.out; subst eo67) | (go_at_call 20; (with_reducible refine (laws_eqBerthS.calls kj8 _ _ t728 _ _ t717 false _ ?side1 ?side2 ?side3 ?side4 A51.out).mono ?_); (case side1 => repeat (first | exact (zN HO_12.out).2.2 | (with_reducible refine zG ?_ _) | (with_reducible refine zH ?_ _) | (with_reducible refine zI ?_))); (case side2 => exact (zN HO_12.out).2.1); (case side3 => repeat (first | exact (zN HO_7.out).2.2 | (with_reducible refine zG ?_ _) | (with_reducible refine zH ?_ _) | (with_reducible refine zI ?_))); (case side4 => exact (zN HO_7.out).2.1); rintro e w68 ⟨rfl, hb⟩; have n0_ := zM (zP (by (with_reducible repeat (first | apply zA | apply zB | apply zC)); exact HO_6.out) hb); have n1_ := zM (zP (by (with_reducible repeat (first | apply zA | apply zB | apply zC)); exact HO_7.out) hb); have n2_ := zM (zP (by (with_reducible repeat (first | apply zA | apply zB | apply zC)); exact HO_10.out) hb); have n3_ := zM (zP (by (with_reducible repeat (first | apply zA | apply zB | apply zC)); exact HO_11.out) hb); have n4_ := zM (zP (by (with_reducible repeat (first | apply zA | apply zB | apply zC)); exact HO_12.out) hb); have n5_ := zM (zP (by (with_reducible repeat (first | apply zA | apply zB | apply zC)); exact HO739.out) hb); have n6_ := zM (zQ (by repeat (first | (with_reducible first | exact HB.out | apply zD | apply zE | apply zF) | exact HB.out)) hb); clear HO_6; clear HO_7; clear HO_10; clear HO_11; clear HO_12; clear HO739; clear HB; have HO_6 := n0_; have HO_7 := n1_; have HO_10 := n2_; have HO_11 := n3_; have HO_12 := n4_; have HO739 := n5_; have HB := n6_; clear n0_ n1_ n2_ n3_ n4_ n5_ n6_; (try clear hb); (try clear hb2); (try clear hk); (try clear hi)))
          go_meet
          case rel => exact ⟨_, (true), (by first | rfl | (simp; done) | (simp [*]; done)), H', ⟨by have := HJ8.out; first | omega | exact Nat.le_refl _⟩, ⟨by (with_reducible repeat (first | apply zA | apply zB | apply zC)); exact HO_6.out⟩, ⟨by (with_reducible repeat (first | apply zA | apply zB | apply zC)); exact HO_7.out⟩, ⟨by (with_reducible repeat (first | apply zA | apply zB | apply zC)); exact HO_11.out⟩, ⟨by (with_reducible repeat (first | apply zA | apply zB | apply zC)); exact HO_12.out⟩, ⟨by repeat (first | (with_reducible first | exact HB.out | apply zD | apply zE | apply zF) | exact HB.out)⟩⟩
        ·replace c50 := Bool.eq_false_iff.mpr c50
         subst c50
         have H1 : (laws_FnExactBestOrder.j1 kj8 a0 l1 t716 t717 t718 t719 t727 t728 true) = some r := by rw [if_neg (show ¬ (false = true) by decide)] at H; exact H
         clear H
         have H := H1
         clear H1
         have H' := zM H
         clear H
         obtain ⟨Ao69, co69, eo69⟩ := Kd.R_slice HO_11.out
         subst eo69
         obtain ⟨Ao70, co70, eo70⟩ := Kd.R_slice HO_6.out
         subst eo70
         go_wp2_with (first | (go_at_call 30; (with_reducible refine (laws_eqIntS.calls kj8 _ _ t727 _ _ t716 false _ ?side1 ?side2 ?side3 ?side4 A49.out).mono ?_); (case side1 => repeat (first | exact (zN HO_11.out).2.2 | (with_reducible refine zG ?_ _) | (with_reducible refine zH ?_ _) | (with_reducible refine zI ?_))); (case side2 => exact (zN HO_11.out).2.1); (case side3 => repeat (first | exact (zN HO_6.out).2.2 | (with_reducible refine zG ?_ _) | (with_reducible refine zH ?_ _) | (with_reducible refine zI ?_))); (case side4 => exact (zN HO_6.out).2.1); rintro e w' ⟨rfl, ⟨nd, rfl⟩⟩))
         go_meet
         case rel => exact ⟨_, (true), (by first | rfl | (simp; done) | (simp [*]; done)), H', ⟨by have := HJ8.out; first | omega | exact Nat.le_refl _⟩, ⟨by (with_reducible repeat (first | apply zA | apply zB | apply zC)); exact HO_6.out⟩, ⟨by (with_reducible repeat (first | apply zA | apply zB | apply zC)); exact HO_7.out⟩, ⟨by (with_reducible repeat (first | apply zA | apply zB | apply zC)); exact HO_11.out⟩, ⟨by (with_reducible repeat (first | apply zA | apply zB | apply zC)); exact HO_12.out⟩, ⟨by repeat (first | (with_reducible first | exact HB.out | apply zD | apply zE | apply zF) | exact HB.out)⟩⟩
      case rest =>
       clear HC43
       try clear c1
       try clear c2
       try clear p2
       try clear c3
       try clear c4
       try clear c4b0
       try clear c5
       try clear c10
       try clear c13
       try clear c16
       try clear c17
       try clear c19
       try clear c20
       try clear c20b0
       try clear c20b1
       try clear c30
       try clear c31
       try clear c38
       try clear c41
       try clear c42
       try clear c48
       try clear c48b0
       try clear c50
       try clear c52
       try clear c53
       try clear c53b0
       try clear c53b1
       try clear p2
       obtain ⟨kq, x97_42, rfl, HA, HJ42, HO_6, HO_7, HO_11, HO_12, HB⟩ := hcut
       cases kq with
       | zero => exact absurd HA.out (by simp [laws_FnExactBestOrder.j1])
       | succ kj42 =>
        have H := HA.out
        clear HA
        simp only [laws_FnExactBestOrder.j1] at H
        by_cases c71 : x97_42 = true
        ·subst c71
         have H1 : (some false) = some r := by rw [if_pos rfl] at H; exact H
         clear H
         have H := H1
         clear H1
         obtain rfl := Option.some.inj H
         go_wp2
         go_ret
         exact ⟨by first | rfl | (simp [errW_none, errW_some] <;> rfl) | (simp [*, errW_none, errW_some] <;> rfl), by repeat (first | (with_reducible first | exact HB.out | apply zD | apply zE | apply zF) | exact HB.out)⟩
        ·replace c71 := Bool.eq_false_iff.mpr c71
         subst c71
         have H1 : ((laws_markIntS.f kj42 t727 1).bind fun bt745 => ((laws_markBerthS.f kj42 t728 bt745.1).bind fun bt747 => ((laws_heldIntS.f kj42 bt745.2 1).bind fun t749 => (if t749 < 0 then (some false) else ((laws_heldBerthS.f kj42 bt747.2 t749).bind fun t750 => (if t750 < 0 then (some false) else (if t750 = bt747.1 then ((laws_toShipS.f kj42 l1).bind fun t751 => ((impl_BestOrder.f a0 t751).bind fun bt754 => ((laws_eqIntS.f kj42 bt754.1 t716).bind fun t762 => (if t762 = true then ((laws_eqBerthS.f kj42 bt754.2.1 t717).bind fun t763 => (if t763 = true then (if bt754.2.2.1 = t718 then (laws_FnExactBestOrder.j2 kj42 bt745.2 bt747.2 bt747.1 (bt754.2.2.2 != t719)) else (laws_FnExactBestOrder.j2 kj42 bt745.2 bt747.2 bt747.1 true)) else (laws_FnExactBestOrder.j2 kj42 bt745.2 bt747.2 bt747.1 true))) else (laws_FnExactBestOrder.j2 kj42 bt745.2 bt747.2 bt747.1 true))))) else (some false)))))))) = some r := by rw [if_neg (show ¬ (false = true) by decide)] at H; exact H
         clear H
         have H := H1
         clear H1
         replace H := Option.bind_eq_some_iff.mp H
         obtain ⟨⟨t745, t746⟩, A720, H⟩ := H
         replace H : ((laws_markBerthS.f kj42 t728 t745).bind fun bt747 => ((laws_heldIntS.f kj42 t746 1).bind fun t749 => (if t749 < 0 then (some false) else ((laws_heldBerthS.f kj42 bt747.2 t749).bind fun t750 => (if t750 < 0 then (some false) else (if t750 = bt747.1 then ((laws_toShipS.f kj42 l1).bind fun t751 => ((impl_BestOrder.f a0 t751).bind fun bt754 => ((laws_eqIntS.f kj42 bt754.1 t716).bind fun t762 => (if t762 = true then ((laws_eqBerthS.f kj42 bt754.2.1 t717).bind fun t763 => (if t763 = true then (if bt754.2.2.1 = t718 then (laws_FnExactBestOrder.j2 kj42 t746 bt747.2 bt747.1 (bt754.2.2.2 != t719)) else (laws_FnExactBestOrder.j2 kj42 t746 bt747.2 bt747.1 true)) else (laws_FnExactBestOrder.j2 kj42 t746 bt747.2 bt747.1 true))) else (laws_FnExactBestOrder.j2 kj42 t746 bt747.2 bt747.1 true))))) else (some false))))))) = some r := H
         have A72 := zM A720
         clear A720
         replace H := Option.bind_eq_some_iff.mp H
         obtain ⟨⟨t747, t748⟩, A730, H⟩ := H
         replace H : ((laws_heldIntS.f kj42 t746 1).bind fun t749 => (if t749 < 0 then (some false) else ((laws_heldBerthS.f kj42 t748 t749).bind fun t750 => (if t750 < 0 then (some false) else (if t750 = t747 then ((laws_toShipS.f kj42 l1).bind fun t751 => ((impl_BestOrder.f a0 t751).bind fun bt754 => ((laws_eqIntS.f kj42 bt754.1 t716).bind fun t762 => (if t762 = true then ((laws_eqBerthS.f kj42 bt754.2.1 t717).bind fun t763 => (if t763 = true then (if bt754.2.2.1 = t718 then (laws_FnExactBestOrder.j2 kj42 t746 t748 t747 (bt754.2.2.2 != t719)) else (laws_FnExactBestOrder.j2 kj42 t746 t748 t747 true)) else (laws_FnExactBestOrder.j2 kj42 t746 t748 t747 true))) else (laws_FnExactBestOrder.j2 kj42 t746 t748 t747 true))))) else (some false)))))) = some r := H
         have A73 := zM A730
         clear A730
         replace H := Option.bind_eq_some_iff.mp H
         obtain ⟨t749, A740, H⟩ := H
         replace H : (if t749 < 0 then (some false) else ((laws_heldBerthS.f kj42 t748 t749).bind fun t750 => (if t750 < 0 then (some false) else (if t750 = t747 then ((laws_toShipS.f kj42 l1).bind fun t751 => ((impl_BestOrder.f a0 t751).bind fun bt754 => ((laws_eqIntS.f kj42 bt754.1 t716).bind fun t762 => (if t762 = true then ((laws_eqBerthS.f kj42 bt754.2.1 t717).bind fun t763 => (if t763 = true then (if bt754.2.2.1 = t718 then (laws_FnExactBestOrder.j2 kj42 t746 t748 t747 (bt754.2.2.2 != t719)) else (laws_FnExactBestOrder.j2 kj42 t746 t748 t747 true)) else (laws_FnExactBestOrder.j2 kj42 t746 t748 t747 true))) else (laws_FnExactBestOrder.j2 kj42 t746 t748 t747 true))))) else (some false))))) = some r := H
         have A74 := zM A740
         clear A740
         by_cases c75 : t749 < 0
         ·rw [if_pos c75] at H
          have c75b0 : decide (t749 < 0) = true := decide_eq_true c75
          clear c75
          obtain rfl := Option.some.inj H
          obtain ⟨Ao76, co76, eo76⟩ := Kd.R_slice HO_11.out
          subst eo76
          go_wp2_with (first | ((with_reducible refine gate_callee (f := 33) rfl ?_); refine goesL_ (some 100) rfl rfl Try.func33 (by kernel_rfl) rfl #[.slice Ao76 t727.length co76, .int .i64 1] rfl (by (try simp only [List.map_toArray, List.map_cons, List.map_nil]); first | done | rfl | (simp only [List.length_drop, List.length_take]; rfl)) ?_; (with_reducible refine (laws_markIntS.calls kj42 (fun k_ => some k_ = (.slice Ao76 t727.length co76 : Value).ownBlock) (.slice Ao76 t727.length co76) t727 1 t745 t746 w _ ?side1 ?side2 A72.out).mono ?_); (case side1 => repeat (first | (with_reducible first | exact HB.out | apply zD | apply zE | apply zF) | exact HB.out)); (case side2 => exact Kd.R_tight rfl HO_11.out); rintro e w77 ⟨rfl, hy0, hb, hkp⟩; refine ⟨_, rfl, ?_⟩; have n0_ := zM (Kd.R_mono (ok' := fun k_ => some k_ ≠ (.slice Ao76 t727.length co76 : Value).ownBlock) (Kd.R_keptB (HO_6.out) hkp (fun k_ hk_ hs_ => (hk_) hs_)) (fun k_ hk_ => hk_.1)); have n1_ := zM (Kd.R_mono (ok' := fun k_ => some k_ ≠ (v733 : Value).ownBlock) (Kd.R_keptB ((Kd.R_apart' HO_7.out (Kd.R_typed HO_11.out) (by decide))) hkp (fun k_ hk_ hs_ => (hk_.2) hs_)) (fun k_ hk_ => hk_.1.1)); have n2_ := zM (Kd.R_reok rfl hy0 (fun k_ e_ => HO_11.out.1 k_ e_)); have n3_ := zM (Kd.R_mono (ok' := fun k_ => some k_ ≠ (v722 : Value).ownBlock) (Kd.R_keptB ((Kd.R_apart' HO_12.out (Kd.R_typed HO_11.out) (by decide))) hkp (fun k_ hk_ hs_ => (hk_.2) hs_)) (fun k_ hk_ => hk_.1.1)); have n4_ := zM (hb); clear HO_6; clear HO_7; clear HO_11; clear HO_12; clear HB; have HO_6 := n0_; have HO_7 := n1_; have HO_11 := n2_; have HO_12 := n3_; have HB := n4_; clear n0_ n1_ n2_ n3_ n4_; (try clear hb); (try clear hkp); (try clear hy0); obtain ⟨Ao78, co78, eo78⟩ := Kd.R_slice HO_12.out; subst eo78) | ((with_reducible refine gate_callee (f := 32) rfl ?_); refine goesL_ (some 103) rfl rfl Try.func32 (by kernel_rfl) rfl #[.slice Ao78 t728.length co78, .int .i64 t745] rfl (by (try simp only [List.map_toArray, List.map_cons, List.map_nil]); first | done | rfl | (simp only [List.length_drop, List.length_take]; rfl)) ?_; (with_reducible refine (laws_markBerthS.calls kj42 (fun k_ => some k_ = (.slice Ao78 t728.length co78 : Value).ownBlock) (.slice Ao78 t728.length co78) t728 t745 t747 t748 w _ ?side1 ?side2 A73.out).mono ?_); (case side1 => repeat (first | (with_reducible first | exact HB.out | apply zD | apply zE | apply zF) | exact HB.out)); (case side2 => exact Kd.R_tight rfl HO_12.out); rintro e w79 ⟨rfl, hy0, hb, hkp⟩; refine ⟨_, rfl, ?_⟩; have n0_ := zM (Kd.R_mono (ok' := fun k_ => some k_ ≠ (.slice Ao76 t727.length co76 : Value).ownBlock) (Kd.R_keptB ((Kd.R_apart' HO_6.out (Kd.R_typed HO_12.out) (by decide))) hkp (fun k_ hk_ hs_ => (hk_.2) hs_)) (fun k_ hk_ => hk_.1.1)); have n1_ := zM (Kd.R_mono (ok' := fun k_ => some k_ ≠ (.slice Ao78 t728.length co78 : Value).ownBlock) (Kd.R_keptB (HO_7.out) hkp (fun k_ hk_ hs_ => (hk_) hs_)) (fun k_ hk_ => hk_.1)); have n2_ := zM (Kd.R_mono (ok' := fun k_ => some k_ ≠ (v720 : Value).ownBlock) (Kd.R_keptB ((Kd.R_apart' HO_11.out (Kd.R_typed HO_12.out) (by decide))) hkp (fun k_ hk_ hs_ => (hk_.2) hs_)) (fun k_ hk_ => hk_.1.1)); have n3_ := zM (Kd.R_reok rfl hy0 (fun k_ e_ => HO_12.out.1 k_ e_)); have n4_ := zM (hb); clear HO_6; clear HO_7; clear HO_11; clear HO_12; clear HB; have HO_6 := n0_; have HO_7 := n1_; have HO_11 := n2_; have HO_12 := n3_; have HB := n4_; clear n0_ n1_ n2_ n3_ n4_; (try clear hb); (try clear hkp); (try clear hy0)) | ((with_reducible refine gate_callee (f := 34) rfl ?_); refine goesL_ (some 106) rfl rfl Try.func34 (by kernel_rfl) rfl #[.slice Ao76 t746.length co76, .int .i64 1] rfl (by (try simp only [List.map_toArray, List.map_cons, List.map_nil]); first | done | (rw [show t746.length = t727.length from (zN HO_11.out).1.symm] <;> rfl) | rfl | (simp only [List.length_drop, List.length_take]; rfl)) ?_; (with_reducible refine (laws_heldIntS.calls kj42 _ _ t746 1 t749 _ ?side1 ?side2 A74.out).mono ?_); (case side1 => repeat (first | exact (zN HO_11.out).2.2 | (with_reducible refine zG ?_ _) | (with_reducible refine zH ?_ _) | (with_reducible refine zI ?_))); (case side2 => rw [show t746.length = t727.length from (zN HO_11.out).1.symm]; exact (zN HO_11.out).2.1); rintro e w' ⟨rfl, ⟨nd, rfl⟩⟩; refine ⟨_, rfl, ?_⟩))
          go_ret
          exact ⟨by first | rfl | (simp [errW_none, errW_some] <;> rfl) | (simp [*, errW_none, errW_some] <;> rfl), by repeat (first | (with_reducible first | exact HB.out | apply zD | apply zE | apply zF) | exact HB.out)⟩
         ·rw [if_neg c75] at H
          have c75b0 : decide (t749 < 0) = false := decide_eq_false c75
          clear c75
          replace H := Option.bind_eq_some_iff.mp H
          obtain ⟨t750, A800, H⟩ := H
          replace H : (if t750 < 0 then (some false) else (if t750 = t747 then ((laws_toShipS.f kj42 l1).bind fun t751 => ((impl_BestOrder.f a0 t751).bind fun bt754 => ((laws_eqIntS.f kj42 bt754.1 t716).bind fun t762 => (if t762 = true then ((laws_eqBerthS.f kj42 bt754.2.1 t717).bind fun t763 => (if t763 = true then (if bt754.2.2.1 = t718 then (laws_FnExactBestOrder.j2 kj42 t746 t748 t747 (bt754.2.2.2 != t719)) else (laws_FnExactBestOrder.j2 kj42 t746 t748 t747 true)) else (laws_FnExactBestOrder.j2 kj42 t746 t748 t747 true))) else (laws_FnExactBestOrder.j2 kj42 t746 t748 t747 true))))) else (some false))) = some r := H
          have A80 := zM A800
          clear A800
          by_cases c81 : t750 < 0
          ·rw [if_pos c81] at H
           have c81b0 : decide (t750 < 0) = true := decide_eq_true c81
           clear c81
           obtain rfl := Option.some.inj H
           obtain ⟨Ao82, co82, eo82⟩ := Kd.R_slice HO_11.out
           subst eo82
           go_wp2_with (first | ((with_reducible refine gate_callee (f := 33) rfl ?_); refine goesL_ (some 100) rfl rfl Try.func33 (by kernel_rfl) rfl #[.slice Ao82 t727.length co82, .int .i64 1] rfl (by (try simp only [List.map_toArray, List.map_cons, List.map_nil]); first | done | rfl | (simp only [List.length_drop, List.length_take]; rfl)) ?_; (with_reducible refine (laws_markIntS.calls kj42 (fun k_ => some k_ = (.slice Ao82 t727.length co82 : Value).ownBlock) (.slice Ao82 t727.length co82) t727 1 t745 t746 w _ ?side1 ?side2 A72.out).mono ?_); (case side1 => repeat (first | (with_reducible first | exact HB.out | apply zD | apply zE | apply zF) | exact HB.out)); (case side2 => exact Kd.R_tight rfl HO_11.out); rintro e w83 ⟨rfl, hy0, hb, hkp⟩; refine ⟨_, rfl, ?_⟩; have n0_ := zM (Kd.R_mono (ok' := fun k_ => some k_ ≠ (.slice Ao82 t727.length co82 : Value).ownBlock) (Kd.R_keptB (HO_6.out) hkp (fun k_ hk_ hs_ => (hk_) hs_)) (fun k_ hk_ => hk_.1)); have n1_ := zM (Kd.R_mono (ok' := fun k_ => some k_ ≠ (v733 : Value).ownBlock) (Kd.R_keptB ((Kd.R_apart' HO_7.out (Kd.R_typed HO_11.out) (by decide))) hkp (fun k_ hk_ hs_ => (hk_.2) hs_)) (fun k_ hk_ => hk_.1.1)); have n2_ := zM (Kd.R_reok rfl hy0 (fun k_ e_ => HO_11.out.1 k_ e_)); have n3_ := zM (Kd.R_mono (ok' := fun k_ => some k_ ≠ (v722 : Value).ownBlock) (Kd.R_keptB ((Kd.R_apart' HO_12.out (Kd.R_typed HO_11.out) (by decide))) hkp (fun k_ hk_ hs_ => (hk_.2) hs_)) (fun k_ hk_ => hk_.1.1)); have n4_ := zM (hb); clear HO_6; clear HO_7; clear HO_11; clear HO_12; clear HB; have HO_6 := n0_; have HO_7 := n1_; have HO_11 := n2_; have HO_12 := n3_; have HB := n4_; clear n0_ n1_ n2_ n3_ n4_; (try clear hb); (try clear hkp); (try clear hy0); obtain ⟨Ao84, co84, eo84⟩ := Kd.R_slice HO_12.out; subst eo84) | ((with_reducible refine gate_callee (f := 32) rfl ?_); refine goesL_ (some 103) rfl rfl Try.func32 (by kernel_rfl) rfl #[.slice Ao84 t728.length co84, .int .i64 t745] rfl (by (try simp only [List.map_toArray, List.map_cons, List.map_nil]); first | done | rfl | (simp only [List.length_drop, List.length_take]; rfl)) ?_; (with_reducible refine (laws_markBerthS.calls kj42 (fun k_ => some k_ = (.slice Ao84 t728.length co84 : Value).ownBlock) (.slice Ao84 t728.length co84) t728 t745 t747 t748 w _ ?side1 ?side2 A73.out).mono ?_); (case side1 => repeat (first | (with_reducible first | exact HB.out | apply zD | apply zE | apply zF) | exact HB.out)); (case side2 => exact Kd.R_tight rfl HO_12.out); rintro e w85 ⟨rfl, hy0, hb, hkp⟩; refine ⟨_, rfl, ?_⟩; have n0_ := zM (Kd.R_mono (ok' := fun k_ => some k_ ≠ (.slice Ao82 t727.length co82 : Value).ownBlock) (Kd.R_keptB ((Kd.R_apart' HO_6.out (Kd.R_typed HO_12.out) (by decide))) hkp (fun k_ hk_ hs_ => (hk_.2) hs_)) (fun k_ hk_ => hk_.1.1)); have n1_ := zM (Kd.R_mono (ok' := fun k_ => some k_ ≠ (.slice Ao84 t728.length co84 : Value).ownBlock) (Kd.R_keptB (HO_7.out) hkp (fun k_ hk_ hs_ => (hk_) hs_)) (fun k_ hk_ => hk_.1)); have n2_ := zM (Kd.R_mono (ok' := fun k_ => some k_ ≠ (v720 : Value).ownBlock) (Kd.R_keptB ((Kd.R_apart' HO_11.out (Kd.R_typed HO_12.out) (by decide))) hkp (fun k_ hk_ hs_ => (hk_.2) hs_)) (fun k_ hk_ => hk_.1.1)); have n3_ := zM (Kd.R_reok rfl hy0 (fun k_ e_ => HO_12.out.1 k_ e_)); have n4_ := zM (hb); clear HO_6; clear HO_7; clear HO_11; clear HO_12; clear HB; have HO_6 := n0_; have HO_7 := n1_; have HO_11 := n2_; have HO_12 := n3_; have HB := n4_; clear n0_ n1_ n2_ n3_ n4_; (try clear hb); (try clear hkp); (try clear hy0)) | ((with_reducible refine gate_callee (f := 34) rfl ?_); refine goesL_ (some 106) rfl rfl Try.func34 (by kernel_rfl) rfl #[.slice Ao82 t746.length co82, .int .i64 1] rfl (by (try simp only [List.map_toArray, List.map_cons, List.map_nil]); first | done | (rw [show t746.length = t727.length from (zN HO_11.out).1.symm] <;> rfl) | rfl | (simp only [List.length_drop, List.length_take]; rfl)) ?_; (with_reducible refine (laws_heldIntS.calls kj42 _ _ t746 1 t749 _ ?side1 ?side2 A74.out).mono ?_); (case side1 => repeat (first | exact (zN HO_11.out).2.2 | (with_reducible refine zG ?_ _) | (with_reducible refine zH ?_ _) | (with_reducible refine zI ?_))); (case side2 => rw [show t746.length = t727.length from (zN HO_11.out).1.symm]; exact (zN HO_11.out).2.1); rintro e w' ⟨rfl, ⟨nd, rfl⟩⟩; refine ⟨_, rfl, ?_⟩) | ((with_reducible refine gate_callee (f := 40) rfl ?_); refine goesL_ (some 111) rfl rfl Try.func40 (by kernel_rfl) rfl #[.slice Ao84 t748.length co84, .int .i64 t749] rfl (by (try simp only [List.map_toArray, List.map_cons, List.map_nil]); first | done | (rw [show t748.length = t728.length from (zN HO_12.out).1.symm] <;> rfl) | rfl | (simp only [List.length_drop, List.length_take]; rfl)) ?_; (with_reducible refine (laws_heldBerthS.calls kj42 _ _ t748 t749 t750 _ ?side1 ?side2 A80.out).mono ?_); (case side1 => repeat (first | exact (zN HO_12.out).2.2 | (with_reducible refine zG ?_ _) | (with_reducible refine zH ?_ _) | (with_reducible refine zI ?_))); (case side2 => rw [show t748.length = t728.length from (zN HO_12.out).1.symm]; exact (zN HO_12.out).2.1); rintro e w' ⟨rfl, ⟨nd, rfl⟩⟩; refine ⟨_, rfl, ?_⟩))
           go_ret
           exact ⟨by first | rfl | (simp [errW_none, errW_some] <;> rfl) | (simp [*, errW_none, errW_some] <;> rfl), by repeat (first | (with_reducible first | exact HB.out | apply zD | apply zE | apply zF) | exact HB.out)⟩
          ·rw [if_neg c81] at H
           have c81b0 : decide (t750 < 0) = false := decide_eq_false c81
           clear c81
           by_cases c86 : t750 = t747
           ·rw [if_pos c86] at H
            have c86b0 : (t750 == t747) = true := beq_iff_eq.mpr c86
            have c86b1 : (t750 != t747) = false := bne_eq_false_iff_eq.mpr c86
            clear c86
            replace H := Option.bind_eq_some_iff.mp H
            obtain ⟨t751, A870, H⟩ := H
            replace H : ((impl_BestOrder.f a0 t751).bind fun bt754 => ((laws_eqIntS.f kj42 bt754.1 t716).bind fun t762 => (if t762 = true then ((laws_eqBerthS.f kj42 bt754.2.1 t717).bind fun t763 => (if t763 = true then (if bt754.2.2.1 = t718 then (laws_FnExactBestOrder.j2 kj42 t746 t748 t747 (bt754.2.2.2 != t719)) else (laws_FnExactBestOrder.j2 kj42 t746 t748 t747 true)) else (laws_FnExactBestOrder.j2 kj42 t746 t748 t747 true))) else (laws_FnExactBestOrder.j2 kj42 t746 t748 t747 true)))) = some r := H
            have A87 := zM A870
            clear A870
            replace H := Option.bind_eq_some_iff.mp H
            obtain ⟨⟨t754, t755, t756, t757⟩, A880, H⟩ := H
            replace H : ((laws_eqIntS.f kj42 t754 t716).bind fun t762 => (if t762 = true then ((laws_eqBerthS.f kj42 t755 t717).bind fun t763 => (if t763 = true then (if t756 = t718 then (laws_FnExactBestOrder.j2 kj42 t746 t748 t747 (t757 != t719)) else (laws_FnExactBestOrder.j2 kj42 t746 t748 t747 true)) else (laws_FnExactBestOrder.j2 kj42 t746 t748 t747 true))) else (laws_FnExactBestOrder.j2 kj42 t746 t748 t747 true))) = some r := H
            have A88 := zM A880
            clear A880
            have HC89 := zM H
            clear H
            obtain ⟨Ao90, co90, eo90⟩ := Kd.R_slice HO_11.out
            subst eo90
            go_upto_region 29 with (first | ((with_reducible refine gate_callee (f := 33) rfl ?_); refine goesL_ (some 100) rfl rfl Try.func33 (by kernel_rfl) rfl #[.slice Ao90 t727.length co90, .int .i64 1] rfl (by (try simp only [List.map_toArray, List.map_cons, List.map_nil]); first | done | rfl | (simp only [List.length_drop, List.length_take]; rfl)) ?_; (with_reducible refine (laws_markIntS.calls kj42 (fun k_ => some k_ = (.slice Ao90 t727.length co90 : Value).ownBlock) (.slice Ao90 t727.length co90) t727 1 t745 t746 w _ ?side1 ?side2 A72.out).mono ?_); (case side1 => repeat (first | (with_reducible first | exact HB.out | apply zD | apply zE | apply zF) | exact HB.out)); (case side2 => exact Kd.R_tight rfl HO_11.out); rintro e w91 ⟨rfl, hy0, hb, hkp⟩; refine ⟨_, rfl, ?_⟩; have n0_ := zM (Kd.R_mono (ok' := fun k_ => some k_ ≠ (.slice Ao90 t727.length co90 : Value).ownBlock) (Kd.R_keptB (HO_6.out) hkp (fun k_ hk_ hs_ => (hk_) hs_)) (fun k_ hk_ => hk_.1)); have n1_ := zM (Kd.R_mono (ok' := fun k_ => some k_ ≠ (v733 : Value).ownBlock) (Kd.R_keptB ((Kd.R_apart' HO_7.out (Kd.R_typed HO_11.out) (by decide))) hkp (fun k_ hk_ hs_ => (hk_.2) hs_)) (fun k_ hk_ => hk_.1.1)); have n2_ := zM (Kd.R_reok rfl hy0 (fun k_ e_ => HO_11.out.1 k_ e_)); have n3_ := zM (Kd.R_mono (ok' := fun k_ => some k_ ≠ (v722 : Value).ownBlock) (Kd.R_keptB ((Kd.R_apart' HO_12.out (Kd.R_typed HO_11.out) (by decide))) hkp (fun k_ hk_ hs_ => (hk_.2) hs_)) (fun k_ hk_ => hk_.1.1)); have n4_ := zM (hb); clear HO_6; clear HO_7; clear HO_11; clear HO_12; clear HB; have HO_6 := n0_; have HO_7 := n1_; have HO_11 := n2_; have HO_12 := n3_; have HB := n4_; clear n0_ n1_ n2_ n3_ n4_; (try clear hb); (try clear hkp); (try clear hy0); obtain ⟨Ao92, co92, eo92⟩ := Kd.R_slice HO_12.out; subst eo92) | ((with_reducible refine gate_callee (f := 32) rfl ?_); refine goesL_ (some 103) rfl rfl Try.func32 (by kernel_rfl) rfl #[.slice Ao92 t728.length co92, .int .i64 t745] rfl (by (try simp only [List.map_toArray, List.map_cons, List.map_nil]); first | done | rfl | (simp only [List.length_drop, List.length_take]; rfl)) ?_; (with_reducible refine (laws_markBerthS.calls kj42 (fun k_ => some k_ = (.slice Ao92 t728.length co92 : Value).ownBlock) (.slice Ao92 t728.length co92) t728 t745 t747 t748 w _ ?side1 ?side2 A73.out).mono ?_); (case side1 => repeat (first | (with_reducible first | exact HB.out | apply zD | apply zE | apply zF) | exact HB.out)); (case side2 => exact Kd.R_tight rfl HO_12.out); rintro e w93 ⟨rfl, hy0, hb, hkp⟩; refine ⟨_, rfl, ?_⟩; have n0_ := zM (Kd.R_mono (ok' := fun k_ => some k_ ≠ (.slice Ao90 t727.length co90 : Value).ownBlock) (Kd.R_keptB ((Kd.R_apart' HO_6.out (Kd.R_typed HO_12.out) (by decide))) hkp (fun k_ hk_ hs_ => (hk_.2) hs_)) (fun k_ hk_ => hk_.1.1)); have n1_ := zM (Kd.R_mono (ok' := fun k_ => some k_ ≠ (.slice Ao92 t728.length co92 : Value).ownBlock) (Kd.R_keptB (HO_7.out) hkp (fun k_ hk_ hs_ => (hk_) hs_)) (fun k_ hk_ => hk_.1)); have n2_ := zM (Kd.R_mono (ok' := fun k_ => some k_ ≠ (v720 : Value).ownBlock) (Kd.R_keptB ((Kd.R_apart' HO_11.out (Kd.R_typed HO_12.out) (by decide))) hkp (fun k_ hk_ hs_ => (hk_.2) hs_)) (fun k_ hk_ => hk_.1.1)); have n3_ := zM (Kd.R_reok rfl hy0 (fun k_ e_ => HO_12.out.1 k_ e_)); have n4_ := zM (hb); clear HO_6; clear HO_7; clear HO_11; clear HO_12; clear HB; have HO_6 := n0_; have HO_7 := n1_; have HO_11 := n2_; have HO_12 := n3_; have HB := n4_; clear n0_ n1_ n2_ n3_ n4_; (try clear hb); (try clear hkp); (try clear hy0)) | ((with_reducible refine gate_callee (f := 34) rfl ?_); refine goesL_ (some 106) rfl rfl Try.func34 (by kernel_rfl) rfl #[.slice Ao90 t746.length co90, .int .i64 1] rfl (by (try simp only [List.map_toArray, List.map_cons, List.map_nil]); first | done | (rw [show t746.length = t727.length from (zN HO_11.out).1.symm] <;> rfl) | rfl | (simp only [List.length_drop, List.length_take]; rfl)) ?_; (with_reducible refine (laws_heldIntS.calls kj42 _ _ t746 1 t749 _ ?side1 ?side2 A74.out).mono ?_); (case side1 => repeat (first | exact (zN HO_11.out).2.2 | (with_reducible refine zG ?_ _) | (with_reducible refine zH ?_ _) | (with_reducible refine zI ?_))); (case side2 => rw [show t746.length = t727.length from (zN HO_11.out).1.symm]; exact (zN HO_11.out).2.1); rintro e w' ⟨rfl, ⟨nd, rfl⟩⟩; refine ⟨_, rfl, ?_⟩) | ((with_reducible refine gate_callee (f := 40) rfl ?_); refine goesL_ (some 111) rfl rfl Try.func40 (by kernel_rfl) rfl #[.slice Ao92 t748.length co92, .int .i64 t749] rfl (by (try simp only [List.map_toArray, List.map_cons, List.map_nil]); first | done | (rw [show t748.length = t728.length from (zN HO_12.out).1.symm] <;> rfl) | rfl | (simp only [List.length_drop, List.length_take]; rfl)) ?_; (with_reducible refine (laws_heldBerthS.calls kj42 _ _ t748 t749 t750 _ ?side1 ?side2 A80.out).mono ?_); (case side1 => repeat (first | exact (zN HO_12.out).2.2 | (with_reducible refine zG ?_ _) | (with_reducible refine zH ?_ _) | (with_reducible refine zI ?_))); (case side2 => rw [show t748.length = t728.length from (zN HO_12.out).1.symm]; exact (zN HO_12.out).2.1); rintro e w' ⟨rfl, ⟨nd, rfl⟩⟩; refine ⟨_, rfl, ?_⟩) | ((with_reducible refine gate_callee (f := 16) rfl ?_); refine goesL_ (some 120) rfl rfl Try.func16 (by kernel_rfl) rfl #[.slice A1 l1.length c1] rfl (by (try simp only [List.map_toArray, List.map_cons, List.map_nil]); first | done | rfl | (simp only [List.length_drop, List.length_take]; rfl)) ?_; (with_reducible refine (laws_toShipS.calls kj42 _ _ l1 t751 _ ?side1 ?side2 A87.out).mono ?_); (case side1 => repeat (first | exact (zO HR1.out (by repeat (first | (with_reducible first | exact HB.out | apply zD | apply zE | apply zF) | exact HB.out))) | (with_reducible refine zG ?_ _) | (with_reducible refine zH ?_ _) | (with_reducible refine zI ?_))); (case side2 => exact HC1.out); rintro e w94 ⟨v752, rfl, ho0, hb⟩; refine ⟨_, rfl, ?_⟩; have n0_ := zM (zP (by (with_reducible repeat (first | apply zA | apply zB | apply zC)); exact HO_6.out) hb); have n1_ := zM (zP (by (with_reducible repeat (first | apply zA | apply zB | apply zC)); exact HO_7.out) hb); have n2_ := zM (zP (by (with_reducible repeat (first | apply zA | apply zB | apply zC)); exact HO_11.out) hb); have n3_ := zM (zP (by (with_reducible repeat (first | apply zA | apply zB | apply zC)); exact HO_12.out) hb); have n4_ := zM (Kd.R_lower ho0 (zR (by repeat (first | (with_reducible first | exact HB.out | apply zD | apply zE | apply zF) | exact HB.out)))); have n5_ := zM (zQ (by repeat (first | (with_reducible first | exact HB.out | apply zD | apply zE | apply zF) | exact HB.out)) hb); clear HO_6; clear HO_7; clear HO_11; clear HO_12; clear HB; have HO_6 := n0_; have HO_7 := n1_; have HO_11 := n2_; have HO_12 := n3_; have HO753 := n4_; have HB := n5_; clear n0_ n1_ n2_ n3_ n4_ n5_; (try clear hb); (try clear hb2); (try clear hk); (try clear hi); (try clear ho0); obtain ⟨Ao95, co95, eo95⟩ := Kd.R_slice HO753.out; subst eo95) | ((with_reducible refine gate_callee (f := 42) rfl ?_); refine goesL_ (some 121) rfl rfl Try.func42 (by kernel_rfl) rfl #[.int .i64 a0, .slice Ao95 t751.length co95] rfl (by (try simp only [List.map_toArray, List.map_cons, List.map_nil]); first | done | rfl | (simp only [List.length_drop, List.length_take]; rfl)) ?_; (with_reducible refine (impl_BestOrder.calls a0 _ _ t751 t754 t755 t756 t757 _ ?side1 ?side2 A88.out).mono ?_); (case side1 => repeat (first | exact (zN HO753.out).2.2 | (with_reducible refine zG ?_ _) | (with_reducible refine zH ?_ _) | (with_reducible refine zI ?_))); (case side2 => exact (zN HO753.out).2.1); rintro e w96 ⟨v758, v760, rfl, ho0, ho1, hb⟩; refine ⟨_, rfl, ?_⟩; have n0_ := zM (Kd.R_elder' (by (with_reducible repeat (first | apply zA | apply zB | apply zC)); exact HO_6.out) (Kd.R_base ho0) hb); have n1_ := zM (Kd.R_elder' (by (with_reducible repeat (first | apply zA | apply zB | apply zC)); exact HO_7.out) (Kd.R_base ho1) hb); have n2_ := zM (Kd.R_elder' (by (with_reducible repeat (first | apply zA | apply zB | apply zC)); exact HO_11.out) (Kd.R_base ho0) hb); have n3_ := zM (Kd.R_elder' (by (with_reducible repeat (first | apply zA | apply zB | apply zC)); exact HO_12.out) (Kd.R_base ho1) hb); have n4_ := zM (zP (by (with_reducible repeat (first | apply zA | apply zB | apply zC)); exact HO753.out) hb); have n5_ := zM (Kd.R_lower (Kd.R_new' (Kd.R_new' ho0 (Kd.R_lt (by (with_reducible repeat (first | apply zA | apply zB | apply zC)); exact HO_6.out))) (Kd.R_lt (by (with_reducible repeat (first | apply zA | apply zB | apply zC)); exact HO_11.out))) (zR (by repeat (first | (with_reducible first | exact HB.out | apply zD | apply zE | apply zF) | exact HB.out)))); have n6_ := zM (Kd.R_lower (Kd.R_new' (Kd.R_new' ho1 (Kd.R_lt (by (with_reducible repeat (first | apply zA | apply zB | apply zC)); exact HO_7.out))) (Kd.R_lt (by (with_reducible repeat (first | apply zA | apply zB | apply zC)); exact HO_12.out))) (zR (by repeat (first | (with_reducible first | exact HB.out | apply zD | apply zE | apply zF) | exact HB.out)))); have n7_ := zM (zQ (by repeat (first | (with_reducible first | exact HB.out | apply zD | apply zE | apply zF) | exact HB.out)) hb); clear HO_6; clear HO_7; clear HO_11; clear HO_12; clear HO753; clear HB; have HO_6 := n0_; have HO_7 := n1_; have HO_11 := n2_; have HO_12 := n3_; have HO753 := n4_; have HO759 := n5_; have HO761 := n6_; have HB := n7_; clear n0_ n1_ n2_ n3_ n4_ n5_ n6_ n7_; (try clear hb); (try clear hb2); (try clear hk); (try clear hi); (try clear ho0); (try clear ho1)))
            (try simp only [Act.put, List.setIfInBounds_toArray, List.set_cons_zero, List.set_cons_succ])
            go_cut [145] (fun v145 wc => ∃ (kq : Nat) (x145_88 : Bool), v145 = .bool x145_88 ∧ Aside0 (laws_FnExactBestOrder.j2 kq t746 t748 t747 x145_88 = some r) ∧ Aside0 (kq ≤ kj42) ∧ Aside0 (Kd.R (Kd.int .i64) 3 wc w.heap.size (fun _ => True) (.slice Ao90 t727.length co90) t746) ∧ Aside0 (Kd.R k37 37 wc w.heap.size (fun _ => True) (.slice Ao92 t728.length co92) t748) ∧ Aside0 (Below w.heap.size w wc))
            case first =>
             have H := HC89.out
             clear HC89
             replace H := Option.bind_eq_some_iff.mp H
             obtain ⟨t762, A970, H⟩ := H
             replace H : (if t762 = true then ((laws_eqBerthS.f kj42 t755 t717).bind fun t763 => (if t763 = true then (if t756 = t718 then (laws_FnExactBestOrder.j2 kj42 t746 t748 t747 (t757 != t719)) else (laws_FnExactBestOrder.j2 kj42 t746 t748 t747 true)) else (laws_FnExactBestOrder.j2 kj42 t746 t748 t747 true))) else (laws_FnExactBestOrder.j2 kj42 t746 t748 t747 true)) = some r := H
             have A97 := zM A970
             clear A970
             by_cases c98 : t762 = true
             ·subst c98
              have H1 : ((laws_eqBerthS.f kj42 t755 t717).bind fun t763 => (if t763 = true then (if t756 = t718 then (laws_FnExactBestOrder.j2 kj42 t746 t748 t747 (t757 != t719)) else (laws_FnExactBestOrder.j2 kj42 t746 t748 t747 true)) else (laws_FnExactBestOrder.j2 kj42 t746 t748 t747 true))) = some r := by rw [if_pos rfl] at H; exact H
              clear H
              have H := H1
              clear H1
              replace H := Option.bind_eq_some_iff.mp H
              obtain ⟨t763, A990, H⟩ := H
              replace H : (if t763 = true then (if t756 = t718 then (laws_FnExactBestOrder.j2 kj42 t746 t748 t747 (t757 != t719)) else (laws_FnExactBestOrder.j2 kj42 t746 t748 t747 true)) else (laws_FnExactBestOrder.j2 kj42 t746 t748 t747 true)) = some r := H
              have A99 := zM A990
              clear A990
              by_cases c100 : t763 = true
              ·subst c100
               have H1 : (if t756 = t718 then (laws_FnExactBestOrder.j2 kj42 t746 t748 t747 (t757 != t719)) else (laws_FnExactBestOrder.j2 kj42 t746 t748 t747 true)) = some r := by rw [if_pos rfl] at H; exact H
               clear H
               have H := H1
               clear H1
               by_cases c101 : t756 = t718
               ·rw [if_pos c101] at H
                have c101b0 : (t756 == t718) = true := beq_iff_eq.mpr c101
                have c101b1 : (t756 != t718) = false := bne_eq_false_iff_eq.mpr c101
                clear c101
                (first | rw [c101b0] | (simp only [i64_w, i32_w]; rw [c101b0]) | skip)
                have H' := zM H
                clear H
                obtain ⟨Ao102, co102, eo102⟩ := Kd.R_slice HO759.out
                subst eo102
                obtain ⟨Ao103, co103, eo103⟩ := Kd.R_slice HO_6.out
                subst eo103
                go_wp2_with (first | ((with_reducible refine gate_callee (f := 30) rfl ?_); refine goesL_ (some 128) rfl rfl Try.func30 (by kernel_rfl) rfl #[.slice Ao102 t754.length co102, .slice Ao103 t716.length co103] rfl (by (try simp only [List.map_toArray, List.map_cons, List.map_nil]); first | done | rfl | (simp only [List.length_drop, List.length_take]; rfl)) ?_; (with_reducible refine (laws_eqIntS.calls kj42 _ _ t754 _ _ t716 true _ ?side1 ?side2 ?side3 ?side4 A97.out).mono ?_); (case side1 => repeat (first | exact (zN HO759.out).2.2 | (with_reducible refine zG ?_ _) | (with_reducible refine zH ?_ _) | (with_reducible refine zI ?_))); (case side2 => exact (zN HO759.out).2.1); (case side3 => repeat (first | exact (zN HO_6.out).2.2 | (with_reducible refine zG ?_ _) | (with_reducible refine zH ?_ _) | (with_reducible refine zI ?_))); (case side4 => exact (zN HO_6.out).2.1); rintro e w' ⟨rfl, ⟨nd, rfl⟩⟩; refine ⟨_, rfl, ?_⟩; obtain ⟨Ao104, co104, eo104⟩ := Kd.R_slice HO761.out; subst eo104; obtain ⟨Ao105, co105, eo105⟩ := Kd.R_slice HO_7.out; subst eo105) | (go_at_call 20; (with_reducible refine (laws_eqBerthS.calls kj42 _ _ t755 _ _ t717 true _ ?side1 ?side2 ?side3 ?side4 A99.out).mono ?_); (case side1 => repeat (first | exact (zN HO761.out).2.2 | (with_reducible refine zG ?_ _) | (with_reducible refine zH ?_ _) | (with_reducible refine zI ?_))); (case side2 => exact (zN HO761.out).2.1); (case side3 => repeat (first | exact (zN HO_7.out).2.2 | (with_reducible refine zG ?_ _) | (with_reducible refine zH ?_ _) | (with_reducible refine zI ?_))); (case side4 => exact (zN HO_7.out).2.1); rintro e w106 ⟨rfl, hb⟩; have n0_ := zM (zP (by (with_reducible repeat (first | apply zA | apply zB | apply zC)); exact HO_6.out) hb); have n1_ := zM (zP (by (with_reducible repeat (first | apply zA | apply zB | apply zC)); exact HO_7.out) hb); have n2_ := zM (zP (by (with_reducible repeat (first | apply zA | apply zB | apply zC)); exact HO_11.out) hb); have n3_ := zM (zP (by (with_reducible repeat (first | apply zA | apply zB | apply zC)); exact HO_12.out) hb); have n4_ := zM (zP (by (with_reducible repeat (first | apply zA | apply zB | apply zC)); exact HO753.out) hb); have n5_ := zM (zP (by (with_reducible repeat (first | apply zA | apply zB | apply zC)); exact HO759.out) hb); have n6_ := zM (zP (by (with_reducible repeat (first | apply zA | apply zB | apply zC)); exact HO761.out) hb); have n7_ := zM (zQ (by repeat (first | (with_reducible first | exact HB.out | apply zD | apply zE | apply zF) | exact HB.out)) hb); clear HO_6; clear HO_7; clear HO_11; clear HO_12; clear HO753; clear HO759; clear HO761; clear HB; have HO_6 := n0_; have HO_7 := n1_; have HO_11 := n2_; have HO_12 := n3_; have HO753 := n4_; have HO759 := n5_; have HO761 := n6_; have HB := n7_; clear n0_ n1_ n2_ n3_ n4_ n5_ n6_ n7_; (try clear hb); (try clear hb2); (try clear hk); (try clear hi)))
                go_meet
                case rel => exact ⟨_, ((t757 != t719)), (by first | rfl | (simp; done) | (simp [*]; done)), H', ⟨by have := HJ8.out; have := HJ42.out; first | omega | exact Nat.le_refl _⟩, ⟨by (with_reducible repeat (first | apply zA | apply zB | apply zC)); exact Kd.R_mono HO_11.out (fun _ hk => trivial)⟩, ⟨by (with_reducible repeat (first | apply zA | apply zB | apply zC)); exact Kd.R_mono HO_12.out (fun _ hk => trivial)⟩, ⟨by repeat (first | (with_reducible first | exact HB.out | apply zD | apply zE | apply zF) | exact HB.out)⟩⟩
               ·rw [if_neg c101] at H
                have c101b0 : (t756 == t718) = false := beq_eq_false_iff_ne.mpr c101
                have c101b1 : (t756 != t718) = true := bne_iff_ne.mpr c101
                (first | rw [c101b0] | (simp only [i64_w, i32_w]; rw [c101b0]) | skip)
                have H' := zM H
                clear H
                obtain ⟨Ao107, co107, eo107⟩ := Kd.R_slice HO759.out
                subst eo107
                obtain ⟨Ao108, co108, eo108⟩ := Kd.R_slice HO_6.out
                subst eo108
                go_wp2_with (first | ((with_reducible refine gate_callee (f := 30) rfl ?_); refine goesL_ (some 128) rfl rfl Try.func30 (by kernel_rfl) rfl #[.slice Ao107 t754.length co107, .slice Ao108 t716.length co108] rfl (by (try simp only [List.map_toArray, List.map_cons, List.map_nil]); first | done | rfl | (simp only [List.length_drop, List.length_take]; rfl)) ?_; (with_reducible refine (laws_eqIntS.calls kj42 _ _ t754 _ _ t716 true _ ?side1 ?side2 ?side3 ?side4 A97.out).mono ?_); (case side1 => repeat (first | exact (zN HO759.out).2.2 | (with_reducible refine zG ?_ _) | (with_reducible refine zH ?_ _) | (with_reducible refine zI ?_))); (case side2 => exact (zN HO759.out).2.1); (case side3 => repeat (first | exact (zN HO_6.out).2.2 | (with_reducible refine zG ?_ _) | (with_reducible refine zH ?_ _) | (with_reducible refine zI ?_))); (case side4 => exact (zN HO_6.out).2.1); rintro e w' ⟨rfl, ⟨nd, rfl⟩⟩; refine ⟨_, rfl, ?_⟩; obtain ⟨Ao109, co109, eo109⟩ := Kd.R_slice HO761.out; subst eo109; obtain ⟨Ao110, co110, eo110⟩ := Kd.R_slice HO_7.out; subst eo110) | (go_at_call 20; (with_reducible refine (laws_eqBerthS.calls kj42 _ _ t755 _ _ t717 true _ ?side1 ?side2 ?side3 ?side4 A99.out).mono ?_); (case side1 => repeat (first | exact (zN HO761.out).2.2 | (with_reducible refine zG ?_ _) | (with_reducible refine zH ?_ _) | (with_reducible refine zI ?_))); (case side2 => exact (zN HO761.out).2.1); (case side3 => repeat (first | exact (zN HO_7.out).2.2 | (with_reducible refine zG ?_ _) | (with_reducible refine zH ?_ _) | (with_reducible refine zI ?_))); (case side4 => exact (zN HO_7.out).2.1); rintro e w111 ⟨rfl, hb⟩; have n0_ := zM (zP (by (with_reducible repeat (first | apply zA | apply zB | apply zC)); exact HO_6.out) hb); have n1_ := zM (zP (by (with_reducible repeat (first | apply zA | apply zB | apply zC)); exact HO_7.out) hb); have n2_ := zM (zP (by (with_reducible repeat (first | apply zA | apply zB | apply zC)); exact HO_11.out) hb); have n3_ := zM (zP (by (with_reducible repeat (first | apply zA | apply zB | apply zC)); exact HO_12.out) hb); have n4_ := zM (zP (by (with_reducible repeat (first | apply zA | apply zB | apply zC)); exact HO753.out) hb); have n5_ := zM (zP (by (with_reducible repeat (first | apply zA | apply zB | apply zC)); exact HO759.out) hb); have n6_ := zM (zP (by (with_reducible repeat (first | apply zA | apply zB | apply zC)); exact HO761.out) hb); have n7_ := zM (zQ (by repeat (first | (with_reducible first | exact HB.out | apply zD | apply zE | apply zF) | exact HB.out)) hb); clear HO_6; clear HO_7; clear HO_11; clear HO_12; clear HO753; clear HO759; clear HO761; clear HB; have HO_6 := n0_; have HO_7 := n1_; have HO_11 := n2_; have HO_12 := n3_; have HO753 := n4_; have HO759 := n5_; have HO761 := n6_; have HB := n7_; clear n0_ n1_ n2_ n3_ n4_ n5_ n6_ n7_; (try clear hb); (try clear hb2); (try clear hk); (try clear hi)))
                go_meet
                case rel => exact ⟨_, (true), (by first | rfl | (simp; done) | (simp [*]; done)), H', ⟨by have := HJ8.out; have := HJ42.out; first | omega | exact Nat.le_refl _⟩, ⟨by (with_reducible repeat (first | apply zA | apply zB | apply zC)); exact Kd.R_mono HO_11.out (fun _ hk => trivial)⟩, ⟨by (with_reducible repeat (first | apply zA | apply zB | apply zC)); exact Kd.R_mono HO_12.out (fun _ hk => trivial)⟩, ⟨by repeat (first | (with_reducible first | exact HB.out | apply zD | apply zE | apply zF) | exact HB.out)⟩⟩
              ·replace c100 := Bool.eq_false_iff.mpr c100
               subst c100
               have H1 : (laws_FnExactBestOrder.j2 kj42 t746 t748 t747 true) = some r := by rw [if_neg (show ¬ (false = true) by decide)] at H; exact H
               clear H
               have H := H1
               clear H1
               have H' := zM H
               clear H
               obtain ⟨Ao112, co112, eo112⟩ := Kd.R_slice HO759.out
               subst eo112
               obtain ⟨Ao113, co113, eo113⟩ := Kd.R_slice HO_6.out
               subst eo113
               go_wp2_with (first | ((with_reducible refine gate_callee (f := 30) rfl ?_); refine goesL_ (some 128) rfl rfl Try.func30 (by kernel_rfl) rfl #[.slice Ao112 t754.length co112, .slice Ao113 t716.length co113] rfl (by (try simp only [List.map_toArray, List.map_cons, List.map_nil]); first | done | rfl | (simp only [List.length_drop, List.length_take]; rfl)) ?_; (with_reducible refine (laws_eqIntS.calls kj42 _ _ t754 _ _ t716 true _ ?side1 ?side2 ?side3 ?side4 A97.out).mono ?_); (case side1 => repeat (first | exact (zN HO759.out).2.2 | (with_reducible refine zG ?_ _) | (with_reducible refine zH ?_ _) | (with_reducible refine zI ?_))); (case side2 => exact (zN HO759.out).2.1); (case side3 => repeat (first | exact (zN HO_6.out).2.2 | (with_reducible refine zG ?_ _) | (with_reducible refine zH ?_ _) | (with_reducible refine zI ?_))); (case side4 => exact (zN HO_6.out).2.1); rintro e w' ⟨rfl, ⟨nd, rfl⟩⟩; refine ⟨_, rfl, ?_⟩; obtain ⟨Ao114, co114, eo114⟩ := Kd.R_slice HO761.out; subst eo114; obtain ⟨Ao115, co115, eo115⟩ := Kd.R_slice HO_7.out; subst eo115) | (go_at_call 20; (with_reducible refine (laws_eqBerthS.calls kj42 _ _ t755 _ _ t717 false _ ?side1 ?side2 ?side3 ?side4 A99.out).mono ?_); (case side1 => repeat (first | exact (zN HO761.out).2.2 | (with_reducible refine zG ?_ _) | (with_reducible refine zH ?_ _) | (with_reducible refine zI ?_))); (case side2 => exact (zN HO761.out).2.1); (case side3 => repeat (first | exact (zN HO_7.out).2.2 | (with_reducible refine zG ?_ _) | (with_reducible refine zH ?_ _) | (with_reducible refine zI ?_))); (case side4 => exact (zN HO_7.out).2.1); rintro e w116 ⟨rfl, hb⟩; have n0_ := zM (zP (by (with_reducible repeat (first | apply zA | apply zB | apply zC)); exact HO_6.out) hb); have n1_ := zM (zP (by (with_reducible repeat (first | apply zA | apply zB | apply zC)); exact HO_7.out) hb); have n2_ := zM (zP (by (with_reducible repeat (first | apply zA | apply zB | apply zC)); exact HO_11.out) hb); have n3_ := zM (zP (by (with_reducible repeat (first | apply zA | apply zB | apply zC)); exact HO_12.out) hb); have n4_ := zM (zP (by (with_reducible repeat (first | apply zA | apply zB | apply zC)); exact HO753.out) hb); have n5_ := zM (zP (by (with_reducible repeat (first | apply zA | apply zB | apply zC)); exact HO759.out) hb); have n6_ := zM (zP (by (with_reducible repeat (first | apply zA | apply zB | apply zC)); exact HO761.out) hb); have n7_ := zM (zQ (by repeat (first | (with_reducible first | exact HB.out | apply zD | apply zE | apply zF) | exact HB.out)) hb); clear HO_6; clear HO_7; clear HO_11; clear HO_12; clear HO753; clear HO759; clear HO761; clear HB; have HO_6 := n0_; have HO_7 := n1_; have HO_11 := n2_; have HO_12 := n3_; have HO753 := n4_; have HO759 := n5_; have HO761 := n6_; have HB := n7_; clear n0_ n1_ n2_ n3_ n4_ n5_ n6_ n7_; (try clear hb); (try clear hb2); (try clear hk); (try clear hi)))
               go_meet
               case rel => exact ⟨_, (true), (by first | rfl | (simp; done) | (simp [*]; done)), H', ⟨by have := HJ8.out; have := HJ42.out; first | omega | exact Nat.le_refl _⟩, ⟨by (with_reducible repeat (first | apply zA | apply zB | apply zC)); exact Kd.R_mono HO_11.out (fun _ hk => trivial)⟩, ⟨by (with_reducible repeat (first | apply zA | apply zB | apply zC)); exact Kd.R_mono HO_12.out (fun _ hk => trivial)⟩, ⟨by repeat (first | (with_reducible first | exact HB.out | apply zD | apply zE | apply zF) | exact HB.out)⟩⟩
             ·replace c98 := Bool.eq_false_iff.mpr c98
              subst c98
              have H1 : (laws_FnExactBestOrder.j2 kj42 t746 t748 t747 true) = some r := by rw [if_neg (show ¬ (false = true) by decide)] at H; exact H
              clear H
              have H := H1
              clear H1
              have H' := zM H
              clear H
              obtain ⟨Ao117, co117, eo117⟩ := Kd.R_slice HO759.out
              subst eo117
              obtain ⟨Ao118, co118, eo118⟩ := Kd.R_slice HO_6.out
              subst eo118
              go_wp2_with (first | ((with_reducible refine gate_callee (f := 30) rfl ?_); refine goesL_ (some 128) rfl rfl Try.func30 (by kernel_rfl) rfl #[.slice Ao117 t754.length co117, .slice Ao118 t716.length co118] rfl (by (try simp only [List.map_toArray, List.map_cons, List.map_nil]); first | done | rfl | (simp only [List.length_drop, List.length_take]; rfl)) ?_; (with_reducible refine (laws_eqIntS.calls kj42 _ _ t754 _ _ t716 false _ ?side1 ?side2 ?side3 ?side4 A97.out).mono ?_); (case side1 => repeat (first | exact (zN HO759.out).2.2 | (with_reducible refine zG ?_ _) | (with_reducible refine zH ?_ _) | (with_reducible refine zI ?_))); (case side2 => exact (zN HO759.out).2.1); (case side3 => repeat (first | exact (zN HO_6.out).2.2 | (with_reducible refine zG ?_ _) | (with_reducible refine zH ?_ _) | (with_reducible refine zI ?_))); (case side4 => exact (zN HO_6.out).2.1); rintro e w' ⟨rfl, ⟨nd, rfl⟩⟩; refine ⟨_, rfl, ?_⟩))
              go_meet
              case rel => exact ⟨_, (true), (by first | rfl | (simp; done) | (simp [*]; done)), H', ⟨by have := HJ8.out; have := HJ42.out; first | omega | exact Nat.le_refl _⟩, ⟨by (with_reducible repeat (first | apply zA | apply zB | apply zC)); exact Kd.R_mono HO_11.out (fun _ hk => trivial)⟩, ⟨by (with_reducible repeat (first | apply zA | apply zB | apply zC)); exact Kd.R_mono HO_12.out (fun _ hk => trivial)⟩, ⟨by repeat (first | (with_reducible first | exact HB.out | apply zD | apply zE | apply zF) | exact HB.out)⟩⟩
            case rest =>
             clear HC89
             try clear c1
             try clear c2
             try clear p2
             try clear c3
             try clear c4
             try clear c4b0
             try clear c5
             try clear c7
             try clear c8
             try clear c9
             try clear c10
             try clear c13
             try clear c16
             try clear c17
             try clear c19
             try clear c20
             try clear c20b0
             try clear c20b1
             try clear c30
             try clear c31
             try clear c32
             try clear c33
             try clear c34
             try clear c38
             try clear c40
             try clear c41
             try clear c42
             try clear c48
             try clear c48b0
             try clear c50
             try clear c52
             try clear c53
             try clear c53b0
             try clear c53b1
             try clear c71
             try clear c75
             try clear c75b0
             try clear c81
             try clear c81b0
             try clear c86
             try clear c86b0
             try clear c86b1
             try clear c98
             try clear c100
             try clear c101
             try clear c101b0
             try clear c101b1
             try clear p2
             obtain ⟨kq, x145_88, rfl, HA, HJ88, HO_11, HO_12, HB⟩ := hcut
             have hl11_88 := (zN HO_11.out).1
             rw [hl11_88] at HO_11
             (try simp only [hl11_88])
             (try simp only [hl11_88] at HO_12)
             have hl12_88 := (zN HO_12.out).1
             rw [hl12_88] at HO_12
             (try simp only [hl12_88])
             (try simp only [hl12_88] at HO_11)
             cases kq with
             | zero => exact absurd HA.out (by simp [laws_FnExactBestOrder.j2])
             | succ kj88 =>
              have H := HA.out
              clear HA
              simp only [laws_FnExactBestOrder.j2] at H
              by_cases c119 : x145_88 = true
              ·subst c119
               have H1 : (some false) = some r := by rw [if_pos rfl] at H; exact H
               clear H
               have H := H1
               clear H1
               obtain rfl := Option.some.inj H
               go_wp2
               go_ret
               exact ⟨by first | rfl | (simp [errW_none, errW_some] <;> rfl) | (simp [*, errW_none, errW_some] <;> rfl), by repeat (first | (with_reducible first | exact HB.out | apply zD | apply zE | apply zF) | exact HB.out)⟩
              ·replace c119 := Bool.eq_false_iff.mpr c119
               subst c119
               have H1 : ((laws_heldIntS.f kj88 t746 1).bind fun t764 => (if t764 < 0 then (some false) else ((laws_heldBerthS.f kj88 t748 t764).bind fun t765 => (if t765 < 0 then (some false) else (if t765 = t747 then (some true) else (some false)))))) = some r := by rw [if_neg (show ¬ (false = true) by decide)] at H; exact H
               clear H
               have H := H1
               clear H1
               replace H := Option.bind_eq_some_iff.mp H
               obtain ⟨t764, A1200, H⟩ := H
               replace H : (if t764 < 0 then (some false) else ((laws_heldBerthS.f kj88 t748 t764).bind fun t765 => (if t765 < 0 then (some false) else (if t765 = t747 then (some true) else (some false))))) = some r := H
               have A120 := zM A1200
               clear A1200
               by_cases c121 : t764 < 0
               ·rw [if_pos c121] at H
                have c121b0 : decide (t764 < 0) = true := decide_eq_true c121
                clear c121
                obtain rfl := Option.some.inj H
                go_wp2_with (first | ((with_reducible refine gate_callee (f := 34) rfl ?_); refine goesL_ (some 148) rfl rfl Try.func34 (by kernel_rfl) rfl #[.slice Ao90 t746.length co90, .int .i64 1] rfl (by (try simp only [List.map_toArray, List.map_cons, List.map_nil]); first | done | rfl | (simp only [List.length_drop, List.length_take]; rfl)) ?_; (with_reducible refine (laws_heldIntS.calls kj88 _ _ t746 1 t764 _ ?side1 ?side2 A120.out).mono ?_); (case side1 => repeat (first | exact (zN HO_11.out).2.2 | (with_reducible refine zG ?_ _) | (with_reducible refine zH ?_ _) | (with_reducible refine zI ?_))); (case side2 => exact (zN HO_11.out).2.1); rintro e w' ⟨rfl, ⟨nd, rfl⟩⟩; refine ⟨_, rfl, ?_⟩))
                go_ret
                exact ⟨by first | rfl | (simp [errW_none, errW_some] <;> rfl) | (simp [*, errW_none, errW_some] <;> rfl), by repeat (first | (with_reducible first | exact HB.out | apply zD | apply zE | apply zF) | exact HB.out)⟩
               ·rw [if_neg c121] at H
                have c121b0 : decide (t764 < 0) = false := decide_eq_false c121
                clear c121
                replace H := Option.bind_eq_some_iff.mp H
                obtain ⟨t765, A1220, H⟩ := H
                replace H : (if t765 < 0 then (some false) else (if t765 = t747 then (some true) else (some false))) = some r := H
                have A122 := zM A1220
                clear A1220
                by_cases c123 : t765 < 0
                ·rw [if_pos c123] at H
                 have c123b0 : decide (t765 < 0) = true := decide_eq_true c123
                 clear c123
                 obtain rfl := Option.some.inj H
                 go_wp2_with (first | ((with_reducible refine gate_callee (f := 34) rfl ?_); refine goesL_ (some 148) rfl rfl Try.func34 (by kernel_rfl) rfl #[.slice Ao90 t746.length co90, .int .i64 1] rfl (by (try simp only [List.map_toArray, List.map_cons, List.map_nil]); first | done | rfl | (simp only [List.length_drop, List.length_take]; rfl)) ?_; (with_reducible refine (laws_heldIntS.calls kj88 _ _ t746 1 t764 _ ?side1 ?side2 A120.out).mono ?_); (case side1 => repeat (first | exact (zN HO_11.out).2.2 | (with_reducible refine zG ?_ _) | (with_reducible refine zH ?_ _) | (with_reducible refine zI ?_))); (case side2 => exact (zN HO_11.out).2.1); rintro e w' ⟨rfl, ⟨nd, rfl⟩⟩; refine ⟨_, rfl, ?_⟩) | ((with_reducible refine gate_callee (f := 40) rfl ?_); refine goesL_ (some 153) rfl rfl Try.func40 (by kernel_rfl) rfl #[.slice Ao92 t748.length co92, .int .i64 t764] rfl (by (try simp only [List.map_toArray, List.map_cons, List.map_nil]); first | done | rfl | (simp only [List.length_drop, List.length_take]; rfl)) ?_; (with_reducible refine (laws_heldBerthS.calls kj88 _ _ t748 t764 t765 _ ?side1 ?side2 A122.out).mono ?_); (case side1 => repeat (first | exact (zN HO_12.out).2.2 | (with_reducible refine zG ?_ _) | (with_reducible refine zH ?_ _) | (with_reducible refine zI ?_))); (case side2 => exact (zN HO_12.out).2.1); rintro e w' ⟨rfl, ⟨nd, rfl⟩⟩; refine ⟨_, rfl, ?_⟩))
                 go_ret
                 exact ⟨by first | rfl | (simp [errW_none, errW_some] <;> rfl) | (simp [*, errW_none, errW_some] <;> rfl), by repeat (first | (with_reducible first | exact HB.out | apply zD | apply zE | apply zF) | exact HB.out)⟩
                ·rw [if_neg c123] at H
                 have c123b0 : decide (t765 < 0) = false := decide_eq_false c123
                 clear c123
                 by_cases c124 : t765 = t747
                 ·rw [if_pos c124] at H
                  have c124b0 : (t765 == t747) = true := beq_iff_eq.mpr c124
                  have c124b1 : (t765 != t747) = false := bne_eq_false_iff_eq.mpr c124
                  clear c124
                  obtain rfl := Option.some.inj H
                  go_wp2_with (first | ((with_reducible refine gate_callee (f := 34) rfl ?_); refine goesL_ (some 148) rfl rfl Try.func34 (by kernel_rfl) rfl #[.slice Ao90 t746.length co90, .int .i64 1] rfl (by (try simp only [List.map_toArray, List.map_cons, List.map_nil]); first | done | rfl | (simp only [List.length_drop, List.length_take]; rfl)) ?_; (with_reducible refine (laws_heldIntS.calls kj88 _ _ t746 1 t764 _ ?side1 ?side2 A120.out).mono ?_); (case side1 => repeat (first | exact (zN HO_11.out).2.2 | (with_reducible refine zG ?_ _) | (with_reducible refine zH ?_ _) | (with_reducible refine zI ?_))); (case side2 => exact (zN HO_11.out).2.1); rintro e w' ⟨rfl, ⟨nd, rfl⟩⟩; refine ⟨_, rfl, ?_⟩) | ((with_reducible refine gate_callee (f := 40) rfl ?_); refine goesL_ (some 153) rfl rfl Try.func40 (by kernel_rfl) rfl #[.slice Ao92 t748.length co92, .int .i64 t764] rfl (by (try simp only [List.map_toArray, List.map_cons, List.map_nil]); first | done | rfl | (simp only [List.length_drop, List.length_take]; rfl)) ?_; (with_reducible refine (laws_heldBerthS.calls kj88 _ _ t748 t764 t765 _ ?side1 ?side2 A122.out).mono ?_); (case side1 => repeat (first | exact (zN HO_12.out).2.2 | (with_reducible refine zG ?_ _) | (with_reducible refine zH ?_ _) | (with_reducible refine zI ?_))); (case side2 => exact (zN HO_12.out).2.1); rintro e w' ⟨rfl, ⟨nd, rfl⟩⟩; refine ⟨_, rfl, ?_⟩))
                  go_ret
                  exact ⟨by first | rfl | (simp [errW_none, errW_some] <;> rfl) | (simp [*, errW_none, errW_some] <;> rfl), by repeat (first | (with_reducible first | exact HB.out | apply zD | apply zE | apply zF) | exact HB.out)⟩
                 ·rw [if_neg c124] at H
                  have c124b0 : (t765 == t747) = false := beq_eq_false_iff_ne.mpr c124
                  have c124b1 : (t765 != t747) = true := bne_iff_ne.mpr c124
                  obtain rfl := Option.some.inj H
                  go_wp2_with (first | ((with_reducible refine gate_callee (f := 34) rfl ?_); refine goesL_ (some 148) rfl rfl Try.func34 (by kernel_rfl) rfl #[.slice Ao90 t746.length co90, .int .i64 1] rfl (by (try simp only [List.map_toArray, List.map_cons, List.map_nil]); first | done | rfl | (simp only [List.length_drop, List.length_take]; rfl)) ?_; (with_reducible refine (laws_heldIntS.calls kj88 _ _ t746 1 t764 _ ?side1 ?side2 A120.out).mono ?_); (case side1 => repeat (first | exact (zN HO_11.out).2.2 | (with_reducible refine zG ?_ _) | (with_reducible refine zH ?_ _) | (with_reducible refine zI ?_))); (case side2 => exact (zN HO_11.out).2.1); rintro e w' ⟨rfl, ⟨nd, rfl⟩⟩; refine ⟨_, rfl, ?_⟩) | ((with_reducible refine gate_callee (f := 40) rfl ?_); refine goesL_ (some 153) rfl rfl Try.func40 (by kernel_rfl) rfl #[.slice Ao92 t748.length co92, .int .i64 t764] rfl (by (try simp only [List.map_toArray, List.map_cons, List.map_nil]); first | done | rfl | (simp only [List.length_drop, List.length_take]; rfl)) ?_; (with_reducible refine (laws_heldBerthS.calls kj88 _ _ t748 t764 t765 _ ?side1 ?side2 A122.out).mono ?_); (case side1 => repeat (first | exact (zN HO_12.out).2.2 | (with_reducible refine zG ?_ _) | (with_reducible refine zH ?_ _) | (with_reducible refine zI ?_))); (case side2 => exact (zN HO_12.out).2.1); rintro e w' ⟨rfl, ⟨nd, rfl⟩⟩; refine ⟨_, rfl, ?_⟩))
                  go_ret
                  exact ⟨by first | rfl | (simp [errW_none, errW_some] <;> rfl) | (simp [*, errW_none, errW_some] <;> rfl), by repeat (first | (with_reducible first | exact HB.out | apply zD | apply zE | apply zF) | exact HB.out)⟩
           ·rw [if_neg c86] at H
            have c86b0 : (t750 == t747) = false := beq_eq_false_iff_ne.mpr c86
            have c86b1 : (t750 != t747) = true := bne_iff_ne.mpr c86
            obtain rfl := Option.some.inj H
            obtain ⟨Ao125, co125, eo125⟩ := Kd.R_slice HO_11.out
            subst eo125
            go_wp2_with (first | ((with_reducible refine gate_callee (f := 33) rfl ?_); refine goesL_ (some 100) rfl rfl Try.func33 (by kernel_rfl) rfl #[.slice Ao125 t727.length co125, .int .i64 1] rfl (by (try simp only [List.map_toArray, List.map_cons, List.map_nil]); first | done | rfl | (simp only [List.length_drop, List.length_take]; rfl)) ?_; (with_reducible refine (laws_markIntS.calls kj42 (fun k_ => some k_ = (.slice Ao125 t727.length co125 : Value).ownBlock) (.slice Ao125 t727.length co125) t727 1 t745 t746 w _ ?side1 ?side2 A72.out).mono ?_); (case side1 => repeat (first | (with_reducible first | exact HB.out | apply zD | apply zE | apply zF) | exact HB.out)); (case side2 => exact Kd.R_tight rfl HO_11.out); rintro e w126 ⟨rfl, hy0, hb, hkp⟩; refine ⟨_, rfl, ?_⟩; have n0_ := zM (Kd.R_mono (ok' := fun k_ => some k_ ≠ (.slice Ao125 t727.length co125 : Value).ownBlock) (Kd.R_keptB (HO_6.out) hkp (fun k_ hk_ hs_ => (hk_) hs_)) (fun k_ hk_ => hk_.1)); have n1_ := zM (Kd.R_mono (ok' := fun k_ => some k_ ≠ (v733 : Value).ownBlock) (Kd.R_keptB ((Kd.R_apart' HO_7.out (Kd.R_typed HO_11.out) (by decide))) hkp (fun k_ hk_ hs_ => (hk_.2) hs_)) (fun k_ hk_ => hk_.1.1)); have n2_ := zM (Kd.R_reok rfl hy0 (fun k_ e_ => HO_11.out.1 k_ e_)); have n3_ := zM (Kd.R_mono (ok' := fun k_ => some k_ ≠ (v722 : Value).ownBlock) (Kd.R_keptB ((Kd.R_apart' HO_12.out (Kd.R_typed HO_11.out) (by decide))) hkp (fun k_ hk_ hs_ => (hk_.2) hs_)) (fun k_ hk_ => hk_.1.1)); have n4_ := zM (hb); clear HO_6; clear HO_7; clear HO_11; clear HO_12; clear HB; have HO_6 := n0_; have HO_7 := n1_; have HO_11 := n2_; have HO_12 := n3_; have HB := n4_; clear n0_ n1_ n2_ n3_ n4_; (try clear hb); (try clear hkp); (try clear hy0); obtain ⟨Ao127, co127, eo127⟩ := Kd.R_slice HO_12.out; subst eo127) | ((with_reducible refine gate_callee (f := 32) rfl ?_); refine goesL_ (some 103) rfl rfl Try.func32 (by kernel_rfl) rfl #[.slice Ao127 t728.length co127, .int .i64 t745] rfl (by (try simp only [List.map_toArray, List.map_cons, List.map_nil]); first | done | rfl | (simp only [List.length_drop, List.length_take]; rfl)) ?_; (with_reducible refine (laws_markBerthS.calls kj42 (fun k_ => some k_ = (.slice Ao127 t728.length co127 : Value).ownBlock) (.slice Ao127 t728.length co127) t728 t745 t747 t748 w _ ?side1 ?side2 A73.out).mono ?_); (case side1 => repeat (first | (with_reducible first | exact HB.out | apply zD | apply zE | apply zF) | exact HB.out)); (case side2 => exact Kd.R_tight rfl HO_12.out); rintro e w128 ⟨rfl, hy0, hb, hkp⟩; refine ⟨_, rfl, ?_⟩; have n0_ := zM (Kd.R_mono (ok' := fun k_ => some k_ ≠ (.slice Ao125 t727.length co125 : Value).ownBlock) (Kd.R_keptB ((Kd.R_apart' HO_6.out (Kd.R_typed HO_12.out) (by decide))) hkp (fun k_ hk_ hs_ => (hk_.2) hs_)) (fun k_ hk_ => hk_.1.1)); have n1_ := zM (Kd.R_mono (ok' := fun k_ => some k_ ≠ (.slice Ao127 t728.length co127 : Value).ownBlock) (Kd.R_keptB (HO_7.out) hkp (fun k_ hk_ hs_ => (hk_) hs_)) (fun k_ hk_ => hk_.1)); have n2_ := zM (Kd.R_mono (ok' := fun k_ => some k_ ≠ (v720 : Value).ownBlock) (Kd.R_keptB ((Kd.R_apart' HO_11.out (Kd.R_typed HO_12.out) (by decide))) hkp (fun k_ hk_ hs_ => (hk_.2) hs_)) (fun k_ hk_ => hk_.1.1)); have n3_ := zM (Kd.R_reok rfl hy0 (fun k_ e_ => HO_12.out.1 k_ e_)); have n4_ := zM (hb); clear HO_6; clear HO_7; clear HO_11; clear HO_12; clear HB; have HO_6 := n0_; have HO_7 := n1_; have HO_11 := n2_; have HO_12 := n3_; have HB := n4_; clear n0_ n1_ n2_ n3_ n4_; (try clear hb); (try clear hkp); (try clear hy0)) | ((with_reducible refine gate_callee (f := 34) rfl ?_); refine goesL_ (some 106) rfl rfl Try.func34 (by kernel_rfl) rfl #[.slice Ao125 t746.length co125, .int .i64 1] rfl (by (try simp only [List.map_toArray, List.map_cons, List.map_nil]); first | done | (rw [show t746.length = t727.length from (zN HO_11.out).1.symm] <;> rfl) | rfl | (simp only [List.length_drop, List.length_take]; rfl)) ?_; (with_reducible refine (laws_heldIntS.calls kj42 _ _ t746 1 t749 _ ?side1 ?side2 A74.out).mono ?_); (case side1 => repeat (first | exact (zN HO_11.out).2.2 | (with_reducible refine zG ?_ _) | (with_reducible refine zH ?_ _) | (with_reducible refine zI ?_))); (case side2 => rw [show t746.length = t727.length from (zN HO_11.out).1.symm]; exact (zN HO_11.out).2.1); rintro e w' ⟨rfl, ⟨nd, rfl⟩⟩; refine ⟨_, rfl, ?_⟩) | ((with_reducible refine gate_callee (f := 40) rfl ?_); refine goesL_ (some 111) rfl rfl Try.func40 (by kernel_rfl) rfl #[.slice Ao127 t748.length co127, .int .i64 t749] rfl (by (try simp only [List.map_toArray, List.map_cons, List.map_nil]); first | done | (rw [show t748.length = t728.length from (zN HO_12.out).1.symm] <;> rfl) | rfl | (simp only [List.length_drop, List.length_take]; rfl)) ?_; (with_reducible refine (laws_heldBerthS.calls kj42 _ _ t748 t749 t750 _ ?side1 ?side2 A80.out).mono ?_); (case side1 => repeat (first | exact (zN HO_12.out).2.2 | (with_reducible refine zG ?_ _) | (with_reducible refine zH ?_ _) | (with_reducible refine zI ?_))); (case side2 => rw [show t748.length = t728.length from (zN HO_12.out).1.symm]; exact (zN HO_12.out).2.1); rintro e w' ⟨rfl, ⟨nd, rfl⟩⟩; refine ⟨_, rfl, ?_⟩))
            go_ret
            exact ⟨by first | rfl | (simp [errW_none, errW_some] <;> rfl) | (simp [*, errW_none, errW_some] <;> rfl), by repeat (first | (with_reducible first | exact HB.out | apply zD | apply zE | apply zF) | exact HB.out)⟩
     ·replace c41 := Bool.eq_false_iff.mpr c41
      subst c41
      have H1 : (some false) = some r := by rw [if_neg (show ¬ (false = true) by decide)] at H; exact H
      clear H
      have H := H1
      clear H1
      obtain rfl := Option.some.inj H
      go_wp2_with (first | ((with_reducible refine gate_callee (f := 16) rfl ?_); refine goesL_ (some 68) rfl rfl Try.func16 (by kernel_rfl) rfl #[.slice A1 l1.length c1] rfl (by (try simp only [List.map_toArray, List.map_cons, List.map_nil]); first | done | rfl | (simp only [List.length_drop, List.length_take]; rfl)) ?_; (with_reducible refine (laws_toShipS.calls kj8 _ _ l1 t737 _ ?side1 ?side2 A39.out).mono ?_); (case side1 => repeat (first | exact (zO HR1.out HB.out) | (with_reducible refine zG ?_ _) | (with_reducible refine zH ?_ _) | (with_reducible refine zI ?_))); (case side2 => exact HC1.out); rintro e w129 ⟨v738, rfl, ho0, hb⟩; refine ⟨_, rfl, ?_⟩; have n0_ := zM (zP (by (with_reducible repeat (first | apply zA | apply zB | apply zC)); exact HO_6.out) hb); have n1_ := zM (zP (by (with_reducible repeat (first | apply zA | apply zB | apply zC)); exact HO_7.out) hb); have n2_ := zM (Kd.R_elder' (by (with_reducible repeat (first | apply zA | apply zB | apply zC)); exact HO_10.out) (Kd.R_base ho0) hb); have n3_ := zM (zP (by (with_reducible repeat (first | apply zA | apply zB | apply zC)); exact HO_11.out) hb); have n4_ := zM (zP (by (with_reducible repeat (first | apply zA | apply zB | apply zC)); exact HO_12.out) hb); have n5_ := zM (Kd.R_lower (Kd.R_new' ho0 (Kd.R_lt (by (with_reducible repeat (first | apply zA | apply zB | apply zC)); exact HO_10.out))) (zR (by repeat (first | (with_reducible first | exact HB.out | apply zD | apply zE | apply zF) | exact HB.out)))); have n6_ := zM (zQ (by repeat (first | (with_reducible first | exact HB.out | apply zD | apply zE | apply zF) | exact HB.out)) hb); clear HO_6; clear HO_7; clear HO_10; clear HO_11; clear HO_12; clear HB; have HO_6 := n0_; have HO_7 := n1_; have HO_10 := n2_; have HO_11 := n3_; have HO_12 := n4_; have HO739 := n5_; have HB := n6_; clear n0_ n1_ n2_ n3_ n4_ n5_ n6_; (try clear hb); (try clear hb2); (try clear hk); (try clear hi); (try clear ho0); obtain ⟨Ao130, co130, eo130⟩ := Kd.R_slice HO739.out; subst eo130) | ((with_reducible refine gate_callee (f := 19) rfl ?_); refine goesL_ (some 69) rfl rfl Try.func19 (by kernel_rfl) rfl #[.slice Ao14 t724.length co14, .slice Ao130 t737.length co130] rfl (by (try simp only [List.map_toArray, List.map_cons, List.map_nil]); first | done | rfl | (simp only [List.length_drop, List.length_take]; rfl)) ?_; (with_reducible refine (laws_eqShipS.calls kj8 _ _ t724 _ _ t737 false _ ?side1 ?side2 ?side3 ?side4 A40.out).mono ?_); (case side1 => repeat (first | exact (zN HO_10.out).2.2 | (with_reducible refine zG ?_ _) | (with_reducible refine zH ?_ _) | (with_reducible refine zI ?_))); (case side2 => exact (zN HO_10.out).2.1); (case side3 => repeat (first | exact (zN HO739.out).2.2 | (with_reducible refine zG ?_ _) | (with_reducible refine zH ?_ _) | (with_reducible refine zI ?_))); (case side4 => exact (zN HO739.out).2.1); rintro e w131 ⟨rfl, hb⟩; refine ⟨_, rfl, ?_⟩; have n0_ := zM (zP (by (with_reducible repeat (first | apply zA | apply zB | apply zC)); exact HO_6.out) hb); have n1_ := zM (zP (by (with_reducible repeat (first | apply zA | apply zB | apply zC)); exact HO_7.out) hb); have n2_ := zM (zP (by (with_reducible repeat (first | apply zA | apply zB | apply zC)); exact HO_10.out) hb); have n3_ := zM (zP (by (with_reducible repeat (first | apply zA | apply zB | apply zC)); exact HO_11.out) hb); have n4_ := zM (zP (by (with_reducible repeat (first | apply zA | apply zB | apply zC)); exact HO_12.out) hb); have n5_ := zM (zP (by (with_reducible repeat (first | apply zA | apply zB | apply zC)); exact HO739.out) hb); have n6_ := zM (zQ (by repeat (first | (with_reducible first | exact HB.out | apply zD | apply zE | apply zF) | exact HB.out)) hb); clear HO_6; clear HO_7; clear HO_10; clear HO_11; clear HO_12; clear HO739; clear HB; have HO_6 := n0_; have HO_7 := n1_; have HO_10 := n2_; have HO_11 := n3_; have HO_12 := n4_; have HO739 := n5_; have HB := n6_; clear n0_ n1_ n2_ n3_ n4_ n5_ n6_; (try clear hb); (try clear hb2); (try clear hk); (try clear hi)))
      go_ret
      exact ⟨by first | rfl | (simp [errW_none, errW_some] <;> rfl) | (simp [*, errW_none, errW_some] <;> rfl), by repeat (first | (with_reducible first | exact HB.out | apply zD | apply zE | apply zF) | exact HB.out)⟩

/-- THE ONE PURE STATEMENT of laws_FnExactBestOrder. -/
def laws_FnExactBestOrder.Pure : Prop := ∀ (a0 : Int) (l1 : List (S68)), (Lit.int .i64 a0).wf = true → (l1.length ≤ maxLen ∧ ∀ y ∈ l1, W68 y) → ∃ k, laws_FnExactBestOrder.f k a0 l1 = some true
theorem laws_FnExactBestOrder.walk (P : laws_FnExactBestOrder.Pure) (a0 : Int) (A1 : Option Addr) (c1 : Nat) (l1 : List (S68)) (w : World) (hr1 : Kd.C k68 w A1 l1.length l1) (hc1 : l1.length ≤ c1) (hw0 : (Lit.int .i64 a0).wf = true) (hw1 : (l1.length ≤ maxLen ∧ ∀ y ∈ l1, W68 y)) :
  Calls Try.prog 10 #[.int .i64 a0, .slice A1 l1.length c1] w fun e w' => e = .returned (.bool true) ∧ Below w.heap.size w w' := by
 obtain ⟨k, h⟩ := P a0 l1 hw0 hw1
 refine (laws_FnExactBestOrder.calls k a0 _ _ l1 true w hr1 hc1 h).mono ?_
 rintro e w' ⟨rfl, hd⟩
 exact ⟨rfl, hd⟩

end Go.Proofs.Ytcciljjnpfgaeaa.G

namespace Go.Proofs.Ytcciljjnpfgaeaa.G
open Go.RowKit Go.Proofs.YtcciljjnpfgaeaaW.PrintWords Go.Proofs.YtcciljjnpfgaeaaW.PrintLast
set_option linter.unusedVariables false
set_option linter.unusedSimpArgs false
def cv_Sh (x : S68) : S62 := ⟨x.f0, x.f1, x.f2, x.f3⟩
theorem sz_Sh (xs : List S68) (n : Int) (h : xs.length ≤ maxLen) (h0 : 0 ≤ n) (h1 : n ≤ 1048576) : laws_szShipS.f xs n = some (if n - (xs.length : Int) < 0 then -1 else n - (xs.length : Int)) := by
  unfold maxLen at h
  unfold laws_szShipS.f
  rw [wrap64_id (by omega) (by omega)]
  split <;> rfl
theorem to_Sh (xs : List S68) (h : (xs.length : Int) ≤ 1048576) : Ev (fun k => laws_toShipS.f k xs) (xs.map cv_Sh) := by
  unfold laws_toShipS.f
  simp (disch := omega) only [if_pos]
  simp only [Int.toNat_natCast]
  refine Ev.fill (fun k out i => laws_toShipS.l0 k xs out i) xs cv_Sh z68 z62 ?_ ?_
  · intro out
    refine Ev.step (fun k => by rw [laws_toShipS.l0]) ?_
    simp only [Int.lt_irrefl, if_false]
    exact Ev.now _
  · intro out i hl h0 hlt r hr
    refine Ev.step (fun k => by rw [laws_toShipS.l0]) ?_
    simp (disch := omega) only [wrap64_id, if_pos, laws_toShip.f, Option.bind_some, hl]
    exact hr
theorem eq_Sh (xs : List S62) (h : (xs.length : Int) ≤ 1048576) : Ev (fun k => laws_eqShipS.f k xs xs) true := by
  unfold laws_eqShipS.f
  simp only [if_true]
  refine Ev.upc (fun k i => laws_eqShipS.l0 k xs xs i) true (xs.length : Int) 0 ?_ ?_ 0 (by omega) (by omega)
  · refine Ev.step (fun k => by rw [laws_eqShipS.l0]) ?_
    simp only [Int.lt_irrefl, if_false]
    exact Ev.now _
  · intro i h0 hlt hr
    refine Ev.step (fun k => by rw [laws_eqShipS.l0]) ?_
    simp (disch := omega) only [wrap64_id, if_pos, laws_eqShip.f, Option.bind_some, if_true]
    exact hr
end Go.Proofs.Ytcciljjnpfgaeaa.G

-- Written by wip/tools/gen.py out of the translation (the kit's printer, one namespace a seat). Lean checks it.
namespace Go.Proofs.Ytcciljjnpfgaeaa.G
open Go.RowKit Go.Proofs.YtcciljjnpfgaeaaW.PrintWords Go.Proofs.YtcciljjnpfgaeaaW.PrintLast Go.Proofs.YtcciljjnpfgaeaaW.PrintMore
attribute [local go_sem] max2_int min2_int max_two min_two max_three min_three max_four min_four   -- for this text's walks alone
set_option linter.unusedVariables false
set_option linter.unusedSimpArgs false

/-! ### laws_szBerthS: function 14 -/
def laws_szBerthS.f (l0 : List (S70)) (a1 : Int) : Option (Int) := if (wrap64 (a1 - (l0.length : Int))) < 0 then (some (-1)) else (some (wrap64 (a1 - (l0.length : Int))))
set_option maxHeartbeats 8000000 in
set_option maxRecDepth 100000 in
theorem laws_szBerthS.calls (A0 : Option Addr) (c0 : Nat) (l0 : List (S70)) (a1 : Int) (r : Int) (w : World) (hr0 : Kd.C k70 w A0 l0.length l0) (hc0 : l0.length ≤ c0) (h : laws_szBerthS.f l0 a1 = some r) :
  Calls Try.prog 14 #[.slice A0 l0.length c0, .int .i64 a1] w fun e w' => e = .returned (.int .i64 r) ∧ Drawn0 w w' := by
 have HR0 := zM hr0
 have HC0 := zM hc0
 clear hr0 hc0
 have H : (if (wrap64 (a1 - (l0.length : Int))) < 0 then (some (-1)) else (some (wrap64 (a1 - (l0.length : Int))))) = some r := h
 clear h
 by_cases c3 : (wrap64 (a1 - (l0.length : Int))) < 0
 ·rw [if_pos c3] at H
  have c3b0 : decide ((wrap64 (a1 - (l0.length : Int))) < 0) = true := decide_eq_true c3
  clear c3
  obtain rfl := Option.some.inj H
  go_enter Try.func14, Try.ntmps14
  go_wp2
  go_ret
  exact ⟨by first | rfl | (simp; done) | (simp [*]; done), by repeat (first | exact Drawn0.refl _ | apply Drawn0.step)⟩
 ·rw [if_neg c3] at H
  have c3b0 : decide ((wrap64 (a1 - (l0.length : Int))) < 0) = false := decide_eq_false c3
  clear c3
  obtain rfl := Option.some.inj H
  go_enter Try.func14, Try.ntmps14
  go_wp2
  go_ret
  exact ⟨by first | rfl | (simp; done) | (simp [*]; done), by repeat (first | exact Drawn0.refl _ | apply Drawn0.step)⟩

end Go.Proofs.Ytcciljjnpfgaeaa.G

-- Written by wip/tools/gen.py out of the translation (the kit's printer, one namespace a seat). Lean checks it.
namespace Go.Proofs.Ytcciljjnpfgaeaa.G
open Go.RowKit Go.Proofs.YtcciljjnpfgaeaaW.PrintWords Go.Proofs.YtcciljjnpfgaeaaW.PrintLast Go.Proofs.YtcciljjnpfgaeaaW.PrintMore
attribute [local go_sem] max2_int min2_int max_two min_two max_three min_three max_four min_four   -- for this text's walks alone
set_option linter.unusedVariables false
set_option linter.unusedSimpArgs false

/-! ### laws_toBerth: function 51 -/
def laws_toBerth.f (a0_0 : Int) (a0_1 : Int) : Option (Int × Int) := some (a0_0, a0_1)
set_option maxHeartbeats 8000000 in
set_option maxRecDepth 100000 in
theorem laws_toBerth.calls (a0_0 : Int) (a0_1 : Int) (r1 : Int) (r2 : Int) (w : World) (h : laws_toBerth.f a0_0 a0_1 = some (r1, r2)) :
  Calls Try.prog 51 #[.agg #[.int .i64 a0_0, .int .i64 a0_1]] w fun e w' => e = .returned (.agg #[.int .i64 r1, .int .i64 r2]) ∧ Below w.heap.size w w' := by
 have hu70 := Try.underlying70
 have hu37 := Try.underlying37
 have HB := zM (Below.refl w.heap.size w)
 have H : (some (a0_0, a0_1)) = some (r1, r2) := h
 clear h
 simp only [Option.some.injEq, Prod.mk.injEq] at H
 obtain ⟨rfl, rfl⟩ := H
 go_enter Try.func51, Try.ntmps51
 go_wp2_with (first | ((with_reducible refine gate_dst (N := 1) rfl ?_); refine box_event ?hg (N := 1) ?hd (cs := #[.int .i64 a0_0, .int .i64 a0_1]) (t := 70) ?hr ?_; (case hd => rfl); (case hg => rfl); (case hr => first | (go_simp; done) | (go_simp; rfl)); intro gb144 hg w2 hbox hb; have n0_ := zM (zQ (by repeat (first | (with_reducible first | exact HB.out | apply zD | apply zE | apply zF) | exact HB.out)) hb); have n1_ := zM (hbox); have n2_ := zM ((by rw [hg]; exact (zR (by repeat (first | (with_reducible first | exact HB.out | apply zD | apply zE | apply zF) | exact HB.out))) : w.heap.size ≤ gb144)); have n3_ := zM ((by rw [hg]; exact (zR (by repeat (first | (with_reducible first | exact HB.out | apply zD | apply zE | apply zF) | exact HB.out))) : w.heap.size ≤ gb144)); clear HB; have HB := n0_; have BK144 := n1_; have GW144 := n2_; have GE144 := n3_; clear n0_ n1_ n2_ n3_; clear hb hbox hg) | ((with_reducible refine gate_dst (N := 2) rfl ?_); refine box_event ?hg (N := 2) ?hd (cs := #[.int .i64 0, .int .i64 0]) (t := 37) ?hr ?_; (case hd => rfl); (case hg => rfl); (case hr => first | (go_simp; done) | (go_simp; rfl)); intro gb145 hg w3 hbox hb; have n0_ := zM (blk_below (g := gb144) (o := .cells #[.int .i64 a0_0, .int .i64 a0_1] 70 (0, 0)) (by (with_reducible repeat (first | refine zJ ?_ _ | refine zK ?_ | refine zL ?_ _)); exact BK144.out) hb); have n1_ := zM (zQ (by repeat (first | (with_reducible first | exact HB.out | apply zD | apply zE | apply zF | refine below_set ?_ GE144.out) | exact HB.out)) hb); have n2_ := zM (hbox); have n3_ := zM ((by rw [hg]; exact (zR (by repeat (first | (with_reducible first | exact HB.out | apply zD | apply zE | apply zF | refine below_set ?_ GE144.out) | exact HB.out))) : w.heap.size ≤ gb145)); have n4_ := zM ((by rw [hg]; exact (zR (by repeat (first | (with_reducible first | exact HB.out | apply zD | apply zE | apply zF | refine below_set ?_ GE144.out) | exact HB.out))) : w.heap.size ≤ gb145)); have n5_ := zM ((by rw [hg]; exact Nat.ne_of_lt (blk_lt (g := gb144) (o := .cells #[.int .i64 a0_0, .int .i64 a0_1] 70 (0, 0)) (by (with_reducible repeat (first | refine zJ ?_ _ | refine zK ?_ | refine zL ?_ _)); exact BK144.out)) : gb144 ≠ gb145)); have n6_ := zM ((by rw [hg]; exact Nat.ne_of_gt (blk_lt (g := gb144) (o := .cells #[.int .i64 a0_0, .int .i64 a0_1] 70 (0, 0)) (by (with_reducible repeat (first | refine zJ ?_ _ | refine zK ?_ | refine zL ?_ _)); exact BK144.out)) : gb145 ≠ gb144)); clear BK144; clear HB; have BK144 := n0_; have HB := n1_; have BK145 := n2_; have GW145 := n3_; have GE145 := n4_; have NB144_145 := n5_; have NB145_144 := n6_; clear n0_ n1_ n2_ n3_ n4_ n5_ n6_; clear hb hbox hg) | ((with_reducible refine gate_dst (N := 3) rfl ?_); refine box_event ?hg (N := 3) ?hd (cs := #[.int .i64 0, .int .i64 0]) (t := 37) ?hr ?_; (case hd => rfl); (case hg => rfl); (case hr => first | (go_simp; done) | (go_simp; rfl)); intro gb146 hg w4 hbox hb; have n0_ := zM (blk_below (g := gb144) (o := .cells #[.int .i64 a0_0, .int .i64 a0_1] 70 (0, 0)) (by (with_reducible repeat (first | refine zJ ?_ _ | refine zK ?_ | refine zL ?_ _)); exact BK144.out) hb); have n1_ := zM (blk_below (g := gb145) (o := .cells #[.int .i64 0, .int .i64 0] 37 (0, 0)) (by (with_reducible repeat (first | refine zJ ?_ _ | refine zK ?_ | refine zL ?_ _)); exact BK145.out) hb); have n2_ := zM (zQ (by repeat (first | (with_reducible first | exact HB.out | apply zD | apply zE | apply zF | refine below_set ?_ GE144.out | refine below_set ?_ GE145.out) | exact HB.out)) hb); have n3_ := zM (hbox); have n4_ := zM ((by rw [hg]; exact (zR (by repeat (first | (with_reducible first | exact HB.out | apply zD | apply zE | apply zF | refine below_set ?_ GE144.out | refine below_set ?_ GE145.out) | exact HB.out))) : w.heap.size ≤ gb146)); have n5_ := zM ((by rw [hg]; exact (zR (by repeat (first | (with_reducible first | exact HB.out | apply zD | apply zE | apply zF | refine below_set ?_ GE144.out | refine below_set ?_ GE145.out) | exact HB.out))) : w.heap.size ≤ gb146)); have n6_ := zM ((by rw [hg]; exact Nat.ne_of_lt (blk_lt (g := gb144) (o := .cells #[.int .i64 a0_0, .int .i64 a0_1] 70 (0, 0)) (by (with_reducible repeat (first | refine zJ ?_ _ | refine zK ?_ | refine zL ?_ _)); exact BK144.out)) : gb144 ≠ gb146)); have n7_ := zM ((by rw [hg]; exact Nat.ne_of_gt (blk_lt (g := gb144) (o := .cells #[.int .i64 a0_0, .int .i64 a0_1] 70 (0, 0)) (by (with_reducible repeat (first | refine zJ ?_ _ | refine zK ?_ | refine zL ?_ _)); exact BK144.out)) : gb146 ≠ gb144)); have n8_ := zM ((by rw [hg]; exact Nat.ne_of_lt (blk_lt (g := gb145) (o := .cells #[.int .i64 0, .int .i64 0] 37 (0, 0)) (by (with_reducible repeat (first | refine zJ ?_ _ | refine zK ?_ | refine zL ?_ _)); exact BK145.out)) : gb145 ≠ gb146)); have n9_ := zM ((by rw [hg]; exact Nat.ne_of_gt (blk_lt (g := gb145) (o := .cells #[.int .i64 0, .int .i64 0] 37 (0, 0)) (by (with_reducible repeat (first | refine zJ ?_ _ | refine zK ?_ | refine zL ?_ _)); exact BK145.out)) : gb146 ≠ gb145)); clear BK144; clear BK145; clear HB; have BK144 := n0_; have BK145 := n1_; have HB := n2_; have BK146 := n3_; have GW146 := n4_; have GE146 := n5_; have NB144_146 := n6_; have NB146_144 := n7_; have NB145_146 := n8_; have NB146_145 := n9_; clear n0_ n1_ n2_ n3_ n4_ n5_ n6_ n7_ n8_ n9_; clear hb hbox hg; have hnb5 := NB144_145.out; have hnc5 := NB145_144.out; have hnb6 := NB144_146.out; have hnc6 := NB146_144.out; have hcz7_0 : w4.cell? ⟨gb144, 0, none⟩ = some (.int .i64 a0_0) := (blk_cell BK144.out 0).trans rfl; have hcz7_1 : w4.cell? ⟨gb144, 1, none⟩ = some (.int .i64 a0_1) := (blk_cell BK144.out 1).trans rfl; have hfz7_0 := blk_frozen BK144.out 0; have hfz7_1 := blk_frozen BK144.out 1; have hnb8 := NB146_145.out; have hnc8 := NB145_146.out; have hcz9_0 : w4.cell? ⟨gb146, 0, none⟩ = some (.int .i64 0) := (blk_cell BK146.out 0).trans rfl; have hcz9_1 : w4.cell? ⟨gb146, 1, none⟩ = some (.int .i64 0) := (blk_cell BK146.out 1).trans rfl; have hfz9_0 := blk_frozen BK146.out 0; have hfz9_1 := blk_frozen BK146.out 1; have hcz10_0 : w4.cell? ⟨gb145, 0, none⟩ = some (.int .i64 0) := (blk_cell BK145.out 0).trans rfl; have hcz10_1 : w4.cell? ⟨gb145, 1, none⟩ = some (.int .i64 0) := (blk_cell BK145.out 1).trans rfl; have hfz10_0 := blk_frozen BK145.out 0; have hfz10_1 := blk_frozen BK145.out 1))
 refine bodyPost_ret (results_cell_row rfl _ _ gb145 37 #[.int .i64 a0_0, .int .i64 a0_1] (0, 0) _ rfl (by (with_reducible repeat (first | refine zJ ?_ _ | refine zK ?_ | refine zL ?_ _)); refine blk_put (cs := #[.int .i64 a0_0, .int .i64 0]) ?_ 1 _ rfl; (with_reducible repeat (first | refine zJ ?_ _ | refine zK ?_ | refine zL ?_ _)); refine blk_put (cs := #[.int .i64 0, .int .i64 0]) ?_ 0 _ rfl; (with_reducible repeat (first | refine zJ ?_ _ | refine zK ?_ | refine zL ?_ _)); refine blk_far ?_ NB145_146.out _; (with_reducible repeat (first | refine zJ ?_ _ | refine zK ?_ | refine zL ?_ _)); refine blk_far ?_ NB145_146.out _; (with_reducible repeat (first | refine zJ ?_ _ | refine zK ?_ | refine zL ?_ _)); exact BK145.out) Try.underlying37 rfl (by kernel_rfl)) rfl ?_
 exact ⟨by first | rfl | (simp [errW_none, errW_some] <;> rfl) | (simp [*, errW_none, errW_some] <;> rfl), by repeat (first | (with_reducible first | exact HB.out | apply zD | apply zE | apply zF | refine below_set ?_ GE144.out | refine below_set ?_ GE145.out | refine below_set ?_ GE146.out) | exact HB.out)⟩

end Go.Proofs.Ytcciljjnpfgaeaa.G

-- Written by wip/tools/gen.py out of the translation (the kit's printer, one namespace a seat). Lean checks it.
namespace Go.Proofs.Ytcciljjnpfgaeaa.G
open Go.RowKit Go.Proofs.YtcciljjnpfgaeaaW.PrintWords Go.Proofs.YtcciljjnpfgaeaaW.PrintLast Go.Proofs.YtcciljjnpfgaeaaW.PrintMore
attribute [local go_sem] max2_int min2_int max_two min_two max_three min_three max_four min_four   -- for this text's walks alone
set_option linter.unusedVariables false
set_option linter.unusedSimpArgs false

/-! ### laws_toBerthS: function 17 -/
def laws_toBerthS.l0 : Nat → List (S70) → List (S37) → Int → Option ((List (S37)))
 | 0, _, _, _ => none
 | k + 1, x0, x3, x4 => if x4 < (x0.length : Int) then (if 0 ≤ x4 then ((laws_toBerth.f ((rd_T70 x0 x4).f0) ((rd_T70 x0 x4).f1)).bind fun bt151 => (if x4 < (x3.length : Int) then (laws_toBerthS.l0 k x0 (x3.set (x4 : Int).toNat (⟨bt151.1, bt151.2⟩ : S37)) (wrap64 (x4 + 1))) else (none))) else (none)) else (some x3)
def laws_toBerthS.f (k : Nat) (l0 : List (S70)) : Option ((List (S37))) := if 0 ≤ (l0.length : Int) then (if ((l0.length : Int) : Int).toNat ≤ 17592186044416 then (laws_toBerthS.l0 k l0 (List.replicate ((l0.length : Int) : Int).toNat z37) 0) else (none)) else (none)
set_option maxHeartbeats 8000000 in
set_option maxRecDepth 100000 in
theorem laws_toBerthS.calls (k : Nat) (A0 : Option Addr) (c0 : Nat) (l0 : List (S70)) (r : List (S37)) (w : World) (hr0 : Kd.C k70 w A0 l0.length l0) (hc0 : l0.length ≤ c0) (h : laws_toBerthS.f k l0 = some r) :
  Calls Try.prog 17 #[.slice A0 l0.length c0] w fun e w' => ∃ v0_ : Value, e = .returned (v0_) ∧ Kd.R k37 37 w' w.heap.size (fun _ => True) v0_ r ∧ Below w.heap.size w w' := by
 have hu70 := Try.underlying70
 have hu37 := Try.underlying37
 have HR0 := zM hr0
 have HC0 := zM hc0
 clear hr0 hc0
 have HB := zM (Below.refl w.heap.size w)
 have H : (if 0 ≤ (l0.length : Int) then (if ((l0.length : Int) : Int).toNat ≤ 17592186044416 then (laws_toBerthS.l0 k l0 (List.replicate ((l0.length : Int) : Int).toNat z37) 0) else (none)) else (none)) = some r := h
 clear h
 by_cases c2 : 0 ≤ (l0.length : Int)
 ·rw [if_pos c2] at H
  have c2b0 := eq_true c2
  have c2b1 : decide (0 ≤ (l0.length : Int)) = true := decide_eq_true c2
  clear c2
  by_cases c3 : ((l0.length : Int) : Int).toNat ≤ 17592186044416
  ·rw [if_pos c3] at H
   have c3b0 := eq_true c3
   have c3b1 : decide (((l0.length : Int) : Int).toNat ≤ 17592186044416) = true := decide_eq_true c3
   clear c3
   obtain ⟨y147, hy147⟩ : ∃ y_ : List (S37), y_ = (List.replicate ((l0.length : Int) : Int).toNat z37) := ⟨_, rfl⟩
   replace H : (laws_toBerthS.l0 k l0 y147 0) = some r := by first | (rw [hy147]; with_reducible exact H) | (have H2_ := (Option.bind_some _ _).symm.trans H; rw [hy147]; with_reducible exact H2_) | (have H2_ := (Option.bind_some _ _).symm.trans H; with_reducible exact H2_) | with_reducible exact H | (rw [hy147]; exact H) | exact H
   have Ny147 := zM hy147
   clear hy147
   have H' := zM H
   clear H
   go_enter Try.func17, Try.ntmps17
   go_wp2_with (first | ((with_reducible refine gate_dst (N := 7) rfl ?_); refine Kd.R_make k37 _ 37 rfl (N := 7) rfl 29 _ _ rfl (l0.length : Int) rfl rfl Try.underlying29 (.agg #[(.int .i64 0), (.int .i64 0)]) 16 info37 rfl (by decide) (by omega) z37 (ok := fun _ => True) (okp := fun _ => True) (k37_mkM _ _ _ z37 ) (fun _ hk => hk) trivial (of_decide_eq_true (by first | (with_reducible assumption) | assumption)) (Nat.le_trans (Nat.mul_le_mul_right _ (of_decide_eq_true (by first | (with_reducible assumption) | assumption) : (l0.length : Int).toNat ≤ 17592186044416)) (by omega)) (Below.refl _ _) (Nat.le_refl _) ?_; intro v148 w4 ho5 hb hg_ hnew_; clear hg_ hnew_; (first | rw [← Ny147.out] at ho5 | (simp only [Int.reduceToNat] at ho5; rw [← Ny147.out] at ho5)); have n0_ := zM (Kd.R_lower ho5 (zR (by repeat (first | (with_reducible first | exact HB.out | apply zD | apply zE | apply zF) | exact HB.out)))); have n1_ := zM (zQ (by repeat (first | (with_reducible first | exact HB.out | apply zD | apply zE | apply zF) | exact HB.out)) hb); clear HB; have HO149 := n0_; have HB := n1_; clear n0_ n1_; clear hb ho5))
   go_loopg [4] k (fun kq v4 w' => ∃ (x3_1 : List (S37)) (x4_1 : Int), v4 = .int .i64 x4_1 ∧ Aside0 (laws_toBerthS.l0 kq l0 x3_1 x4_1 = some r) ∧ Aside0 (kq ≤ k) ∧ Aside0 (Kd.R k37 37 w' w.heap.size (fun _ => True) v148 x3_1) ∧ Aside0 (Below w.heap.size w w'))
   case atStart => exact ⟨(y147), (0), (by first | rfl | (simp; done) | (simp [*]; done)), H', ⟨Nat.le_refl _⟩, ⟨by (with_reducible repeat (first | apply zA | apply zB | apply zC)); exact HO149.out⟩, ⟨by repeat (first | (with_reducible first | exact HB.out | apply zD | apply zE | apply zF) | exact HB.out)⟩⟩
   case round =>
    clear H'
    try clear c1
    try clear c2
    try clear c2b0
    try clear c2b1
    try clear p2
    try clear c3
    try clear c3b0
    try clear c3b1
    obtain ⟨x3_1, x4_1, rfl, HA, HK1, HO_3, HB⟩ := hrel
    cases gk with
    | zero => exact absurd HA.out (by simp [laws_toBerthS.l0])
    | succ k1 =>
     have H := HA.out
     clear HA
     simp only [laws_toBerthS.l0] at H
     by_cases c6 : x4_1 < (l0.length : Int)
     ·rw [if_pos c6] at H
      have c6b0 : decide (x4_1 < (l0.length : Int)) = true := decide_eq_true c6
      clear c6
      by_cases c7 : 0 ≤ x4_1
      ·rw [if_pos c7] at H
       have c7b0 : decide (0 ≤ x4_1) = true := decide_eq_true c7
       clear c7
       replace H := Option.bind_eq_some_iff.mp H
       obtain ⟨⟨t151, t152⟩, A80, H⟩ := H
       replace H : (if x4_1 < (x3_1.length : Int) then (laws_toBerthS.l0 k1 l0 (x3_1.set (x4_1 : Int).toNat (⟨t151, t152⟩ : S37)) (wrap64 (x4_1 + 1))) else (none)) = some r := H
       have A8 := zM A80
       clear A80
       by_cases c9 : x4_1 < (x3_1.length : Int)
       ·rw [if_pos c9] at H
        have c9b0 : decide (x4_1 < (x3_1.length : Int)) = true := decide_eq_true c9
        clear c9
        obtain ⟨y153, hy153⟩ : ∃ y_ : List (S37), y_ = (x3_1.set (x4_1 : Int).toNat (⟨t151, t152⟩ : S37)) := ⟨_, rfl⟩
        replace H : (laws_toBerthS.l0 k1 l0 y153 (wrap64 (x4_1 + 1))) = some r := by first | (rw [hy153]; with_reducible exact H) | (have H2_ := (Option.bind_some _ _).symm.trans H; rw [hy153]; with_reducible exact H2_) | (have H2_ := (Option.bind_some _ _).symm.trans H; with_reducible exact H2_) | with_reducible exact H | (rw [hy153]; exact H) | exact H
        have Ny153 := zM hy153
        clear hy153
        have H' := zM H
        clear H
        have p150 : 0 ≤ (x4_1 : Int) := of_decide_eq_true (by first | (with_reducible assumption) | assumption)
        have q150 : x4_1 < (l0.length : Int) := of_decide_eq_true (by first | (with_reducible assumption) | assumption)
        obtain ⟨ad150, e150, hx150_0, hx150_1⟩ := at_T70 HR0.out x4_1 p150 q150
        cases e150
        replace hx150_0 := (HB.out.cell (World.block_lt_of_cell? w _ hx150_0)).trans hx150_0
        replace hx150_1 := (HB.out.cell (World.block_lt_of_cell? w _ hx150_1)).trans hx150_1
        replace p150 := eq_true p150
        replace q150 := eq_true q150
        go_wp2_with (first | ((with_reducible refine gate_callee (f := 51) rfl ?_); refine goesL_ (some 20) rfl rfl Try.func51 (by kernel_rfl) rfl #[.agg #[.int .i64 ((rd_T70 l0 x4_1).f0), .int .i64 ((rd_T70 l0 x4_1).f1)]] rfl (by (try simp only [List.map_toArray, List.map_cons, List.map_nil]); first | done | rfl | (simp only [List.length_drop, List.length_take]; rfl)) ?_; (with_reducible refine (laws_toBerth.calls ((rd_T70 l0 x4_1).f0) ((rd_T70 l0 x4_1).f1) t151 t152 _ A8.out).mono ?_); rintro e w11 ⟨rfl, hb⟩; refine ⟨_, rfl, ?_⟩; have n0_ := zM (zP (by (with_reducible repeat (first | apply zA | apply zB | apply zC)); exact HO_3.out) hb); have n1_ := zM (zQ (by repeat (first | (with_reducible first | exact HB.out | apply zD | apply zE | apply zF) | exact HB.out)) hb); clear HO_3; clear HB; have HO_3 := n0_; have HB := n1_; clear n0_ n1_; (try clear hb); (try clear hb2); (try clear hk); (try clear hi); have p10 : 0 ≤ (x4_1 : Int) := of_decide_eq_true (by first | (with_reducible assumption) | assumption); have q10 : (x4_1 : Int) < ((x3_1.length : Int) : Int) := of_decide_eq_true (by first | (with_reducible assumption) | assumption); obtain ⟨go10, co10, eo10, gb10, gl10, cl10, HG10⟩ := Kd.R_form HO_3.out (by omega); (first | cases eo10 | (injection eo10 with ea_ en_ ec_; (first | subst ea_ | (injection ea_ with ea_; subst ea_)); subst ec_; clear en_)); have GB10 := zM gb10; have GG10 := zM HG10; clear gb10 gl10 HG10; obtain ⟨ce10, hcl10, hM10, hcc10, hfr10⟩ := Kd.R_elem HO_3.out z37 (x4_1 : Int) p10 q10; obtain rfl := k37_openM hM10; have hx10_0 : w11.cell? ⟨go10, (x4_1 : Int).toNat * 2, none⟩ = some (.int .i64 ((rd_T37 x3_1 x4_1).f0)) := hcc10 0 _ rfl; have hx10_1 : w11.cell? ⟨go10, (x4_1 : Int).toNat * 2 + 1, none⟩ = some (.int .i64 ((rd_T37 x3_1 x4_1).f1)) := hcc10 1 _ rfl; have hf10_0 : w11.frozen? ⟨go10, (x4_1 : Int).toNat * 2, none⟩ = false := hfr10 0; have hf10_1 : w11.frozen? ⟨go10, (x4_1 : Int).toNat * 2 + 1, none⟩ = false := hfr10 1; clear hcl10 hcc10 hfr10; (try clear hM10); replace p10 := eq_true p10; replace q10 := eq_true q10; have HX12 := zM (show Kd.R k37 37 w11 w.heap.size (fun _ => True) (.slice (some ⟨go10, 0, none⟩) x3_1.length co10) x3_1 from (by (with_reducible repeat (first | apply zA | apply zB | apply zC)); exact HO_3.out)); obtain ⟨ce12, hcl12, hM12, hcc12, hfr12⟩ := Kd.R_elem HX12.out z37 (x4_1 : Int) (of_decide_eq_true (by first | (with_reducible assumption) | assumption)) (by have h_ : (x4_1 : Int) < ((x3_1.length : Int) : Int) := of_decide_eq_true (by first | (with_reducible assumption) | assumption); first | exact h_ | (have e_ := (zN HO_3.out).1; omega) | simpa using h_); obtain rfl := k37_openM hM12; have HP12 := Kd.R_seg HX12.out (x4_1 : Int) (of_decide_eq_true (by first | (with_reducible assumption) | assumption)) (by have h_ : (x4_1 : Int) < ((x3_1.length : Int) : Int) := of_decide_eq_true (by first | (with_reducible assumption) | assumption); first | exact h_ | (have e_ := (zN HO_3.out).1; omega) | simpa using h_) (seg := [.int .i64 t151, .int .i64 t152]) (j := 0) hcl12 hcc12 (show 2 ≤ 2 from by decide) (x' := (⟨t151, t152⟩ : S37)) (k37_mkM _ _ _ (⟨t151, t152⟩ : S37) ) (fun _ hk => hk); have hx12_0 := hcc12 0 _ rfl; (try simp only [show (k37).sz = 2 from rfl, Nat.mul_one, Nat.add_zero] at hx12_0); have hf12_0 := hfr12 0; (try simp only [show (k37).sz = 2 from rfl, Nat.mul_one, Nat.add_zero] at hf12_0); have hx12_1 := hcc12 1 _ rfl; (try simp only [show (k37).sz = 2 from rfl, Nat.mul_one, Nat.add_zero] at hx12_1); have hf12_1 := hfr12 1; (try simp only [show (k37).sz = 2 from rfl, Nat.mul_one, Nat.add_zero] at hf12_1); clear hcl12 hcc12 hfr12; (try clear hM12)) | ((with_reducible refine gate_store (t := 37) (p := 21) rfl ?_); refine store_event (t := 37) (p := 21) (v := ?vo_w13) (w1 := ((w11.setCell ⟨go10, (x4_1 : Int).toNat * 2, none⟩ (.int .i64 t151)).setCell ⟨go10, (x4_1 : Int).toNat * 2 + 1, none⟩ (.int .i64 t152))) ?hg ?ho ?hn ?hr ?_; (case ho => rfl); (case hg => rfl); (case hn => rfl); (case hr => first | (go_simp; done) | (go_simp; rfl)); intro w13 hw; have hg : w11.grownBy w13 (some go10) := (by rw [hw]; exact HP12.2); have hp_ : Kd.R k37 37 w13 w.heap.size (fun _ => True) (.slice (some ⟨go10, 0, none⟩) x3_1.length co10) y153 := (by rw [hw, Ny153.out]; exact HP12.1); clear HP12; have n0_ := zM (hp_); have n1_ := zM ((by rw [hw]; exact below_set (below_set (HB.out) GB10.out) GB10.out : Below w.heap.size w w13)); clear HO_3; clear HB; have HO_3 := n0_; have HB := n1_; clear n0_ n1_; clear hg hw hp_))
        go_roundg k1
        case measure => have := HK1.out; omega
        case rel => exact ⟨(y153), (wrap64 (x4_1 + 1)), (by first | rfl | (simp; done) | (simp [*]; done)), H', ⟨by have := HK1.out; omega⟩, ⟨by (with_reducible repeat (first | apply zA | apply zB | apply zC)); exact HO_3.out⟩, ⟨by repeat (first | (with_reducible first | exact HB.out | apply zD | apply zE | apply zF) | exact HB.out)⟩⟩
       ·rw [if_neg c9] at H
        exact absurd H (by simp)
      ·rw [if_neg c7] at H
       exact absurd H (by simp)
     ·rw [if_neg c6] at H
      have c6b0 : decide (x4_1 < (l0.length : Int)) = false := decide_eq_false c6
      clear c6
      obtain rfl := Option.some.inj H
      go_wp2
      go_ret
      exact ⟨_, by first | rfl | (simp [errW_none, errW_some] <;> rfl) | (simp [*, errW_none, errW_some] <;> rfl), by (with_reducible repeat (first | apply zA | apply zB | apply zC)); exact HO_3.out, by repeat (first | (with_reducible first | exact HB.out | apply zD | apply zE | apply zF) | exact HB.out)⟩
  ·rw [if_neg c3] at H
   exact absurd H (by simp)
 ·rw [if_neg c2] at H
  exact absurd H (by simp)

end Go.Proofs.Ytcciljjnpfgaeaa.G

namespace Go.Proofs.Ytcciljjnpfgaeaa.G
open Go.RowKit Go.Proofs.YtcciljjnpfgaeaaW.PrintWords Go.Proofs.YtcciljjnpfgaeaaW.PrintLast
set_option linter.unusedVariables false
set_option linter.unusedSimpArgs false
def cv_B (x : S70) : S37 := ⟨x.f0, x.f1⟩
theorem eq_B (xs : List S37) (h : (xs.length : Int) ≤ 1048576) : Ev (fun k => laws_eqBerthS.f k xs xs) true := by
  unfold laws_eqBerthS.f
  simp only [if_true]
  refine Ev.upc (fun k i => laws_eqBerthS.l0 k xs xs i) true (xs.length : Int) 0 ?_ ?_ 0 (by omega) (by omega)
  · refine Ev.step (fun k => by rw [laws_eqBerthS.l0]) ?_
    simp only [Int.lt_irrefl, if_false]
    exact Ev.now _
  · intro i h0 hlt hr
    refine Ev.step (fun k => by rw [laws_eqBerthS.l0]) ?_
    simp (disch := omega) only [wrap64_id, if_pos, laws_eqBerth.f, Option.bind_some, if_true]
    exact hr
end Go.Proofs.Ytcciljjnpfgaeaa.G

-- Written by wip/tools/gen.py out of the translation (the kit's printer, one namespace a seat). Lean checks it.
namespace Go.Proofs.Ytcciljjnpfgaeaa.G
open Go.RowKit Go.Proofs.YtcciljjnpfgaeaaW.PrintWords Go.Proofs.YtcciljjnpfgaeaaW.PrintLast Go.Proofs.YtcciljjnpfgaeaaW.PrintMore
attribute [local go_sem] max2_int min2_int max_two min_two max_three min_three max_four min_four   -- for this text's walks alone
set_option linter.unusedVariables false
set_option linter.unusedSimpArgs false

/-! ### laws_toIntS: function 38 -/
def laws_toIntS.l0 : Nat → List Int → List Int → Int → Option (List Int)
 | 0, _, _, _ => none
 | k + 1, x0, x3, x4 => if x4 < (x0.length : Int) then (if 0 ≤ x4 then (if x4 < (x3.length : Int) then (laws_toIntS.l0 k x0 (x3.set (x4 : Int).toNat (rd x0 x4)) (wrap64 (x4 + 1))) else (none)) else (none)) else (some x3)
def laws_toIntS.f (k : Nat) (l0 : List Int) : Option (List Int) := if 0 ≤ (l0.length : Int) then (if ((l0.length : Int) : Int).toNat ≤ 35184372088832 then (laws_toIntS.l0 k l0 (List.replicate ((l0.length : Int) : Int).toNat 0) 0) else (none)) else (none)
set_option maxHeartbeats 8000000 in
set_option maxRecDepth 100000 in
theorem laws_toIntS.calls (k : Nat) (A0 : Option Addr) (c0 : Nat) (l0 : List Int) (r : List Int) (w : World) (hr0 : Kd.C (Kd.int .i64) w A0 l0.length l0) (hc0 : l0.length ≤ c0) (h : laws_toIntS.f k l0 = some r) :
  Calls Try.prog 38 #[.slice A0 l0.length c0] w fun e w' => ∃ v0_ : Value, e = .returned (v0_) ∧ Kd.R (Kd.int .i64) 3 w' w.heap.size (fun _ => True) v0_ r ∧ Below w.heap.size w w' := by
 have HR0 := zM hr0
 have HC0 := zM hc0
 clear hr0 hc0
 have HB := zM (Below.refl w.heap.size w)
 have H : (if 0 ≤ (l0.length : Int) then (if ((l0.length : Int) : Int).toNat ≤ 35184372088832 then (laws_toIntS.l0 k l0 (List.replicate ((l0.length : Int) : Int).toNat 0) 0) else (none)) else (none)) = some r := h
 clear h
 by_cases c2 : 0 ≤ (l0.length : Int)
 ·rw [if_pos c2] at H
  have c2b0 := eq_true c2
  have c2b1 : decide (0 ≤ (l0.length : Int)) = true := decide_eq_true c2
  clear c2
  by_cases c3 : ((l0.length : Int) : Int).toNat ≤ 35184372088832
  ·rw [if_pos c3] at H
   have c3b0 := eq_true c3
   have c3b1 : decide (((l0.length : Int) : Int).toNat ≤ 35184372088832) = true := decide_eq_true c3
   clear c3
   obtain ⟨y556, hy556⟩ : ∃ y_ : List Int, y_ = (List.replicate ((l0.length : Int) : Int).toNat 0) := ⟨_, rfl⟩
   replace H : (laws_toIntS.l0 k l0 y556 0) = some r := by first | (rw [hy556]; with_reducible exact H) | (have H2_ := (Option.bind_some _ _).symm.trans H; rw [hy556]; with_reducible exact H2_) | (have H2_ := (Option.bind_some _ _).symm.trans H; with_reducible exact H2_) | with_reducible exact H | (rw [hy556]; exact H) | exact H
   have Ny556 := zM hy556
   clear hy556
   have H' := zM H
   clear H
   go_enter Try.func38, Try.ntmps38
   go_wp2_with (first | ((with_reducible refine gate_dst (N := 7) rfl ?_); refine Kd.R_make (Kd.int .i64) _ 3 rfl (N := 7) rfl 41 _ _ rfl (l0.length : Int) rfl rfl Try.underlying41 (.int .i64 0) 8 info3 rfl (by decide) (by omega) 0 (ok := fun _ => True) (okp := fun _ => True) rfl (fun _ hk => hk) trivial (of_decide_eq_true (by first | (with_reducible assumption) | assumption)) (Nat.le_trans (Nat.mul_le_mul_right _ (of_decide_eq_true (by first | (with_reducible assumption) | assumption) : (l0.length : Int).toNat ≤ 35184372088832)) (by omega)) (Below.refl _ _) (Nat.le_refl _) ?_; intro v557 w4 ho5 hb hg_ hnew_; clear hg_ hnew_; (first | rw [← Ny556.out] at ho5 | (simp only [Int.reduceToNat] at ho5; rw [← Ny556.out] at ho5)); have n0_ := zM (Kd.R_lower ho5 (zR (by repeat (first | (with_reducible first | exact HB.out | apply zD | apply zE | apply zF) | exact HB.out)))); have n1_ := zM (zQ (by repeat (first | (with_reducible first | exact HB.out | apply zD | apply zE | apply zF) | exact HB.out)) hb); clear HB; have HO558 := n0_; have HB := n1_; clear n0_ n1_; clear hb ho5))
   go_loopg [4] k (fun kq v4 w' => ∃ (x3_1 : List Int) (x4_1 : Int), v4 = .int .i64 x4_1 ∧ Aside0 (laws_toIntS.l0 kq l0 x3_1 x4_1 = some r) ∧ Aside0 (kq ≤ k) ∧ Aside0 (Kd.R (Kd.int .i64) 3 w' w.heap.size (fun _ => True) v557 x3_1) ∧ Aside0 (Below w.heap.size w w'))
   case atStart => exact ⟨(y556), (0), (by first | rfl | (simp; done) | (simp [*]; done)), H', ⟨Nat.le_refl _⟩, ⟨by (with_reducible repeat (first | apply zA | apply zB | apply zC)); exact HO558.out⟩, ⟨by repeat (first | (with_reducible first | exact HB.out | apply zD | apply zE | apply zF) | exact HB.out)⟩⟩
   case round =>
    clear H'
    try clear c2
    try clear c2b0
    try clear c2b1
    try clear p2
    try clear c3
    try clear c3b0
    try clear c3b1
    obtain ⟨x3_1, x4_1, rfl, HA, HK1, HO_3, HB⟩ := hrel
    cases gk with
    | zero => exact absurd HA.out (by simp [laws_toIntS.l0])
    | succ k1 =>
     have H := HA.out
     clear HA
     simp only [laws_toIntS.l0] at H
     by_cases c6 : x4_1 < (l0.length : Int)
     ·rw [if_pos c6] at H
      have c6b0 : decide (x4_1 < (l0.length : Int)) = true := decide_eq_true c6
      clear c6
      by_cases c7 : 0 ≤ x4_1
      ·rw [if_pos c7] at H
       have c7b0 : decide (0 ≤ x4_1) = true := decide_eq_true c7
       clear c7
       by_cases c8 : x4_1 < (x3_1.length : Int)
       ·rw [if_pos c8] at H
        have c8b0 : decide (x4_1 < (x3_1.length : Int)) = true := decide_eq_true c8
        clear c8
        obtain ⟨y560, hy560⟩ : ∃ y_ : List Int, y_ = (x3_1.set (x4_1 : Int).toNat (rd l0 x4_1)) := ⟨_, rfl⟩
        replace H : (laws_toIntS.l0 k1 l0 y560 (wrap64 (x4_1 + 1))) = some r := by first | (rw [hy560]; with_reducible exact H) | (have H2_ := (Option.bind_some _ _).symm.trans H; rw [hy560]; with_reducible exact H2_) | (have H2_ := (Option.bind_some _ _).symm.trans H; with_reducible exact H2_) | with_reducible exact H | (rw [hy560]; exact H) | exact H
        have Ny560 := zM hy560
        clear hy560
        have H' := zM H
        clear H
        have p559 : 0 ≤ (x4_1 : Int) := of_decide_eq_true (by first | (with_reducible assumption) | assumption)
        have q559 : x4_1 < (l0.length : Int) := of_decide_eq_true (by first | (with_reducible assumption) | assumption)
        obtain ⟨ad559, e559, hx559_0⟩ := Kd.at_int HR0.out x4_1 p559 q559
        cases e559
        replace hx559_0 := (HB.out.cell (World.block_lt_of_cell? w _ hx559_0)).trans hx559_0
        replace p559 := eq_true p559
        replace q559 := eq_true q559
        have p9 : 0 ≤ (x4_1 : Int) := of_decide_eq_true (by first | (with_reducible assumption) | assumption)
        have q9 : (x4_1 : Int) < ((x3_1.length : Int) : Int) := of_decide_eq_true (by first | (with_reducible assumption) | assumption)
        obtain ⟨go9, co9, eo9, gb9, gl9, cl9, HG9⟩ := Kd.R_form HO_3.out (by omega)
        (first | cases eo9 | (injection eo9 with ea_ en_ ec_; (first | subst ea_ | (injection ea_ with ea_; subst ea_)); subst ec_; clear en_))
        have GB9 := zM gb9
        have GG9 := zM HG9
        clear gb9 gl9 HG9
        obtain ⟨hx9_0, hf9_0⟩ := Kd.R_celln 0 HO_3.out (x4_1 : Int) p9 q9
        replace p9 := eq_true p9
        replace q9 := eq_true q9
        have HP10 := Kd.R_putg HO_3.out (x4_1 : Int) (rd l0 x4_1)
        go_wp2_with (first | ((with_reducible refine gate_store (t := 3) (p := 20) rfl ?_); refine store_event (t := 3) (p := 20) (v := ?vo_w11) (w1 := (wr.setCell ⟨go9, (x4_1 : Int).toNat, none⟩ (.int .i64 (rd l0 x4_1)))) ?hg ?ho ?hn ?hr ?_; (case ho => rfl); (case hg => rfl); (case hn => rfl); (case hr => first | (go_simp; done) | (go_simp; rfl)); intro w11 hw; have hg : wr.grownBy w11 (some go9) := (by rw [hw]; exact HP10.2); have hp_ : Kd.R (Kd.int .i64) 3 w11 w.heap.size (fun _ => True) (.slice (some ⟨go9, 0, none⟩) x3_1.length co9) y560 := (by rw [hw, Ny560.out]; exact HP10.1); clear HP10; have n0_ := zM (hp_); have n1_ := zM ((by rw [hw]; exact below_set (HB.out) GB9.out : Below w.heap.size w w11)); clear HO_3; clear HB; have HO_3 := n0_; have HB := n1_; clear n0_ n1_; clear hg hw hp_))
        go_roundg k1
        case measure => have := HK1.out; omega
        case rel => exact ⟨(y560), (wrap64 (x4_1 + 1)), (by first | rfl | (simp; done) | (simp [*]; done)), H', ⟨by have := HK1.out; omega⟩, ⟨by (with_reducible repeat (first | apply zA | apply zB | apply zC)); exact HO_3.out⟩, ⟨by repeat (first | (with_reducible first | exact HB.out | apply zD | apply zE | apply zF) | exact HB.out)⟩⟩
       ·rw [if_neg c8] at H
        exact absurd H (by simp)
      ·rw [if_neg c7] at H
       exact absurd H (by simp)
     ·rw [if_neg c6] at H
      have c6b0 : decide (x4_1 < (l0.length : Int)) = false := decide_eq_false c6
      clear c6
      obtain rfl := Option.some.inj H
      go_wp2
      go_ret
      exact ⟨_, by first | rfl | (simp [errW_none, errW_some] <;> rfl) | (simp [*, errW_none, errW_some] <;> rfl), by (with_reducible repeat (first | apply zA | apply zB | apply zC)); exact HO_3.out, by repeat (first | (with_reducible first | exact HB.out | apply zD | apply zE | apply zF) | exact HB.out)⟩
  ·rw [if_neg c3] at H
   exact absurd H (by simp)
 ·rw [if_neg c2] at H
  exact absurd H (by simp)

end Go.Proofs.Ytcciljjnpfgaeaa.G

namespace Go.Proofs.Ytcciljjnpfgaeaa.G
open Go.RowKit Go.Proofs.YtcciljjnpfgaeaaW.PrintWords Go.Proofs.YtcciljjnpfgaeaaW.PrintLast
set_option linter.unusedVariables false
set_option linter.unusedSimpArgs false
theorem eq_I (xs : List Int) (h : (xs.length : Int) ≤ 1048576) : Ev (fun k => laws_eqIntS.f k xs xs) true := by
  unfold laws_eqIntS.f
  simp only [if_true]
  refine Ev.upc (fun k i => laws_eqIntS.l0 k xs xs i) true (xs.length : Int) 0 ?_ ?_ 0 (by omega) (by omega)
  · refine Ev.step (fun k => by rw [laws_eqIntS.l0]) ?_
    simp only [Int.lt_irrefl, if_false]
    exact Ev.now _
  · intro i h0 hlt hr
    refine Ev.step (fun k => by rw [laws_eqIntS.l0]) ?_
    simp (disch := omega) only [wrap64_id, if_pos, Option.bind_some, if_true]
    exact hr
end Go.Proofs.Ytcciljjnpfgaeaa.G

namespace Go.Proofs.Ytcciljjnpfgaeaa.G
open Go.RowKit Go.Proofs.YtcciljjnpfgaeaaW.PrintWords Go.Proofs.YtcciljjnpfgaeaaW.PrintLast
set_option linter.unusedVariables false
set_option linter.unusedSimpArgs false
theorem mark_Sh (xs : List S62) (h : (xs.length : Int) ≤ 1048576) (s : Int) (s0 : 0 ≤ s) (s1 : s ≤ 1099511627776) : ∃ ys, Ev (fun k => laws_markShipS.f k xs s) (s + 4 * (xs.length : Int), ys) ∧ (ys.length : Int) = (xs.length : Int) := by
  obtain ⟨ys, h1, h2, h3⟩ := Ev.markFrom (fun k xs c i => laws_markShipS.l0 k xs c i) (xs.length : Int) 4 s (fun i => (⟨s + 4 * i, s + 4 * i + 1, s + 4 * i + 2, s + 4 * i + 3⟩ : S62)) z62 (by
      intro ys c hl
      refine Ev.step (fun k => by rw [laws_markShipS.l0]) ?_
      simp only [hl, Int.lt_irrefl, if_false]
      exact Ev.now _) (by
      intro ys c i hl h0 hlt hc r hr
      refine Ev.step (fun k => by rw [laws_markShipS.l0]) ?_
      have e0 : wrap64 (c + 1) = c + 1 := by rw [wrap64_id (by omega) (by omega)]
      have e1 : wrap64 (c + 1 + 1) = c + 2 := by rw [wrap64_id (by omega) (by omega)]; omega
      have e2 : wrap64 (c + 2 + 1) = c + 3 := by rw [wrap64_id (by omega) (by omega)]; omega
      have e3 : wrap64 (c + 3 + 1) = c + 4 := by rw [wrap64_id (by omega) (by omega)]; omega
      have e9 : wrap64 (i + 1) = i + 1 := wrap64_id (by omega) (by omega)
      simp only [hl, if_pos hlt, if_pos h0, Option.bind_some, e0, e1, e2, e3, e9, rd_T62, getD_set _ _ _ _ _ (show i.toNat < ys.length by omega), List.length_set, if_true, List.set_set]
      rw [hc] at hr ⊢
      exact hr) xs rfl
  exact ⟨ys, h1, h2⟩
end Go.Proofs.Ytcciljjnpfgaeaa.G

namespace Go.Proofs.Ytcciljjnpfgaeaa.G
open Go.RowKit Go.Proofs.YtcciljjnpfgaeaaW.PrintWords Go.Proofs.YtcciljjnpfgaeaaW.PrintLast
set_option linter.unusedVariables false
set_option linter.unusedSimpArgs false
theorem mark_B (xs : List S37) (h : (xs.length : Int) ≤ 1048576) (s : Int) (s0 : 0 ≤ s) (s1 : s ≤ 1099511627776) : ∃ ys, Ev (fun k => laws_markBerthS.f k xs s) (s + 2 * (xs.length : Int), ys) ∧ Ev (fun k => laws_heldBerthS.f k ys s) (s + 2 * (xs.length : Int)) ∧ (ys.length : Int) = (xs.length : Int) := by
  obtain ⟨ys, h1, h2, h3⟩ := Ev.markFrom (fun k xs c i => laws_markBerthS.l0 k xs c i) (xs.length : Int) 2 s (fun i => (⟨s + 2 * i, s + 2 * i + 1⟩ : S37)) z37 (by
      intro ys c hl
      refine Ev.step (fun k => by rw [laws_markBerthS.l0]) ?_
      simp only [hl, Int.lt_irrefl, if_false]
      exact Ev.now _) (by
      intro ys c i hl h0 hlt hc r hr
      refine Ev.step (fun k => by rw [laws_markBerthS.l0]) ?_
      have e0 : wrap64 (c + 1) = c + 1 := by rw [wrap64_id (by omega) (by omega)]
      have e1 : wrap64 (c + 1 + 1) = c + 2 := by rw [wrap64_id (by omega) (by omega)]; omega
      have e9 : wrap64 (i + 1) = i + 1 := wrap64_id (by omega) (by omega)
      simp only [hl, if_pos hlt, if_pos h0, Option.bind_some, e0, e1, e9, rd_T37, getD_set _ _ _ _ _ (show i.toNat < ys.length by omega), List.length_set, if_true, List.set_set]
      rw [hc] at hr ⊢
      exact hr) xs rfl
  refine ⟨ys, h1, ?_, h2⟩
  refine Ev.up (fun k (c : Int) i => laws_heldBerthS.l0 k ys c i) (fun _ _ => s + 2 * (xs.length : Int)) (fun c i => 0 ≤ i ∧ c = s + 2 * i) (xs.length : Int) ?_ ?_ s 0 ⟨by omega, by omega⟩ (by omega)
  · rintro c ⟨_, rfl⟩
    refine Ev.step (fun k => by rw [laws_heldBerthS.l0]) ?_
    simp only [h2, Int.lt_irrefl, if_false]
    exact Ev.now _
  · rintro c i ⟨h0, hc⟩ hlt ih
    refine Ev.step (fun k => by rw [laws_heldBerthS.l0]) ?_
    have e0 : wrap64 (c + 1) = c + 1 := by rw [wrap64_id (by omega) (by omega)]
    have e1 : wrap64 (c + 1 + 1) = c + 2 := by rw [wrap64_id (by omega) (by omega)]; omega
    have e9 : wrap64 (i + 1) = i + 1 := wrap64_id (by omega) (by omega)
    simp only [h2, if_pos hlt, if_pos h0, e0, e1, e9, rd_T37, h3 i h0 hlt, ← hc, if_true]
    exact ih _ ⟨by omega, by omega⟩
end Go.Proofs.Ytcciljjnpfgaeaa.G

namespace Go.Proofs.Ytcciljjnpfgaeaa.G
open Go.RowKit Go.Proofs.YtcciljjnpfgaeaaW.PrintWords Go.Proofs.YtcciljjnpfgaeaaW.PrintLast
set_option linter.unusedVariables false
set_option linter.unusedSimpArgs false
theorem mark_I (xs : List Int) (h : (xs.length : Int) ≤ 1048576) (s : Int) (s0 : 0 ≤ s) (s1 : s ≤ 1099511627776) : ∃ ys, Ev (fun k => laws_markIntS.f k xs s) (s + 1 * (xs.length : Int), ys) ∧ Ev (fun k => laws_heldIntS.f k ys s) (s + 1 * (xs.length : Int)) ∧ (ys.length : Int) = (xs.length : Int) := by
  obtain ⟨ys, h1, h2, h3⟩ := Ev.markFrom (fun k xs c i => laws_markIntS.l0 k xs c i) (xs.length : Int) 1 s (fun i => s + 1 * i) (0 : Int) (by
      intro ys c hl
      refine Ev.step (fun k => by rw [laws_markIntS.l0]) ?_
      simp only [hl, Int.lt_irrefl, if_false]
      exact Ev.now _) (by
      intro ys c i hl h0 hlt hc r hr
      refine Ev.step (fun k => by rw [laws_markIntS.l0]) ?_
      have e0 : wrap64 (c + 1) = c + 1 := by rw [wrap64_id (by omega) (by omega)]
      have e9 : wrap64 (i + 1) = i + 1 := wrap64_id (by omega) (by omega)
      simp only [hl, if_pos hlt, if_pos h0, Option.bind_some, e0, e9, getD_set _ _ _ _ _ (show i.toNat < ys.length by omega), List.length_set, if_true, List.set_set]
      rw [hc] at hr ⊢
      exact hr) xs rfl
  refine ⟨ys, h1, ?_, h2⟩
  refine Ev.up (fun k (c : Int) i => laws_heldIntS.l0 k ys c i) (fun _ _ => s + 1 * (xs.length : Int)) (fun c i => 0 ≤ i ∧ c = s + 1 * i) (xs.length : Int) ?_ ?_ s 0 ⟨by omega, by omega⟩ (by omega)
  · rintro c ⟨_, rfl⟩
    refine Ev.step (fun k => by rw [laws_heldIntS.l0]) ?_
    simp only [h2, Int.lt_irrefl, if_false]
    exact Ev.now _
  · rintro c i ⟨h0, hc⟩ hlt ih
    refine Ev.step (fun k => by rw [laws_heldIntS.l0]) ?_
    have e0 : wrap64 (c + 1) = c + 1 := by rw [wrap64_id (by omega) (by omega)]
    have e9 : wrap64 (i + 1) = i + 1 := wrap64_id (by omega) (by omega)
    simp only [h2, if_pos hlt, if_pos h0, e0, e9, rd, h3 i h0 hlt, ← hc, if_true]
    exact ih _ ⟨by omega, by omega⟩
end Go.Proofs.Ytcciljjnpfgaeaa.G

namespace Go.Proofs.Ytcciljjnpfgaeaa.G
open Go.RowKit Go.Proofs.YtcciljjnpfgaeaaW.PrintWords Go.Proofs.YtcciljjnpfgaeaaW.PrintLast
set_option linter.unusedVariables false
set_option linter.unusedSimpArgs false
theorem spec_own (l : List Int) (h : (l.length : Int) ≤ 1048576) : spec_l1Own.f l = some l := by
  unfold spec_l1Own.f
  simp only [Option.bind_some, List.length_nil, List.nil_append]
  rw [if_pos (by omega)]
theorem spec_bestO {q : Int} {l : List S62} (hs : Ships q l) : ∀ (d : Nat) (jobs : List Int), jobs.length + d = l.length → PreO jobs (l.length : Int) → Ev (fun k => spec_l14Best.f k q l jobs) (bestO q l d jobs) := by
  have h5 := hs.2.1
  intro d
  induction d with
  | zero =>
    intro jobs hd hp
    have hP : Perm jobs (l.length : Int) := ⟨by omega, hp⟩
    have hok := inOrd_ok hs hP
    obtain ⟨r, es, er⟩ := hok.2.2.2.2
    subst er
    refine Ev.step (fun k => by rw [spec_l14Best.f]) ?_
    simp (disch := omega) only [if_pos]
    refine Ev.bind es ?_
    unfold bestO itemO costO
    by_cases e : (inOrd q l jobs).2 = true
    · rw [if_pos e]
      simp only [if_pos e]
      exact Ev.bind (spec_costW (hok.1 e).2.1 h5) (Ev.now _)
    · rw [if_neg e]
      simp only [if_neg e]
      exact Ev.now _
  | succ d ih =>
    intro jobs hd hp
    have main : ∀ (r : Nat) (i : Int) (s : List Int × List S37 × Int), 0 ≤ i → i + r = (l.length : Int) → Ev (fun k => spec_l14Best.l0 k q l jobs s.1 s.2.1 s.2.2 i) (bestInO (bestO q l d) jobs r i s) := by
      intro r
      induction r with
      | zero =>
        intro i s i0 hi
        refine Ev.step (fun k => by rw [spec_l14Best.l0]) ?_
        simp (disch := omega) only [if_neg]
        exact Ev.now _
      | succ r ihr =>
        intro i s i0 hi
        refine Ev.step (fun k => by rw [spec_l14Best.l0]) ?_
        simp only [if_pos (show i < (l.length : Int) by omega)]
        refine Ev.bind (spec_has jobs i (by omega)) ?_
        rw [wrap64_id (x := i + 1) (by omega) (by omega)]
        unfold bestInO
        by_cases hh : Has jobs i
        · rw [chk_pos hh, chk_pos hh]
          simp only [if_true]
          exact ihr (i + 1) s (by omega) (by omega)
        · rw [chk_neg hh, chk_neg hh, spec_own jobs (by omega)]
          simp only [Bool.false_eq_true, if_false, Option.bind_some]
          simp only [if_pos (show jobs.length < 17592186044416 by omega)]
          refine Ev.bind (ih (jobs ++ [i]) (by simp; omega) (preO_snoc.2 ⟨hp, by omega, hh⟩)) ?_
          generalize bestO q l d (jobs ++ [i]) = b
          have yes : 0 ≤ b.2.2 → (s.2.2 < 0 ∨ b.2.2 < s.2.2) → pickO s b = b := fun h1 h2 => if_pos ⟨h1, h2⟩
          have no : ¬ (0 ≤ b.2.2 ∧ (s.2.2 < 0 ∨ b.2.2 < s.2.2)) → pickO s b = s := fun h => if_neg h
          refine Ev.ite (fun g0 => ?_) (fun g0 => ?_)
          · refine Ev.ite (fun g1 => ?_) (fun g1 => ?_)
            · rw [yes g0 (.inl g1)]; exact ihr (i + 1) b (by omega) (by omega)
            · refine Ev.ite (fun g2 => ?_) (fun g2 => ?_)
              · rw [yes g0 (.inr g2)]; exact ihr (i + 1) b (by omega) (by omega)
              · rw [no (fun h => h.2.elim g1 g2)]; exact ihr (i + 1) s (by omega) (by omega)
          · rw [no (fun h => g0 h.1)]; exact ihr (i + 1) s (by omega) (by omega)
    refine Ev.step (fun k => by rw [spec_l14Best.f]) ?_
    simp only [if_neg (show ¬ ((jobs.length : Int) = (l.length : Int)) by omega)]
    exact main l.length 0 ([], [], -1) (by omega) (by omega)
noncomputable def bestOR (q : Int) (l : List S62) : List Int × List S37 × Int × Bool := chk (Ships q l ∧ Short q l) ((foldO q l).1, (foldO q l).2.1, (foldO q l).2.2, true) ([], [], 0, false)
theorem impl_bestOR (q : Int) (l : List S62) : impl_BestOrder.f q l = some (bestOR q l) := rfl
theorem bestOR_len (q : Int) (l : List S62) : ((bestOR q l).1.length : Int) ≤ 1000 ∧ ((bestOR q l).2.1.length : Int) ≤ 1000 := by
  unfold bestOR
  by_cases h : Ships q l ∧ Short q l
  · rw [chk_pos h]
    have h5 := h.1.2.1
    rcases (foldO_inv h.1).1 with e | ⟨o, ho, e, he⟩
    · rw [e]; exact ⟨by simp, by simp⟩
    · rw [he]
      have hP := (inOrd_ok h.1 ho).1 e
      exact ⟨by show (o.length : Int) ≤ _; have := ho.1; omega, by show ((inOrd q l o).1.length : Int) ≤ _; have := hP.2.1; omega⟩
  · rw [chk_neg h]; exact ⟨by simp, by simp⟩
theorem spec_bestOR (q : Int) (l : List S62) : Ev (fun k => spec_BestOrder.f k q l) (bestOR q l) := by
  unfold spec_BestOrder.f bestOR
  refine Ev.bind (spec_ships q l) ?_
  by_cases hs : Ships q l
  · rw [chk_pos hs]
    simp only [if_true]
    refine Ev.bind (spec_bestO hs l.length [] (by simp) (preO_nil _)) ?_
    have e := foldO_eq hs
    have sh := foldO_short hs
    by_cases hS : Short q l
    · rw [chk_pos ⟨hs, hS⟩]
      have h0 := sh.1 hS
      have eb : foldO q l = bestO q l l.length [] := by
        rw [e] at h0 ⊢
        by_cases g : 0 ≤ (bestO q l l.length []).2.2
        · exact if_pos ⟨g, .inl (by decide)⟩
        · rw [pickO_none _ _ (by omega)] at h0
          exact absurd h0 (by decide)
      rw [← eb]
      simp only [if_neg (show ¬ ((foldO q l).2.2 < 0) by omega)]
      exact Ev.now _
    · rw [chk_neg (fun m => hS m.2)]
      have h0 := sh.2 hS
      have g : (bestO q l l.length []).2.2 < 0 := by
        refine Classical.byContradiction fun g => ?_
        rw [e, show pickO ([], [], -1) (bestO q l l.length []) = bestO q l l.length [] from if_pos ⟨by omega, .inl (by decide)⟩] at h0
        rw [h0] at g
        exact g (by decide)
      simp only [if_pos g]
      exact Ev.now _
  · rw [chk_neg hs, chk_neg (fun m => hs m.1)]
    simp only [Bool.false_eq_true, if_false]
    exact Ev.now _
end Go.Proofs.Ytcciljjnpfgaeaa.G

/- FnExactBestOrder: the program's BestOrder returns what the reference's returns, for all arguments whose lists have at most 2^20 elements together (else the statement is true at once). -/
namespace Go.Proofs.Ytcciljjnpfgaeaa.Pure
open Go.RowKit Go.Proofs.Ytcciljjnpfgaeaa.G Go.Proofs.YtcciljjnpfgaeaaW.PrintWords Go.Proofs.YtcciljjnpfgaeaaW.PrintLast
set_option linter.unusedVariables false
set_option linter.unusedSimpArgs false
set_option maxHeartbeats 4000000 in
theorem FnExactBestOrder : laws_FnExactBestOrder.Pure := by
  intro a0 l1 w0 h1
  refine Ev.rounds (g := fun k => laws_FnExactBestOrder.f k a0 l1) (r := true) ?_
  unfold laws_FnExactBestOrder.f
  rw [sz_Sh l1 1048576 h1.1 (by omega) (by omega)]
  simp only [Option.bind_some]
  refine Ev.ite (fun _ => Ev.now _) (fun g1 => ?_)
  have n1 : (l1.length : Int) ≤ 1048576 := by split at g1 <;> omega
  have m1 : ((l1.map cv_Sh).length : Int) ≤ 1048576 := by simpa using n1
  obtain ⟨x1, k1, _⟩ := mark_Sh (l1.map cv_Sh) m1 1 (by omega) (by omega)
  have hs := spec_bestOR a0 (l1.map cv_Sh)
  have ln := bestOR_len a0 (l1.map cv_Sh)
  have hI := impl_bestOR a0 (l1.map cv_Sh)
  generalize bestOR a0 (l1.map cv_Sh) = r at hs ln hI
  obtain ⟨xi, ki, hi, _⟩ := mark_I r.1 (Int.le_trans ln.1 (by decide)) 1 (by omega) (by omega)
  obtain ⟨xr, kr, hr, _⟩ := mark_B r.2.1 (Int.le_trans ln.2 (by decide)) (1 + 1 * (r.1.length : Int)) (by omega) (by omega)
  repeat' (first
    | with_reducible exact Ev.now _
    | (with_reducible refine Ev.bind (to_Sh l1 n1) ?_)
    | (with_reducible refine Ev.bind (eq_Sh (l1.map cv_Sh) m1) ?_)
    | (with_reducible refine Ev.bind (eq_I r.1 (Int.le_trans ln.1 (by decide))) ?_)
    | (with_reducible refine Ev.bind (eq_B r.2.1 (Int.le_trans ln.2 (by decide))) ?_)
    | (with_reducible refine Ev.bind (hs) ?_)
    | (with_reducible refine Ev.bind (k1) ?_)
    | (with_reducible refine Ev.bind (ki) ?_)
    | (with_reducible refine Ev.bind (hi) ?_)
    | (with_reducible refine Ev.bind (kr) ?_)
    | (with_reducible refine Ev.bind (hr) ?_)
    | simp only [hI, if_true, bne_self_eq_false, Bool.false_eq_true, if_false, Option.bind_some]
    | (simp (disch := omega) only [if_neg])
    | refine Ev.step (fun k => by rw [laws_FnExactBestOrder.j0]) ?_
    | refine Ev.step (fun k => by rw [laws_FnExactBestOrder.j1]) ?_
    | refine Ev.step (fun k => by rw [laws_FnExactBestOrder.j2]) ?_)
end Go.Proofs.Ytcciljjnpfgaeaa.Pure

-- Written by wip/tools/gen.py out of the translation (the kit's printer, one namespace a seat). Lean checks it.
namespace Go.Proofs.Ytcciljjnpfgaeaa.G
open Go.RowKit Go.ChangeShapes Go.WideShapes Go.Deep Go.Proofs.YtcciljjnpfgaeaaW.PrintWords Go.Proofs.YtcciljjnpfgaeaaW.PrintLast
set_option linter.unusedVariables false
/-! Opening the arguments of a law: whatever reads as data of type t reads as a value of kind d, within what its type allows. -/
def Opens {α : Type} (P : Program) (t : TypeId) (d : Kd α) (Wf : α → Prop) : Prop :=
  ∀ {H : Type} {enc : TypeId × Value → H} {W : World} {spare : Nat → Bool} {held : Bool} {fuel : Nat} {cs : List Value} {x : DataW H × List MemPlace},
    DataW.trod enc P W 0 spare held fuel t cs = some x → ∃ a, d.K W a cs ∧ Wf a
theorem opens_int {P : Program} {t : TypeId} {k : IntKind} (ht : P.underlying t = some (.int k)) : Opens P t (Kd.int k) (fun x => (Lit.int k x).wf = true) := by
  intro H enc W spare held fuel cs x h
  obtain ⟨n, rfl, _, hw⟩ := DataW.trod_int ht h
  exact ⟨n, rfl, hw⟩
theorem opens_row {α : Type} {d : Kd α} {Wf : α → Prop} {W : World} (Q : Nat → List Value → Prop) (hq : ∀ i cs, Q i cs → ∃ a, d.K W a cs ∧ Wf a) (n : Nat) (h : ∀ i, i < n → ∃ cs, Q i cs) :
    ∃ xs : List α, xs.length = n ∧ (∀ y ∈ xs, Wf y) ∧ ∀ j p, xs[j]? = some p → ∃ cs, Q j cs ∧ d.K W p cs := by
  induction n with
  | zero => exact ⟨[], rfl, fun y hy => by simp at hy, fun j p hp => by simp at hp⟩
  | succ n ih =>
    obtain ⟨xs, hl, hw, hx⟩ := ih (fun i hi => h i (by omega))
    obtain ⟨cs, hcs⟩ := h n (by omega)
    obtain ⟨a, ha, hwa⟩ := hq n cs hcs
    refine ⟨xs ++ [a], by simp [hl], fun y hy => ?_, fun j p hp => ?_⟩
    · rcases List.mem_append.1 hy with hy | hy
      · exact hw y hy
      · rw [List.mem_singleton.1 hy]; exact hwa
    · rcases Nat.lt_or_ge j xs.length with hj | hj
      · rw [List.getElem?_append_left hj] at hp
        exact hx j p hp
      · rw [List.getElem?_append_right hj] at hp
        have h0 : j - xs.length = 0 := by
          rcases Nat.eq_zero_or_pos (j - xs.length) with h0 | h0
          · exact h0
          · rw [List.getElem?_eq_none (by simp; omega)] at hp; cases hp
        rw [h0] at hp
        simp at hp
        subst hp
        have : j = n := by omega
        subst this
        exact ⟨cs, hcs, ha⟩
theorem opens_slice {α : Type} {P : Program} {t e : TypeId} {d : Kd α} {Wf : α → Prop} (ht : P.underlying t = some (.slice e)) (hC : P.cellsOf e = d.sz) (ho : Opens P e d Wf) :
    Opens P t (Kd.slice e d) (fun xs => xs.length ≤ maxLen ∧ ∀ y ∈ xs, Wf y) := by
  intro H enc W spare held fuel cs x h
  rcases open_slice ht h with ⟨rfl, _⟩ | ⟨a, len, cap, m, n, D, Pl, rfl, _, hl, hm, hmm, _, hi⟩
  · exact ⟨[], ⟨none, 0, rfl, Nat.le_refl _, rfl, by simp, fun h => by simp at h⟩, by simp [maxLen], fun y hy => by simp at hy⟩
  · have hml : len ≤ m := by rw [hmm]; split <;> omega
    obtain ⟨xs, hxl, hw, hx⟩ := opens_row (W := W) (d := d) (Wf := Wf) (fun i cs' => W.cells? 0 (a.add (i * P.cellsOf e)) (P.cellsOf e) = some cs' ∧ DataW.trod enc P W 0 spare held n e cs' = some (D i, Pl i))
      (fun i cs' hq => ho hq.2) len (fun i hi' => hi i (by omega))
    refine ⟨xs, ⟨some a, cap, by rw [hxl], by omega, rfl, ?_, fun _ => ⟨a, rfl, fun j p hj => ?_⟩⟩, by omega, hw⟩
    · simp only [maxLen] at hm
      omega
    · obtain ⟨cs', ⟨hc, _⟩, hK⟩ := hx j p hj
      obtain ⟨_, hcl, hat⟩ := World.cells?_some hc
      refine ⟨cs', d.K_len hK, hK, fun i u hu => ?_⟩
      have hil : i < cs'.length := (List.getElem?_eq_some_iff.1 hu).1
      have h1 := hat i (by omega)
      rw [hC] at h1
      rw [← Go.Deep.add_add, h1, hu]
theorem opens_iso {α β : Type} {P : Program} {t : TypeId} {d : Kd α} {Wf : α → Prop} {Wf' : β → Prop} {f : β → α} (ho : Opens P t d Wf) (g : α → β) (hg : ∀ a, f (g a) = a) (hw : ∀ a, Wf a → Wf' (g a)) : Opens P t (Kd.iso d f) Wf' := by
  intro H enc W spare held fuel cs x h
  obtain ⟨a, hK, hwa⟩ := ho h
  refine ⟨g a, ?_, hw a hwa⟩
  show d.K W (f (g a)) cs
  rw [hg]
  exact hK
section
variable {α β γ δ : Type} {P : Program} {t : TypeId} {f0 f1 f2 f3 : Field} {d0 : Kd α} {d1 : Kd β} {d2 : Kd γ} {d3 : Kd δ} {W0 : α → Prop} {W1 : β → Prop} {W2 : γ → Prop} {W3 : δ → Prop}
theorem opens_struct4 (ht : P.underlying t = some (.struct #[f0, f1, f2, f3])) (hT : P.cellsOf t = d0.sz + (d1.sz + (d2.sz + d3.sz))) (s0 : f0.offset = 0) (c0 : P.cellsOf f0.type = d0.sz) (s1 : f1.offset = d0.sz) (c1 : P.cellsOf f1.type = d1.sz)
    (s2 : f2.offset = d0.sz + d1.sz) (c2 : P.cellsOf f2.type = d2.sz) (s3 : f3.offset = d0.sz + d1.sz + d2.sz) (c3 : P.cellsOf f3.type = d3.sz) (o0 : Opens P f0.type d0 W0) (o1 : Opens P f1.type d1 W1) (o2 : Opens P f2.type d2 W2) (o3 : Opens P f3.type d3 W3) :
    Opens P t (Kd.pair d0 (Kd.pair d1 (Kd.pair d2 d3))) (fun x => W0 x.1 ∧ W1 x.2.1 ∧ W2 x.2.2.1 ∧ W3 x.2.2.2) := by
  intro H enc W spare held fuel cs x h
  obtain ⟨xs, n, _, _, hlen, hxl, hf⟩ := DataW.trod_struct ht h
  have h0 := hf 0 f0 rfl
  have h1 := hf 1 f1 rfl
  have h2 := hf 2 f2 rfl
  have h3 := hf 3 f3 rfl
  rw [List.getElem?_eq_getElem (show 0 < xs.length by rw [hxl]; simp), s0, c0, List.drop_zero] at h0
  rw [List.getElem?_eq_getElem (show 1 < xs.length by rw [hxl]; simp), s1, c1] at h1
  rw [List.getElem?_eq_getElem (show 2 < xs.length by rw [hxl]; simp), s2, c2] at h2
  rw [List.getElem?_eq_getElem (show 3 < xs.length by rw [hxl]; simp), s3, c3, List.take_of_length_le (by simp; omega)] at h3
  obtain ⟨a, ka, wa⟩ := o0 h0
  obtain ⟨b, kb, wb⟩ := o1 h1
  obtain ⟨c, kc, wc⟩ := o2 h2
  obtain ⟨e, ke, we⟩ := o3 h3
  refine ⟨(a, b, c, e), ⟨_, _, (List.take_append_drop d0.sz cs).symm, ka, ⟨_, _, (List.take_append_drop d1.sz (cs.drop d0.sz)).symm, kb, ⟨_, _, (List.take_append_drop d2.sz ((cs.drop d0.sz).drop d1.sz)).symm, ?_, ?_⟩⟩⟩, wa, wb, wc, we⟩
  · rw [List.drop_drop]
    exact kc
  · rw [List.drop_drop, List.drop_drop, ← Nat.add_assoc]
    exact ke
end
theorem opens_arg {α : Type} {P : Program} {t e : TypeId} {d : Kd α} {Wf : List α → Prop} (ho : Opens P t (Kd.slice e d) Wf) {H : Type} {enc : TypeId × Value → H} {W : World} {spare : Nat → Bool} {held : Bool} {a : Option Addr} {len cap : Nat} {dd : DataW H} {p : List MemPlace}
    (h : DataW.Trod enc P W 0 spare held t (.slice a len cap) dd p) : ∃ l : List α, len = l.length ∧ l.length ≤ cap ∧ Kd.C d W a l.length l ∧ Wf l := by
  obtain ⟨fuel, hf⟩ := h
  obtain ⟨l, ⟨A, c, he, hl, hC⟩, hw⟩ := ho hf
  simp [Value.cells] at he
  obtain ⟨rfl, rfl, rfl⟩ := he
  exact ⟨l, rfl, hl, hC, hw⟩
set_option maxRecDepth 100000 in
theorem opens_T68 : Opens Try.prog 68 k68 W68 :=
  opens_iso (opens_struct4 Try.underlying68 (by kernel_rfl) rfl (by kernel_rfl) rfl (by kernel_rfl) rfl (by kernel_rfl) rfl (by kernel_rfl) (opens_int Try.underlying3) (opens_int Try.underlying3) (opens_int Try.underlying3) (opens_int Try.underlying3)) (fun p => ⟨p.1, p.2.1, p.2.2.1, p.2.2.2⟩) (fun _ => rfl) (fun _ h => h)
end Go.Proofs.Ytcciljjnpfgaeaa.G
