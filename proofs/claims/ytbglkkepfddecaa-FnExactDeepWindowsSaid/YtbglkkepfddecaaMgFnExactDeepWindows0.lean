/- Texts of the proof of FnExactDeepWindows, joined in build order. -/
import Derived.Test.YtbglkkepfddecaaGx0
import Derived.IntWalk
import Derived.Test.YtbglkkepfddecaaGx3
import Derived.Test.YtbglkkepfddecaaGx1
import Derived.Test.YtbglkkepfddecaaGx4
import Derived.Test.YtbglkkepfddecaaGx2
import Derived.Test.YtbglkkepfddecaaGx6
import Derived.Test.YtbglkkepfddecaaGx10
import Derived.Test.YtbglkkepfddecaaGx11
import Derived.Test.YtbglkkepfddecaaGx19
import Derived.Test.YtbglkkepfddecaaGx23
import Derived.Test.YtbglkkepfddecaaGx18
import Derived.Test.YtbglkkepfddecaaGx22
import Derived.Test.YtbglkkepfddecaaGx21
import Derived.Test.YtbglkkepfddecaaGx24
import Derived.Test.YtbglkkepfddecaaGx20
import Derived.Test.YtbglkkepfddecaaGx35
import Derived.Test.YtbglkkepfddecaaGx37
import Derived.Test.YtbglkkepfddecaaGx34
import Derived.Test.YtbglkkepfddecaaGx36
import Derived.Test.YtbglkkepfddecaaGx41
import Derived.Test.YtbglkkepfddecaaGx42
import Derived.Test.YtbglkkepfddecaaGx44
import Derived.Test.YtbglkkepfddecaaGx43
import Derived.Test.YtbglkkepfddecaaGx45
import Derived.Test.YtbglkkepfddecaaGx46
import Derived.Test.YtbglkkepfddecaaGx47
namespace Go.Proofs.Ytbglkkepfddecaa.G
open Go.RowKit Go.Proofs.YtbglkkepfddecaaW.PrintWords Go.Proofs.YtbglkkepfddecaaW.PrintLast
set_option linter.unusedVariables false
set_option linter.unusedSimpArgs false
/-! Plain laws on printed functions: what holds from some number of rounds on, case by case and loop by loop. -/
theorem Ev.ite {α : Type} {c : Prop} [Decidable c] {A B : Nat → Option α} {r : α} (h1 : c → Ev A r) (h2 : ¬ c → Ev B r) : Ev (fun k => if c then A k else B k) r := by
  by_cases h : c
  · simpa only [if_pos h] using h1 h
  · simpa only [if_neg h] using h2 h
theorem Ev.val {α : Type} {v r : α} (h : v = r) : Ev (fun _ => some v) r := by rw [h]; exact Ev.now r
theorem Ev.eq {α : Type} {g : Nat → Option α} {r r' : α} (h : Ev g r) (e : r = r') : Ev g r' := e ▸ h
theorem Ev.same {α : Type} {g : Nat → Option α} {r r' : α} (h : Ev g r) (h' : Ev g r') : r = r' := by
  obtain ⟨K, h⟩ := h
  obtain ⟨K', h'⟩ := h'
  have h1 := h (max K K') (by omega)
  rw [h' (max K K') (by omega)] at h1
  exact (Option.some.inj h1).symm
theorem wrap64_id {x : Int} (h1 : -9223372036854775808 ≤ x) (h2 : x ≤ 9223372036854775807) : wrap64 x = x := IntWalk.wrap64_in x ⟨h1, h2⟩
theorem wf_iff {x : Int} : (Lit.int .i64 x).wf = true ↔ -9223372036854775808 ≤ x ∧ x ≤ 9223372036854775807 := by
  have e : (Lit.int .i64 x).wf = (decide (-9223372036854775808 ≤ x) && decide (x ≤ 9223372036854775807)) := rfl
  rw [e]
  simp
/-- What holds of all indices from i up to, and without, n. -/
def All (P : Int → Prop) (i n : Int) : Prop := ∀ j, i ≤ j → j < n → P j
theorem All.end_ (P : Int → Prop) (n : Int) : All P n n := fun j h1 h2 => by omega
theorem All.step {P : Int → Prop} {i n : Int} (h : i < n) : All P i n ↔ P i ∧ All P (i + 1) n := by
  constructor
  · intro a
    exact ⟨a i (Int.le_refl _) h, fun j h1 h2 => a j (by omega) h2⟩
  · rintro ⟨p, a⟩ j h1 h2
    by_cases e : j = i
    · rw [e]; exact p
    · exact a j (by omega) h2
/-- One of two values, by a statement. -/
noncomputable def chk {β : Type} (p : Prop) (a b : β) : β := @ite β p (Classical.propDecidable p) a b
theorem chk_pos {β : Type} {p : Prop} (h : p) (a b : β) : chk p a b = a := by unfold chk; exact if_pos h
theorem chk_neg {β : Type} {p : Prop} (h : ¬ p) (a b : β) : chk p a b = b := by unfold chk; exact if_neg h
theorem chk_congr {β : Type} {p q : Prop} (h : p ↔ q) (a b : β) : chk p a b = chk q a b := by rw [propext h]
theorem chk_true {p : Prop} : chk p true false = true ↔ p := by
  by_cases h : p
  · rw [chk_pos h]; exact ⟨fun _ => h, fun _ => rfl⟩
  · rw [chk_neg h]; exact ⟨(fun e => by cases e), (fun e => absurd e h)⟩
theorem chk_and {β : Type} {p q : Prop} (a b : β) : chk p (chk q a b) b = chk (p ∧ q) a b := by
  by_cases h : p
  · rw [chk_pos h]
    exact chk_congr ⟨fun x => ⟨h, x⟩, fun x => x.2⟩ _ _
  · rw [chk_neg h, chk_neg (fun x => h x.1)]
/-- A loop that goes up, any state. -/
theorem Ev.up {σ β : Type} (g : Nat → σ → Int → Option β) (R : σ → Int → β) (I : σ → Int → Prop) (n : Int)
    (hend : ∀ s, I s n → Ev (fun k => g k s n) (R s n))
    (hstep : ∀ s i, I s i → i < n → (∀ s', I s' (i + 1) → Ev (fun k => g k s' (i + 1)) (R s' (i + 1))) → Ev (fun k => g k s i) (R s i)) :
    ∀ s i, I s i → i ≤ n → Ev (fun k => g k s i) (R s i) := by
  have main : ∀ (d : Nat) s i, I s i → i + d = n → Ev (fun k => g k s i) (R s i) := by
    intro d
    induction d with
    | zero =>
      intro s i hI hd
      obtain rfl : i = n := by omega
      exact hend s hI
    | succ d ih => intro s i hI hd; exact hstep s i hI (by omega) (fun s' hI' => ih s' (i + 1) hI' (by omega))
  intro s i hI hi
  exact main (n - i).toNat s i hI (by omega)
/-- A loop that tests each index. -/
theorem Ev.check {β : Type} (g : Nat → Int → Option β) (n : Int) (P : Int → Prop) (r0 r1 : β) (i0 : Int)
    (hend : Ev (fun k => g k n) r0)
    (hstep : ∀ i, i0 ≤ i → i < n → ∀ r, Ev (fun k => g k (i + 1)) r → Ev (fun k => g k i) (chk (P i) r r1)) :
    ∀ i, i0 ≤ i → i ≤ n → Ev (fun k => g k i) (chk (All P i n) r0 r1) := by
  intro i h0 hi
  refine Ev.up (fun k (_ : Unit) i => g k i) (fun _ i => chk (All P i n) r0 r1) (fun _ i => i0 ≤ i) n (fun _ _ => ?_) (fun _ i h0 hlt ih => ?_) () i h0 hi
  · rw [chk_pos (All.end_ P n)]; exact hend
  · have := hstep i h0 hlt _ (ih () (by omega))
    rw [chk_and, chk_congr (All.step hlt).symm] at this
    exact this
theorem Ev.upc {β : Type} (g : Nat → Int → Option β) (r : β) (n i0 : Int) (hend : Ev (fun k => g k n) r) (hstep : ∀ i, i0 ≤ i → i < n → Ev (fun k => g k (i + 1)) r → Ev (fun k => g k i) r) :
    ∀ i, i0 ≤ i → i ≤ n → Ev (fun k => g k i) r := by
  intro i h0 hi
  exact Ev.up (fun k (_ : Unit) i => g k i) (fun _ _ => r) (fun _ i => i0 ≤ i) n (fun _ _ => hend) (fun _ i h0 hlt ih => hstep i h0 hlt (ih () (by omega))) () i h0 hi
theorem getD_set {α : Type} (xs : List α) (i j : Nat) (v z : α) (hi : i < xs.length) : (xs.set i v).getD j z = if j = i then v else xs.getD j z := by
  rw [List.getD_eq_getElem?_getD, List.getD_eq_getElem?_getD]
  by_cases h : j = i
  · subst h; rw [List.getElem?_set_self hi, if_pos rfl]; rfl
  · rw [List.getElem?_set_ne (fun e => h e.symm), if_neg h]
theorem ext_getD {α : Type} (z : α) {xs ys : List α} (hl : xs.length = ys.length) (h : ∀ j : Nat, j < xs.length → xs.getD j z = ys.getD j z) : xs = ys := by
  apply List.ext_getElem hl
  intro i h1 h2
  have := h i h1
  rw [List.getD_eq_getElem?_getD, List.getD_eq_getElem?_getD, List.getElem?_eq_getElem h1, List.getElem?_eq_getElem h2] at this
  exact this
theorem getD_map {α β : Type} (f : α → β) (xs : List α) (j : Nat) (z : α) (z' : β) (h : j < xs.length) : (xs.map f).getD j z' = f (xs.getD j z) := by
  rw [List.getD_eq_getElem?_getD, List.getD_eq_getElem?_getD, List.getElem?_map, List.getElem?_eq_getElem h]; rfl
/-- out := make(n); out[i] = conv(xs[i]) for all i. -/
theorem Ev.fill {α β : Type} (g : Nat → List β → Int → Option (List β)) (xs : List α) (conv : α → β) (z : α) (z' : β)
    (hend : ∀ out, Ev (fun k => g k out (xs.length : Int)) out)
    (hstep : ∀ out i, out.length = xs.length → 0 ≤ i → i < (xs.length : Int) → ∀ r, Ev (fun k => g k (out.set i.toNat (conv (xs.getD i.toNat z))) (i + 1)) r → Ev (fun k => g k out i) r) :
    Ev (fun k => g k (List.replicate xs.length z') 0) (xs.map conv) := by
  refine Ev.up g (fun _ _ => xs.map conv) (fun out i => 0 ≤ i ∧ out.length = xs.length ∧ ∀ j : Nat, (j : Int) < i → out.getD j z' = conv (xs.getD j z)) (xs.length : Int) ?_ ?_ _ 0 ⟨by omega, by simp, fun j h => by omega⟩ (by omega)
  · rintro out ⟨_, hl, h⟩
    refine Ev.eq (hend out) (ext_getD z' (by simpa using hl) fun j hj => ?_)
    rw [h j (by omega), getD_map conv xs j z z' (by omega)]
  · rintro out i ⟨h0, hl, h⟩ hlt ih
    refine hstep out i hl h0 hlt _ (ih _ ⟨by omega, by simpa using hl, fun j hj => ?_⟩)
    rw [getD_set _ _ _ _ _ (by omega)]
    by_cases e : j = i.toNat
    · rw [if_pos e, e]
    · rw [if_neg e]; exact h j (by omega)
/-- A list that is marked with numbers, m an element. -/
theorem Ev.mark {α : Type} (g : Nat → List α → Int → Int → Option (Int × List α)) (n m : Int) (mk : Int → α) (z : α)
    (hend : ∀ xs c, (xs.length : Int) = n → Ev (fun k => g k xs c n) (c, xs))
    (hstep : ∀ xs c i, (xs.length : Int) = n → 0 ≤ i → i < n → c = 1 + m * i → ∀ r, Ev (fun k => g k (xs.set i.toNat (mk i)) (c + m) (i + 1)) r → Ev (fun k => g k xs c i) r)
    (xs : List α) (hl : (xs.length : Int) = n) : ∃ ys : List α, Ev (fun k => g k xs 1 0) (1 + m * n, ys) ∧ (ys.length : Int) = n ∧ ∀ j, 0 ≤ j → j < n → ys.getD j.toNat z = mk j := by
  have main : ∀ (d : Nat) (xs : List α) (i : Int), (xs.length : Int) = n → 0 ≤ i → i + d = n → (∀ j, 0 ≤ j → j < i → xs.getD j.toNat z = mk j) → ∃ ys : List α, Ev (fun k => g k xs (1 + m * i) i) (1 + m * n, ys) ∧ (ys.length : Int) = n ∧ ∀ j, 0 ≤ j → j < n → ys.getD j.toNat z = mk j := by
    intro d
    induction d with
    | zero =>
      intro xs i hl h0 hd h
      obtain rfl : i = n := by omega
      exact ⟨xs, hend xs _ hl, hl, h⟩
    | succ d ih =>
      intro xs i hl h0 hd h
      obtain ⟨ys, h1, h2, h3⟩ := ih (xs.set i.toNat (mk i)) (i + 1) (by simpa using hl) (by omega) (by omega) (fun j hj0 hj => by
        rw [getD_set _ _ _ _ _ (by omega)]
        by_cases e : j = i
        · rw [if_pos (by rw [e]), e]
        · rw [if_neg (by omega)]; exact h j hj0 (by omega))
      refine ⟨ys, hstep xs _ i hl h0 (by omega) rfl _ ?_, h2, h3⟩
      rw [show 1 + m * i + m = 1 + m * (i + 1) from by rw [Int.mul_add]; omega]
      exact h1
  obtain ⟨ys, h1, h2⟩ := main n.toNat xs 0 hl (by omega) (by omega) (fun j _ _ => by omega)
  exact ⟨ys, by simpa using h1, h2⟩
/-- out grows by one element a round. -/
theorem Ev.build {α β γ : Type} (g : Nat → List β → Int → Option γ) (xs : List α) (f : α → β) (z : α) (r : γ) (hend : Ev (fun k => g k (xs.map f) (xs.length : Int)) r)
    (hstep : ∀ out i, 0 ≤ i → i < (xs.length : Int) → (out.length : Int) = i → ∀ r, Ev (fun k => g k (out ++ [f (xs.getD i.toNat z)]) (i + 1)) r → Ev (fun k => g k out i) r) : Ev (fun k => g k [] 0) r := by
  refine Ev.up g (fun _ _ => r) (fun out i => 0 ≤ i ∧ i ≤ (xs.length : Int) ∧ out = (xs.take i.toNat).map f) (xs.length : Int) ?_ ?_ [] 0 ⟨by omega, by omega, by simp⟩ (by omega)
  · rintro out ⟨_, _, rfl⟩
    have e : xs.take (xs.length : Int).toNat = xs := by simp
    rw [e]; exact hend
  · rintro out i ⟨h0, h1, rfl⟩ hlt ih
    refine hstep _ i h0 hlt (by simp; omega) _ (ih _ ⟨by omega, by omega, ?_⟩)
    have e : (i + 1).toNat = i.toNat + 1 := by omega
    rw [e, List.take_succ_eq_append_getElem (show i.toNat < xs.length by omega), List.map_append, List.getD_eq_getElem?_getD, List.getElem?_eq_getElem (show i.toNat < xs.length by omega)]
    rfl
/-- Two loops that go up together. -/
theorem Ev.both {σ β : Type} (g1 g2 : Nat → σ → Int → Option β) (I : σ → Int → Prop) (Q : β → Prop) (n : Int) (hend : ∀ s, I s n → ∃ r, Q r ∧ Ev (fun k => g1 k s n) r ∧ Ev (fun k => g2 k s n) r)
    (hstep : ∀ s i, I s i → i < n → (∃ r, Q r ∧ Ev (fun k => g1 k s i) r ∧ Ev (fun k => g2 k s i) r) ∨ ∃ s', I s' (i + 1) ∧ (∀ r, Ev (fun k => g1 k s' (i + 1)) r → Ev (fun k => g1 k s i) r) ∧ (∀ r, Ev (fun k => g2 k s' (i + 1)) r → Ev (fun k => g2 k s i) r)) :
    ∀ s i, I s i → i ≤ n → ∃ r, Q r ∧ Ev (fun k => g1 k s i) r ∧ Ev (fun k => g2 k s i) r := by
  have main : ∀ (d : Nat) s i, I s i → i + d = n → ∃ r, Q r ∧ Ev (fun k => g1 k s i) r ∧ Ev (fun k => g2 k s i) r := by
    intro d
    induction d with
    | zero =>
      intro s i hI hd
      obtain rfl : i = n := by omega
      exact hend s hI
    | succ d ih =>
      intro s i hI hd
      rcases hstep s i hI (by omega) with h | ⟨s', hI', h1, h2⟩
      · exact h
      · obtain ⟨r, hq, e1, e2⟩ := ih s' (i + 1) hI' (by omega)
        exact ⟨r, hq, h1 r e1, h2 r e2⟩
  intro s i hI hi
  exact main (n - i).toNat s i hI (by omega)
theorem mul_bd {x y A B : Int} (hA : 0 ≤ A) (hB : 0 ≤ B) (h1 : -A ≤ x) (h2 : x ≤ A) (h3 : -B ≤ y) (h4 : y ≤ B) : -(A * B) ≤ x * y ∧ x * y ≤ A * B := by
  have hx : x.natAbs ≤ A.natAbs := by omega
  have hy : y.natAbs ≤ B.natAbs := by omega
  have h := Nat.mul_le_mul hx hy
  rw [← Int.natAbs_mul, ← Int.natAbs_mul] at h
  have hAB : 0 ≤ A * B := Int.mul_nonneg hA hB
  omega

end Go.Proofs.Ytbglkkepfddecaa.G

namespace Go.Proofs.Ytbglkkepfddecaa.G
open Go.RowKit Go.Proofs.YtbglkkepfddecaaW.PrintWords Go.Proofs.YtbglkkepfddecaaW.PrintLast
set_option linter.unusedVariables false
set_option linter.unusedSimpArgs false
theorem impl_within_eq (a b c : Int) : impl_within.f a b c = some (decide (b ≤ a ∧ a ≤ c)) := by
  unfold impl_within.f
  split
  · rename_i h; congr 1; simp; omega
  · rename_i h; congr 1; simp; omega
theorem spec_l1In_eq (a b c : Int) : spec_l1In.f a b c = some (decide (b ≤ a ∧ a ≤ c)) := by
  unfold spec_l1In.f
  split
  · rename_i h; congr 1; simp; omega
  · rename_i h; congr 1; simp; omega
/-- What a table must be at index i. -/
def okAt (xs : List S60) (i : Int) : Prop :=
  (0 ≤ (rd_T60 xs i).f0 ∧ (rd_T60 xs i).f0 ≤ 240 ∧ 0 ≤ (rd_T60 xs i).f1 ∧ (rd_T60 xs i).f1 ≤ 2000) ∧
  (0 < i → (rd_T60 xs (i - 1)).f0 < (rd_T60 xs i).f0 ∧ (rd_T60 xs (i - 1)).f1 ≠ (rd_T60 xs i).f1) ∧
  (1 < i → ¬ ((rd_T60 xs (i - 2)).f1 < (rd_T60 xs (i - 1)).f1 ↔ (rd_T60 xs (i - 1)).f1 < (rd_T60 xs i).f1))
def Valid (xs : List S60) : Prop := (2 ≤ (xs.length : Int) ∧ (xs.length : Int) ≤ 20) ∧ All (okAt xs) 0 (xs.length : Int)
theorem impl_valid_l0 (xs : List S60) (hn : (xs.length : Int) ≤ 20) : ∀ i, 0 ≤ i → i ≤ (xs.length : Int) → Ev (fun k => impl_IsValidTides.l0 k xs xs (xs.length : Int) i) (chk (All (okAt xs) i (xs.length : Int)) true false) := by
  refine Ev.check (fun k i => impl_IsValidTides.l0 k xs xs (xs.length : Int) i) (xs.length : Int) (okAt xs) true false 0 ?_ ?_
  · refine Ev.step (fun k => by rw [impl_IsValidTides.l0]) ?_
    simp only [Int.lt_irrefl, if_false]
    exact Ev.now _
  · intro i h0 hlt r hr
    refine Ev.step (fun k => by rw [impl_IsValidTides.l0]) ?_
    simp (disch := omega) only [wrap64_id, impl_within_eq, Option.bind_some, if_pos hlt, if_pos h0, decide_eq_true_eq]
    have fin : ∀ b, (b = true ↔ ¬ (0 ≤ (rd_T60 xs i).f0 ∧ (rd_T60 xs i).f0 ≤ 240 ∧ 0 ≤ (rd_T60 xs i).f1 ∧ (rd_T60 xs i).f1 ≤ 2000)) → Ev (fun k => impl_IsValidTides.j1 k xs i xs (xs.length : Int) i b (rd_T60 xs i).f0 (rd_T60 xs i).f1) (chk (okAt xs i) r false) := by
      intro b hb
      refine Ev.step (fun k => by rw [impl_IsValidTides.j1]) ?_
      refine Ev.ite (fun hb' => ?_) (fun hb' => ?_)
      · have := hb.1 hb'
        rw [chk_neg (fun h => this h.1)]
        exact Ev.now _
      · have h1 : (0 ≤ (rd_T60 xs i).f0 ∧ (rd_T60 xs i).f0 ≤ 240 ∧ 0 ≤ (rd_T60 xs i).f1 ∧ (rd_T60 xs i).f1 ≤ 2000) := by
          apply Classical.byContradiction; intro h; exact hb' (hb.2 h)
        have fin2 : ∀ b, (b = true ↔ ¬ (0 < i → (rd_T60 xs (i - 1)).f0 < (rd_T60 xs i).f0 ∧ (rd_T60 xs (i - 1)).f1 ≠ (rd_T60 xs i).f1)) → Ev (fun k => impl_IsValidTides.j2 k xs i xs (xs.length : Int) i b (rd_T60 xs i).f0 (rd_T60 xs i).f1) (chk (okAt xs i) r false) := by
          intro b hb
          refine Ev.step (fun k => by rw [impl_IsValidTides.j2]) ?_
          refine Ev.ite (fun hb' => ?_) (fun hb' => ?_)
          · have := hb.1 hb'
            rw [chk_neg (fun h => this h.2.1)]
            exact Ev.now _
          · have h2 : (0 < i → (rd_T60 xs (i - 1)).f0 < (rd_T60 xs i).f0 ∧ (rd_T60 xs (i - 1)).f1 ≠ (rd_T60 xs i).f1) := by
              apply Classical.byContradiction; intro h; exact hb' (hb.2 h)
            simp (disch := omega) only [wrap64_id, beq_iff_eq, decide_eq_decide]
            repeat' (refine Ev.ite (fun h => ?_) (fun h => ?_))
            all_goals first
              | (exfalso; omega)
              | (rw [chk_pos ⟨h1, h2, by omega⟩]; exact hr)
              | (rw [chk_neg (fun h => by have := h.2.2; omega)]; exact Ev.now _)
        simp (disch := omega) only [wrap64_id]
        repeat' (refine Ev.ite (fun h => ?_) (fun h => ?_))
        all_goals first
          | (exfalso; omega)
          | (refine fin2 _ ?_; simp only [beq_iff_eq, true_iff, Bool.false_eq_true, false_iff]; omega)
    refine Ev.ite (fun h => ?_) (fun h => ?_)
    all_goals (refine fin _ ?_; simp; omega)
theorem spec_valid_l0 (xs : List S60) (hn : (xs.length : Int) ≤ 20) : ∀ i, 0 ≤ i → i ≤ (xs.length : Int) → Ev (fun k => spec_l15Good.l0 k xs i) (chk (All (okAt xs) i (xs.length : Int)) true false) := by
  refine Ev.check (fun k i => spec_l15Good.l0 k xs i) (xs.length : Int) (okAt xs) true false 0 ?_ ?_
  · refine Ev.step (fun k => by rw [spec_l15Good.l0]) ?_
    simp only [Int.lt_irrefl, if_false]
    exact Ev.now _
  · intro i h0 hlt r hr
    refine Ev.step (fun k => by rw [spec_l15Good.l0]) ?_
    simp (disch := omega) only [wrap64_id, spec_l1In_eq, Option.bind_some, if_pos hlt, if_pos h0, decide_eq_true_eq]
    have fin : ∀ b, (b = true ↔ ¬ (0 ≤ (rd_T60 xs i).f0 ∧ (rd_T60 xs i).f0 ≤ 240 ∧ 0 ≤ (rd_T60 xs i).f1 ∧ (rd_T60 xs i).f1 ≤ 2000)) → Ev (fun k => spec_l15Good.j1 k xs i b) (chk (okAt xs i) r false) := by
      intro b hb
      refine Ev.step (fun k => by rw [spec_l15Good.j1]) ?_
      refine Ev.ite (fun hb' => ?_) (fun hb' => ?_)
      · have := hb.1 hb'
        rw [chk_neg (fun h => this h.1)]
        exact Ev.now _
      · have h1 : (0 ≤ (rd_T60 xs i).f0 ∧ (rd_T60 xs i).f0 ≤ 240 ∧ 0 ≤ (rd_T60 xs i).f1 ∧ (rd_T60 xs i).f1 ≤ 2000) := by
          apply Classical.byContradiction; intro h; exact hb' (hb.2 h)
        have fin2 : ∀ b, (b = true ↔ ¬ (0 < i → (rd_T60 xs (i - 1)).f0 < (rd_T60 xs i).f0 ∧ (rd_T60 xs (i - 1)).f1 ≠ (rd_T60 xs i).f1)) → Ev (fun k => spec_l15Good.j2 k xs i b) (chk (okAt xs i) r false) := by
          intro b hb
          refine Ev.step (fun k => by rw [spec_l15Good.j2]) ?_
          refine Ev.ite (fun hb' => ?_) (fun hb' => ?_)
          · have := hb.1 hb'
            rw [chk_neg (fun h => this h.2.1)]
            exact Ev.now _
          · have h2 : (0 < i → (rd_T60 xs (i - 1)).f0 < (rd_T60 xs i).f0 ∧ (rd_T60 xs (i - 1)).f1 ≠ (rd_T60 xs i).f1) := by
              apply Classical.byContradiction; intro h; exact hb' (hb.2 h)
            simp (disch := omega) only [wrap64_id, beq_iff_eq, decide_eq_decide]
            repeat' (refine Ev.ite (fun h => ?_) (fun h => ?_))
            all_goals first
              | (exfalso; omega)
              | (rw [chk_pos ⟨h1, h2, by omega⟩]; exact hr)
              | (rw [chk_neg (fun h => by have := h.2.2; omega)]; exact Ev.now _)
        simp (disch := omega) only [wrap64_id]
        repeat' (refine Ev.ite (fun h => ?_) (fun h => ?_))
        all_goals first
          | (exfalso; omega)
          | (refine fin2 _ ?_; simp only [beq_iff_eq, true_iff, Bool.false_eq_true, false_iff]; omega)
    refine Ev.ite (fun h => ?_) (fun h => ?_)
    all_goals (refine fin _ ?_; simp; omega)
theorem impl_valid (xs : List S60) : Ev (fun k => impl_IsValidTides.f k xs) (chk (Valid xs) true false) := by
  unfold impl_IsValidTides.f
  simp only [impl_within_eq, Option.bind_some, decide_eq_true_eq]
  refine Ev.ite (fun h => ?_) (fun h => ?_)
  · rw [chk_congr (show Valid xs ↔ All (okAt xs) 0 (xs.length : Int) from ⟨fun v => v.2, fun v => ⟨h, v⟩⟩)]
    exact impl_valid_l0 xs h.2 0 (by omega) (by omega)
  · rw [chk_neg (fun v : Valid xs => h v.1)]
    exact Ev.now _
theorem spec_valid (xs : List S60) : Ev (fun k => spec_l15Good.f k xs) (chk (Valid xs) true false) := by
  unfold spec_l15Good.f
  simp only [spec_l1In_eq, Option.bind_some, decide_eq_true_eq]
  refine Ev.ite (fun h => ?_) (fun h => ?_)
  · rw [chk_congr (show Valid xs ↔ All (okAt xs) 0 (xs.length : Int) from ⟨fun v => v.2, fun v => ⟨h, v⟩⟩)]
    exact spec_valid_l0 xs h.2 0 (by omega) (by omega)
  · rw [chk_neg (fun v : Valid xs => h v.1)]
    exact Ev.now _
end Go.Proofs.Ytbglkkepfddecaa.G

namespace Go.Proofs.Ytbglkkepfddecaa.G
open Go.RowKit Go.Proofs.YtbglkkepfddecaaW.PrintWords Go.Proofs.YtbglkkepfddecaaW.PrintLast
set_option linter.unusedVariables false
set_option linter.unusedSimpArgs false
def cvT (x : S72) : S60 := ⟨x.f0, x.f1⟩
theorem sz_T (xs : List S72) (h : xs.length ≤ maxLen) : laws_szTideS.f xs 1048576 = some (if (xs.length : Int) ≤ 1048576 then 1048576 - (xs.length : Int) else -1) := by
  unfold maxLen at h
  unfold laws_szTideS.f
  simp (disch := omega) only [wrap64_id]
  split <;> split <;> first | rfl | (exfalso; omega)
theorem to_T (xs : List S72) (h : (xs.length : Int) ≤ 1048576) : Ev (fun k => laws_toTideS.f k xs) (xs.map cvT) := by
  unfold laws_toTideS.f
  simp (disch := omega) only [if_pos]
  simp only [Int.toNat_natCast]
  refine Ev.fill (fun k out i => laws_toTideS.l0 k xs out i) xs cvT z72 z60 ?_ ?_
  · intro out
    refine Ev.step (fun k => by rw [laws_toTideS.l0]) ?_
    simp only [Int.lt_irrefl, if_false]
    exact Ev.now _
  · intro out i hl h0 hlt r hr
    refine Ev.step (fun k => by rw [laws_toTideS.l0]) ?_
    simp (disch := omega) only [wrap64_id, if_pos, laws_toTide.f, Option.bind_some, hl]
    exact hr
theorem eq_T (xs : List S60) (h : (xs.length : Int) ≤ 1048576) : Ev (fun k => laws_eqTideS.f k xs xs) true := by
  unfold laws_eqTideS.f
  simp only [if_true]
  refine Ev.upc (fun k i => laws_eqTideS.l0 k xs xs i) true (xs.length : Int) 0 ?_ ?_ 0 (by omega) (by omega)
  · refine Ev.step (fun k => by rw [laws_eqTideS.l0]) ?_
    simp only [Int.lt_irrefl, if_false]
    exact Ev.now _
  · intro i h0 hlt hr
    refine Ev.step (fun k => by rw [laws_eqTideS.l0]) ?_
    simp (disch := omega) only [wrap64_id, if_pos, laws_eqTide.f, Option.bind_some, if_true]
    exact hr
end Go.Proofs.Ytbglkkepfddecaa.G

namespace Go.Proofs.Ytbglkkepfddecaa.G
open Go.RowKit Go.Proofs.YtbglkkepfddecaaW.PrintWords Go.Proofs.YtbglkkepfddecaaW.PrintLast
set_option linter.unusedVariables false
set_option linter.unusedSimpArgs false
theorem mark_T (xs : List S60) (h : (xs.length : Int) ≤ 1048576) : ∃ ys, Ev (fun k => laws_markTideS.f k xs 1) (1 + 2 * (xs.length : Int), ys) ∧ Ev (fun k => laws_heldTideS.f k ys 1) (1 + 2 * (xs.length : Int)) := by
  obtain ⟨ys, h1, h2, h3⟩ := Ev.mark (fun k xs c i => laws_markTideS.l0 k xs c i) (xs.length : Int) 2 (fun i => (⟨1 + 2 * i, 1 + 2 * i + 1⟩ : S60)) z60 (by
      intro ys c hl
      refine Ev.step (fun k => by rw [laws_markTideS.l0]) ?_
      simp only [hl, Int.lt_irrefl, if_false]
      exact Ev.now _) (by
      intro ys c i hl h0 hlt hc r hr
      refine Ev.step (fun k => by rw [laws_markTideS.l0]) ?_
      have e1 : wrap64 (c + 1) = c + 1 := wrap64_id (by omega) (by omega)
      have e2 : wrap64 (c + 1 + 1) = c + 2 := by rw [wrap64_id (by omega) (by omega)]; omega
      have e3 : wrap64 (i + 1) = i + 1 := wrap64_id (by omega) (by omega)
      simp only [hl, if_pos hlt, if_pos h0, Option.bind_some, e1, e2, e3, rd_T60, getD_set _ _ _ _ _ (show i.toNat < ys.length by omega), if_true, List.set_set]
      rw [hc] at hr ⊢
      exact hr) xs rfl
  refine ⟨ys, h1, ?_⟩
  refine Ev.up (fun k (c : Int) i => laws_heldTideS.l0 k ys c i) (fun _ _ => 1 + 2 * (xs.length : Int)) (fun c i => 0 ≤ i ∧ c = 1 + 2 * i) (xs.length : Int) ?_ ?_ 1 0 ⟨by omega, by omega⟩ (by omega)
  · rintro c ⟨_, rfl⟩
    refine Ev.step (fun k => by rw [laws_heldTideS.l0]) ?_
    simp only [h2, Int.lt_irrefl, if_false]
    exact Ev.now _
  · rintro c i ⟨h0, hc⟩ hlt ih
    refine Ev.step (fun k => by rw [laws_heldTideS.l0]) ?_
    have e1 : wrap64 (c + 1) = c + 1 := wrap64_id (by omega) (by omega)
    have e2 : wrap64 (c + 1 + 1) = c + 2 := by rw [wrap64_id (by omega) (by omega)]; omega
    have e3 : wrap64 (i + 1) = i + 1 := wrap64_id (by omega) (by omega)
    simp only [h2, if_pos hlt, if_pos h0, e1, e2, e3, rd_T60, h3 i h0 hlt, ← hc, if_true]
    exact ih _ ⟨by omega, by omega⟩
end Go.Proofs.Ytbglkkepfddecaa.G

namespace Go.Proofs.Ytbglkkepfddecaa.G
open Go.RowKit Go.Proofs.YtbglkkepfddecaaW.PrintWords Go.Proofs.YtbglkkepfddecaaW.PrintLast
set_option linter.unusedVariables false
set_option linter.unusedSimpArgs false
theorem valid_up {xs : List S60} (hv : Valid xs) : ∀ (d : Nat) (i : Int), 0 ≤ i → i + d < (xs.length : Int) → (rd_T60 xs i).f0 + d ≤ (rd_T60 xs (i + d)).f0 := by
  intro d
  induction d with
  | zero => intro i h0 h1; simp
  | succ d ih =>
    intro i h0 h1
    have h := ih i h0 (by omega)
    have o := (hv.2 (i + (d + 1 : Nat)) (by omega) (by omega)).2.1 (by omega)
    rw [show i + ((d + 1 : Nat) : Int) - 1 = i + d from by omega] at o
    omega
theorem valid_lt {xs : List S60} (hv : Valid xs) {i j : Int} (h0 : 0 ≤ i) (h1 : i < j) (h2 : j < (xs.length : Int)) : (rd_T60 xs i).f0 < (rd_T60 xs j).f0 := by
  have h := valid_up hv (j - i).toNat i h0 (by omega)
  rw [show i + ((j - i).toNat : Int) = j from by omega] at h
  omega
/-- The height in segment j at an hour: numerator and denominator. -/
def hN (xs : List S60) (j h : Int) : Int := (rd_T60 xs j).f1 * ((rd_T60 xs (j + 1)).f0 - (rd_T60 xs j).f0) + ((rd_T60 xs (j + 1)).f1 - (rd_T60 xs j).f1) * (h - (rd_T60 xs j).f0)
def hD (xs : List S60) (j : Int) : Int := (rd_T60 xs (j + 1)).f0 - (rd_T60 xs j).f0
def IsSeg (xs : List S60) (h j : Int) : Prop := 0 ≤ j ∧ j + 1 < (xs.length : Int) ∧ (rd_T60 xs j).f0 ≤ h ∧ h ≤ (rd_T60 xs (j + 1)).f0
def InTab (xs : List S60) (h : Int) : Prop := (rd_T60 xs 0).f0 ≤ h ∧ h ≤ (rd_T60 xs ((xs.length : Int) - 1)).f0
theorem bdN {a b d t : Int} (ha : 0 ≤ a ∧ a ≤ 2000) (hb : 0 ≤ b ∧ b ≤ 2000) (ht : 0 ≤ t ∧ t ≤ d) : 0 ≤ a * d + (b - a) * t ∧ a * d + (b - a) * t ≤ 2000 * d := by
  have e : a * d + (b - a) * t = a * (d - t) + b * t := by rw [Int.sub_mul, Int.mul_sub]; omega
  have h1 : 0 ≤ a * (d - t) := Int.mul_nonneg ha.1 (by omega)
  have h2 : 0 ≤ b * t := Int.mul_nonneg hb.1 ht.1
  have h3 : a * (d - t) ≤ 2000 * (d - t) := Int.mul_le_mul_of_nonneg_right ha.2 (by omega)
  have h4 : b * t ≤ 2000 * t := Int.mul_le_mul_of_nonneg_right hb.2 ht.1
  omega
theorem seg_bd {xs : List S60} (hv : Valid xs) {h j : Int} (hs : IsSeg xs h j) : 1 ≤ hD xs j ∧ hD xs j ≤ 240 ∧ 0 ≤ hN xs j h ∧ hN xs j h ≤ 2000 * hD xs j := by
  obtain ⟨h0, h1, h2, h3⟩ := hs
  have b0 := (hv.2 j h0 (by omega)).1
  have b1 := (hv.2 (j + 1) (by omega) h1).1
  have lt := valid_lt hv h0 (show j < j + 1 by omega) h1
  have q := bdN (d := (rd_T60 xs (j + 1)).f0 - (rd_T60 xs j).f0) (t := h - (rd_T60 xs j).f0) ⟨b0.2.2.1, b0.2.2.2⟩ ⟨b1.2.2.1, b1.2.2.2⟩ ⟨by omega, by omega⟩
  unfold hN hD
  exact ⟨by omega, by omega, q.1, q.2⟩
/-- Two segments at one hour: the same, or both tell the height of one tide. -/
theorem seg_two {xs : List S60} (hv : Valid xs) {h i j : Int} (hi : IsSeg xs h i) (hj : IsSeg xs h j) : i = j ∨ ∃ H, hN xs i h = H * hD xs i ∧ hN xs j h = H * hD xs j := by
  have key : ∀ {i j : Int}, IsSeg xs h i → IsSeg xs h j → i < j → ∃ H, hN xs i h = H * hD xs i ∧ hN xs j h = H * hD xs j := by
    intro i j hi hj hlt
    obtain ⟨i0, i1, i2, i3⟩ := hi
    obtain ⟨j0, j1, j2, j3⟩ := hj
    have e : j = i + 1 := by
      apply Classical.byContradiction; intro hne
      have := valid_lt hv (show 0 ≤ i + 1 by omega) (show i + 1 < j by omega) (by omega)
      omega
    subst e
    have eh : h = (rd_T60 xs (i + 1)).f0 := by omega
    refine ⟨(rd_T60 xs (i + 1)).f1, ?_, ?_⟩
    · unfold hN hD
      rw [← eh, Int.sub_mul]; omega
    · unfold hN hD
      rw [eh, Int.sub_self, Int.mul_zero]; omega
  rcases Int.lt_trichotomy i j with h1 | h1 | h1
  · exact .inr (key hi hj h1)
  · exact .inl h1
  · obtain ⟨H, a, b⟩ := key hj hi h1
    exact .inr ⟨H, b, a⟩
theorem impl_height (xs : List S60) (hv : Valid xs) (h : Int) (hh : InTab xs h) : ∃ j, IsSeg xs h j ∧ Ev (fun k => impl_heightAt.f k xs h) (hN xs j h, hD xs j) := by
  obtain ⟨hn0, hn1⟩ := hv.1
  unfold impl_heightAt.f
  have main : ∀ (d : Nat) (i : Int), 1 ≤ i → i + d = (xs.length : Int) - 1 → (rd_T60 xs (i - 1)).f0 ≤ h → ∃ j, IsSeg xs h j ∧ Ev (fun k => impl_heightAt.l0 k xs h i) (hN xs j h, hD xs j) := by
    intro d
    induction d with
    | zero =>
      intro i h1 hd hle
      have hi : i = (xs.length : Int) - 1 := by omega
      have hge : h ≤ (rd_T60 xs i).f0 := by rw [hi]; exact hh.2
      refine ⟨i - 1, ⟨by omega, by omega, hle, by rw [show i - 1 + 1 = i from by omega]; exact hge⟩, ?_⟩
      have b0 := (hv.2 (i - 1) (by omega) (by omega)).1
      have b1 := (hv.2 i (by omega) (by omega)).1
      have lt := valid_lt hv (show 0 ≤ i - 1 by omega) (show i - 1 < i by omega) (by omega)
      have m1 := mul_bd (x := (rd_T60 xs (i - 1)).f1) (y := (rd_T60 xs i).f0 - (rd_T60 xs (i - 1)).f0) (A := 2000) (B := 240) (by omega) (by omega) (by omega) (by omega) (by omega) (by omega)
      have m2 := mul_bd (x := (rd_T60 xs i).f1 - (rd_T60 xs (i - 1)).f1) (y := h - (rd_T60 xs (i - 1)).f0) (A := 2000) (B := 240) (by omega) (by omega) (by omega) (by omega) (by omega) (by omega)
      refine Ev.step (fun k => by rw [impl_heightAt.l0]) ?_
      simp (disch := omega) only [if_pos, if_neg, wrap64_id]
      refine Ev.val ?_
      unfold hN hD
      rw [show i - 1 + 1 = i from by omega]
    | succ d ih =>
      intro i h1 hd hle
      by_cases hlt : (rd_T60 xs i).f0 < h
      · obtain ⟨j, hs, he⟩ := ih (i + 1) (by omega) (by omega) (by rw [show i + 1 - 1 = i from by omega]; omega)
        refine ⟨j, hs, ?_⟩
        refine Ev.step (fun k => by rw [impl_heightAt.l0]) ?_
        simp (disch := omega) only [if_pos, wrap64_id]
        exact he
      · refine ⟨i - 1, ⟨by omega, by omega, hle, by rw [show i - 1 + 1 = i from by omega]; omega⟩, ?_⟩
        have b0 := (hv.2 (i - 1) (by omega) (by omega)).1
        have b1 := (hv.2 i (by omega) (by omega)).1
        have lt := valid_lt hv (show 0 ≤ i - 1 by omega) (show i - 1 < i by omega) (by omega)
        have m1 := mul_bd (x := (rd_T60 xs (i - 1)).f1) (y := (rd_T60 xs i).f0 - (rd_T60 xs (i - 1)).f0) (A := 2000) (B := 240) (by omega) (by omega) (by omega) (by omega) (by omega) (by omega)
        have m2 := mul_bd (x := (rd_T60 xs i).f1 - (rd_T60 xs (i - 1)).f1) (y := h - (rd_T60 xs (i - 1)).f0) (A := 2000) (B := 240) (by omega) (by omega) (by omega) (by omega) (by omega) (by omega)
        refine Ev.step (fun k => by rw [impl_heightAt.l0]) ?_
        simp (disch := omega) only [if_pos, if_neg, wrap64_id]
        refine Ev.val ?_
        unfold hN hD
        rw [show i - 1 + 1 = i from by omega]
  exact main ((xs.length : Int) - 2).toNat 1 (by omega) (by omega) hh.1
theorem spec_height (xs : List S60) (hv : Valid xs) (h : Int) (hh : InTab xs h) : ∃ j, IsSeg xs h j ∧ Ev (fun k => spec_l15Height.f k xs h) (hN xs j h, hD xs j) := by
  obtain ⟨hn0, hn1⟩ := hv.1
  unfold spec_l15Height.f
  have main : ∀ (d : Nat) (i : Int), 0 ≤ i → i + d = (xs.length : Int) - 2 → (rd_T60 xs i).f0 ≤ h → ∃ j, IsSeg xs h j ∧ Ev (fun k => spec_l15Height.l0 k xs h i) (hN xs j h, hD xs j) := by
    intro d
    induction d with
    | zero =>
      intro i h1 hd hle
      have hi : i + 1 = (xs.length : Int) - 1 := by omega
      have hge : h ≤ (rd_T60 xs (i + 1)).f0 := by rw [hi]; exact hh.2
      refine ⟨i, ⟨by omega, by omega, hle, hge⟩, ?_⟩
      have b0 := (hv.2 i (by omega) (by omega)).1
      have b1 := (hv.2 (i + 1) (by omega) (by omega)).1
      have lt := valid_lt hv (show 0 ≤ i by omega) (show i < i + 1 by omega) (by omega)
      have m1 := mul_bd (x := (rd_T60 xs i).f1) (y := (rd_T60 xs (i + 1)).f0 - (rd_T60 xs i).f0) (A := 2000) (B := 240) (by omega) (by omega) (by omega) (by omega) (by omega) (by omega)
      have m2 := mul_bd (x := (rd_T60 xs (i + 1)).f1 - (rd_T60 xs i).f1) (y := h - (rd_T60 xs i).f0) (A := 2000) (B := 240) (by omega) (by omega) (by omega) (by omega) (by omega) (by omega)
      refine Ev.step (fun k => by rw [spec_l15Height.l0]) ?_
      simp (disch := omega) only [if_pos, if_neg, wrap64_id]
      exact Ev.val rfl
    | succ d ih =>
      intro i h1 hd hle
      by_cases hlt : (rd_T60 xs (i + 1)).f0 ≤ h
      · obtain ⟨j, hs, he⟩ := ih (i + 1) (by omega) (by omega) hlt
        refine ⟨j, hs, ?_⟩
        refine Ev.step (fun k => by rw [spec_l15Height.l0]) ?_
        simp (disch := omega) only [if_pos, wrap64_id]
        exact he
      · refine ⟨i, ⟨by omega, by omega, hle, by omega⟩, ?_⟩
        have b0 := (hv.2 i (by omega) (by omega)).1
        have b1 := (hv.2 (i + 1) (by omega) (by omega)).1
        have lt := valid_lt hv (show 0 ≤ i by omega) (show i < i + 1 by omega) (by omega)
        have m1 := mul_bd (x := (rd_T60 xs i).f1) (y := (rd_T60 xs (i + 1)).f0 - (rd_T60 xs i).f0) (A := 2000) (B := 240) (by omega) (by omega) (by omega) (by omega) (by omega) (by omega)
        have m2 := mul_bd (x := (rd_T60 xs (i + 1)).f1 - (rd_T60 xs i).f1) (y := h - (rd_T60 xs i).f0) (A := 2000) (B := 240) (by omega) (by omega) (by omega) (by omega) (by omega) (by omega)
        refine Ev.step (fun k => by rw [spec_l15Height.l0]) ?_
        simp (disch := omega) only [if_pos, if_neg, wrap64_id]
        exact Ev.val rfl
  exact main ((xs.length : Int) - 2).toNat 0 (by omega) (by omega) hh.1
theorem spec_holds (xs : List S60) (h : Int) : Ev (fun k => spec_l15Holds.f k xs h) (chk (Valid xs ∧ InTab xs h) true false) := by
  unfold spec_l15Holds.f
  refine Ev.bind (spec_valid xs) ?_
  refine Ev.ite (fun hv => ?_) (fun hv => ?_)
  · have hv := chk_true.1 hv
    obtain ⟨hn0, hn1⟩ := hv.1
    simp (disch := omega) only [spec_l1In_eq, Option.bind_some, if_pos, wrap64_id]
    refine Ev.val ?_
    by_cases hi : InTab xs h
    · rw [chk_pos ⟨hv, hi⟩]; exact decide_eq_true hi
    · rw [chk_neg (fun h => hi h.2)]; exact decide_eq_false hi
  · rw [chk_neg (fun h => hv (chk_true.2 h.1))]
    exact Ev.now _
theorem impl_holds_eq (xs : List S60) (hs : List Int) (hl : (hs.length : Int) ≤ 100) : Ev (fun k => impl_holds.f k xs hs) (chk (Valid xs ∧ All (fun i => InTab xs (rd hs i)) 0 (hs.length : Int)) true false) := by
  unfold impl_holds.f
  refine Ev.bind (impl_valid xs) ?_
  refine Ev.ite (fun hv => ?_) (fun hv => ?_)
  · have hv := chk_true.1 hv
    obtain ⟨hn0, hn1⟩ := hv.1
    rw [chk_congr (show (Valid xs ∧ All (fun i => InTab xs (rd hs i)) 0 (hs.length : Int)) ↔ All (fun i => InTab xs (rd hs i)) 0 (hs.length : Int) from ⟨fun h => h.2, fun h => ⟨hv, h⟩⟩)]
    refine Ev.check (fun k i => impl_holds.l0 k xs hs (hs.length : Int) i) (hs.length : Int) (fun i => InTab xs (rd hs i)) true false 0 ?_ ?_ 0 (by omega) (by omega)
    · refine Ev.step (fun k => by rw [impl_holds.l0]) ?_
      simp only [Int.lt_irrefl, if_false]
      exact Ev.now _
    · intro i h0 hlt r hr
      refine Ev.step (fun k => by rw [impl_holds.l0]) ?_
      simp (disch := omega) only [impl_within_eq, Option.bind_some, if_pos, wrap64_id, decide_eq_true_eq]
      refine Ev.ite (fun h => ?_) (fun h => ?_)
      · rw [chk_pos (show InTab xs (rd hs i) from h)]; exact hr
      · rw [chk_neg (show ¬ InTab xs (rd hs i) from h)]; exact Ev.now _
  · rw [chk_neg (fun h => hv (chk_true.2 h.1))]
    exact Ev.now _
theorem impl_holds_one (xs : List S60) (h : Int) : Ev (fun k => impl_holds.f k xs [h]) (chk (Valid xs ∧ InTab xs h) true false) := by
  have := impl_holds_eq xs [h] (by simp)
  rwa [chk_congr (show (Valid xs ∧ All (fun i => InTab xs (rd [h] i)) 0 (([h] : List Int).length : Int)) ↔ (Valid xs ∧ InTab xs h) from ⟨fun a => ⟨a.1, a.2 0 (by omega) (by simp)⟩, fun a => ⟨a.1, fun j h0 h1 => by
    obtain rfl : j = 0 := by simp at h1; omega
    exact a.2⟩⟩)] at this
theorem impl_holds_two (xs : List S60) (h g : Int) : Ev (fun k => impl_holds.f k xs [h, g]) (chk (Valid xs ∧ InTab xs h ∧ InTab xs g) true false) := by
  have := impl_holds_eq xs [h, g] (by simp)
  rwa [chk_congr (show (Valid xs ∧ All (fun i => InTab xs (rd [h, g] i)) 0 (([h, g] : List Int).length : Int)) ↔ (Valid xs ∧ InTab xs h ∧ InTab xs g) from ⟨fun a => ⟨a.1, a.2 0 (by omega) (by simp), a.2 1 (by omega) (by simp)⟩, fun a => ⟨a.1, fun j h0 h1 => by
    simp at h1
    rcases (show j = 0 ∨ j = 1 by omega) with rfl | rfl
    · exact a.2.1
    · exact a.2.2⟩⟩)] at this
end Go.Proofs.Ytbglkkepfddecaa.G

namespace Go.Proofs.Ytbglkkepfddecaa.G
open Go.RowKit Go.Proofs.YtbglkkepfddecaaW.PrintWords Go.Proofs.YtbglkkepfddecaaW.PrintLast
set_option linter.unusedVariables false
set_option linter.unusedSimpArgs false
theorem spec_least_eq (a b : Int) : spec_l1Least.f a b = some (if a < b then a else b) := by
  unfold spec_l1Least.f
  split <;> rfl
theorem intab_mid {xs : List S60} {a b h : Int} (ha : InTab xs a) (hb : InTab xs b) (h0 : a ≤ h) (h1 : h ≤ b) : InTab xs h := by
  unfold InTab at *; omega
/-- The whole part of the height, by either segment. -/
theorem floor_both {xs : List S60} (hv : Valid xs) {h : Int} (hh : InTab xs h) : ∃ i j q, Ev (fun k => spec_l15Height.f k xs h) (hN xs i h, hD xs i) ∧ Ev (fun k => impl_heightAt.f k xs h) (hN xs j h, hD xs j) ∧ ¬ hD xs i = 0 ∧ ¬ hD xs j = 0 ∧
    Int.tdiv (hN xs i h) (hD xs i) = q ∧ Int.tdiv (hN xs j h) (hD xs j) = q ∧ 0 ≤ q ∧ q ≤ 2000 := by
  obtain ⟨i, si, ei⟩ := spec_height xs hv h hh
  obtain ⟨j, sj, ej⟩ := impl_height xs hv h hh
  have bi := seg_bd hv si
  have bj := seg_bd hv sj
  have qb : ∀ {n d : Int}, 1 ≤ d → 0 ≤ n → n ≤ 2000 * d → 0 ≤ Int.tdiv n d ∧ Int.tdiv n d ≤ 2000 := by
    intro n d h1 h2 h3
    rw [Int.tdiv_eq_ediv_of_nonneg h2]
    exact ⟨Int.ediv_nonneg h2 (by omega), Int.ediv_le_of_le_mul (by omega) h3⟩
  have b := qb bi.1 bi.2.2.1 bi.2.2.2
  refine ⟨i, j, _, ei, ej, by omega, by omega, rfl, ?_, b.1, b.2⟩
  rcases seg_two hv si sj with rfl | ⟨H, e1, e2⟩
  · rfl
  · rw [e1, e2, Int.mul_tdiv_cancel _ (by omega), Int.mul_tdiv_cancel _ (by omega)]
theorem draft_both (xs : List S60) (bottom a b : Int) (w1 : -9223372036854775808 ≤ bottom ∧ bottom ≤ 9223372036854775807) (w2 : -9223372036854775808 ≤ a ∧ a ≤ 9223372036854775807) (w3 : -9223372036854775808 ≤ b ∧ b ≤ 9223372036854775807) :
    ∃ r, Ev (fun k => spec_GreatestDraft.f k xs bottom a b) r ∧ Ev (fun k => impl_GreatestDraft.f k xs bottom a b) r := by
  have no : ¬ ((Valid xs ∧ InTab xs a ∧ InTab xs b) ∧ (0 ≤ bottom ∧ bottom ≤ 3000) ∧ a ≤ b) → ∃ r, Ev (fun k => spec_GreatestDraft.f k xs bottom a b) r ∧ Ev (fun k => impl_GreatestDraft.f k xs bottom a b) r := by
    intro hno
    have js : Ev (fun k => spec_GreatestDraft.j0 k xs bottom a b true) (0, false) := by
      refine Ev.step (fun k => by rw [spec_GreatestDraft.j0]) ?_
      simp only [if_true]; exact Ev.now _
    have ji : Ev (fun k => impl_GreatestDraft.j0 k xs bottom a b true) (0, false) := by
      refine Ev.step (fun k => by rw [impl_GreatestDraft.j0]) ?_
      simp only [if_true]; exact Ev.now _
    refine ⟨(0, false), ?_, ?_⟩
    · unfold spec_GreatestDraft.f
      refine Ev.bind (spec_holds xs a) ?_
      refine Ev.ite (fun h1 => ?_) (fun h1 => js)
      refine Ev.bind (spec_holds xs b) ?_
      refine Ev.ite (fun h2 => ?_) (fun h2 => js)
      refine Ev.ite (fun h3 => js) (fun h3 => ?_)
      simp only [spec_l1In_eq, Option.bind_some]
      have h1 := chk_true.1 h1
      have h2 := chk_true.1 h2
      rw [decide_eq_false (fun h4 => hno ⟨⟨h1.1, h1.2, h2.2⟩, h4, by omega⟩)]
      exact js
    · unfold impl_GreatestDraft.f
      refine Ev.bind (impl_holds_two xs a b) ?_
      refine Ev.ite (fun h1 => ?_) (fun h1 => ji)
      simp only [impl_within_eq, Option.bind_some]
      have h1 := chk_true.1 h1
      refine Ev.ite (fun h2 => ?_) (fun h2 => ji)
      have h2 := of_decide_eq_true h2
      rw [decide_eq_true (show a > b from by apply Classical.byContradiction; intro h3; exact hno ⟨h1, h2, by omega⟩)]
      exact ji
  by_cases hall : (Valid xs ∧ InTab xs a ∧ InTab xs b) ∧ (0 ≤ bottom ∧ bottom ≤ 3000) ∧ a ≤ b
  · obtain ⟨⟨hv, ia, ib⟩, hb, hab⟩ := hall
    have main := Ev.both (fun k (s : Int × Int) h => spec_GreatestDraft.l0 k xs bottom b s.1 h) (fun k (s : Int × Int) h => impl_GreatestDraft.l0 k xs bottom b s.2 h)
      (fun s h => a ≤ h ∧ (h = a ∧ s.1 = bottom + 2000 ∧ s.2 = -1 ∨ a < h ∧ 0 ≤ s.2 ∧ s.2 ≤ 2000 ∧ s.1 = bottom + s.2)) (fun _ => True) (b + 1) (by
        rintro s ⟨h0, h1⟩
        have h1 : 0 ≤ s.2 ∧ s.2 ≤ 2000 ∧ s.1 = bottom + s.2 := by omega
        refine ⟨(s.1, true), trivial, ?_, ?_⟩
        · refine Ev.step (fun k => by rw [spec_GreatestDraft.l0]) ?_
          simp (disch := omega) only [if_neg]; exact Ev.now _
        · refine Ev.step (fun k => by rw [impl_GreatestDraft.l0]) ?_
          simp (disch := omega) only [if_neg, wrap64_id]
          rw [h1.2.2]; exact Ev.now _) (by
        rintro s h ⟨h0, h1⟩ hlt
        have bv := hv.1
        have hh := intab_mid ia ib h0 (by omega)
        have hbd : -1000 ≤ h ∧ h ≤ 1000 := by
          have b0 := (hv.2 0 (by omega) (by omega)).1
          have b1 := (hv.2 ((xs.length : Int) - 1) (by omega) (by omega)).1
          unfold InTab at hh
          omega
        obtain ⟨i, j, q, ei, ej, di, dj, qi, qj, q0, q1⟩ := floor_both hv hh
        refine .inr ⟨((if s.1 < bottom + q then s.1 else bottom + q), (if s.2 < 0 then q else if q < s.2 then q else s.2)), ⟨by omega, .inr ⟨by omega, ?_, ?_, ?_⟩⟩, ?_, ?_⟩
        · dsimp only; split
          · omega
          · split <;> omega
        · dsimp only; split
          · omega
          · split <;> omega
        · dsimp only
          rcases h1 with ⟨_, e1, e2⟩ | ⟨_, h2, h3, e1⟩
          · rw [e1, e2]; simp only [show (-1 : Int) < 0 by omega, if_true]; split <;> omega
          · rw [e1, if_neg (show ¬ s.2 < 0 by omega)]; split <;> split <;> omega
        · intro r hr
          refine Ev.step (fun k => by rw [spec_GreatestDraft.l0]) ?_
          simp (disch := omega) only [if_pos]
          refine Ev.bind ei ?_
          simp (disch := omega) only [if_neg, qi, wrap64_id, spec_least_eq, Option.bind_some]
          exact hr
        · intro r hr
          refine Ev.step (fun k => by rw [impl_GreatestDraft.l0]) ?_
          simp (disch := omega) only [if_pos]
          refine Ev.bind ej ?_
          dsimp only at hr ⊢
          rw [qj]
          refine Ev.ite (fun h2 => ?_) (fun h2 => ?_)
          · simp (disch := omega) only [if_neg, wrap64_id]
            rw [if_pos h2] at hr
            exact hr
          · simp (disch := omega) only [if_neg, wrap64_id]
            rw [if_neg h2] at hr
            refine Ev.ite (fun h3 => ?_) (fun h3 => ?_)
            · rw [if_pos h3] at hr; exact hr
            · rw [if_neg h3] at hr; exact hr)
    obtain ⟨r, _, e1, e2⟩ := main (bottom + 2000, -1) a ⟨by omega, .inl ⟨rfl, rfl, rfl⟩⟩ (by omega)
    refine ⟨r, ?_, ?_⟩
    · unfold spec_GreatestDraft.f
      refine Ev.bind (spec_holds xs a) ?_
      rw [chk_pos ⟨hv, ia⟩]
      simp only [if_true]
      refine Ev.bind (spec_holds xs b) ?_
      rw [chk_pos ⟨hv, ib⟩]
      simp (disch := omega) only [if_true, if_neg, spec_l1In_eq, Option.bind_some]
      rw [decide_eq_true hb]
      refine Ev.step (fun k => by rw [spec_GreatestDraft.j0]) ?_
      simp (disch := omega) only [Bool.not_true, Bool.false_eq_true, if_false, wrap64_id]
      exact e1
    · unfold impl_GreatestDraft.f
      refine Ev.bind (impl_holds_two xs a b) ?_
      rw [chk_pos ⟨hv, ia, ib⟩]
      simp only [if_true, impl_within_eq, Option.bind_some]
      rw [decide_eq_true hb, decide_eq_false (show ¬ a > b by omega)]
      simp only [if_true]
      refine Ev.step (fun k => by rw [impl_GreatestDraft.j0]) ?_
      simp only [Bool.false_eq_true, if_false]
      exact e2
  · exact no hall
end Go.Proofs.Ytbglkkepfddecaa.G

namespace Go.Proofs.Ytbglkkepfddecaa.G
open Go.RowKit Go.Proofs.YtbglkkepfddecaaW.PrintWords Go.Proofs.YtbglkkepfddecaaW.PrintLast
set_option linter.unusedVariables false
set_option linter.unusedSimpArgs false
/-- The height at an hour is at least a depth. -/
def Deep (xs : List S60) (p h : Int) : Prop := ∀ j, IsSeg xs h j → p * hD xs j ≤ hN xs j h
theorem deep_seg {xs : List S60} (hv : Valid xs) {p h j : Int} (hs : IsSeg xs h j) : Deep xs p h ↔ p * hD xs j ≤ hN xs j h := by
  refine ⟨fun d => d j hs, fun d i hi => ?_⟩
  have bi := seg_bd hv hi
  have bj := seg_bd hv hs
  rcases seg_two hv hi hs with rfl | ⟨H, e1, e2⟩
  · exact d
  · rw [e2] at d
    rw [e1]
    have := Int.le_of_mul_le_mul_right d (by omega)
    exact Int.mul_le_mul_of_nonneg_right this (by omega)
theorem deep_dec {xs : List S60} (hv : Valid xs) {p h j : Int} (hs : IsSeg xs h j) (hp : -3000 ≤ p ∧ p ≤ 3000) : decide (hN xs j h ≥ wrap64 (p * hD xs j)) = chk (Deep xs p h) true false := by
  have bj := seg_bd hv hs
  have m := mul_bd (x := p) (y := hD xs j) (A := 3000) (B := 240) (by omega) (by omega) (by omega) (by omega) (by omega) (by omega)
  rw [wrap64_id (by omega) (by omega)]
  by_cases hd : Deep xs p h
  · rw [chk_pos hd]; exact decide_eq_true ((deep_seg hv hs).1 hd)
  · rw [chk_neg hd]; exact decide_eq_false (fun h => hd ((deep_seg hv hs).2 h))
theorem spec_deep {xs : List S60} (hv : Valid xs) {p h : Int} (hh : InTab xs h) (hp : -3000 ≤ p ∧ p ≤ 3000) : Ev (fun k => spec_l15Deep.f k xs h p) (chk (Deep xs p h) true false) := by
  obtain ⟨j, hs, he⟩ := spec_height xs hv h hh
  unfold spec_l15Deep.f
  refine Ev.bind he ?_
  exact Ev.val (deep_dec hv hs hp)
theorem impl_deep {xs : List S60} (hv : Valid xs) {p h : Int} (hh : InTab xs h) (hp : -3000 ≤ p ∧ p ≤ 3000) : Ev (fun k => impl_isDeep.f k xs h p) (chk (Deep xs p h) true false) := by
  obtain ⟨j, hs, he⟩ := impl_height xs hv h hh
  unfold impl_isDeep.f
  refine Ev.bind he ?_
  exact Ev.val (deep_dec hv hs hp)
/-- The last hour. -/
def lastH (xs : List S60) : Int := (rd_T60 xs ((xs.length : Int) - 1)).f0
theorem intab_bd {xs : List S60} (hv : Valid xs) {h : Int} (hh : InTab xs h) : 0 ≤ h ∧ h ≤ 240 := by
  have bv := hv.1
  have b0 := (hv.2 0 (by omega) (by omega)).1
  have b1 := (hv.2 ((xs.length : Int) - 1) (by omega) (by omega)).1
  unfold InTab at hh
  omega
/-- A window that begins at s. -/
def WinAt (xs : List S60) (p from_ hours s : Int) : Prop := from_ ≤ s ∧ s + hours ≤ lastH xs ∧ All (Deep xs p) s (s + hours + 1)
/-- What is asked for: the first window. -/
def ShipRes (xs : List S60) (p from_ hours : Int) (r : Int × Bool) : Prop := (∃ s, r = (s, true) ∧ WinAt xs p from_ hours s ∧ ∀ t, t < s → ¬ WinAt xs p from_ hours t) ∨ (r = (0, false) ∧ ∀ t, ¬ WinAt xs p from_ hours t)
theorem shipRes_uniq {xs : List S60} {p from_ hours : Int} {r r' : Int × Bool} (h : ShipRes xs p from_ hours r) (h' : ShipRes xs p from_ hours r') : r = r' := by
  rcases h with ⟨s, e, w, m⟩ | ⟨e, n⟩ <;> rcases h' with ⟨s', e', w', m'⟩ | ⟨e', n'⟩
  · have h1 : ¬ s' < s := fun h => m s' h w'
    have h2 : ¬ s < s' := fun h => m' s h w
    have : s = s' := by omega
    rw [e, e', this]
  · exact absurd w (n' s)
  · exact absurd w' (n s')
  · rw [e, e']
theorem all_last {P : Int → Prop} {i n : Int} (h : i ≤ n) : All P i (n + 1) ↔ All P i n ∧ P n := by
  constructor
  · intro a
    exact ⟨fun j h1 h2 => a j h1 (by omega), a n h (by omega)⟩
  · rintro ⟨a, p⟩ j h1 h2
    by_cases e : j = n
    · rw [e]; exact p
    · exact a j h1 (by omega)
theorem spec_ship (xs : List S60) (hv : Valid xs) (draft bottom from_ hours : Int) (hd : 0 ≤ draft ∧ draft ≤ 3000) (hb : 0 ≤ bottom ∧ bottom ≤ 3000) (hf : InTab xs from_) (hh : 0 ≤ hours ∧ hours ≤ 240) :
    ∃ r, ShipRes xs (draft - bottom) from_ hours r ∧ Ev (fun k => spec_ShipWindow.l0 k xs draft bottom hours from_) r := by
  have hbd := intab_bd hv hf
  have hlast : lastH xs ≤ 240 := by
    have bv := hv.1
    have b1 := (hv.2 ((xs.length : Int) - 1) (by omega) (by omega)).1
    unfold lastH; omega
  have hlen := hv.1
  have main : ∀ (d : Nat) (h : Int), from_ ≤ h → h ≤ 241 → lastH xs + 1 ≤ h + hours + d → (∀ t, t < h → ¬ WinAt xs (draft - bottom) from_ hours t) → ∃ r, ShipRes xs (draft - bottom) from_ hours r ∧ Ev (fun k => spec_ShipWindow.l0 k xs draft bottom hours h) r := by
    intro d
    induction d with
    | zero =>
      intro h h0 h1 hd0 hno
      refine ⟨(0, false), .inr ⟨rfl, fun t w => ?_⟩, ?_⟩
      · by_cases ht : t < h
        · exact hno t ht w
        · have := w.2.1; omega
      · refine Ev.step (fun k => by rw [spec_ShipWindow.l0]) ?_
        have e : ¬ h + hours ≤ (rd_T60 xs ((xs.length : Int) - 1)).f0 := by unfold lastH at hd0; omega
        simp (disch := omega) only [if_pos, wrap64_id, if_neg]
        exact Ev.now _
    | succ d ih =>
      intro h h0 h1 hd0 hno
      by_cases hle : h + hours ≤ lastH xs
      · have e : h + hours ≤ (rd_T60 xs ((xs.length : Int) - 1)).f0 := hle
        have step : ∀ (R : Int × Bool), (¬ All (Deep xs (draft - bottom)) h (h + hours + 1) → Ev (fun k => spec_ShipWindow.l0 k xs draft bottom hours (h + 1)) R) → (All (Deep xs (draft - bottom)) h (h + hours + 1) → R = (h, true)) → Ev (fun k => spec_ShipWindow.l0 k xs draft bottom hours h) R := by
          intro R hR1 hR2
          refine Ev.step (fun k => by rw [spec_ShipWindow.l0]) ?_
          simp (disch := omega) only [if_pos, wrap64_id]
          have inner := Ev.up (fun k (b : Bool) j => spec_ShipWindow.l1 k xs draft bottom hours h b j) (fun _ _ => R) (fun b j => h ≤ j ∧ b = chk (All (Deep xs (draft - bottom)) h j) true false) (h + hours + 1) (by
            rintro b ⟨hj, rfl⟩
            refine Ev.step (fun k => by rw [spec_ShipWindow.l1]) ?_
            simp (disch := omega) only [wrap64_id, if_neg]
            refine Ev.ite (fun hb => ?_) (fun hb => ?_)
            · rw [hR2 (chk_true.1 hb)]; exact Ev.now _
            · exact hR1 (fun a => hb (chk_true.2 a))) (by
            rintro b j ⟨hj, rfl⟩ hlt ih2
            refine Ev.step (fun k => by rw [spec_ShipWindow.l1]) ?_
            simp (disch := omega) only [wrap64_id, if_pos]
            refine Ev.ite (fun hb => ?_) (fun hb => ?_)
            · have hin : InTab xs j := by unfold InTab at hf ⊢; omega
              refine Ev.bind (spec_deep hv hin (by omega)) ?_
              refine ih2 _ ⟨by omega, ?_⟩
              refine chk_congr ?_ _ _
              rw [all_last hj]
              exact ⟨fun d => ⟨chk_true.1 hb, d⟩, fun d => d.2⟩
            · refine ih2 false ⟨by omega, ?_⟩
              rw [chk_neg (fun a => hb (chk_true.2 ((all_last hj).1 a).1))])
          exact inner true h ⟨by omega, by rw [chk_pos (All.end_ _ _)]⟩ (by omega)
        by_cases hw : All (Deep xs (draft - bottom)) h (h + hours + 1)
        · exact ⟨(h, true), .inl ⟨h, rfl, ⟨h0, hle, hw⟩, hno⟩, step _ (fun n => absurd hw n) (fun _ => rfl)⟩
        · obtain ⟨r, hr, er⟩ := ih (h + 1) (by omega) (by omega) (by omega) (fun t ht => by
            by_cases e : t = h
            · rw [e]; exact fun w => hw w.2.2
            · exact hno t (by omega))
          exact ⟨r, hr, step r (fun _ => er) (fun a => absurd a hw)⟩
      · refine ⟨(0, false), .inr ⟨rfl, fun t w => ?_⟩, ?_⟩
        · by_cases ht : t < h
          · exact hno t ht w
          · have := w.2.1; omega
        · refine Ev.step (fun k => by rw [spec_ShipWindow.l0]) ?_
          have e : ¬ h + hours ≤ (rd_T60 xs ((xs.length : Int) - 1)).f0 := by unfold lastH at hle; omega
          simp (disch := omega) only [if_pos, wrap64_id, if_neg]
          exact Ev.now _
  exact main 241 from_ (by omega) (by omega) (by omega) (fun t ht w => by have := w.1; omega)
theorem impl_ship (xs : List S60) (hv : Valid xs) (draft bottom from_ hours : Int) (hd : 0 ≤ draft ∧ draft ≤ 3000) (hb : 0 ≤ bottom ∧ bottom ≤ 3000) (hf : InTab xs from_) (hh : 0 ≤ hours ∧ hours ≤ 240) :
    ∃ r, ShipRes xs (draft - bottom) from_ hours r ∧ Ev (fun k => impl_ShipWindow.l0 k xs draft bottom hours 0 from_) r := by
  have hbd := intab_bd hv hf
  have hlen := hv.1
  have hlast : from_ ≤ lastH xs ∧ lastH xs ≤ 240 := by
    have b1 := (hv.2 ((xs.length : Int) - 1) (by omega) (by omega)).1
    unfold InTab at hf
    unfold lastH; omega
  have main : ∀ (d : Nat) (h c : Int), from_ ≤ h → h + d = lastH xs + 1 → 0 ≤ c → c ≤ hours → c ≤ h - from_ → All (Deep xs (draft - bottom)) (h - c) h → (c < h - from_ → ¬ Deep xs (draft - bottom) (h - c - 1)) → (∀ t, t + hours < h → ¬ WinAt xs (draft - bottom) from_ hours t) →
      ∃ r, ShipRes xs (draft - bottom) from_ hours r ∧ Ev (fun k => impl_ShipWindow.l0 k xs draft bottom hours c h) r := by
    intro d
    induction d with
    | zero =>
      intro h c h0 hd0 c0 c1 c2 ha hn hno
      refine ⟨(0, false), .inr ⟨rfl, fun t w => ?_⟩, ?_⟩
      · exact hno t (by have := w.2.1; omega) w
      · refine Ev.step (fun k => by rw [impl_ShipWindow.l0]) ?_
        have e : ¬ h ≤ (rd_T60 xs ((xs.length : Int) - 1)).f0 := by unfold lastH at hd0; omega
        simp (disch := omega) only [if_pos, wrap64_id, if_neg]
        exact Ev.now _
    | succ d ih =>
      intro h c h0 hd0 c0 c1 c2 ha hn hno
      have e : h ≤ (rd_T60 xs ((xs.length : Int) - 1)).f0 := by unfold lastH at hd0; omega
      have hin : InTab xs h := by unfold InTab at hf ⊢; omega
      have step : ∀ (R : Int × Bool), (Deep xs (draft - bottom) h → c = hours → R = (h - hours, true)) → (Deep xs (draft - bottom) h → c < hours → Ev (fun k => impl_ShipWindow.l0 k xs draft bottom hours (c + 1) (h + 1)) R) → (¬ Deep xs (draft - bottom) h → Ev (fun k => impl_ShipWindow.l0 k xs draft bottom hours 0 (h + 1)) R) → Ev (fun k => impl_ShipWindow.l0 k xs draft bottom hours c h) R := by
        intro R R1 R2 R3
        refine Ev.step (fun k => by rw [impl_ShipWindow.l0]) ?_
        simp (disch := omega) only [if_pos, wrap64_id]
        refine Ev.bind (impl_deep hv hin (by omega)) ?_
        refine Ev.ite (fun hdp => ?_) (fun hdp => ?_)
        · have hdp := chk_true.1 hdp
          refine Ev.ite (fun hc => ?_) (fun hc => ?_)
          · rw [R1 hdp (by omega)]; exact Ev.now _
          · exact R2 hdp (by omega)
        · have hdp : ¬ Deep xs (draft - bottom) h := fun x => hdp (chk_true.2 x)
          simp (disch := omega) only [if_neg]
          exact R3 hdp
      by_cases hdp : Deep xs (draft - bottom) h
      · by_cases hc : c = hours
        · refine ⟨(h - hours, true), .inl ⟨h - hours, rfl, ⟨by omega, by unfold lastH; omega, ?_⟩, fun t ht => hno t (by omega)⟩, step _ (fun _ _ => rfl) (fun _ x => by omega) (fun x => absurd hdp x)⟩
          rw [show h - hours + hours + 1 = h + 1 from by omega, all_last (by omega)]
          refine ⟨?_, hdp⟩
          rw [← hc]; exact ha
        · obtain ⟨r, hr, er⟩ := ih (h + 1) (c + 1) (by omega) (by omega) (by omega) (by omega) (by omega) (by
            rw [show h + 1 - (c + 1) = h - c from by omega, all_last (by omega)]; exact ⟨ha, hdp⟩) (fun hx => by
            rw [show h + 1 - (c + 1) - 1 = h - c - 1 from by omega]; exact hn (by omega)) (fun t ht w => by
            by_cases e2 : t + hours < h
            · exact hno t e2 w
            · have w1 := w.1
              exact hn (by omega) (w.2.2 (h - c - 1) (by omega) (by omega)))
          exact ⟨r, hr, step r (fun _ x => absurd x hc) (fun _ _ => er) (fun x => absurd hdp x)⟩
      · obtain ⟨r, hr, er⟩ := ih (h + 1) 0 (by omega) (by omega) (by omega) (by omega) (by omega) (by
          rw [show h + 1 - 0 = h + 1 from by omega]; exact All.end_ _ _) (fun _ => by
          rw [show h + 1 - 0 - 1 = h from by omega]; exact hdp) (fun t ht w => by
          by_cases e2 : t + hours < h
          · exact hno t e2 w
          · exact hdp (w.2.2 h (by omega) (by omega)))
        exact ⟨r, hr, step r (fun x => absurd x hdp) (fun x => absurd x hdp) (fun _ => er)⟩
  exact main (lastH xs + 1 - from_).toNat from_ 0 (by omega) (by omega) (by omega) (by omega) (by omega) (by rw [show from_ - 0 = from_ from by omega]; exact All.end_ _ _) (fun x => by omega) (fun t ht w => by have := w.1; omega)
theorem ship_both (xs : List S60) (draft bottom from_ hours : Int) : ∃ r, Ev (fun k => spec_ShipWindow.f k xs draft bottom from_ hours) r ∧ Ev (fun k => impl_ShipWindow.f k xs draft bottom from_ hours) r := by
  by_cases hall : (Valid xs ∧ InTab xs from_) ∧ (0 ≤ draft ∧ draft ≤ 3000) ∧ (0 ≤ bottom ∧ bottom ≤ 3000) ∧ (0 ≤ hours ∧ hours ≤ 240)
  · obtain ⟨hvf, hd, hb, hh⟩ := hall
    obtain ⟨r, hr, er⟩ := spec_ship xs hvf.1 draft bottom from_ hours hd hb hvf.2 hh
    obtain ⟨r', hr', er'⟩ := impl_ship xs hvf.1 draft bottom from_ hours hd hb hvf.2 hh
    obtain rfl := shipRes_uniq hr hr'
    refine ⟨r, ?_, ?_⟩
    · unfold spec_ShipWindow.f
      refine Ev.bind (spec_holds xs from_) ?_
      rw [chk_pos hvf]
      simp only [if_true, spec_l1In_eq, Option.bind_some, decide_eq_true hd, decide_eq_true hb, decide_eq_true hh]
      refine Ev.step (fun k => by rw [spec_ShipWindow.j0]) ?_
      simp only [Bool.not_true, Bool.false_eq_true, if_false]
      exact er
    · unfold impl_ShipWindow.f
      refine Ev.bind (impl_holds_one xs from_) ?_
      rw [chk_pos hvf]
      simp only [if_true, impl_within_eq, Option.bind_some, decide_eq_true hd, decide_eq_true hb, decide_eq_true hh]
      refine Ev.step (fun k => by rw [impl_ShipWindow.j0]) ?_
      simp only [Bool.not_true, Bool.false_eq_true, if_false]
      exact er'
  · have js : Ev (fun k => spec_ShipWindow.j0 k xs draft bottom from_ hours true) (0, false) := by
      refine Ev.step (fun k => by rw [spec_ShipWindow.j0]) ?_
      simp only [if_true]; exact Ev.now _
    have ji : Ev (fun k => impl_ShipWindow.j0 k xs draft bottom from_ hours true) (0, false) := by
      refine Ev.step (fun k => by rw [impl_ShipWindow.j0]) ?_
      simp only [if_true]; exact Ev.now _
    refine ⟨(0, false), ?_, ?_⟩
    · unfold spec_ShipWindow.f
      refine Ev.bind (spec_holds xs from_) ?_
      simp only [spec_l1In_eq, Option.bind_some]
      refine Ev.ite (fun h1 => ?_) (fun _ => js)
      refine Ev.ite (fun h2 => ?_) (fun _ => js)
      refine Ev.ite (fun h3 => ?_) (fun _ => js)
      rw [decide_eq_false (fun h4 => hall ⟨chk_true.1 h1, of_decide_eq_true h2, of_decide_eq_true h3, h4⟩)]
      exact js
    · unfold impl_ShipWindow.f
      refine Ev.bind (impl_holds_one xs from_) ?_
      simp only [impl_within_eq, Option.bind_some]
      refine Ev.ite (fun h1 => ?_) (fun _ => ji)
      refine Ev.ite (fun h2 => ?_) (fun _ => ji)
      refine Ev.ite (fun h3 => ?_) (fun _ => ji)
      rw [decide_eq_false (fun h4 => hall ⟨chk_true.1 h1, of_decide_eq_true h2, of_decide_eq_true h3, h4⟩)]
      exact ji
end Go.Proofs.Ytbglkkepfddecaa.G

namespace Go.Proofs.Ytbglkkepfddecaa.G
open Go.RowKit Go.Proofs.YtbglkkepfddecaaW.PrintWords Go.Proofs.YtbglkkepfddecaaW.PrintLast
set_option linter.unusedVariables false
set_option linter.unusedSimpArgs false
/-- The windows, an hour more. -/
noncomputable def winStep (xs : List S60) (p : Int) (out : List S66) (h : Int) : List S66 :=
  chk (Deep xs p h) (if (out.length : Int) > 0 then (if (rd_T66 out ((out.length : Int) - 1)).f1 = h - 1 then out.set ((out.length : Int) - 1).toNat ⟨(rd_T66 out ((out.length : Int) - 1)).f0, h⟩ else out ++ [⟨h, h⟩]) else out ++ [⟨h, h⟩]) out
theorem winStep_len (xs : List S60) (p : Int) (out : List S66) (h : Int) : (winStep xs p out h).length ≤ out.length + 1 := by
  unfold winStep
  by_cases hd : Deep xs p h
  · rw [chk_pos hd]
    split
    · split <;> simp
    · simp
  · rw [chk_neg hd]; omega
/-- The windows up to, and without, an hour. -/
noncomputable def winTo (xs : List S60) (p : Int) : Nat → List S66
  | 0 => []
  | d + 1 => winStep xs p (winTo xs p d) ((rd_T60 xs 0).f0 + d)
theorem winTo_len (xs : List S60) (p : Int) : ∀ d, (winTo xs p d).length ≤ d
  | 0 => by simp [winTo]
  | d + 1 => by
    have := winTo_len xs p d
    have := winStep_len xs p (winTo xs p d) ((rd_T60 xs 0).f0 + d)
    unfold winTo
    omega
noncomputable def winOf (xs : List S60) (p : Int) : List S66 := winTo xs p (lastH xs + 1 - (rd_T60 xs 0).f0).toNat
theorem tab_bd {xs : List S60} (hv : Valid xs) : 0 ≤ (rd_T60 xs 0).f0 ∧ (rd_T60 xs 0).f0 ≤ lastH xs ∧ lastH xs ≤ 240 := by
  have hlen := hv.1
  have b0 := (hv.2 0 (by omega) (by omega)).1
  have b1 := (hv.2 ((xs.length : Int) - 1) (by omega) (by omega)).1
  have lt := valid_lt hv (show 0 ≤ (0 : Int) by omega) (show (0 : Int) < (xs.length : Int) - 1 by omega) (by omega)
  unfold lastH
  omega
theorem spec_win (xs : List S60) (p : Int) : Ev (fun k => spec_DeepWindows.f k xs p) (chk (Valid xs ∧ 0 ≤ p ∧ p ≤ 2000) (winOf xs p, true) ([], false)) := by
  unfold spec_DeepWindows.f
  simp only [Option.bind_some]
  refine Ev.bind (spec_valid xs) ?_
  have hno : ¬ (Valid xs ∧ 0 ≤ p ∧ p ≤ 2000) → Ev (fun k => spec_DeepWindows.j0 k xs p [] true) (chk (Valid xs ∧ 0 ≤ p ∧ p ≤ 2000) (winOf xs p, true) ([], false)) := by
    intro h
    rw [chk_neg h]
    refine Ev.step (fun k => by rw [spec_DeepWindows.j0]) ?_
    simp only [if_true]; exact Ev.now _
  refine Ev.ite (fun hv => ?_) (fun hv => hno (fun h => hv (chk_true.2 h.1)))
  have hv := chk_true.1 hv
  simp only [spec_l1In_eq, Option.bind_some]
  by_cases hp : 0 ≤ p ∧ p ≤ 2000
  · rw [decide_eq_true hp, chk_pos ⟨hv, hp⟩]
    have tb := tab_bd hv
    have hlen := hv.1
    refine Ev.step (fun k => by rw [spec_DeepWindows.j0]) ?_
    simp (disch := omega) only [Bool.not_true, Bool.false_eq_true, if_false, if_pos]
    refine Ev.up (fun k out h => spec_DeepWindows.l0 k xs p out h) (fun _ _ => (winOf xs p, true)) (fun out h => (rd_T60 xs 0).f0 ≤ h ∧ out = winTo xs p (h - (rd_T60 xs 0).f0).toNat) (lastH xs + 1) ?_ ?_ [] (rd_T60 xs 0).f0 ⟨by omega, by rw [Int.sub_self]; rfl⟩ (by omega)
    · rintro out ⟨h0, rfl⟩
      refine Ev.step (fun k => by rw [spec_DeepWindows.l0]) ?_
      have e : ¬ lastH xs + 1 ≤ (rd_T60 xs ((xs.length : Int) - 1)).f0 := by unfold lastH; omega
      simp (disch := omega) only [if_pos, wrap64_id, if_neg]
      exact Ev.now _
    · rintro out h ⟨h0, ho⟩ hlt ih
      have ol := winTo_len xs p (h - (rd_T60 xs 0).f0).toNat
      rw [← ho] at ol
      refine Ev.step (fun k => by rw [spec_DeepWindows.l0]) ?_
      have e : h ≤ (rd_T60 xs ((xs.length : Int) - 1)).f0 := by unfold lastH at hlt; omega
      have hin : InTab xs h := ⟨h0, e⟩
      simp (disch := omega) only [if_pos, wrap64_id]
      refine Ev.bind (spec_deep hv hin (by omega)) ?_
      have fin : ∀ out', out' = winStep xs p out h → Ev (fun k => spec_DeepWindows.l0 k xs p out' (h + 1)) (winOf xs p, true) := by
        intro out' he
        refine ih out' ⟨by omega, ?_⟩
        rw [he, show (h + 1 - (rd_T60 xs 0).f0).toNat = (h - (rd_T60 xs 0).f0).toNat + 1 from by omega]
        unfold winTo
        rw [← ho, show (rd_T60 xs 0).f0 + (((h - (rd_T60 xs 0).f0).toNat : Nat) : Int) = h from by omega]
      refine Ev.ite (fun hd => ?_) (fun hd => ?_)
      · have hd := chk_true.1 hd
        refine Ev.ite (fun hl => ?_) (fun hl => ?_)
        · try simp (disch := omega) only [if_pos, wrap64_id]
          refine Ev.ite (fun he => ?_) (fun he => ?_)
          · exact fin _ (by unfold winStep; rw [chk_pos hd, if_pos hl, if_pos he])
          · exact fin _ (by unfold winStep; rw [chk_pos hd, if_pos hl, if_neg he])
        · try simp (disch := omega) only [if_pos]
          exact fin _ (by unfold winStep; rw [chk_pos hd, if_neg hl])
      · exact fin _ (by unfold winStep; rw [chk_neg (fun x => hd (chk_true.2 x))])
  · rw [decide_eq_false hp]
    exact hno (fun h => hp h.2)
theorem impl_win (xs : List S60) (p : Int) : Ev (fun k => impl_DeepWindows.f k xs p) (chk (Valid xs ∧ 0 ≤ p ∧ p ≤ 2000) (winOf xs p, true) ([], false)) := by
  unfold impl_DeepWindows.f
  refine Ev.bind (impl_valid xs) ?_
  have hno : ¬ (Valid xs ∧ 0 ≤ p ∧ p ≤ 2000) → Ev (fun k => impl_DeepWindows.j0 k xs p true) (chk (Valid xs ∧ 0 ≤ p ∧ p ≤ 2000) (winOf xs p, true) ([], false)) := by
    intro h
    rw [chk_neg h]
    refine Ev.step (fun k => by rw [impl_DeepWindows.j0]) ?_
    simp only [if_true]; exact Ev.now _
  refine Ev.ite (fun hv => ?_) (fun hv => hno (fun h => hv (chk_true.2 h.1)))
  have hv := chk_true.1 hv
  simp only [impl_within_eq, Option.bind_some]
  by_cases hp : 0 ≤ p ∧ p ≤ 2000
  · rw [decide_eq_true hp, chk_pos ⟨hv, hp⟩]
    have tb := tab_bd hv
    have hlen := hv.1
    refine Ev.step (fun k => by rw [impl_DeepWindows.j0]) ?_
    simp (disch := omega) only [Bool.not_true, Bool.false_eq_true, if_false, if_pos]
    refine Ev.up (fun k out h => impl_DeepWindows.l0 k xs p out h) (fun _ _ => (winOf xs p, true)) (fun out h => (rd_T60 xs 0).f0 ≤ h ∧ out = winTo xs p (h - (rd_T60 xs 0).f0).toNat) (lastH xs + 1) ?_ ?_ [] (rd_T60 xs 0).f0 ⟨by omega, by rw [Int.sub_self]; rfl⟩ (by omega)
    · rintro out ⟨h0, rfl⟩
      refine Ev.step (fun k => by rw [impl_DeepWindows.l0]) ?_
      have e : ¬ lastH xs + 1 ≤ (rd_T60 xs ((xs.length : Int) - 1)).f0 := by unfold lastH; omega
      simp (disch := omega) only [if_pos, wrap64_id, if_neg]
      exact Ev.now _
    · rintro out h ⟨h0, ho⟩ hlt ih
      have ol := winTo_len xs p (h - (rd_T60 xs 0).f0).toNat
      rw [← ho] at ol
      refine Ev.step (fun k => by rw [impl_DeepWindows.l0]) ?_
      have e : h ≤ (rd_T60 xs ((xs.length : Int) - 1)).f0 := by unfold lastH at hlt; omega
      have hin : InTab xs h := ⟨h0, e⟩
      simp (disch := omega) only [if_pos, wrap64_id]
      refine Ev.bind (impl_deep hv hin (by omega)) ?_
      have fin : ∀ out', out' = winStep xs p out h → Ev (fun k => impl_DeepWindows.l0 k xs p out' (h + 1)) (winOf xs p, true) := by
        intro out' he
        refine ih out' ⟨by omega, ?_⟩
        rw [he, show (h + 1 - (rd_T60 xs 0).f0).toNat = (h - (rd_T60 xs 0).f0).toNat + 1 from by omega]
        unfold winTo
        rw [← ho, show (rd_T60 xs 0).f0 + (((h - (rd_T60 xs 0).f0).toNat : Nat) : Int) = h from by omega]
      refine Ev.ite (fun hd => ?_) (fun hd => ?_)
      · have hd := chk_true.1 hd
        refine Ev.ite (fun hl => ?_) (fun hl => ?_)
        · try simp (disch := omega) only [if_pos, wrap64_id]
          refine Ev.ite (fun he => ?_) (fun he => ?_)
          · exact fin _ (by unfold winStep; rw [chk_pos hd, if_pos (by omega), if_pos he])
          · exact fin _ (by unfold winStep; rw [chk_pos hd, if_pos (by omega), if_neg he])
        · try simp (disch := omega) only [if_pos]
          exact fin _ (by unfold winStep; rw [chk_pos hd, if_neg (by omega)])
      · exact fin _ (by unfold winStep; rw [chk_neg (fun x => hd (chk_true.2 x))])
  · rw [decide_eq_false hp]
    exact hno (fun h => hp h.2)
theorem win_both (xs : List S60) (p : Int) : ∃ r : List S66 × Bool, (r.1.length : Int) ≤ 1048576 ∧ Ev (fun k => spec_DeepWindows.f k xs p) r ∧ Ev (fun k => impl_DeepWindows.f k xs p) r := by
  refine ⟨_, ?_, spec_win xs p, impl_win xs p⟩
  by_cases h : Valid xs ∧ 0 ≤ p ∧ p ≤ 2000
  · rw [chk_pos h]
    have tb := tab_bd h.1
    have := winTo_len xs p (lastH xs + 1 - (rd_T60 xs 0).f0).toNat
    unfold winOf
    dsimp only
    omega
  · rw [chk_neg h]; simp
end Go.Proofs.Ytbglkkepfddecaa.G

namespace Go.Proofs.Ytbglkkepfddecaa.G
open Go.RowKit Go.Proofs.YtbglkkepfddecaaW.PrintWords Go.Proofs.YtbglkkepfddecaaW.PrintLast
set_option linter.unusedVariables false
set_option linter.unusedSimpArgs false
theorem eq_W (xs : List S66) (h : (xs.length : Int) ≤ 1048576) : Ev (fun k => laws_eqWindowS.f k xs xs) true := by
  unfold laws_eqWindowS.f
  simp only [if_true]
  refine Ev.upc (fun k i => laws_eqWindowS.l0 k xs xs i) true (xs.length : Int) 0 ?_ ?_ 0 (by omega) (by omega)
  · refine Ev.step (fun k => by rw [laws_eqWindowS.l0]) ?_
    simp only [Int.lt_irrefl, if_false]
    exact Ev.now _
  · intro i h0 hlt hr
    refine Ev.step (fun k => by rw [laws_eqWindowS.l0]) ?_
    simp (disch := omega) only [wrap64_id, if_pos, laws_eqWindow.f, Option.bind_some, if_true]
    exact hr
theorem mark_W (xs : List S66) (h : (xs.length : Int) ≤ 1048576) : ∃ ys, Ev (fun k => laws_markWindowS.f k xs 1) (1 + 2 * (xs.length : Int), ys) ∧ Ev (fun k => laws_heldWindowS.f k ys 1) (1 + 2 * (xs.length : Int)) := by
  obtain ⟨ys, h1, h2, h3⟩ := Ev.mark (fun k xs c i => laws_markWindowS.l0 k xs c i) (xs.length : Int) 2 (fun i => (⟨1 + 2 * i, 1 + 2 * i + 1⟩ : S66)) z66 (by
      intro ys c hl
      refine Ev.step (fun k => by rw [laws_markWindowS.l0]) ?_
      simp only [hl, Int.lt_irrefl, if_false]
      exact Ev.now _) (by
      intro ys c i hl h0 hlt hc r hr
      refine Ev.step (fun k => by rw [laws_markWindowS.l0]) ?_
      have e0 : wrap64 (c + 1) = c + 1 := by rw [wrap64_id (by omega) (by omega)]
      have e1 : wrap64 (c + 1 + 1) = c + 2 := by rw [wrap64_id (by omega) (by omega)]; omega
      have e9 : wrap64 (i + 1) = i + 1 := wrap64_id (by omega) (by omega)
      simp only [hl, if_pos hlt, if_pos h0, Option.bind_some, e0, e1, e9, rd_T66, getD_set _ _ _ _ _ (show i.toNat < ys.length by omega), List.length_set, if_true, List.set_set]
      rw [hc] at hr ⊢
      exact hr) xs rfl
  refine ⟨ys, h1, ?_⟩
  refine Ev.up (fun k (c : Int) i => laws_heldWindowS.l0 k ys c i) (fun _ _ => 1 + 2 * (xs.length : Int)) (fun c i => 0 ≤ i ∧ c = 1 + 2 * i) (xs.length : Int) ?_ ?_ 1 0 ⟨by omega, by omega⟩ (by omega)
  · rintro c ⟨_, rfl⟩
    refine Ev.step (fun k => by rw [laws_heldWindowS.l0]) ?_
    simp only [h2, Int.lt_irrefl, if_false]
    exact Ev.now _
  · rintro c i ⟨h0, hc⟩ hlt ih
    refine Ev.step (fun k => by rw [laws_heldWindowS.l0]) ?_
    have e0 : wrap64 (c + 1) = c + 1 := by rw [wrap64_id (by omega) (by omega)]
    have e1 : wrap64 (c + 1 + 1) = c + 2 := by rw [wrap64_id (by omega) (by omega)]; omega
    have e9 : wrap64 (i + 1) = i + 1 := wrap64_id (by omega) (by omega)
    simp only [h2, if_pos hlt, if_pos h0, e0, e1, e9, rd_T66, h3 i h0 hlt, ← hc, if_true]
    exact ih _ ⟨by omega, by omega⟩
end Go.Proofs.Ytbglkkepfddecaa.G

/- FnExactDeepWindows: the program's DeepWindows returns what the reference's returns, for every table of at most 2^20 tides and all numbers. -/
namespace Go.Proofs.Ytbglkkepfddecaa.Pure
open Go.RowKit Go.Proofs.Ytbglkkepfddecaa.G Go.Proofs.YtbglkkepfddecaaW.PrintWords Go.Proofs.YtbglkkepfddecaaW.PrintLast
set_option linter.unusedVariables false
set_option linter.unusedSimpArgs false
theorem FnExactDeepWindows : laws_FnExactDeepWindows.Pure := by
  intro l0 a1 h0 w1
  refine Ev.rounds (g := fun k => laws_FnExactDeepWindows.f k l0 a1) (r := true) ?_
  unfold laws_FnExactDeepWindows.f
  simp only [sz_T l0 h0.1, Option.bind_some]
  refine Ev.ite (fun _ => Ev.now _) (fun h => ?_)
  have hn : (l0.length : Int) ≤ 1048576 := by split at h <;> omega
  obtain ⟨r, hq, hs, hi⟩ := win_both (l0.map cvT) a1
  obtain ⟨ys, m1, _⟩ := mark_T (l0.map cvT) (by simpa using hn)
  obtain ⟨zs, m2, m3⟩ := mark_W r.1 hq
  refine Ev.bind (to_T l0 hn) ?_
  refine Ev.bind hs ?_
  refine Ev.bind (to_T l0 hn) ?_
  refine Ev.bind hi ?_
  refine Ev.bind (eq_W _ hq) ?_
  simp only [if_true, bne_self_eq_false]
  refine Ev.step (fun k => by rw [laws_FnExactDeepWindows.j0]) ?_
  simp only [Bool.false_eq_true, if_false]
  refine Ev.bind (to_T l0 hn) ?_
  refine Ev.bind (eq_T _ (by simpa using hn)) ?_
  simp only [if_true]
  refine Ev.bind m1 ?_
  simp (disch := (simp only [List.length_map]; omega)) only [if_neg]
  refine Ev.bind (eq_W _ hq) ?_
  simp only [if_true, bne_self_eq_false]
  refine Ev.step (fun k => by rw [laws_FnExactDeepWindows.j1]) ?_
  simp only [Bool.false_eq_true, if_false]
  refine Ev.bind m2 ?_
  refine Ev.bind m3 ?_
  simp (disch := omega) only [if_neg, if_true]
  refine Ev.bind (to_T l0 hn) ?_
  refine Ev.bind hi ?_
  refine Ev.bind (eq_W _ hq) ?_
  simp only [if_true, bne_self_eq_false]
  refine Ev.step (fun k => by rw [laws_FnExactDeepWindows.j2]) ?_
  simp only [Bool.false_eq_true, if_false]
  refine Ev.bind m3 ?_
  simp (disch := omega) only [if_neg, if_true]
  exact Ev.now _
end Go.Proofs.Ytbglkkepfddecaa.Pure
