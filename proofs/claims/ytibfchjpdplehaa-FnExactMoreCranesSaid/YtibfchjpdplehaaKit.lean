import Derived.Test.YtibfchjpdplehaaGx0
import Derived.IntWalk
namespace Go.Proofs.Ytibfchjpdplehaa.G
open Go.RowKit Go.Proofs.YtibfchjpdplehaaW.PrintWords Go.Proofs.YtibfchjpdplehaaW.PrintLast
set_option linter.unusedVariables false
set_option linter.unusedSimpArgs false
/-! Plain laws on printed functions: what holds from some number of rounds on, case by case and loop by loop. -/
theorem Ev.ite {α : Type} {c : Prop} [Decidable c] {A B : Nat → Option α} {r : α} (h1 : c → Ev A r) (h2 : ¬ c → Ev B r) : Ev (fun k => if c then A k else B k) r := by
  by_cases h : c
  · simpa only [if_pos h] using h1 h
  · simpa only [if_neg h] using h2 h
theorem Ev.val {α : Type} {v r : α} (h : v = r) : Ev (fun _ => some v) r := by rw [h]; exact Ev.now r
theorem Ev.eq {α : Type} {g : Nat → Option α} {r r' : α} (h : Ev g r) (e : r = r') : Ev g r' := e ▸ h
theorem Ev.same {α : Type} {g : Nat → Option α} {r r' : α} (h : Ev g r) (h' : Ev g r') : r = r' := by
  obtain ⟨K, h⟩ := h
  obtain ⟨K', h'⟩ := h'
  have h1 := h (max K K') (by omega)
  rw [h' (max K K') (by omega)] at h1
  exact (Option.some.inj h1).symm
theorem wrap64_id {x : Int} (h1 : -9223372036854775808 ≤ x) (h2 : x ≤ 9223372036854775807) : wrap64 x = x := IntWalk.wrap64_in x ⟨h1, h2⟩
theorem wf_iff {x : Int} : (Lit.int .i64 x).wf = true ↔ -9223372036854775808 ≤ x ∧ x ≤ 9223372036854775807 := by
  have e : (Lit.int .i64 x).wf = (decide (-9223372036854775808 ≤ x) && decide (x ≤ 9223372036854775807)) := rfl
  rw [e]
  simp
/-- What holds of all indices from i up to, and without, n. -/
def All (P : Int → Prop) (i n : Int) : Prop := ∀ j, i ≤ j → j < n → P j
theorem All.end_ (P : Int → Prop) (n : Int) : All P n n := fun j h1 h2 => by omega
theorem All.step {P : Int → Prop} {i n : Int} (h : i < n) : All P i n ↔ P i ∧ All P (i + 1) n := by
  constructor
  · intro a
    exact ⟨a i (Int.le_refl _) h, fun j h1 h2 => a j (by omega) h2⟩
  · rintro ⟨p, a⟩ j h1 h2
    by_cases e : j = i
    · rw [e]; exact p
    · exact a j (by omega) h2
/-- One of two values, by a statement. -/
noncomputable def chk {β : Type} (p : Prop) (a b : β) : β := @ite β p (Classical.propDecidable p) a b
theorem chk_pos {β : Type} {p : Prop} (h : p) (a b : β) : chk p a b = a := by unfold chk; exact if_pos h
theorem chk_neg {β : Type} {p : Prop} (h : ¬ p) (a b : β) : chk p a b = b := by unfold chk; exact if_neg h
theorem chk_congr {β : Type} {p q : Prop} (h : p ↔ q) (a b : β) : chk p a b = chk q a b := by rw [propext h]
theorem chk_true {p : Prop} : chk p true false = true ↔ p := by
  by_cases h : p
  · rw [chk_pos h]; exact ⟨fun _ => h, fun _ => rfl⟩
  · rw [chk_neg h]; exact ⟨(fun e => by cases e), (fun e => absurd e h)⟩
theorem chk_and {β : Type} {p q : Prop} (a b : β) : chk p (chk q a b) b = chk (p ∧ q) a b := by
  by_cases h : p
  · rw [chk_pos h]
    exact chk_congr ⟨fun x => ⟨h, x⟩, fun x => x.2⟩ _ _
  · rw [chk_neg h, chk_neg (fun x => h x.1)]
/-- A loop that goes up, any state. -/
theorem Ev.up {σ β : Type} (g : Nat → σ → Int → Option β) (R : σ → Int → β) (I : σ → Int → Prop) (n : Int)
    (hend : ∀ s, I s n → Ev (fun k => g k s n) (R s n))
    (hstep : ∀ s i, I s i → i < n → (∀ s', I s' (i + 1) → Ev (fun k => g k s' (i + 1)) (R s' (i + 1))) → Ev (fun k => g k s i) (R s i)) :
    ∀ s i, I s i → i ≤ n → Ev (fun k => g k s i) (R s i) := by
  have main : ∀ (d : Nat) s i, I s i → i + d = n → Ev (fun k => g k s i) (R s i) := by
    intro d
    induction d with
    | zero =>
      intro s i hI hd
      obtain rfl : i = n := by omega
      exact hend s hI
    | succ d ih => intro s i hI hd; exact hstep s i hI (by omega) (fun s' hI' => ih s' (i + 1) hI' (by omega))
  intro s i hI hi
  exact main (n - i).toNat s i hI (by omega)
/-- A loop that tests each index. -/
theorem Ev.check {β : Type} (g : Nat → Int → Option β) (n : Int) (P : Int → Prop) (r0 r1 : β) (i0 : Int)
    (hend : Ev (fun k => g k n) r0)
    (hstep : ∀ i, i0 ≤ i → i < n → ∀ r, Ev (fun k => g k (i + 1)) r → Ev (fun k => g k i) (chk (P i) r r1)) :
    ∀ i, i0 ≤ i → i ≤ n → Ev (fun k => g k i) (chk (All P i n) r0 r1) := by
  intro i h0 hi
  refine Ev.up (fun k (_ : Unit) i => g k i) (fun _ i => chk (All P i n) r0 r1) (fun _ i => i0 ≤ i) n (fun _ _ => ?_) (fun _ i h0 hlt ih => ?_) () i h0 hi
  · rw [chk_pos (All.end_ P n)]; exact hend
  · have := hstep i h0 hlt _ (ih () (by omega))
    rw [chk_and, chk_congr (All.step hlt).symm] at this
    exact this
theorem Ev.upc {β : Type} (g : Nat → Int → Option β) (r : β) (n i0 : Int) (hend : Ev (fun k => g k n) r) (hstep : ∀ i, i0 ≤ i → i < n → Ev (fun k => g k (i + 1)) r → Ev (fun k => g k i) r) :
    ∀ i, i0 ≤ i → i ≤ n → Ev (fun k => g k i) r := by
  intro i h0 hi
  exact Ev.up (fun k (_ : Unit) i => g k i) (fun _ _ => r) (fun _ i => i0 ≤ i) n (fun _ _ => hend) (fun _ i h0 hlt ih => hstep i h0 hlt (ih () (by omega))) () i h0 hi
theorem getD_set {α : Type} (xs : List α) (i j : Nat) (v z : α) (hi : i < xs.length) : (xs.set i v).getD j z = if j = i then v else xs.getD j z := by
  rw [List.getD_eq_getElem?_getD, List.getD_eq_getElem?_getD]
  by_cases h : j = i
  · subst h; rw [List.getElem?_set_self hi, if_pos rfl]; rfl
  · rw [List.getElem?_set_ne (fun e => h e.symm), if_neg h]
theorem ext_getD {α : Type} (z : α) {xs ys : List α} (hl : xs.length = ys.length) (h : ∀ j : Nat, j < xs.length → xs.getD j z = ys.getD j z) : xs = ys := by
  apply List.ext_getElem hl
  intro i h1 h2
  have := h i h1
  rw [List.getD_eq_getElem?_getD, List.getD_eq_getElem?_getD, List.getElem?_eq_getElem h1, List.getElem?_eq_getElem h2] at this
  exact this
theorem getD_map {α β : Type} (f : α → β) (xs : List α) (j : Nat) (z : α) (z' : β) (h : j < xs.length) : (xs.map f).getD j z' = f (xs.getD j z) := by
  rw [List.getD_eq_getElem?_getD, List.getD_eq_getElem?_getD, List.getElem?_map, List.getElem?_eq_getElem h]; rfl
/-- out := make(n); out[i] = conv(xs[i]) for all i. -/
theorem Ev.fill {α β : Type} (g : Nat → List β → Int → Option (List β)) (xs : List α) (conv : α → β) (z : α) (z' : β)
    (hend : ∀ out, Ev (fun k => g k out (xs.length : Int)) out)
    (hstep : ∀ out i, out.length = xs.length → 0 ≤ i → i < (xs.length : Int) → ∀ r, Ev (fun k => g k (out.set i.toNat (conv (xs.getD i.toNat z))) (i + 1)) r → Ev (fun k => g k out i) r) :
    Ev (fun k => g k (List.replicate xs.length z') 0) (xs.map conv) := by
  refine Ev.up g (fun _ _ => xs.map conv) (fun out i => 0 ≤ i ∧ out.length = xs.length ∧ ∀ j : Nat, (j : Int) < i → out.getD j z' = conv (xs.getD j z)) (xs.length : Int) ?_ ?_ _ 0 ⟨by omega, by simp, fun j h => by omega⟩ (by omega)
  · rintro out ⟨_, hl, h⟩
    refine Ev.eq (hend out) (ext_getD z' (by simpa using hl) fun j hj => ?_)
    rw [h j (by omega), getD_map conv xs j z z' (by omega)]
  · rintro out i ⟨h0, hl, h⟩ hlt ih
    refine hstep out i hl h0 hlt _ (ih _ ⟨by omega, by simpa using hl, fun j hj => ?_⟩)
    rw [getD_set _ _ _ _ _ (by omega)]
    by_cases e : j = i.toNat
    · rw [if_pos e, e]
    · rw [if_neg e]; exact h j (by omega)
/-- A list that is marked with numbers, m an element. -/
theorem Ev.mark {α : Type} (g : Nat → List α → Int → Int → Option (Int × List α)) (n m : Int) (mk : Int → α) (z : α)
    (hend : ∀ xs c, (xs.length : Int) = n → Ev (fun k => g k xs c n) (c, xs))
    (hstep : ∀ xs c i, (xs.length : Int) = n → 0 ≤ i → i < n → c = 1 + m * i → ∀ r, Ev (fun k => g k (xs.set i.toNat (mk i)) (c + m) (i + 1)) r → Ev (fun k => g k xs c i) r)
    (xs : List α) (hl : (xs.length : Int) = n) : ∃ ys : List α, Ev (fun k => g k xs 1 0) (1 + m * n, ys) ∧ (ys.length : Int) = n ∧ ∀ j, 0 ≤ j → j < n → ys.getD j.toNat z = mk j := by
  have main : ∀ (d : Nat) (xs : List α) (i : Int), (xs.length : Int) = n → 0 ≤ i → i + d = n → (∀ j, 0 ≤ j → j < i → xs.getD j.toNat z = mk j) → ∃ ys : List α, Ev (fun k => g k xs (1 + m * i) i) (1 + m * n, ys) ∧ (ys.length : Int) = n ∧ ∀ j, 0 ≤ j → j < n → ys.getD j.toNat z = mk j := by
    intro d
    induction d with
    | zero =>
      intro xs i hl h0 hd h
      obtain rfl : i = n := by omega
      exact ⟨xs, hend xs _ hl, hl, h⟩
    | succ d ih =>
      intro xs i hl h0 hd h
      obtain ⟨ys, h1, h2, h3⟩ := ih (xs.set i.toNat (mk i)) (i + 1) (by simpa using hl) (by omega) (by omega) (fun j hj0 hj => by
        rw [getD_set _ _ _ _ _ (by omega)]
        by_cases e : j = i
        · rw [if_pos (by rw [e]), e]
        · rw [if_neg (by omega)]; exact h j hj0 (by omega))
      refine ⟨ys, hstep xs _ i hl h0 (by omega) rfl _ ?_, h2, h3⟩
      rw [show 1 + m * i + m = 1 + m * (i + 1) from by rw [Int.mul_add]; omega]
      exact h1
  obtain ⟨ys, h1, h2⟩ := main n.toNat xs 0 hl (by omega) (by omega) (fun j _ _ => by omega)
  exact ⟨ys, by simpa using h1, h2⟩
/-- The same from any number on. -/
theorem Ev.markFrom {α : Type} (g : Nat → List α → Int → Int → Option (Int × List α)) (n m s : Int) (mk : Int → α) (z : α)
    (hend : ∀ xs c, (xs.length : Int) = n → Ev (fun k => g k xs c n) (c, xs))
    (hstep : ∀ xs c i, (xs.length : Int) = n → 0 ≤ i → i < n → c = s + m * i → ∀ r, Ev (fun k => g k (xs.set i.toNat (mk i)) (c + m) (i + 1)) r → Ev (fun k => g k xs c i) r)
    (xs : List α) (hl : (xs.length : Int) = n) : ∃ ys : List α, Ev (fun k => g k xs s 0) (s + m * n, ys) ∧ (ys.length : Int) = n ∧ ∀ j, 0 ≤ j → j < n → ys.getD j.toNat z = mk j := by
  have main : ∀ (d : Nat) (xs : List α) (i : Int), (xs.length : Int) = n → 0 ≤ i → i + d = n → (∀ j, 0 ≤ j → j < i → xs.getD j.toNat z = mk j) → ∃ ys : List α, Ev (fun k => g k xs (s + m * i) i) (s + m * n, ys) ∧ (ys.length : Int) = n ∧ ∀ j, 0 ≤ j → j < n → ys.getD j.toNat z = mk j := by
    intro d
    induction d with
    | zero =>
      intro xs i hl h0 hd h
      obtain rfl : i = n := by omega
      exact ⟨xs, hend xs _ hl, hl, h⟩
    | succ d ih =>
      intro xs i hl h0 hd h
      obtain ⟨ys, h1, h2, h3⟩ := ih (xs.set i.toNat (mk i)) (i + 1) (by simpa using hl) (by omega) (by omega) (fun j hj0 hj => by
        rw [getD_set _ _ _ _ _ (by omega)]
        by_cases e : j = i
        · rw [if_pos (by rw [e]), e]
        · rw [if_neg (by omega)]; exact h j hj0 (by omega))
      refine ⟨ys, hstep xs _ i hl h0 (by omega) rfl _ ?_, h2, h3⟩
      rw [show s + m * i + m = s + m * (i + 1) from by rw [Int.mul_add]; omega]
      exact h1
  obtain ⟨ys, h1, h2⟩ := main n.toNat xs 0 hl (by omega) (by omega) (fun j _ _ => by omega)
  exact ⟨ys, by simpa using h1, h2⟩
/-- out grows by one element a round. -/
theorem Ev.build {α β γ : Type} (g : Nat → List β → Int → Option γ) (xs : List α) (f : α → β) (z : α) (r : γ) (hend : Ev (fun k => g k (xs.map f) (xs.length : Int)) r)
    (hstep : ∀ out i, 0 ≤ i → i < (xs.length : Int) → (out.length : Int) = i → ∀ r, Ev (fun k => g k (out ++ [f (xs.getD i.toNat z)]) (i + 1)) r → Ev (fun k => g k out i) r) : Ev (fun k => g k [] 0) r := by
  refine Ev.up g (fun _ _ => r) (fun out i => 0 ≤ i ∧ i ≤ (xs.length : Int) ∧ out = (xs.take i.toNat).map f) (xs.length : Int) ?_ ?_ [] 0 ⟨by omega, by omega, by simp⟩ (by omega)
  · rintro out ⟨_, _, rfl⟩
    have e : xs.take (xs.length : Int).toNat = xs := by simp
    rw [e]; exact hend
  · rintro out i ⟨h0, h1, rfl⟩ hlt ih
    refine hstep _ i h0 hlt (by simp; omega) _ (ih _ ⟨by omega, by omega, ?_⟩)
    have e : (i + 1).toNat = i.toNat + 1 := by omega
    rw [e, List.take_succ_eq_append_getElem (show i.toNat < xs.length by omega), List.map_append, List.getD_eq_getElem?_getD, List.getElem?_eq_getElem (show i.toNat < xs.length by omega)]
    rfl
/-- Two loops that go up together. -/
theorem Ev.both {σ β : Type} (g1 g2 : Nat → σ → Int → Option β) (I : σ → Int → Prop) (Q : β → Prop) (n : Int) (hend : ∀ s, I s n → ∃ r, Q r ∧ Ev (fun k => g1 k s n) r ∧ Ev (fun k => g2 k s n) r)
    (hstep : ∀ s i, I s i → i < n → (∃ r, Q r ∧ Ev (fun k => g1 k s i) r ∧ Ev (fun k => g2 k s i) r) ∨ ∃ s', I s' (i + 1) ∧ (∀ r, Ev (fun k => g1 k s' (i + 1)) r → Ev (fun k => g1 k s i) r) ∧ (∀ r, Ev (fun k => g2 k s' (i + 1)) r → Ev (fun k => g2 k s i) r)) :
    ∀ s i, I s i → i ≤ n → ∃ r, Q r ∧ Ev (fun k => g1 k s i) r ∧ Ev (fun k => g2 k s i) r := by
  have main : ∀ (d : Nat) s i, I s i → i + d = n → ∃ r, Q r ∧ Ev (fun k => g1 k s i) r ∧ Ev (fun k => g2 k s i) r := by
    intro d
    induction d with
    | zero =>
      intro s i hI hd
      obtain rfl : i = n := by omega
      exact hend s hI
    | succ d ih =>
      intro s i hI hd
      rcases hstep s i hI (by omega) with h | ⟨s', hI', h1, h2⟩
      · exact h
      · obtain ⟨r, hq, e1, e2⟩ := ih s' (i + 1) hI' (by omega)
        exact ⟨r, hq, h1 r e1, h2 r e2⟩
  intro s i hI hi
  exact main (n - i).toNat s i hI (by omega)
theorem mul_bd {x y A B : Int} (hA : 0 ≤ A) (hB : 0 ≤ B) (h1 : -A ≤ x) (h2 : x ≤ A) (h3 : -B ≤ y) (h4 : y ≤ B) : -(A * B) ≤ x * y ∧ x * y ≤ A * B := by
  have hx : x.natAbs ≤ A.natAbs := by omega
  have hy : y.natAbs ≤ B.natAbs := by omega
  have h := Nat.mul_le_mul hx hy
  rw [← Int.natAbs_mul, ← Int.natAbs_mul] at h
  have hAB : 0 ≤ A * B := Int.mul_nonneg hA hB
  omega

end Go.Proofs.Ytibfchjpdplehaa.G
