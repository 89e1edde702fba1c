/- Texts of the proof of FnExactGreedyAssignment, joined in build order. -/
import Derived.Test.YtfgbohochpjkfaaGx0
import Derived.WalkSpells
import Derived.IntWalk
import Derived.Test.YtfgbohochpjkfaaGx21
import Derived.Test.YtfgbohochpjkfaaGx20
import Derived.Test.YtfgbohochpjkfaaGx1
import Derived.Test.YtfgbohochpjkfaaGx6
import Derived.Test.YtfgbohochpjkfaaCont52
import Derived.Test.YtfgbohochpjkfaaGx12
import Derived.Test.YtfgbohochpjkfaaGx17
import Derived.Test.YtfgbohochpjkfaaGx16
import Derived.Test.YtfgbohochpjkfaaGx48
/- The contract of slices.Clone over whole numbers: nil for nil, else a list of its own. -/
namespace Go.Proofs.Ytfgbohochpjkfaa.G
open Go.RowKit Go.Proofs.YtfgbohochpjkfaaW.PrintWords Go.Proofs.YtfgbohochpjkfaaW.PrintLast
set_option linter.unusedVariables false
set_option linter.unusedSimpArgs false
def slices_Clone_int_int.f (l0 : List Int) : Option (List Int) := if ([] : List Int).length + l0.length < 17592186044416 then some l0 else none
set_option maxHeartbeats 8000000 in
set_option maxRecDepth 100000 in
theorem slices_Clone_int_int.calls (A0 : Option Addr) (c0 : Nat) (l0 : List Int) (r : List Int) (w : World) (hr0 : Kd.C (Kd.int .i64) w A0 l0.length l0) (hc0 : l0.length ≤ c0) (h : slices_Clone_int_int.f l0 = some r) :
    Calls Try.prog 61 #[.slice A0 l0.length c0] w fun e w' => ∃ v0_ : Value, e = .returned (v0_) ∧ Kd.R (Kd.int .i64) 3 w' w.heap.size (fun _ => True) v0_ r ∧ Below w.heap.size w w' := by
  have HR0 := Aside0.mk hr0
  have HC0 := Aside0.mk hc0
  clear hr0 hc0
  have HB := Aside0.mk (Below.refl w.heap.size w)
  have q22 : ∀ (w : World) (a : Option Addr) (n c : Nat), (binOp .eql 27 (.slice a n c) (.slice none 0 0)).run Try.prog w = .ok (.bool a.isNone) w := fun w a n c => Lib.run_eql_slice_nil w _ _ a n c 0 0 Try.underlying27
  unfold slices_Clone_int_int.f at h
  by_cases c2 : ([] : List Int).length + l0.length < 17592186044416
  · rw [if_pos c2] at h
    have LMc2 := Aside0.mk c2
    clear c2
    obtain rfl := Option.some.inj h
    clear h
    cases A0 with
    | none =>
      have hz : l0 = [] := by
        cases l0 with
        | nil => rfl
        | cons x xs =>
          obtain ⟨ad, e, _⟩ := Kd.at_int HR0.out 0 (by omega) (by simp)
          cases e
      subst hz
      go_enter Try.func61, Try.ntmps61
      go_wp2
      go_ret
      exact ⟨_, rfl, by first | exact Kd.R_nil _ _ | exact Kd.R_nil .. , by exact HB.out⟩
    | some ad =>
      obtain ⟨y280, hy280⟩ : ∃ y_ : List Int, y_ = (([] : List Int)) := ⟨_, rfl⟩
      have Ny280 := Aside0.mk hy280
      have LM := Aside0.mk (show y280.length + l0.length < 17592186044416 by rw [hy280]; exact LMc2.out)
      obtain ⟨y283, hy283⟩ : ∃ y_ : List Int, y_ = (y280 ++ l0) := ⟨_, rfl⟩
      have Ny283 := Aside0.mk hy283
      have hyy : y283 = l0 := by rw [hy283, hy280]; rfl
      clear hy280 hy283
      go_enter Try.func61, Try.ntmps61
      go_wp2_with (first | ((with_reducible refine gate_dst (N := 5) rfl ?_); refine Kd.R_lit (Kd.int .i64) _ 3 ?hg (N := 5) ?hd (xs := ([] : List Int)) (inner := []) (ok := fun _ => True) (okp := fun _ => True) ?hr ?hp (fun _ hk => hk) trivial (Below.refl _ _) (Nat.le_refl _) (by simp) ?_; (case hd => rfl); (case hg => rfl); (case hr => first | (go_simp; done) | (go_simp; rfl)); (case hp => exact (Reps.none _ _)); intro v281 w3 ho4 hb hg_ hnew_; clear hg_ hnew_; (first | rw [← Ny280.out] at ho4 | (simp only [Int.reduceToNat] at ho4; rw [← Ny280.out] at ho4)); have n0_ := Aside0.mk (Kd.R_lower ho4 (below_size (by repeat (first | (with_reducible first | exact HB.out | apply below_alloc | apply pw_below_drewN | apply below_drew1) | exact HB.out)))); have n1_ := Aside0.mk (below_step (by repeat (first | (with_reducible first | exact HB.out | apply below_alloc | apply pw_below_drewN | apply below_drew1) | exact HB.out)) hb); clear HB; have HO282 := n0_; have HB := n1_; clear n0_ n1_; clear hb ho4) | ((with_reducible refine gate_builtin (b := .append) (xs := #[.tmp 5, .tmp 6]) rfl ?_); at_builtin; refine Kd.R_append_rows (Kd.int .i64) (w0 := w) w.heap.size rfl (.tmp 5) (.tmp 6) 27 3 (.int .i64 0) 8 rfl Try.underlying27 info3 rfl (by decide) (by omega) v281 y280 l0 _ _ _ (fun _ => True) (fun _ => False) rfl rfl ?aO ?aR (fun _ _ h => h) (fun _ h => h.elim) ?aF ?aB ?aS ?aL ?_; (case aR => repeat (first | exact (Kd.C_below HR0.out HB.out) | (with_reducible refine Kd.C_alloc ?_ _) | (with_reducible refine Kd.C_drewN ?_ _) | (with_reducible refine Kd.C_drew ?_))); (case aB => exact (by repeat (first | (with_reducible first | exact HB.out | apply below_alloc | apply pw_below_drewN | apply below_drew1) | exact HB.out))); (case aF => exact (fun _ _ => trivial)); (case aO => exact (by (with_reducible repeat (first | apply Kd.R_alloc | apply Kd.R_drewN | apply Kd.R_drew)); exact HO282.out)); (case aS => exact (below_size (by repeat (first | (with_reducible first | exact HB.out | apply below_alloc | apply pw_below_drewN | apply below_drew1) | exact HB.out)))); (case aL => have := LM.out; omega); intro v284 w5 ho hb hg hat; rw [← Ny283.out] at ho; have n0_ := Aside0.mk (hb); have n1_ := Aside0.mk (ho); clear HB; clear HO282; have HB := n0_; have HO285 := n1_; clear n0_ n1_; clear ho hb hg hat))
      go_ret
      have HZ := HO285.out
      rw [hyy] at HZ
      exact ⟨_, rfl, HZ, HB.out⟩
  · rw [if_neg c2] at h
    cases h
end Go.Proofs.Ytfgbohochpjkfaa.G

namespace Go.Proofs.Ytfgbohochpjkfaa.G
open Go.RowKit Go.Proofs.YtfgbohochpjkfaaW.PrintWords Go.Proofs.YtfgbohochpjkfaaW.PrintLast
set_option linter.unusedVariables false
set_option linter.unusedSimpArgs false
/-! Plain laws on printed functions: what holds from some number of rounds on, case by case and loop by loop. -/
theorem Ev.ite {α : Type} {c : Prop} [Decidable c] {A B : Nat → Option α} {r : α} (h1 : c → Ev A r) (h2 : ¬ c → Ev B r) : Ev (fun k => if c then A k else B k) r := by
  by_cases h : c
  · simpa only [if_pos h] using h1 h
  · simpa only [if_neg h] using h2 h
theorem Ev.val {α : Type} {v r : α} (h : v = r) : Ev (fun _ => some v) r := by rw [h]; exact Ev.now r
theorem Ev.eq {α : Type} {g : Nat → Option α} {r r' : α} (h : Ev g r) (e : r = r') : Ev g r' := e ▸ h
theorem Ev.same {α : Type} {g : Nat → Option α} {r r' : α} (h : Ev g r) (h' : Ev g r') : r = r' := by
  obtain ⟨K, h⟩ := h
  obtain ⟨K', h'⟩ := h'
  have h1 := h (max K K') (by omega)
  rw [h' (max K K') (by omega)] at h1
  exact (Option.some.inj h1).symm
theorem wrap64_id {x : Int} (h1 : -9223372036854775808 ≤ x) (h2 : x ≤ 9223372036854775807) : wrap64 x = x := IntWalk.wrap64_in x ⟨h1, h2⟩
theorem wf_iff {x : Int} : (Lit.int .i64 x).wf = true ↔ -9223372036854775808 ≤ x ∧ x ≤ 9223372036854775807 := by
  have e : (Lit.int .i64 x).wf = (decide (-9223372036854775808 ≤ x) && decide (x ≤ 9223372036854775807)) := rfl
  rw [e]
  simp
/-- What holds of all indices from i up to, and without, n. -/
def All (P : Int → Prop) (i n : Int) : Prop := ∀ j, i ≤ j → j < n → P j
theorem All.end_ (P : Int → Prop) (n : Int) : All P n n := fun j h1 h2 => by omega
theorem All.step {P : Int → Prop} {i n : Int} (h : i < n) : All P i n ↔ P i ∧ All P (i + 1) n := by
  constructor
  · intro a
    exact ⟨a i (Int.le_refl _) h, fun j h1 h2 => a j (by omega) h2⟩
  · rintro ⟨p, a⟩ j h1 h2
    by_cases e : j = i
    · rw [e]; exact p
    · exact a j (by omega) h2
/-- One of two values, by a statement. -/
noncomputable def chk {β : Type} (p : Prop) (a b : β) : β := @ite β p (Classical.propDecidable p) a b
theorem chk_pos {β : Type} {p : Prop} (h : p) (a b : β) : chk p a b = a := by unfold chk; exact if_pos h
theorem chk_neg {β : Type} {p : Prop} (h : ¬ p) (a b : β) : chk p a b = b := by unfold chk; exact if_neg h
theorem chk_congr {β : Type} {p q : Prop} (h : p ↔ q) (a b : β) : chk p a b = chk q a b := by rw [propext h]
theorem chk_true {p : Prop} : chk p true false = true ↔ p := by
  by_cases h : p
  · rw [chk_pos h]; exact ⟨fun _ => h, fun _ => rfl⟩
  · rw [chk_neg h]; exact ⟨(fun e => by cases e), (fun e => absurd e h)⟩
theorem chk_and {β : Type} {p q : Prop} (a b : β) : chk p (chk q a b) b = chk (p ∧ q) a b := by
  by_cases h : p
  · rw [chk_pos h]
    exact chk_congr ⟨fun x => ⟨h, x⟩, fun x => x.2⟩ _ _
  · rw [chk_neg h, chk_neg (fun x => h x.1)]
/-- A loop that goes up, any state. -/
theorem Ev.up {σ β : Type} (g : Nat → σ → Int → Option β) (R : σ → Int → β) (I : σ → Int → Prop) (n : Int)
    (hend : ∀ s, I s n → Ev (fun k => g k s n) (R s n))
    (hstep : ∀ s i, I s i → i < n → (∀ s', I s' (i + 1) → Ev (fun k => g k s' (i + 1)) (R s' (i + 1))) → Ev (fun k => g k s i) (R s i)) :
    ∀ s i, I s i → i ≤ n → Ev (fun k => g k s i) (R s i) := by
  have main : ∀ (d : Nat) s i, I s i → i + d = n → Ev (fun k => g k s i) (R s i) := by
    intro d
    induction d with
    | zero =>
      intro s i hI hd
      obtain rfl : i = n := by omega
      exact hend s hI
    | succ d ih => intro s i hI hd; exact hstep s i hI (by omega) (fun s' hI' => ih s' (i + 1) hI' (by omega))
  intro s i hI hi
  exact main (n - i).toNat s i hI (by omega)
/-- A loop that tests each index. -/
theorem Ev.check {β : Type} (g : Nat → Int → Option β) (n : Int) (P : Int → Prop) (r0 r1 : β) (i0 : Int)
    (hend : Ev (fun k => g k n) r0)
    (hstep : ∀ i, i0 ≤ i → i < n → ∀ r, Ev (fun k => g k (i + 1)) r → Ev (fun k => g k i) (chk (P i) r r1)) :
    ∀ i, i0 ≤ i → i ≤ n → Ev (fun k => g k i) (chk (All P i n) r0 r1) := by
  intro i h0 hi
  refine Ev.up (fun k (_ : Unit) i => g k i) (fun _ i => chk (All P i n) r0 r1) (fun _ i => i0 ≤ i) n (fun _ _ => ?_) (fun _ i h0 hlt ih => ?_) () i h0 hi
  · rw [chk_pos (All.end_ P n)]; exact hend
  · have := hstep i h0 hlt _ (ih () (by omega))
    rw [chk_and, chk_congr (All.step hlt).symm] at this
    exact this
theorem Ev.upc {β : Type} (g : Nat → Int → Option β) (r : β) (n i0 : Int) (hend : Ev (fun k => g k n) r) (hstep : ∀ i, i0 ≤ i → i < n → Ev (fun k => g k (i + 1)) r → Ev (fun k => g k i) r) :
    ∀ i, i0 ≤ i → i ≤ n → Ev (fun k => g k i) r := by
  intro i h0 hi
  exact Ev.up (fun k (_ : Unit) i => g k i) (fun _ _ => r) (fun _ i => i0 ≤ i) n (fun _ _ => hend) (fun _ i h0 hlt ih => hstep i h0 hlt (ih () (by omega))) () i h0 hi
theorem getD_set {α : Type} (xs : List α) (i j : Nat) (v z : α) (hi : i < xs.length) : (xs.set i v).getD j z = if j = i then v else xs.getD j z := by
  rw [List.getD_eq_getElem?_getD, List.getD_eq_getElem?_getD]
  by_cases h : j = i
  · subst h; rw [List.getElem?_set_self hi, if_pos rfl]; rfl
  · rw [List.getElem?_set_ne (fun e => h e.symm), if_neg h]
theorem ext_getD {α : Type} (z : α) {xs ys : List α} (hl : xs.length = ys.length) (h : ∀ j : Nat, j < xs.length → xs.getD j z = ys.getD j z) : xs = ys := by
  apply List.ext_getElem hl
  intro i h1 h2
  have := h i h1
  rw [List.getD_eq_getElem?_getD, List.getD_eq_getElem?_getD, List.getElem?_eq_getElem h1, List.getElem?_eq_getElem h2] at this
  exact this
theorem getD_map {α β : Type} (f : α → β) (xs : List α) (j : Nat) (z : α) (z' : β) (h : j < xs.length) : (xs.map f).getD j z' = f (xs.getD j z) := by
  rw [List.getD_eq_getElem?_getD, List.getD_eq_getElem?_getD, List.getElem?_map, List.getElem?_eq_getElem h]; rfl
/-- out := make(n); out[i] = conv(xs[i]) for all i. -/
theorem Ev.fill {α β : Type} (g : Nat → List β → Int → Option (List β)) (xs : List α) (conv : α → β) (z : α) (z' : β)
    (hend : ∀ out, Ev (fun k => g k out (xs.length : Int)) out)
    (hstep : ∀ out i, out.length = xs.length → 0 ≤ i → i < (xs.length : Int) → ∀ r, Ev (fun k => g k (out.set i.toNat (conv (xs.getD i.toNat z))) (i + 1)) r → Ev (fun k => g k out i) r) :
    Ev (fun k => g k (List.replicate xs.length z') 0) (xs.map conv) := by
  refine Ev.up g (fun _ _ => xs.map conv) (fun out i => 0 ≤ i ∧ out.length = xs.length ∧ ∀ j : Nat, (j : Int) < i → out.getD j z' = conv (xs.getD j z)) (xs.length : Int) ?_ ?_ _ 0 ⟨by omega, by simp, fun j h => by omega⟩ (by omega)
  · rintro out ⟨_, hl, h⟩
    refine Ev.eq (hend out) (ext_getD z' (by simpa using hl) fun j hj => ?_)
    rw [h j (by omega), getD_map conv xs j z z' (by omega)]
  · rintro out i ⟨h0, hl, h⟩ hlt ih
    refine hstep out i hl h0 hlt _ (ih _ ⟨by omega, by simpa using hl, fun j hj => ?_⟩)
    rw [getD_set _ _ _ _ _ (by omega)]
    by_cases e : j = i.toNat
    · rw [if_pos e, e]
    · rw [if_neg e]; exact h j (by omega)
/-- A list that is marked with numbers, m an element. -/
theorem Ev.mark {α : Type} (g : Nat → List α → Int → Int → Option (Int × List α)) (n m : Int) (mk : Int → α) (z : α)
    (hend : ∀ xs c, (xs.length : Int) = n → Ev (fun k => g k xs c n) (c, xs))
    (hstep : ∀ xs c i, (xs.length : Int) = n → 0 ≤ i → i < n → c = 1 + m * i → ∀ r, Ev (fun k => g k (xs.set i.toNat (mk i)) (c + m) (i + 1)) r → Ev (fun k => g k xs c i) r)
    (xs : List α) (hl : (xs.length : Int) = n) : ∃ ys : List α, Ev (fun k => g k xs 1 0) (1 + m * n, ys) ∧ (ys.length : Int) = n ∧ ∀ j, 0 ≤ j → j < n → ys.getD j.toNat z = mk j := by
  have main : ∀ (d : Nat) (xs : List α) (i : Int), (xs.length : Int) = n → 0 ≤ i → i + d = n → (∀ j, 0 ≤ j → j < i → xs.getD j.toNat z = mk j) → ∃ ys : List α, Ev (fun k => g k xs (1 + m * i) i) (1 + m * n, ys) ∧ (ys.length : Int) = n ∧ ∀ j, 0 ≤ j → j < n → ys.getD j.toNat z = mk j := by
    intro d
    induction d with
    | zero =>
      intro xs i hl h0 hd h
      obtain rfl : i = n := by omega
      exact ⟨xs, hend xs _ hl, hl, h⟩
    | succ d ih =>
      intro xs i hl h0 hd h
      obtain ⟨ys, h1, h2, h3⟩ := ih (xs.set i.toNat (mk i)) (i + 1) (by simpa using hl) (by omega) (by omega) (fun j hj0 hj => by
        rw [getD_set _ _ _ _ _ (by omega)]
        by_cases e : j = i
        · rw [if_pos (by rw [e]), e]
        · rw [if_neg (by omega)]; exact h j hj0 (by omega))
      refine ⟨ys, hstep xs _ i hl h0 (by omega) rfl _ ?_, h2, h3⟩
      rw [show 1 + m * i + m = 1 + m * (i + 1) from by rw [Int.mul_add]; omega]
      exact h1
  obtain ⟨ys, h1, h2⟩ := main n.toNat xs 0 hl (by omega) (by omega) (fun j _ _ => by omega)
  exact ⟨ys, by simpa using h1, h2⟩
/-- The same from any number on. -/
theorem Ev.markFrom {α : Type} (g : Nat → List α → Int → Int → Option (Int × List α)) (n m s : Int) (mk : Int → α) (z : α)
    (hend : ∀ xs c, (xs.length : Int) = n → Ev (fun k => g k xs c n) (c, xs))
    (hstep : ∀ xs c i, (xs.length : Int) = n → 0 ≤ i → i < n → c = s + m * i → ∀ r, Ev (fun k => g k (xs.set i.toNat (mk i)) (c + m) (i + 1)) r → Ev (fun k => g k xs c i) r)
    (xs : List α) (hl : (xs.length : Int) = n) : ∃ ys : List α, Ev (fun k => g k xs s 0) (s + m * n, ys) ∧ (ys.length : Int) = n ∧ ∀ j, 0 ≤ j → j < n → ys.getD j.toNat z = mk j := by
  have main : ∀ (d : Nat) (xs : List α) (i : Int), (xs.length : Int) = n → 0 ≤ i → i + d = n → (∀ j, 0 ≤ j → j < i → xs.getD j.toNat z = mk j) → ∃ ys : List α, Ev (fun k => g k xs (s + m * i) i) (s + m * n, ys) ∧ (ys.length : Int) = n ∧ ∀ j, 0 ≤ j → j < n → ys.getD j.toNat z = mk j := by
    intro d
    induction d with
    | zero =>
      intro xs i hl h0 hd h
      obtain rfl : i = n := by omega
      exact ⟨xs, hend xs _ hl, hl, h⟩
    | succ d ih =>
      intro xs i hl h0 hd h
      obtain ⟨ys, h1, h2, h3⟩ := ih (xs.set i.toNat (mk i)) (i + 1) (by simpa using hl) (by omega) (by omega) (fun j hj0 hj => by
        rw [getD_set _ _ _ _ _ (by omega)]
        by_cases e : j = i
        · rw [if_pos (by rw [e]), e]
        · rw [if_neg (by omega)]; exact h j hj0 (by omega))
      refine ⟨ys, hstep xs _ i hl h0 (by omega) rfl _ ?_, h2, h3⟩
      rw [show s + m * i + m = s + m * (i + 1) from by rw [Int.mul_add]; omega]
      exact h1
  obtain ⟨ys, h1, h2⟩ := main n.toNat xs 0 hl (by omega) (by omega) (fun j _ _ => by omega)
  exact ⟨ys, by simpa using h1, h2⟩
/-- out grows by one element a round. -/
theorem Ev.build {α β γ : Type} (g : Nat → List β → Int → Option γ) (xs : List α) (f : α → β) (z : α) (r : γ) (hend : Ev (fun k => g k (xs.map f) (xs.length : Int)) r)
    (hstep : ∀ out i, 0 ≤ i → i < (xs.length : Int) → (out.length : Int) = i → ∀ r, Ev (fun k => g k (out ++ [f (xs.getD i.toNat z)]) (i + 1)) r → Ev (fun k => g k out i) r) : Ev (fun k => g k [] 0) r := by
  refine Ev.up g (fun _ _ => r) (fun out i => 0 ≤ i ∧ i ≤ (xs.length : Int) ∧ out = (xs.take i.toNat).map f) (xs.length : Int) ?_ ?_ [] 0 ⟨by omega, by omega, by simp⟩ (by omega)
  · rintro out ⟨_, _, rfl⟩
    have e : xs.take (xs.length : Int).toNat = xs := by simp
    rw [e]; exact hend
  · rintro out i ⟨h0, h1, rfl⟩ hlt ih
    refine hstep _ i h0 hlt (by simp; omega) _ (ih _ ⟨by omega, by omega, ?_⟩)
    have e : (i + 1).toNat = i.toNat + 1 := by omega
    rw [e, List.take_succ_eq_append_getElem (show i.toNat < xs.length by omega), List.map_append, List.getD_eq_getElem?_getD, List.getElem?_eq_getElem (show i.toNat < xs.length by omega)]
    rfl
/-- Two loops that go up together. -/
theorem Ev.both {σ β : Type} (g1 g2 : Nat → σ → Int → Option β) (I : σ → Int → Prop) (Q : β → Prop) (n : Int) (hend : ∀ s, I s n → ∃ r, Q r ∧ Ev (fun k => g1 k s n) r ∧ Ev (fun k => g2 k s n) r)
    (hstep : ∀ s i, I s i → i < n → (∃ r, Q r ∧ Ev (fun k => g1 k s i) r ∧ Ev (fun k => g2 k s i) r) ∨ ∃ s', I s' (i + 1) ∧ (∀ r, Ev (fun k => g1 k s' (i + 1)) r → Ev (fun k => g1 k s i) r) ∧ (∀ r, Ev (fun k => g2 k s' (i + 1)) r → Ev (fun k => g2 k s i) r)) :
    ∀ s i, I s i → i ≤ n → ∃ r, Q r ∧ Ev (fun k => g1 k s i) r ∧ Ev (fun k => g2 k s i) r := by
  have main : ∀ (d : Nat) s i, I s i → i + d = n → ∃ r, Q r ∧ Ev (fun k => g1 k s i) r ∧ Ev (fun k => g2 k s i) r := by
    intro d
    induction d with
    | zero =>
      intro s i hI hd
      obtain rfl : i = n := by omega
      exact hend s hI
    | succ d ih =>
      intro s i hI hd
      rcases hstep s i hI (by omega) with h | ⟨s', hI', h1, h2⟩
      · exact h
      · obtain ⟨r, hq, e1, e2⟩ := ih s' (i + 1) hI' (by omega)
        exact ⟨r, hq, h1 r e1, h2 r e2⟩
  intro s i hI hi
  exact main (n - i).toNat s i hI (by omega)
theorem mul_bd {x y A B : Int} (hA : 0 ≤ A) (hB : 0 ≤ B) (h1 : -A ≤ x) (h2 : x ≤ A) (h3 : -B ≤ y) (h4 : y ≤ B) : -(A * B) ≤ x * y ∧ x * y ≤ A * B := by
  have hx : x.natAbs ≤ A.natAbs := by omega
  have hy : y.natAbs ≤ B.natAbs := by omega
  have h := Nat.mul_le_mul hx hy
  rw [← Int.natAbs_mul, ← Int.natAbs_mul] at h
  have hAB : 0 ≤ A * B := Int.mul_nonneg hA hB
  omega

end Go.Proofs.Ytfgbohochpjkfaa.G

namespace Go.Proofs.Ytfgbohochpjkfaa.G
open Go.RowKit Go.Proofs.YtfgbohochpjkfaaW.PrintWords Go.Proofs.YtfgbohochpjkfaaW.PrintLast
set_option linter.unusedVariables false
set_option linter.unusedSimpArgs false
/-- x stands in the list. -/
def Has (l : List Int) (x : Int) : Prop := ¬ All (fun j => ¬ rd l j = x) 0 (l.length : Int)
theorem impl_has (l : List Int) (x : Int) (hl : (l.length : Int) ≤ 1099511627776) : Ev (fun k => slices_Contains_int_int.f k l x) (chk (Has l x) true false) := by
  unfold slices_Contains_int_int.f slices_Index_int_int.f
  have main : ∀ (d : Nat) (i : Int), 0 ≤ i → i + d = (l.length : Int) → ∃ v, Ev (fun k => slices_Index_int_int.l0 k l x (l.length : Int) i) v ∧ (v ≥ 0 ↔ ¬ All (fun j => ¬ rd l j = x) i (l.length : Int)) := by
    intro d
    induction d with
    | zero =>
      intro i h0 hd
      refine ⟨-1, ?_, ?_⟩
      · refine Ev.step (fun k => by rw [slices_Index_int_int.l0]) ?_
        simp (disch := omega) only [if_neg]
        exact Ev.now _
      · constructor
        · intro h; omega
        · intro h; exact absurd (fun j h1 h2 => by omega) h
    | succ d ih =>
      intro i h0 hd
      by_cases e : x = rd l i
      · refine ⟨i, ?_, ?_⟩
        · refine Ev.step (fun k => by rw [slices_Index_int_int.l0]) ?_
          simp (disch := omega) only [if_pos]
          exact Ev.now _
        · exact ⟨fun _ a => a i (by omega) (by omega) e.symm, fun _ => h0⟩
      · obtain ⟨v, hv, hi⟩ := ih (i + 1) (by omega) (by omega)
        refine ⟨v, ?_, ?_⟩
        · refine Ev.step (fun k => by rw [slices_Index_int_int.l0]) ?_
          simp (disch := omega) only [if_pos, wrap64_id]
          simp only [if_neg e]
          exact hv
        · rw [hi, All.step (show i < (l.length : Int) by omega)]
          exact ⟨fun h a => h a.2, fun h a => h ⟨fun e2 => e e2.symm, a⟩⟩
  obtain ⟨v, hv, hi⟩ := main l.length 0 (by omega) (by omega)
  refine Ev.bind hv ?_
  refine Ev.val ?_
  by_cases hh : Has l x
  · rw [chk_pos hh]; exact decide_eq_true (hi.2 hh)
  · rw [chk_neg hh]; exact decide_eq_false (fun h => hh (hi.1 h))
end Go.Proofs.Ytfgbohochpjkfaa.G

/- The contract of assignments: what is called back turns its state at each assignment, in lexicographic order. -/
namespace Go.Proofs.Ytfgbohochpjkfaa.G
open Go.RowKit Go.Proofs.YtfgbohochpjkfaaW.PrintWords Go.Proofs.YtfgbohochpjkfaaW.PrintLast
set_option linter.unusedVariables false
set_option linter.unusedSimpArgs false
/-- Outside the blocks of S the world w' is as w was. -/
structure Keeps (S : Nat → Prop) (w w' : World) : Prop where
  os : w'.os = w.os
  tape : w'.tape = w.tape
  output : w'.output = w.output
  size : w.heap.size ≤ w'.heap.size
  block : ∀ k, k < w.heap.size → ¬ S k → w'.heap[k]? = w.heap[k]?
theorem Keeps.refl (S : Nat → Prop) (w : World) : Keeps S w w := ⟨rfl, rfl, rfl, Nat.le_refl _, fun _ _ _ => rfl⟩
theorem Keeps.trans {S : Nat → Prop} {a b c : World} (h : Keeps S a b) (k : Keeps S b c) : Keeps S a c :=
  ⟨k.os.trans h.os, k.tape.trans h.tape, k.output.trans h.output, Nat.le_trans h.size k.size, fun i hi hn => (k.block i (Nat.lt_of_lt_of_le hi h.size) hn).trans (h.block i hi hn)⟩
theorem Keeps.of_below {S : Nat → Prop} {w w' : World} (h : Below w.heap.size w w') : Keeps S w w' := ⟨h.os, h.tape, h.output, h.size, fun k hk _ => h.block k hk⟩
theorem Keeps.cell {S : Nat → Prop} {w w' : World} (h : Keeps S w w') {p : Addr} {v : Value} (hp : w.cell? p = some v) (hn : ¬ S p.block) : w'.cell? p = some v :=
  (World.cell?_of_block (w := w) (h.block p.block (World.block_lt_of_cell? w p hp) hn)).trans hp
/-- What is called back (function F over captured values): it turns the state by step at each list, and nothing outside S. -/
structure Back {σ : Type} (F : FuncId) (caps : Array Value) (S : Nat → Prop) (B0 : Nat) (I : World → σ → Prop) (P : List Int → Prop) (step : σ → List Int → σ) : Prop where
  enters : ∀ (args : Array Value) (w : World), (callFunc F args).run Try.prog w = .ok (.enter F args) w
  call : ∀ (w : World) (s : σ) (v : Value) (l : List Int), I w s → P l → Kd.R (Kd.int .i64) 3 w B0 (fun k => ¬ S k) v l → Calls Try.prog F (#[v] ++ caps) w fun e w' => e = .returned (.tuple #[]) ∧ I w' (step s l) ∧ Keeps S w w'
  stay : ∀ (w w' : World) (s : σ), I w s → Below w.heap.size w w' → I w' s
  low : ∀ (w : World) (s : σ), I w s → ∀ k, S k → k < w.heap.size
/-- The boxes that assignments$1 has captured; what was there at wc stays. -/
structure Boxes (F : FuncId) (caps : Array Value) (S : Nat → Prop) (wc : World) (At : Option Addr) (ct : Nat) (t : List (List Int)) (Bt Bc Be : Nat) (w : World) : Prop where
  old : Below wc.heap.size wc w
  ct_ : w.cell? ⟨Bt, 0, none⟩ = some (.slice At t.length ct)
  cc : w.cell? ⟨Bc, 0, none⟩ = some (.func (.func F) #[] caps)
  ce : w.cell? ⟨Be, 0, none⟩ = some (.func (.func 80) #[] #[.pointer (some ⟨Bt, 0, none⟩), .pointer (some ⟨Bc, 0, none⟩), .pointer (some ⟨Be, 0, none⟩)])
  so : ∀ k, S k → wc.heap.size ≤ k
  st : ¬ S Bt
  sc : ¬ S Bc
  se : ¬ S Be
theorem Boxes.keeps {F : FuncId} {caps : Array Value} {S : Nat → Prop} {wc : World} {At : Option Addr} {ct : Nat} {t : List (List Int)} {Bt Bc Be : Nat} {w w' : World} (h : Boxes F caps S wc At ct t Bt Bc Be w) (k : Keeps S w w') : Boxes F caps S wc At ct t Bt Bc Be w' :=
  ⟨⟨k.os.trans h.old.os, k.tape.trans h.old.tape, k.output.trans h.old.output, Nat.le_trans h.old.size k.size, fun i hi => (k.block i (Nat.lt_of_lt_of_le hi h.old.size) (fun hs => by have := h.so i hs; omega)).trans (h.old.block i hi)⟩, k.cell h.ct_ h.st, k.cell h.cc h.sc, k.cell h.ce h.se, h.so, h.st, h.sc, h.se⟩
/-- All assignments that begin with some jobs, d more to come. -/
noncomputable def asgIn (f : List Int → List (List Int)) (row jobs : List Int) : Nat → Int → List (List Int)
  | 0, _ => []
  | r + 1, i => chk (0 ≤ rd row i ∧ ¬ Has jobs i) (f (jobs ++ [i])) [] ++ asgIn f row jobs r (i + 1)
noncomputable def asgs (t : List (List Int)) : Nat → List Int → List (List Int)
  | 0, jobs => [jobs]
  | d + 1, jobs => asgIn (asgs t d) (rd_L1 t (jobs.length : Int)) jobs (rd_L1 t (jobs.length : Int)).length 0
set_option maxHeartbeats 8000000 in
set_option maxRecDepth 100000 in
theorem extend_any {σ : Type} {F : FuncId} {caps : Array Value} {S : Nat → Prop}  {I : World → σ → Prop} {P : List Int → Prop} {step : σ → List Int → σ} {wc : World} (hb : Back F caps S wc.heap.size I P step) {At : Option Addr} {ct : Nat} {t : List (List Int)} (hCt : Kd.C (Kd.slice 3 (Kd.int .i64)) wc At t.length t) (hct : t.length ≤ ct) (Bt Bc Be : Nat) (hn : t.length ≤ 1000) (hm : ∀ i : Int, 0 ≤ i → (rd_L1 t i).length ≤ 1000) :
    ∀ (d : Nat) (jobs : List Int) (w : World) (s : σ) (A : Option Addr) (c : Nat), jobs.length + d = t.length → (∀ l ∈ asgs t d jobs, P l) → Boxes F caps S wc At ct t Bt Bc Be w → I w s → Kd.R (Kd.int .i64) 3 w wc.heap.size (fun k => ¬ S k) (.slice A jobs.length c) jobs →
    Calls Try.prog 80 #[.slice A jobs.length c, .pointer (some ⟨Bt, 0, none⟩), .pointer (some ⟨Bc, 0, none⟩), .pointer (some ⟨Be, 0, none⟩)] w fun e w' => e = .returned (.tuple #[]) ∧ I w' ((asgs t d jobs).foldl step s) ∧ Keeps S w w' := by
  intro d
  induction d with
  | zero =>
    intro jobs w s A c hd hP hX hI hC
    have hT := hX.ct_
    have hCB := hX.cc
    have hc : jobs.length ≤ c := (Kd.R_reads' hC).2.1
    have HR := Aside0.mk hC
    have HC := Aside0.mk (Kd.R_reads' hC).2.2
    have HX := Aside0.mk hX
    have HI := Aside0.mk hI
    have HP := Aside0.mk (hP jobs (by simp [asgs]))
    have HN : Aside0 (jobs.length = t.length) := Aside0.mk (by omega)
    have c1 : ((jobs.length : Int) == (t.length : Int)) = true := beq_iff_eq.2 (by omega)
    clear hC hX hI hP hd
    go_enter Try.func80, Try.ntmps80
    go_wp2
    refine start_ (n := 4) (S := fun w' => w'.cell? ⟨Bc, 0, none⟩ = some (.func (.func F) #[] caps)) (ds := [3]) #[false, false, false, false] (by kernel_rfl) rfl rfl hCB (fun hHeld => ?_)
    have HCd : Aside0 ((Kd.int .i64).C w.drew A jobs.length jobs) := Aside0.mk (Kd.C_drew HC.out)
    have HXd : Aside0 (Boxes F caps S wc At ct t Bt Bc Be w.drew) := Aside0.mk (HX.out.keeps (Keeps.of_below (below_drew1 (Below.refl _ _))))
    have HId : Aside0 (I w.drew s) := Aside0.mk (hb.stay _ _ _ HI.out (below_drew1 (Below.refl _ _)))
    have HKd : Aside0 (Keeps S w w.drew) := Aside0.mk (Keeps.of_below (below_drew1 (Below.refl _ _)))
    generalize w.drew = w0 at HCd HXd HId HKd hHeld ⊢
    refine take_ (i := 0) (N := some 12) (v := ?_) (a' := ?_) #[true, false, false, false] rfl rfl (by kernel_rfl) (fun _ _ _ h => h) (Or.inl ⟨by rfl, ?_⟩) hHeld ?_ ?_
    rotate_left
    · intro w' s0
      go_simp
      with_reducible rfl
    rotate_left
    · simp only [Act.put, List.setIfInBounds_toArray, List.set_cons_zero, List.set_cons_succ, i64_w, i32_w]
      rfl
    refine pure_ (i := 1) (N := some 13) (v := ?_) (a' := ?_) #[true, true, false, false] rfl rfl (by kernel_rfl) (fun _ _ _ h => h) (Or.inl ⟨by rfl, ?_⟩) ?_ ?_
    rotate_left
    · intro w'
      go_simp
      with_reducible rfl
    rotate_left
    · simp only [Act.put, List.setIfInBounds_toArray, List.set_cons_zero, List.set_cons_succ, i64_w, i32_w]
      rfl
    refine one_ (i := 2) (N := some 14) #[true, true, true, false] rfl rfl (by kernel_rfl) (by decide) (fun K hK => ?_)
    refine goes_ Try.func61 (by kernel_rfl) rfl #[.slice A jobs.length c] (by rfl) rfl rfl (by (try simp only [List.map_toArray, List.map_cons, List.map_nil]); first | done | rfl) ?_
    refine (slices_Clone_int_int.calls A c jobs jobs w0 HCd.out hc (by unfold slices_Clone_int_int.f; exact if_pos (by have := HN.out; simp only [List.length_nil]; omega))).mono ?_
    rintro e w1 ⟨v, rfl, hR, hB⟩
    refine ⟨v, rfl, ?_⟩
    refine hK.out _ _ ((Keeps.of_below (S := S) hB).cell hHeld HXd.out.sc) (fun hHeld => ?_)
    clear hK K
    refine norm_ (a' := ?_) ?_ ?_
    rotate_left
    · show Act.put _ (some 14) _ = _
      simp only [Act.put, List.setIfInBounds_toArray, List.set_cons_zero, List.set_cons_succ, i64_w, i32_w]
      rfl
    refine last_ (i := 3) (N := some 15) #[true, true, true, true] rfl rfl (by kernel_rfl) (by decide) (fun K hK => ?_)
    have hR2 : Kd.R (Kd.int .i64) 3 w1 wc.heap.size (fun k => ¬ S k) v jobs := Kd.R_lower (Kd.R_mono (Kd.R_bound hR) (fun k hk hs => by have := hb.low _ _ HId.out k hs; have := hk.2.1; omega)) HXd.out.old.size
    refine call_ F (#[v] ++ caps) (by rfl) rfl ?hrun ?_
    case hrun =>
      unfold execOp
      simp [resolve, Deferred.ofValue, invoke, Act.eval, hb.enters]
    refine (hb.call w1 s v jobs (hb.stay _ _ _ HId.out hB) HP.out hR2).mono ?_
    rintro e w2 ⟨rfl, hI2, hK2⟩
    refine ⟨_, rfl, ?_⟩
    refine hK.out _ _ ?_
    clear hK K
    refine norm_ (a' := ?_) ?_ ?_
    rotate_left
    · show Act.put _ (some 15) _ = _
      simp only [Act.put, List.setIfInBounds_toArray, List.set_cons_zero, List.set_cons_succ, i64_w, i32_w]
      rfl
    refine done_ (by kernel_rfl) ?_
    go_wp2
    refine bodyPost_ret (results_none rfl _ _ _) rfl ?_
    exact ⟨rfl, hI2, HKd.out.trans ((Keeps.of_below hB).trans hK2)⟩
  | succ d ih =>
    intro jobs w s A c hd hP hX hI hC
    have hT := hX.ct_
    have hc : jobs.length ≤ c := (Kd.R_reads' hC).2.1
    have HR := Aside0.mk hC
    have HX := Aside0.mk hX
    have HI := Aside0.mk hI
    have hJ : ((jobs.length : Int)) < (t.length : Int) := by omega
    have hJ0 : 0 ≤ (jobs.length : Int) := by omega
    obtain ⟨ad, A0, c0, rfl, hx0, hc0, hC0⟩ := at_L1 hCt (jobs.length : Int) hJ0 hJ
    have hxw : w.cell? (ad.add (jobs.length : Int).toNat) = some (.slice A0 (rd_L1 t (jobs.length : Int)).length c0) := (hX.old.cell (World.block_lt_of_cell? wc _ hx0)).trans hx0
    rw [Int.toNat_natCast] at hxw
    have hrl := hm (jobs.length : Int) hJ0
    have HRow : Aside0 (rd_L1 t (jobs.length : Int) = rd_L1 t (jobs.length : Int)) := Aside0.mk rfl
    have hPr : ∀ l ∈ asgIn (asgs t d) (rd_L1 t (jobs.length : Int)) jobs (rd_L1 t (jobs.length : Int)).length 0, P l := hP
    have hFr : (asgs t (d + 1) jobs).foldl step s = (asgIn (asgs t d) (rd_L1 t (jobs.length : Int)) jobs (rd_L1 t (jobs.length : Int)).length 0).foldl step s := rfl
    generalize rd_L1 t (jobs.length : Int) = row at hxw hc0 hC0 hrl hPr hFr
    clear HRow hx0
    have HC0 := Aside0.mk hC0
    clear hC0
    have HP : Aside0 (∀ l ∈ asgIn (asgs t d) row jobs (row.length - 0) ((0 : Nat) : Int), P l) := Aside0.mk hPr
    have HF : Aside0 ((asgs t (d + 1) jobs).foldl step s = (asgIn (asgs t d) row jobs (row.length - 0) ((0 : Nat) : Int)).foldl step s) := Aside0.mk hFr
    have HN : Aside0 (jobs.length + (d + 1) = t.length) := Aside0.mk hd
    have c1 : ((jobs.length : Int) == (t.length : Int)) = false := beq_eq_false_iff_ne.2 (by omega)
    clear hC hX hI hP hd hPr hFr hm
    go_enter Try.func80, Try.ntmps80
    go_wp2
    go_loopw [22] (fun i w' => ∃ (k : Nat) (s' : σ), k ≤ row.length ∧ i = .int .i64 k ∧ Aside0 ((asgs t (d + 1) jobs).foldl step s = (asgIn (asgs t d) row jobs (row.length - k) k).foldl step s') ∧ Aside0 (∀ l ∈ asgIn (asgs t d) row jobs (row.length - k) k, P l) ∧ Aside0 (I w' s') ∧ Aside0 (Keeps S w w')) (fun i _ => row.length - (intOf i).toNat)
    case atStart => exact ⟨0, s, Nat.zero_le _, rfl, HF, HP, HI, Aside0.mk (Keeps.refl _ _)⟩
    case round =>
      clear HF HP
      obtain ⟨k, s', hk, rfl, hf, hp, hi, hkp⟩ := hrel
      by_cases hlt : k < row.length
      · have HRr : Aside0 ((Kd.int .i64).R 3 wr wc.heap.size (fun k => ¬ S k) (.slice A jobs.length c) jobs) := Aside0.mk (Kd.R_step HR.out (fun b hb2 hl => hkp.out.block b hl hb2))
        have HXr : Aside0 (Boxes F caps S wc (some ad) ct t Bt Bc Be wr) := Aside0.mk (HX.out.keeps hkp.out)
        have hEr := HXr.out.ce
        obtain ⟨kk, hkk⟩ : ∃ kk, slices_Contains_int_int.f kk jobs (k : Int) = some (chk (Has jobs (k : Int)) true false) := Ev.rounds (impl_has jobs (k : Int) (by have := HN.out; omega))
        obtain ⟨adr, rfl, hxr⟩ := Kd.at_int (Kd.C_below HC0.out HXr.out.old) (k : Int) (by omega) (by omega)
        rw [Int.toNat_natCast] at hxr
        have hunf : asgIn (asgs t d) row jobs (row.length - k) (k : Int) = chk (0 ≤ rd row (k : Int) ∧ ¬ Has jobs (k : Int)) (asgs t d (jobs ++ [(k : Int)])) [] ++ asgIn (asgs t d) row jobs (row.length - (k + 1)) ((k + 1 : Nat) : Int) := by
          rw [show row.length - k = (row.length - (k + 1)) + 1 from by omega, asgIn]
          rfl
        have HU := Aside0.mk hunf
        clear hunf
        by_cases hge : 0 ≤ rd row (k : Int)
        · by_cases hh : Has jobs (k : Int)
          · rw [chk_pos hh] at hkk
            have HK := Aside0.mk hkk
            have hs2 : Aside0 ((asgs t (d + 1) jobs).foldl step s = (asgIn (asgs t d) row jobs (row.length - (k + 1)) ((k + 1 : Nat) : Int)).foldl step s') := Aside0.mk (by rw [hf.out, HU.out, chk_neg (fun m => m.2 hh)]; rfl)
            have hp2 : Aside0 (∀ l ∈ asgIn (asgs t d) row jobs (row.length - (k + 1)) ((k + 1 : Nat) : Int), P l) := Aside0.mk (fun l hl => hp.out l (by rw [HU.out]; exact List.mem_append_right _ hl))
            clear hkk hh hf hp
            go_wp2_with (go_at_call 54; refine (slices_Contains_int_int.calls kk A c jobs (k : Int) true _ (Kd.R_reads' HRr.out).2.2 hc HK.out).mono ?_; rintro e w2 ⟨rfl, hd2⟩)
            go_roundw
            case rel => exact ⟨k + 1, s', by omega, by go_num, hs2, hp2, Aside0.mk (hb.stay _ _ _ hi.out hd2.below), Aside0.mk (hkp.out.trans (Keeps.of_below hd2.below))⟩
            case measure => simp [intOf]; omega
          · rw [chk_neg hh] at hkk
            have HK := Aside0.mk hkk
            have hs2 : Aside0 ((asgs t (d + 1) jobs).foldl step s = (asgIn (asgs t d) row jobs (row.length - (k + 1)) ((k + 1 : Nat) : Int)).foldl step ((asgs t d (jobs ++ [(k : Int)])).foldl step s')) := Aside0.mk (by rw [hf.out, HU.out, chk_pos ⟨hge, hh⟩, List.foldl_append])
            have hp2 : Aside0 (∀ l ∈ asgIn (asgs t d) row jobs (row.length - (k + 1)) ((k + 1 : Nat) : Int), P l) := Aside0.mk (fun l hl => hp.out l (by rw [HU.out]; exact List.mem_append_right _ hl))
            have hp3 : Aside0 (∀ l ∈ asgs t d (jobs ++ [(k : Int)]), P l) := Aside0.mk (fun l hl => hp.out l (by rw [HU.out, chk_pos ⟨hge, hh⟩]; exact List.mem_append_left _ hl))
            clear hkk hh hf hp
            go_wp2_with (go_at_call 54; refine (slices_Contains_int_int.calls kk A c jobs (k : Int) false _ (Kd.R_reads' HRr.out).2.2 hc HK.out).mono ?_; rintro e w2 ⟨rfl, hd2⟩)
            have HEr := (Keeps.of_below (S := S) hd2.below).cell hEr HXr.out.se
            refine start_ (n := 7) (S := fun w' => w'.cell? ⟨Be, 0, none⟩ = some (.func (.func 80) #[] #[.pointer (some ⟨Bt, 0, none⟩), .pointer (some ⟨Bc, 0, none⟩), .pointer (some ⟨Be, 0, none⟩)])) (ds := [6]) #[false, false, false, false, false, false, false] (by kernel_rfl) rfl rfl HEr (fun hHeld => ?_)
            have HB2 : Aside0 (Below wr.heap.size wr w2.drew) := Aside0.mk (below_drew1 hd2.below)
            generalize w2.drew = w0 at HB2 hHeld ⊢
            refine take_ (i := 0) (N := some 35) (v := ?_) (a' := ?_) #[true, false, false, false, false, false, false] rfl rfl (by kernel_rfl) (fun _ _ _ h => h) (Or.inl ⟨by rfl, ?_⟩) hHeld ?_ ?_
            rotate_left
            · intro w' s0
              go_simp
              with_reducible rfl
            rotate_left
            · simp only [Act.put, List.setIfInBounds_toArray, List.set_cons_zero, List.set_cons_succ, i64_w, i32_w]
              rfl
            refine pure_ (i := 1) (N := some 36) (v := ?_) (a' := ?_) #[true, true, false, false, false, false, false] rfl rfl (by kernel_rfl) (fun _ _ _ h => h) (Or.inl ⟨by rfl, ?_⟩) ?_ ?_
            rotate_left
            · intro w'
              go_simp
              with_reducible rfl
            rotate_left
            · simp only [Act.put, List.setIfInBounds_toArray, List.set_cons_zero, List.set_cons_succ, i64_w, i32_w]
              rfl
            refine pure_ (i := 3) (N := some 38) (v := ?_) (a' := ?_) #[true, true, false, true, false, false, false] rfl rfl (by kernel_rfl) (fun _ _ _ h => h) (Or.inl ⟨by rfl, ?_⟩) ?_ ?_
            rotate_left
            · intro w'
              go_simp
              with_reducible rfl
            rotate_left
            · simp only [Act.put, List.setIfInBounds_toArray, List.set_cons_zero, List.set_cons_succ, i64_w, i32_w]
              rfl
            refine join_ (σ := Value × Value) 2 #[true, true, true, true, true, false, false] (fun s_ => [(37, s_.1), (39, s_.2)]) (fun s_ w' => Below w0.heap.size w0 w' ∧ Kd.R (Kd.int .i64) 3 w' w0.heap.size (fun k_ => some k_ ≠ s_.2.ownBlock) s_.1 jobs ∧ Kd.R (Kd.int .i64) 3 w' w0.heap.size (fun _ => True) s_.2 [(k : Int)]) ?_ ?_
            rotate_left
            · intro hCont
              refine two_ (i := 2) (j := 4) (Ni := some 37) (Nj := some 39) #[true, true, true, true, false, false, false] #[true, true, false, true, true, false, false] rfl rfl rfl rfl (by kernel_rfl) (by decide) (by decide) (fun K hK => ?_) (fun K hK => ?_)
              · refine goes_ Try.func61 (by kernel_rfl) rfl #[.slice A jobs.length c] (by rfl) rfl rfl (by (try simp only [List.map_toArray, List.map_cons, List.map_nil]); first | done | rfl) ?_
                have hR0 := Kd.R_below HRr.out HB2.out
                refine (slices_Clone_int_int.calls A c jobs jobs w0 (Kd.R_reads' hR0).2.2 hc (by unfold slices_Clone_int_int.f; exact if_pos (by have := HN.out; simp only [List.length_nil]; omega))).mono ?_
                rintro e w3 ⟨v, rfl, hR, hB⟩
                refine ⟨v, rfl, ?_⟩
                refine hK.out _ _ ((Keeps.of_below (S := S) hB).cell hHeld HXr.out.se) (fun hHeld => ?_)
                clear hK K
                refine norm_ (a' := ?_) ?_ ?_
                rotate_left
                · show Act.put _ (some 37) _ = _
                  simp only [Act.put, List.setIfInBounds_toArray, List.set_cons_zero, List.set_cons_succ, i64_w, i32_w]
                  rfl
                refine one_ (i := 4) (N := some 39) #[true, true, true, true, true, false, false] rfl rfl (by kernel_rfl) (by decide) (fun K hK => ?_)
                refine Kd.R_lit_step (Kd.int .i64) _ 3 ?hg1 (N := 39) ?hd1 (xs := [(k : Int)]) (inner := [.int .i64 k]) (ok := fun _ => True) (okp := fun _ => True) ?hr1 ?hp1 (fun _ hk => hk) trivial (Below.refl _ _) (Nat.le_refl _) (by simp) ?_
                case hd1 => rfl
                case hg1 => rfl
                case hr1 => first | (go_simp; done) | (go_simp; rfl)
                case hp1 => exact (Reps.one (show Kd.M (Kd.int .i64) _ _ _ (k : Int) [.int .i64 k] from rfl) (Reps.none _ _))
                intro v1 w4 ho hb4 hg_ hnew_
                refine hK.out _ _ ((Keeps.of_below (S := S) hb4).cell hHeld HXr.out.se) (fun hHeld => ?_)
                clear hK K
                refine norm_ (a' := ?_) ?_ ?_
                rotate_left
                · show Act.put _ (some 39) _ = _
                  simp only [Act.put, List.setIfInBounds_toArray, List.set_cons_zero, List.set_cons_succ, i64_w, i32_w]
                  rfl
                exact norm_ (by simp only [putAll, Act.put, List.setIfInBounds_toArray, List.set_cons_zero, List.set_cons_succ]) (hCont (v, v1) _ ⟨below_step hB hb4, Kd.R_mono (Kd.R_elder' hR (Kd.R_base ho) hb4) (fun _ hk => hk.2), Kd.R_lower ho hB.size⟩)
              · refine Kd.R_lit_step (Kd.int .i64) _ 3 ?hg2 (N := 39) ?hd2 (xs := [(k : Int)]) (inner := [.int .i64 k]) (ok := fun _ => True) (okp := fun _ => True) ?hr2 ?hp2 (fun _ hk => hk) trivial (Below.refl _ _) (Nat.le_refl _) (by simp) ?_
                case hd2 => rfl
                case hg2 => rfl
                case hr2 => first | (go_simp; done) | (go_simp; rfl)
                case hp2 => exact (Reps.one (show Kd.M (Kd.int .i64) _ _ _ (k : Int) [.int .i64 k] from rfl) (Reps.none _ _))
                intro v1 w3 ho hb3 hg_ hnew_
                refine hK.out _ _ ((Keeps.of_below (S := S) hb3).cell hHeld HXr.out.se) (fun hHeld => ?_)
                clear hK K
                refine norm_ (a' := ?_) ?_ ?_
                rotate_left
                · show Act.put _ (some 39) _ = _
                  simp only [Act.put, List.setIfInBounds_toArray, List.set_cons_zero, List.set_cons_succ, i64_w, i32_w]
                  rfl
                refine one_ (i := 2) (N := some 37) #[true, true, true, true, true, false, false] rfl rfl (by kernel_rfl) (by decide) (fun K hK => ?_)
                refine goes_ Try.func61 (by kernel_rfl) rfl #[.slice A jobs.length c] (by rfl) rfl rfl (by (try simp only [List.map_toArray, List.map_cons, List.map_nil]); first | done | rfl) ?_
                have hR0 := Kd.R_below (Kd.R_below HRr.out HB2.out) hb3
                refine (slices_Clone_int_int.calls A c jobs jobs w3 (Kd.R_reads' hR0).2.2 hc (by unfold slices_Clone_int_int.f; exact if_pos (by have := HN.out; simp only [List.length_nil]; omega))).mono ?_
                rintro e w4 ⟨v, rfl, hR, hB⟩
                refine ⟨v, rfl, ?_⟩
                refine hK.out _ _ ((Keeps.of_below (S := S) hB).cell hHeld HXr.out.se) (fun hHeld => ?_)
                clear hK K
                refine norm_ (a' := ?_) ?_ ?_
                rotate_left
                · show Act.put _ (some 37) _ = _
                  simp only [Act.put, List.setIfInBounds_toArray, List.set_cons_zero, List.set_cons_succ, i64_w, i32_w]
                  rfl
                exact norm_ (by simp only [putAll, Act.put, List.setIfInBounds_toArray, List.set_cons_zero, List.set_cons_succ]) (hCont (v, v1) _ ⟨below_step hb3 hB, Kd.R_lower (Kd.R_mono (Kd.R_new' hR (Kd.R_lt ho)) (fun _ hk => hk.2)) hb3.size, Kd.R_below ho hB⟩)
            · rintro ⟨v, v1⟩ w3 ⟨hB3, hRv, hR1⟩
              have hB3' := Aside0.mk hB3
              obtain ⟨A3, c3, e3⟩ := Kd.R_slice hRv
              subst e3
              obtain ⟨A1, c4, e4⟩ := Kd.R_slice hR1
              subst e4
              refine norm_ (a' := ?_) ?_ ?_
              rotate_left
              · simp only [putAll, Act.put, List.setIfInBounds_toArray, List.set_cons_zero, List.set_cons_succ]
                rfl
              refine one_ (i := 5) (N := some 40) #[true, true, true, true, true, true, false] rfl rfl (by kernel_rfl) (by decide) (fun K hK => ?_)
              refine Kd.R_append_rows_step (Kd.int .i64) (w0 := w0) w0.heap.size (by rfl) (.tmp 37) (.tmp 39) 27 3 (.int .i64 0) 8 rfl Try.underlying27 info3 rfl (by decide) (by omega) (.slice A3 jobs.length c3) jobs [(k : Int)] _ _ _ (fun k_ => True) (fun _ => False) rfl rfl ?aO ?aR (fun _ _ h => h) (fun _ h => h.elim) ?aF ?aB ?aS ?aL ?_
              case aR => exact (Kd.R_reads' hR1).2.2
              case aB => exact hB3
              case aF => exact (fun _ _ => trivial)
              case aO => exact Kd.R_mono hRv (fun _ _ => trivial)
              case aS => exact hB3.size
              case aL => have := HN.out; simp only [List.length_cons, List.length_nil]; omega
              intro v5 w5 ho hb5 hg hat
              refine hK.out _ _ ((Keeps.of_below (S := S) hb5).cell (HXr.out.keeps (Keeps.of_below HB2.out)).ce HXr.out.se) (fun hHeld => ?_)
              clear hK K
              refine norm_ (a' := ?_) ?_ ?_
              rotate_left
              · show Act.put _ (some 40) _ = _
                simp only [Act.put, List.setIfInBounds_toArray, List.set_cons_zero, List.set_cons_succ, i64_w, i32_w]
                rfl
              refine last_ (i := 6) (N := some 41) #[true, true, true, true, true, true, true] rfl rfl (by kernel_rfl) (by decide) (fun K hK => ?_)
              have hB5 := below_step HB2.out hb5
              have hI5 := hb.stay _ _ _ hi.out hB5
              have hR5 : Kd.R (Kd.int .i64) 3 w5 wc.heap.size (fun k => ¬ S k) v5 (jobs ++ [(k : Int)]) := Kd.R_lower (Kd.R_mono (Kd.R_bound ho) (fun b hk hs => by have := hb.low _ _ hi.out b hs; have := hk.2.1; have := HB2.out.size; omega)) (Nat.le_trans HXr.out.old.size HB2.out.size)
              obtain ⟨A5, c5, e5⟩ := Kd.R_slice hR5
              subst e5
              refine call_ 80 #[.slice A5 (jobs ++ [(k : Int)]).length c5, .pointer (some ⟨Bt, 0, none⟩), .pointer (some ⟨Bc, 0, none⟩), .pointer (some ⟨Be, 0, none⟩)] (by rfl) rfl ?hrun ?_
              case hrun =>
                unfold execOp
                simp [resolve, Deferred.ofValue, invoke, Act.eval, enters_ Try.func80 (by kernel_rfl) rfl]
              refine (ih (jobs ++ [(k : Int)]) w5 s' A5 c5 (by have := HN.out; simp only [List.length_append, List.length_cons, List.length_nil]; omega) hp3.out (HXr.out.keeps (Keeps.of_below hB5)) hI5 hR5).mono ?_
              rintro e w6 ⟨rfl, hI6, hK6⟩
              refine ⟨_, rfl, ?_⟩
              refine hK.out _ _ ?_
              clear hK K
              refine norm_ (a' := ?_) ?_ ?_
              rotate_left
              · show Act.put _ (some 41) _ = _
                simp only [Act.put, List.setIfInBounds_toArray, List.set_cons_zero, List.set_cons_succ, i64_w, i32_w]
                rfl
              have HI6 := Aside0.mk hI6
              have HK6 := Aside0.mk (hkp.out.trans ((Keeps.of_below hB5).trans hK6))
              clear hI6 hK6
              refine done_ (by kernel_rfl) ?_
              go_wp2
              go_roundw
              case rel => exact ⟨k + 1, _, by omega, by go_num, hs2, hp2, HI6, HK6⟩
              case measure => simp [intOf]; omega
        · have hs2 : Aside0 ((asgs t (d + 1) jobs).foldl step s = (asgIn (asgs t d) row jobs (row.length - (k + 1)) ((k + 1 : Nat) : Int)).foldl step s') := Aside0.mk (by rw [hf.out, HU.out, chk_neg (fun m => hge m.1)]; rfl)
          have hp2 : Aside0 (∀ l ∈ asgIn (asgs t d) row jobs (row.length - (k + 1)) ((k + 1 : Nat) : Int), P l) := Aside0.mk (fun l hl => hp.out l (by rw [HU.out]; exact List.mem_append_right _ hl))
          have hlt0 : rd row (k : Int) < 0 := by omega
          clear hkk hf hp hge
          go_wp2
          go_roundw
          case rel => exact ⟨k + 1, s', by omega, by go_num, hs2, hp2, hi, hkp⟩
          case measure => simp [intOf]; omega
      · have hs2 : Aside0 ((asgs t (d + 1) jobs).foldl step s = s') := Aside0.mk (by rw [hf.out, show row.length - k = 0 from by omega]; rfl)
        clear hf hp
        go_wp2
        go_end0
        exact ⟨rfl, by rw [hs2.out]; exact hi.out, hkp.out⟩
theorem st_func {P : Program} (a : Addr) (m : Mode) (f : Fn) (b c : Array Value) (w : World) : (store a (.func f b c) m).run P w = stored P w a (.func f b c) m := run_store P w a _ m rfl
attribute [local go_sem] st_func
theorem asg_boxes {F : FuncId} {caps : Array Value} {S : Nat → Prop} {wc w w1 w2 w3 : World} {At : Option Addr} {ct : Nat} {t : List (List Int)} {g1 g2 g3 : Nat} (hold : Below wc.heap.size wc w) (hso : ∀ k, S k → wc.heap.size ≤ k) (hlow : ∀ k, S k → k < w.heap.size)
    (h1 : g1 = w.heap.size) (x1 : w1.heap[g1]? = some (.cells #[.slice At t.length ct] 22 (0, 0))) (b1 : Below w.heap.size w w1)
    (h2 : g2 = w1.heap.size) (x2 : w2.heap[g2]? = some (.cells #[.func (.func F) #[] caps] 61 (0, 0))) (b2 : Below w1.heap.size w1 w2)
    (h3 : g3 = w2.heap.size) (x3 : w3.heap[g3]? = some (.cells #[.nilFunc] 61 (0, 0))) (b3 : Below w2.heap.size w2 w3) :
    Boxes F caps S wc At ct t g1 g2 g3 (w3.setCell ⟨g3, 0, none⟩ (.func (.func 80) #[] #[.pointer (some ⟨g1, 0, none⟩), .pointer (some ⟨g2, 0, none⟩), .pointer (some ⟨g3, 0, none⟩)])) ∧ Below w.heap.size w (w3.setCell ⟨g3, 0, none⟩ (.func (.func 80) #[] #[.pointer (some ⟨g1, 0, none⟩), .pointer (some ⟨g2, 0, none⟩), .pointer (some ⟨g3, 0, none⟩)])) := by
  have s1 := b1.size
  have s2 := b2.size
  have s3 := b3.size
  have l1 := blk_lt x1
  have l2 := blk_lt x2
  have hB : Below w.heap.size w (w3.setCell ⟨g3, 0, none⟩ (.func (.func 80) #[] #[.pointer (some ⟨g1, 0, none⟩), .pointer (some ⟨g2, 0, none⟩), .pointer (some ⟨g3, 0, none⟩)])) := Below.setCell (below_step b1 (below_step b2 b3)) (by show w.heap.size ≤ g3; omega) _
  have y1 := blk_below (blk_below x1 b2) b3
  have y2 := blk_below x2 b3
  have hB2 : Below wc.heap.size w (w3.setCell ⟨g3, 0, none⟩ (.func (.func 80) #[] #[.pointer (some ⟨g1, 0, none⟩), .pointer (some ⟨g2, 0, none⟩), .pointer (some ⟨g3, 0, none⟩)])) := hB.mono hold.size
  refine ⟨⟨hold.trans hB2, ?_, ?_, (blk_cell (blk_set x3 0 _) 0).trans rfl, hso, fun h => by have := hlow _ h; omega, fun h => by have := hlow _ h; omega, fun h => by have := hlow _ h; omega⟩, hB⟩
  · exact (cell_far (p := ⟨g3, 0, none⟩) (by show g1 ≠ g3; omega) _).trans ((blk_cell y1 0).trans rfl)
  · exact (cell_far (p := ⟨g3, 0, none⟩) (by show g2 ≠ g3; omega) _).trans ((blk_cell y2 0).trans rfl)
set_option maxHeartbeats 8000000 in
set_option maxRecDepth 100000 in
theorem assignments_any {σ : Type} {F : FuncId} {caps : Array Value} {S : Nat → Prop}  {I : World → σ → Prop} {P : List Int → Prop} {step : σ → List Int → σ} {wc : World} (hb : Back F caps S wc.heap.size I P step) {At : Option Addr} {ct : Nat} {t : List (List Int)} (hCt : Kd.C (Kd.slice 3 (Kd.int .i64)) wc At t.length t) (hct : t.length ≤ ct) (hn : t.length ≤ 1000) (hm : ∀ i : Int, 0 ≤ i → (rd_L1 t i).length ≤ 1000) (w : World) (s : σ) (hP : ∀ l ∈ asgs t t.length [], P l) (hold : Below wc.heap.size wc w) (hso : ∀ k, S k → wc.heap.size ≤ k) (hI : I w s) :
    Calls Try.prog 63 #[.slice At t.length ct, .func (.func F) #[] caps] w fun e w' => e = .returned (.tuple #[]) ∧ I w' ((asgs t t.length []).foldl step s) ∧ Keeps S w w' := by
  have hlow := hb.low w s hI
  have HP := Aside0.mk hP
  have HI := Aside0.mk hI
  clear hP hI
  go_enter Try.func63, Try.ntmps63
  go_wp2_with (first | ((with_reducible refine gate_dst (N := 2) rfl ?_); refine box_event ?hg2 (N := 2) ?hd2 (cs := #[.slice At t.length ct]) (t := 22) ?hr2 ?_; (case hd2 => rfl); (case hg2 => rfl); (case hr2 => first | (go_simp; done) | (go_simp; rfl)); intro g1 hgg1 w1 hboxg1 hbg1; have HG1 := Aside0.mk hgg1; have HX1 := Aside0.mk hboxg1; have HB1 := Aside0.mk hbg1; clear hgg1 hboxg1 hbg1) | ((with_reducible refine gate_dst (N := 3) rfl ?_); refine box_event ?hg3 (N := 3) ?hd3 (cs := #[.func (.func F) #[] caps]) (t := 61) ?hr3 ?_; (case hd3 => rfl); (case hg3 => rfl); (case hr3 => first | (go_simp; done) | (go_simp; rfl)); intro g2 hgg2 w2 hboxg2 hbg2; have HG2 := Aside0.mk hgg2; have HX2 := Aside0.mk hboxg2; have HB2 := Aside0.mk hbg2; clear hgg2 hboxg2 hbg2) | ((with_reducible refine gate_dst (N := 4) rfl ?_); refine box_event ?hg4 (N := 4) ?hd4 (cs := #[.nilFunc]) (t := 61) ?hr4 ?_; (case hd4 => rfl); (case hg4 => rfl); (case hr4 => first | (go_simp; done) | (go_simp; rfl)); intro g3 hgg3 w3 hboxg3 hbg3; have HG3 := Aside0.mk hgg3; have hz1 : w3.cell? ⟨g3, 0, none⟩ = some .nilFunc := (blk_cell hboxg3 0).trans rfl; have hz2 := blk_frozen hboxg3 0; have hz4 : (w3.setCell ⟨g3, 0, none⟩ (.func (.func 80) #[] #[.pointer (some ⟨g1, 0, none⟩), .pointer (some ⟨g2, 0, none⟩), .pointer (some ⟨g3, 0, none⟩)])).cell? ⟨g3, 0, none⟩ = some (.func (.func 80) #[] #[.pointer (some ⟨g1, 0, none⟩), .pointer (some ⟨g2, 0, none⟩), .pointer (some ⟨g3, 0, none⟩)]) := (blk_cell (blk_set hboxg3 0 (.func (.func 80) #[] #[.pointer (some ⟨g1, 0, none⟩), .pointer (some ⟨g2, 0, none⟩), .pointer (some ⟨g3, 0, none⟩)])) 0).trans rfl; have HX3 := Aside0.mk hboxg3; have HB3 := Aside0.mk hbg3; clear hgg3 hboxg3 hbg3) | (go_at_call 80; refine (extend_any hb hCt hct g1 g2 g3 hn hm t.length [] _ s none 0 (by simp) HP.out (asg_boxes hold hso hlow HG1.out HX1.out HB1.out HG2.out HX2.out HB2.out HG3.out HX3.out HB3.out).1 (hb.stay _ _ _ HI.out (asg_boxes hold hso hlow HG1.out HX1.out HB1.out HG2.out HX2.out HB2.out HG3.out HX3.out HB3.out).2) (Kd.R_nil _ _ _ _ _)).mono ?_; rintro e w5 ⟨rfl, hI5, hK5⟩; have HI5 := Aside0.mk hI5; have HK5 := Aside0.mk ((Keeps.of_below (asg_boxes hold hso hlow HG1.out HX1.out HB1.out HG2.out HX2.out HB2.out HG3.out HX3.out HB3.out).2).trans hK5); clear hI5 hK5))
  go_end0
  exact ⟨rfl, HI5.out, HK5.out⟩
end Go.Proofs.Ytfgbohochpjkfaa.G

-- Written by wip/tools/gen.py out of the translation (the kit's printer, one namespace a seat). Lean checks it.
namespace Go.Proofs.Ytfgbohochpjkfaa.G
open Go.RowKit Go.Proofs.YtfgbohochpjkfaaW.PrintWords Go.Proofs.YtfgbohochpjkfaaW.PrintLast Go.Proofs.YtfgbohochpjkfaaW.PrintMore
attribute [local go_sem] max2_int min2_int max_two min_two max_three min_three max_four min_four   -- for this text's walks alone
set_option linter.unusedVariables false
set_option linter.unusedSimpArgs false

/-! ### spec_l1Most: function 78 -/
def spec_l1Most.f (a0 : Int) (a1 : Int) : Option (Int) := if a0 > a1 then (some a0) else (some a1)
set_option maxHeartbeats 8000000 in
set_option maxRecDepth 100000 in
theorem spec_l1Most.calls (a0 : Int) (a1 : Int) (r : Int) (w : World) (h : spec_l1Most.f a0 a1 = some r) :
    Calls Try.prog 78 #[.int .i64 a0, .int .i64 a1] w fun e w' => e = .returned (.int .i64 r) ∧ Drawn0 w w' := by
  have H : (if a0 > a1 then (some a0) else (some a1)) = some r := h
  clear h
  by_cases c3 : a0 > a1
  · rw [if_pos c3] at H
    have c3b0 : decide (a1 < a0) = true := decide_eq_true c3
    clear c3
    obtain rfl := Option.some.inj H
    go_enter Try.func78, Try.ntmps78
    go_wp2
    go_ret
    exact ⟨by first | rfl | (simp; done) | (simp [*]; done), by repeat (first | exact Drawn0.refl _ | apply Drawn0.step)⟩
  · rw [if_neg c3] at H
    have c3b0 : decide (a1 < a0) = false := decide_eq_false c3
    clear c3
    obtain rfl := Option.some.inj H
    go_enter Try.func78, Try.ntmps78
    go_wp2
    go_ret
    exact ⟨by first | rfl | (simp; done) | (simp [*]; done), by repeat (first | exact Drawn0.refl _ | apply Drawn0.step)⟩

end Go.Proofs.Ytfgbohochpjkfaa.G

namespace Go.Proofs.Ytfgbohochpjkfaa.G
open Go.RowKit Go.Proofs.YtfgbohochpjkfaaW.PrintWords Go.Proofs.YtfgbohochpjkfaaW.PrintLast
set_option linter.unusedVariables false
set_option linter.unusedSimpArgs false
theorem impl_within_eq (a b c : Int) : impl_within.f a b c = some (decide (b ≤ a ∧ a ≤ c)) := by
  unfold impl_within.f
  split
  · rename_i h; congr 1; simp; omega
  · rename_i h; congr 1; simp; omega
theorem spec_l1In_eq (a b c : Int) : spec_l1In.f a b c = some (decide (b ≤ a ∧ a ≤ c)) := by
  unfold spec_l1In.f
  split
  · rename_i h; congr 1; simp; omega
  · rename_i h; congr 1; simp; omega
theorem spec_most_eq (a b : Int) : spec_l1Most.f a b = some (mx a b) := by
  unfold spec_l1Most.f mx
  split <;> split <;> first | rfl | (congr 1; omega)
end Go.Proofs.Ytfgbohochpjkfaa.G

-- Written by wip/tools/gen.py out of the translation (the kit's printer, one namespace a seat). Lean checks it.
namespace Go.Proofs.Ytfgbohochpjkfaa.G
open Go.RowKit Go.Proofs.YtfgbohochpjkfaaW.PrintWords Go.Proofs.YtfgbohochpjkfaaW.PrintLast Go.Proofs.YtfgbohochpjkfaaW.PrintMore
attribute [local go_sem] max2_int min2_int max_two min_two max_three min_three max_four min_four   -- for this text's walks alone
set_option linter.unusedVariables false
set_option linter.unusedSimpArgs false

/-! ### spec_l17Good: function 49 -/
mutual
def spec_l17Good.l0 : Nat → List (List Int) → Int → Option (Bool)
  | 0, _, _ => none
  | k + 1, x0, x3 => if x3 < (x0.length : Int) then (if 0 ≤ x3 then ((spec_l1In.f ((rd_L1 x0 x3).length : Int) (x0.length : Int) 6).bind fun t107 => (if t107 = true then (if 0 < (x0.length : Int) then (spec_l17Good.j1 k x0 x3 (((rd_L1 x0 x3).length : Int) != ((rd_L1 x0 0).length : Int))) else (none)) else (spec_l17Good.j1 k x0 x3 true))) else (none)) else (some true)
def spec_l17Good.j1 : Nat → List (List Int) → Int → Bool → Option (Bool)
  | 0, _, _, _ => none
  | k + 1, x0, x3, x35 => if x35 = true then (some false) else (spec_l17Good.l1 k x0 x3 0)
def spec_l17Good.l1 : Nat → List (List Int) → Int → Int → Option (Bool)
  | 0, _, _, _ => none
  | k + 1, x0, x3, x4 => if 0 ≤ x3 then (if x3 < (x0.length : Int) then (if x4 < ((rd_L1 x0 x3).length : Int) then (if 0 ≤ x4 then ((spec_l1In.f (rd (rd_L1 x0 x3) x4) (-1) 9999).bind fun t113 => (if t113 = true then (spec_l17Good.l1 k x0 x3 (wrap64 (x4 + 1))) else (some false))) else (none)) else (spec_l17Good.l0 k x0 (wrap64 (x3 + 1)))) else (none)) else (none)
end
def spec_l17Good.f (k : Nat) (l0 : List (List Int)) : Option (Bool) := (spec_l1In.f (l0.length : Int) 1 6).bind fun t105 => (if t105 = true then (spec_l17Good.l0 k l0 0) else (some false))
theorem spec_l17Good.mono_l : ∀ k, (∀ y0 y1, LeO (spec_l17Good.l0 k y0 y1) (spec_l17Good.l0 (k + 1) y0 y1)) ∧ (∀ y0 y1 y2, LeO (spec_l17Good.j1 k y0 y1 y2) (spec_l17Good.j1 (k + 1) y0 y1 y2)) ∧ (∀ y0 y1 y2, LeO (spec_l17Good.l1 k y0 y1 y2) (spec_l17Good.l1 (k + 1) y0 y1 y2))
  | 0 => ⟨fun _ _ r h => by simp [spec_l17Good.l0] at h, fun _ _ _ r h => by simp [spec_l17Good.j1] at h, fun _ _ _ r h => by simp [spec_l17Good.l1] at h⟩
  | k + 1 => by
    obtain ⟨ih0, ih1, ih2⟩ := spec_l17Good.mono_l k
    refine ⟨?_, ?_, ?_⟩
    · intro y0 y1
      unfold spec_l17Good.l0
      repeat' first
      | (with_reducible exact ih0 _ _)
      | (with_reducible exact ih1 _ _ _)
      | (with_reducible exact ih2 _ _ _)
      | (with_reducible exact LeO.refl _)
      | (with_reducible exact LeO.none _)
      | (with_reducible refine LeO.ite ?_ ?_)
      | (with_reducible refine LeO.bind ?_ (fun _ => ?_))
      | exact ih0 _ _
      | exact ih1 _ _ _
      | exact ih2 _ _ _
      | exact LeO.none _
      | refine LeO.ite ?_ ?_
      | refine LeO.bind ?_ (fun _ => ?_)
    · intro y0 y1 y2
      unfold spec_l17Good.j1
      repeat' first
      | (with_reducible exact ih0 _ _)
      | (with_reducible exact ih1 _ _ _)
      | (with_reducible exact ih2 _ _ _)
      | (with_reducible exact LeO.refl _)
      | (with_reducible exact LeO.none _)
      | (with_reducible refine LeO.ite ?_ ?_)
      | (with_reducible refine LeO.bind ?_ (fun _ => ?_))
      | exact ih0 _ _
      | exact ih1 _ _ _
      | exact ih2 _ _ _
      | exact LeO.none _
      | refine LeO.ite ?_ ?_
      | refine LeO.bind ?_ (fun _ => ?_)
    · intro y0 y1 y2
      unfold spec_l17Good.l1
      repeat' first
      | (with_reducible exact ih0 _ _)
      | (with_reducible exact ih1 _ _ _)
      | (with_reducible exact ih2 _ _ _)
      | (with_reducible exact LeO.refl _)
      | (with_reducible exact LeO.none _)
      | (with_reducible refine LeO.ite ?_ ?_)
      | (with_reducible refine LeO.bind ?_ (fun _ => ?_))
      | exact ih0 _ _
      | exact ih1 _ _ _
      | exact ih2 _ _ _
      | exact LeO.none _
      | refine LeO.ite ?_ ?_
      | refine LeO.bind ?_ (fun _ => ?_)
theorem spec_l17Good.mono : ∀ a0 k, LeO (spec_l17Good.f k a0) (spec_l17Good.f (k + 1) a0) := by
  intro a0 k
  obtain ⟨ih0, ih1, ih2⟩ := spec_l17Good.mono_l k
  unfold spec_l17Good.f
  repeat' first
      | (with_reducible exact ih0 _ _)
      | (with_reducible exact ih1 _ _ _)
      | (with_reducible exact ih2 _ _ _)
      | (with_reducible exact LeO.refl _)
      | (with_reducible exact LeO.none _)
      | (with_reducible refine LeO.ite ?_ ?_)
      | (with_reducible refine LeO.bind ?_ (fun _ => ?_))
      | exact ih0 _ _
      | exact ih1 _ _ _
      | exact ih2 _ _ _
      | exact LeO.none _
      | refine LeO.ite ?_ ?_
      | refine LeO.bind ?_ (fun _ => ?_)
set_option maxHeartbeats 8000000 in
set_option maxRecDepth 100000 in
theorem spec_l17Good.calls (k : Nat) (A0 : Option Addr) (c0 : Nat) (l0 : List (List Int)) (r : Bool) (w : World) (hr0 : Kd.C (Kd.slice 3 (Kd.int .i64)) w A0 l0.length l0) (hc0 : l0.length ≤ c0) (h : spec_l17Good.f k l0 = some r) :
    Calls Try.prog 49 #[.slice A0 l0.length c0] w fun e w' => e = .returned (.bool r) ∧ Drawn0 w w' := by
  have HR0 := Aside0.mk hr0
  have HC0 := Aside0.mk hc0
  clear hr0 hc0
  have H : ((spec_l1In.f (l0.length : Int) 1 6).bind fun t105 => (if t105 = true then (spec_l17Good.l0 k l0 0) else (some false))) = some r := h
  clear h
  replace H := Option.bind_eq_some_iff.mp H
  obtain ⟨t105, A20, H⟩ := H
  replace H : (if t105 = true then (spec_l17Good.l0 k l0 0) else (some false)) = some r := H
  have A2 := Aside0.mk A20
  clear A20
  by_cases c3 : t105 = true
  · subst c3
    have H1 : (spec_l17Good.l0 k l0 0) = some r := by rw [if_pos rfl] at H; exact H
    clear H
    have H := H1
    clear H1
    have H' := Aside0.mk H
    clear H
    go_enter Try.func49, Try.ntmps49
    go_wp2_with (first | (go_at_call 55; (with_reducible refine (spec_l1In.calls (l0.length : Int) 1 6 true _ A2.out).mono ?_); rintro e w' ⟨rfl, ⟨nd, rfl⟩⟩; (try first | exact ⟨rfl, _, World.drewN_drewN _ _ _⟩ | exact ⟨rfl, _, Eq.trans (World.drewN_drewN _ _ _) (congrArg (World.drewN _) (Nat.add_assoc _ _ _))⟩)))
    repeat (go_quiet (first | (go_at_call 55; (with_reducible refine (spec_l1In.calls (l0.length : Int) 1 6 true _ A2.out).mono ?_); rintro e w' ⟨rfl, ⟨nd, rfl⟩⟩; (try first | exact ⟨rfl, _, World.drewN_drewN _ _ _⟩ | exact ⟨rfl, _, Eq.trans (World.drewN_drewN _ _ _) (congrArg (World.drewN _) (Nat.add_assoc _ _ _))⟩))); try go_wp2_with (first | (go_at_call 55; (with_reducible refine (spec_l1In.calls (l0.length : Int) 1 6 true _ A2.out).mono ?_); rintro e w' ⟨rfl, ⟨nd, rfl⟩⟩; (try first | exact ⟨rfl, _, World.drewN_drewN _ _ _⟩ | exact ⟨rfl, _, Eq.trans (World.drewN_drewN _ _ _) (congrArg (World.drewN _) (Nat.add_assoc _ _ _))⟩))))
    go_loopg [3] k (fun kq v3 w' => ∃ (x3_1 : Int), v3 = .int .i64 x3_1 ∧ Aside0 (spec_l17Good.l0 kq l0 x3_1 = some r) ∧ Aside0 (kq ≤ k) ∧ Drawn0 w w')
    case atStart => exact ⟨(0), (by first | rfl | (simp; done) | (simp [*]; done)), H', ⟨Nat.le_refl _⟩, by repeat (first | exact Drawn0.refl _ | apply Drawn0.step)⟩
    case round =>
      clear H'
      try clear p2
      try clear c3
      obtain ⟨x3_1, rfl, HA, HK1, ⟨m1, rfl⟩⟩ := hrel
      cases gk with
      | zero => exact absurd HA.out (by simp [spec_l17Good.l0])
      | succ k1 =>
        have H := HA.out
        clear HA
        simp only [spec_l17Good.l0] at H
        by_cases c4 : x3_1 < (l0.length : Int)
        · rw [if_pos c4] at H
          have c4b0 : decide (x3_1 < (l0.length : Int)) = true := decide_eq_true c4
          clear c4
          have HC5 := Aside0.mk H
          clear H
          go_upto_region 6 with (fail)
          repeat (go_quiet (fail); go_upto_region 6 with (fail))
          go_cut [35] (fun v35 wc => ∃ (kq : Nat) (x35_4 : Bool), v35 = .bool x35_4 ∧ Aside0 (spec_l17Good.j1 kq l0 x3_1 x35_4 = some r) ∧ Aside0 (kq ≤ k1) ∧ Drawn0 w wc)
          case first =>
            have H := HC5.out
            clear HC5
            by_cases c6 : 0 ≤ x3_1
            · rw [if_pos c6] at H
              have c6b0 : decide (0 ≤ x3_1) = true := decide_eq_true c6
              clear c6
              (first | rw [c6b0] | (simp only [i64_w, i32_w]; rw [c6b0]) | skip)
              replace H := Option.bind_eq_some_iff.mp H
              obtain ⟨t107, A70, H⟩ := H
              replace H : (if t107 = true then (if 0 < (l0.length : Int) then (spec_l17Good.j1 k1 l0 x3_1 (((rd_L1 l0 x3_1).length : Int) != ((rd_L1 l0 0).length : Int))) else (none)) else (spec_l17Good.j1 k1 l0 x3_1 true)) = some r := H
              have A7 := Aside0.mk A70
              clear A70
              by_cases c8 : t107 = true
              · subst c8
                have H1 : (if 0 < (l0.length : Int) then (spec_l17Good.j1 k1 l0 x3_1 (((rd_L1 l0 x3_1).length : Int) != ((rd_L1 l0 0).length : Int))) else (none)) = some r := by rw [if_pos rfl] at H; exact H
                clear H
                have H := H1
                clear H1
                by_cases c9 : 0 < (l0.length : Int)
                · rw [if_pos c9] at H
                  have c9b0 : decide (0 < (l0.length : Int)) = true := decide_eq_true c9
                  have c9b1 : decide (0 < l0.length) = true := decide_eq_true (by omega)
                  clear c9
                  have H' := Aside0.mk H
                  clear H
                  have p106 : 0 ≤ (x3_1 : Int) := of_decide_eq_true (by first | (with_reducible assumption) | assumption)
                  have q106 : x3_1 < (l0.length : Int) := of_decide_eq_true (by first | (with_reducible assumption) | assumption)
                  obtain ⟨ad106, A106_0, c106_0, e106, hx106_0, hl106_0, hi106_0⟩ := at_L1 HR0.out x3_1 p106 q106
                  cases e106
                  have HR106_0 := Aside0.mk hi106_0
                  have HC106_0 := Aside0.mk hl106_0
                  clear hi106_0 hl106_0
                  replace p106 := eq_true p106
                  replace q106 := eq_true q106
                  go_wp2_with (first | (go_at_call 55; (with_reducible refine (spec_l1In.calls ((rd_L1 l0 x3_1).length : Int) (l0.length : Int) 6 true _ A7.out).mono ?_); rintro e w' ⟨rfl, ⟨nd, rfl⟩⟩; (try first | exact ⟨rfl, _, World.drewN_drewN _ _ _⟩ | exact ⟨rfl, _, Eq.trans (World.drewN_drewN _ _ _) (congrArg (World.drewN _) (Nat.add_assoc _ _ _))⟩); have p108 : 0 ≤ (x3_1 : Int) := of_decide_eq_true (by first | (with_reducible assumption) | assumption); have q108 : x3_1 < (l0.length : Int) := of_decide_eq_true (by first | (with_reducible assumption) | assumption); obtain ⟨ad108, A108_0, c108_0, e108, hx108_0, hl108_0, hi108_0⟩ := at_L1 HR0.out x3_1 p108 q108; obtain rfl : ad106 = ad108 := (by injection e108); have HR108_0 := Aside0.mk hi108_0; have HC108_0 := Aside0.mk hl108_0; clear hi108_0 hl108_0; replace p108 := eq_true p108; replace q108 := eq_true q108; have ea_ := Option.some.inj (hx106_0.symm.trans hx108_0); injection ea_ with ea_ en_ ec_; subst ea_; subst ec_; clear en_; have p109 : 0 ≤ (0 : Int) := (by omega); have q109 : 0 < (l0.length : Int) := of_decide_eq_true (by first | (with_reducible assumption) | assumption); obtain ⟨ad109, A109_0, c109_0, e109, hx109_0, hl109_0, hi109_0⟩ := at_L1 HR0.out 0 p109 q109; obtain rfl : ad106 = ad109 := (by injection e109); have qi109 : (0 < l0.length) = True := eq_true (by omega); (try rw [show ((0 : Int)).toNat = 0 from rfl] at hx109_0); (try rw [Addr.add_zero'] at hx109_0); have HR109_0 := Aside0.mk hi109_0; have HC109_0 := Aside0.mk hl109_0; clear hi109_0 hl109_0; replace p109 := eq_true p109; replace q109 := eq_true q109))
                  repeat (go_quiet (first | (go_at_call 55; (with_reducible refine (spec_l1In.calls ((rd_L1 l0 x3_1).length : Int) (l0.length : Int) 6 true _ A7.out).mono ?_); rintro e w' ⟨rfl, ⟨nd, rfl⟩⟩; (try first | exact ⟨rfl, _, World.drewN_drewN _ _ _⟩ | exact ⟨rfl, _, Eq.trans (World.drewN_drewN _ _ _) (congrArg (World.drewN _) (Nat.add_assoc _ _ _))⟩); have p108 : 0 ≤ (x3_1 : Int) := of_decide_eq_true (by first | (with_reducible assumption) | assumption); have q108 : x3_1 < (l0.length : Int) := of_decide_eq_true (by first | (with_reducible assumption) | assumption); obtain ⟨ad108, A108_0, c108_0, e108, hx108_0, hl108_0, hi108_0⟩ := at_L1 HR0.out x3_1 p108 q108; obtain rfl : ad106 = ad108 := (by injection e108); have HR108_0 := Aside0.mk hi108_0; have HC108_0 := Aside0.mk hl108_0; clear hi108_0 hl108_0; replace p108 := eq_true p108; replace q108 := eq_true q108; have ea_ := Option.some.inj (hx106_0.symm.trans hx108_0); injection ea_ with ea_ en_ ec_; subst ea_; subst ec_; clear en_; have p109 : 0 ≤ (0 : Int) := (by omega); have q109 : 0 < (l0.length : Int) := of_decide_eq_true (by first | (with_reducible assumption) | assumption); obtain ⟨ad109, A109_0, c109_0, e109, hx109_0, hl109_0, hi109_0⟩ := at_L1 HR0.out 0 p109 q109; obtain rfl : ad106 = ad109 := (by injection e109); have qi109 : (0 < l0.length) = True := eq_true (by omega); (try rw [show ((0 : Int)).toNat = 0 from rfl] at hx109_0); (try rw [Addr.add_zero'] at hx109_0); have HR109_0 := Aside0.mk hi109_0; have HC109_0 := Aside0.mk hl109_0; clear hi109_0 hl109_0; replace p109 := eq_true p109; replace q109 := eq_true q109)); try go_wp2_with (first | (go_at_call 55; (with_reducible refine (spec_l1In.calls ((rd_L1 l0 x3_1).length : Int) (l0.length : Int) 6 true _ A7.out).mono ?_); rintro e w' ⟨rfl, ⟨nd, rfl⟩⟩; (try first | exact ⟨rfl, _, World.drewN_drewN _ _ _⟩ | exact ⟨rfl, _, Eq.trans (World.drewN_drewN _ _ _) (congrArg (World.drewN _) (Nat.add_assoc _ _ _))⟩); have p108 : 0 ≤ (x3_1 : Int) := of_decide_eq_true (by first | (with_reducible assumption) | assumption); have q108 : x3_1 < (l0.length : Int) := of_decide_eq_true (by first | (with_reducible assumption) | assumption); obtain ⟨ad108, A108_0, c108_0, e108, hx108_0, hl108_0, hi108_0⟩ := at_L1 HR0.out x3_1 p108 q108; obtain rfl : ad106 = ad108 := (by injection e108); have HR108_0 := Aside0.mk hi108_0; have HC108_0 := Aside0.mk hl108_0; clear hi108_0 hl108_0; replace p108 := eq_true p108; replace q108 := eq_true q108; have ea_ := Option.some.inj (hx106_0.symm.trans hx108_0); injection ea_ with ea_ en_ ec_; subst ea_; subst ec_; clear en_; have p109 : 0 ≤ (0 : Int) := (by omega); have q109 : 0 < (l0.length : Int) := of_decide_eq_true (by first | (with_reducible assumption) | assumption); obtain ⟨ad109, A109_0, c109_0, e109, hx109_0, hl109_0, hi109_0⟩ := at_L1 HR0.out 0 p109 q109; obtain rfl : ad106 = ad109 := (by injection e109); have qi109 : (0 < l0.length) = True := eq_true (by omega); (try rw [show ((0 : Int)).toNat = 0 from rfl] at hx109_0); (try rw [Addr.add_zero'] at hx109_0); have HR109_0 := Aside0.mk hi109_0; have HC109_0 := Aside0.mk hl109_0; clear hi109_0 hl109_0; replace p109 := eq_true p109; replace q109 := eq_true q109)))
                  go_meet
                  case rel => exact ⟨_, ((((rd_L1 l0 x3_1).length : Int) != ((rd_L1 l0 0).length : Int))), (by first | rfl | (simp; done) | (simp [*]; done)), H', ⟨by have := HK1.out; first | omega | exact Nat.le_refl _⟩, by repeat (first | exact Drawn0.refl _ | apply Drawn0.step)⟩
                · rw [if_neg c9] at H
                  exact absurd H (by simp)
              · replace c8 := Bool.eq_false_iff.mpr c8
                subst c8
                have H1 : (spec_l17Good.j1 k1 l0 x3_1 true) = some r := by rw [if_neg (show ¬ (false = true) by decide)] at H; exact H
                clear H
                have H := H1
                clear H1
                have H' := Aside0.mk H
                clear H
                have p106 : 0 ≤ (x3_1 : Int) := of_decide_eq_true (by first | (with_reducible assumption) | assumption)
                have q106 : x3_1 < (l0.length : Int) := of_decide_eq_true (by first | (with_reducible assumption) | assumption)
                obtain ⟨ad106, A106_0, c106_0, e106, hx106_0, hl106_0, hi106_0⟩ := at_L1 HR0.out x3_1 p106 q106
                cases e106
                have HR106_0 := Aside0.mk hi106_0
                have HC106_0 := Aside0.mk hl106_0
                clear hi106_0 hl106_0
                replace p106 := eq_true p106
                replace q106 := eq_true q106
                go_wp2_with (first | (go_at_call 55; (with_reducible refine (spec_l1In.calls ((rd_L1 l0 x3_1).length : Int) (l0.length : Int) 6 false _ A7.out).mono ?_); rintro e w' ⟨rfl, ⟨nd, rfl⟩⟩; (try first | exact ⟨rfl, _, World.drewN_drewN _ _ _⟩ | exact ⟨rfl, _, Eq.trans (World.drewN_drewN _ _ _) (congrArg (World.drewN _) (Nat.add_assoc _ _ _))⟩)))
                repeat (go_quiet (first | (go_at_call 55; (with_reducible refine (spec_l1In.calls ((rd_L1 l0 x3_1).length : Int) (l0.length : Int) 6 false _ A7.out).mono ?_); rintro e w' ⟨rfl, ⟨nd, rfl⟩⟩; (try first | exact ⟨rfl, _, World.drewN_drewN _ _ _⟩ | exact ⟨rfl, _, Eq.trans (World.drewN_drewN _ _ _) (congrArg (World.drewN _) (Nat.add_assoc _ _ _))⟩))); try go_wp2_with (first | (go_at_call 55; (with_reducible refine (spec_l1In.calls ((rd_L1 l0 x3_1).length : Int) (l0.length : Int) 6 false _ A7.out).mono ?_); rintro e w' ⟨rfl, ⟨nd, rfl⟩⟩; (try first | exact ⟨rfl, _, World.drewN_drewN _ _ _⟩ | exact ⟨rfl, _, Eq.trans (World.drewN_drewN _ _ _) (congrArg (World.drewN _) (Nat.add_assoc _ _ _))⟩))))
                go_meet
                case rel => exact ⟨_, (true), (by first | rfl | (simp; done) | (simp [*]; done)), H', ⟨by have := HK1.out; first | omega | exact Nat.le_refl _⟩, by repeat (first | exact Drawn0.refl _ | apply Drawn0.step)⟩
            · rw [if_neg c6] at H
              exact absurd H (by simp)
          case rest =>
            clear HC5
            try clear c1
            try clear p1
            try clear q1
            try clear hx1
            try clear qi1
            try clear p2
            try clear c3
            try clear c4
            try clear c4b0
            try clear c6
            try clear c6b0
            try clear c8
            try clear c9
            try clear c9b0
            try clear c9b1
            try clear hx106_0
            try clear hx108_0
            try clear hx109_0
            try clear p106
            try clear p108
            try clear p109
            try clear p2
            try clear q106
            try clear q108
            try clear q109
            obtain ⟨kq, x35_4, rfl, HA, HJ4, ⟨mc4, rfl⟩⟩ := hcut
            cases kq with
            | zero => exact absurd HA.out (by simp [spec_l17Good.j1])
            | succ kj4 =>
              have H := HA.out
              clear HA
              simp only [spec_l17Good.j1] at H
              by_cases c10 : x35_4 = true
              · subst c10
                have H1 : (some false) = some r := by rw [if_pos rfl] at H; exact H
                clear H
                have H := H1
                clear H1
                obtain rfl := Option.some.inj H
                go_wp2
                repeat (go_quiet (fail); try go_wp2)
                go_ret
                exact ⟨by first | rfl | (simp; done) | (simp [*]; done), by repeat (first | exact Drawn0.refl _ | apply Drawn0.step)⟩
              · replace c10 := Bool.eq_false_iff.mpr c10
                subst c10
                have H1 : (spec_l17Good.l1 kj4 l0 x3_1 0) = some r := by rw [if_neg (show ¬ (false = true) by decide)] at H; exact H
                clear H
                have H := H1
                clear H1
                have H' := Aside0.mk H
                clear H
                go_wp2
                repeat (go_quiet (fail); try go_wp2)
                go_loopg [4] kj4 (fun kq v4 w' => ∃ (x4_3 : Int), v4 = .int .i64 x4_3 ∧ Aside0 (spec_l17Good.l1 kq l0 x3_1 x4_3 = some r) ∧ Aside0 (kq ≤ kj4) ∧ Drawn0 w w')
                case atStart => exact ⟨(0), (by first | rfl | (simp; done) | (simp [*]; done)), H', ⟨Nat.le_refl _⟩, by repeat (first | exact Drawn0.refl _ | apply Drawn0.step)⟩
                case round =>
                  clear H'
                  try clear c1
                  try clear p1
                  try clear q1
                  try clear hx1
                  try clear qi1
                  try clear p2
                  try clear c3
                  try clear c4
                  try clear c4b0
                  try clear c6
                  try clear c6b0
                  try clear c8
                  try clear c9
                  try clear c9b0
                  try clear c9b1
                  try clear c10
                  try clear p10
                  try clear q10
                  try clear hx10
                  try clear qi10
                  try clear hx106_0
                  try clear hx108_0
                  try clear hx109_0
                  try clear p1
                  try clear p106
                  try clear p108
                  try clear p109
                  try clear p2
                  try clear q1
                  try clear q106
                  try clear q108
                  try clear q109
                  obtain ⟨x4_3, rfl, HA, HK3, ⟨m3, rfl⟩⟩ := hrel
                  cases gk with
                  | zero => exact absurd HA.out (by simp [spec_l17Good.l1])
                  | succ k3 =>
                    have H := HA.out
                    clear HA
                    simp only [spec_l17Good.l1] at H
                    by_cases c11 : 0 ≤ x3_1
                    · rw [if_pos c11] at H
                      have c11b0 : decide (0 ≤ x3_1) = true := decide_eq_true c11
                      clear c11
                      by_cases c12 : x3_1 < (l0.length : Int)
                      · rw [if_pos c12] at H
                        have c12b0 : decide (x3_1 < (l0.length : Int)) = true := decide_eq_true c12
                        clear c12
                        by_cases c13 : x4_3 < ((rd_L1 l0 x3_1).length : Int)
                        · rw [if_pos c13] at H
                          have c13b0 : decide (x4_3 < ((rd_L1 l0 x3_1).length : Int)) = true := decide_eq_true c13
                          clear c13
                          by_cases c14 : 0 ≤ x4_3
                          · rw [if_pos c14] at H
                            have c14b0 : decide (0 ≤ x4_3) = true := decide_eq_true c14
                            clear c14
                            replace H := Option.bind_eq_some_iff.mp H
                            obtain ⟨t113, A150, H⟩ := H
                            replace H : (if t113 = true then (spec_l17Good.l1 k3 l0 x3_1 (wrap64 (x4_3 + 1))) else (some false)) = some r := H
                            have A15 := Aside0.mk A150
                            clear A150
                            by_cases c16 : t113 = true
                            · subst c16
                              have H1 : (spec_l17Good.l1 k3 l0 x3_1 (wrap64 (x4_3 + 1))) = some r := by rw [if_pos rfl] at H; exact H
                              clear H
                              have H := H1
                              clear H1
                              have H' := Aside0.mk H
                              clear H
                              have p110 : 0 ≤ (x3_1 : Int) := of_decide_eq_true (by first | (with_reducible assumption) | assumption)
                              have q110 : x3_1 < (l0.length : Int) := of_decide_eq_true (by first | (with_reducible assumption) | assumption)
                              obtain ⟨ad110, A110_0, c110_0, e110, hx110_0, hl110_0, hi110_0⟩ := at_L1 HR0.out x3_1 p110 q110
                              cases e110
                              have HR110_0 := Aside0.mk hi110_0
                              have HC110_0 := Aside0.mk hl110_0
                              clear hi110_0 hl110_0
                              replace p110 := eq_true p110
                              replace q110 := eq_true q110
                              have p111 : 0 ≤ (x3_1 : Int) := of_decide_eq_true (by first | (with_reducible assumption) | assumption)
                              have q111 : x3_1 < (l0.length : Int) := of_decide_eq_true (by first | (with_reducible assumption) | assumption)
                              obtain ⟨ad111, A111_0, c111_0, e111, hx111_0, hl111_0, hi111_0⟩ := at_L1 HR0.out x3_1 p111 q111
                              obtain rfl : ad110 = ad111 := (by injection e111)
                              have HR111_0 := Aside0.mk hi111_0
                              have HC111_0 := Aside0.mk hl111_0
                              clear hi111_0 hl111_0
                              replace p111 := eq_true p111
                              replace q111 := eq_true q111
                              have ea_ := Option.some.inj (hx110_0.symm.trans hx111_0)
                              injection ea_ with ea_ en_ ec_
                              subst ea_
                              subst ec_
                              clear en_
                              have p112 : 0 ≤ (x4_3 : Int) := of_decide_eq_true (by first | (with_reducible assumption) | assumption)
                              have q112 : x4_3 < ((rd_L1 l0 x3_1).length : Int) := of_decide_eq_true (by first | (with_reducible assumption) | assumption)
                              obtain ⟨ad112, e112, hx112_0⟩ := Kd.at_int HR111_0.out x4_3 p112 q112
                              cases e112
                              replace p112 := eq_true p112
                              replace q112 := eq_true q112
                              go_wp2_with (first | (go_at_call 55; (with_reducible refine (spec_l1In.calls (rd (rd_L1 l0 x3_1) x4_3) (-1) 9999 true _ A15.out).mono ?_); rintro e w' ⟨rfl, ⟨nd, rfl⟩⟩; (try first | exact ⟨rfl, _, World.drewN_drewN _ _ _⟩ | exact ⟨rfl, _, Eq.trans (World.drewN_drewN _ _ _) (congrArg (World.drewN _) (Nat.add_assoc _ _ _))⟩)))
                              repeat (go_quiet (first | (go_at_call 55; (with_reducible refine (spec_l1In.calls (rd (rd_L1 l0 x3_1) x4_3) (-1) 9999 true _ A15.out).mono ?_); rintro e w' ⟨rfl, ⟨nd, rfl⟩⟩; (try first | exact ⟨rfl, _, World.drewN_drewN _ _ _⟩ | exact ⟨rfl, _, Eq.trans (World.drewN_drewN _ _ _) (congrArg (World.drewN _) (Nat.add_assoc _ _ _))⟩))); try go_wp2_with (first | (go_at_call 55; (with_reducible refine (spec_l1In.calls (rd (rd_L1 l0 x3_1) x4_3) (-1) 9999 true _ A15.out).mono ?_); rintro e w' ⟨rfl, ⟨nd, rfl⟩⟩; (try first | exact ⟨rfl, _, World.drewN_drewN _ _ _⟩ | exact ⟨rfl, _, Eq.trans (World.drewN_drewN _ _ _) (congrArg (World.drewN _) (Nat.add_assoc _ _ _))⟩))))
                              go_roundg k3
                              case measure => have := HK1.out; have := HJ4.out; have := HK3.out; omega
                              case rel => exact ⟨(wrap64 (x4_3 + 1)), (by first | rfl | (simp; done) | (simp [*]; done)), H', ⟨by have := HK1.out; have := HJ4.out; have := HK3.out; omega⟩, by repeat (first | exact Drawn0.refl _ | apply Drawn0.step)⟩
                            · replace c16 := Bool.eq_false_iff.mpr c16
                              subst c16
                              have H1 : (some false) = some r := by rw [if_neg (show ¬ (false = true) by decide)] at H; exact H
                              clear H
                              have H := H1
                              clear H1
                              obtain rfl := Option.some.inj H
                              have p110 : 0 ≤ (x3_1 : Int) := of_decide_eq_true (by first | (with_reducible assumption) | assumption)
                              have q110 : x3_1 < (l0.length : Int) := of_decide_eq_true (by first | (with_reducible assumption) | assumption)
                              obtain ⟨ad110, A110_0, c110_0, e110, hx110_0, hl110_0, hi110_0⟩ := at_L1 HR0.out x3_1 p110 q110
                              cases e110
                              have HR110_0 := Aside0.mk hi110_0
                              have HC110_0 := Aside0.mk hl110_0
                              clear hi110_0 hl110_0
                              replace p110 := eq_true p110
                              replace q110 := eq_true q110
                              have p111 : 0 ≤ (x3_1 : Int) := of_decide_eq_true (by first | (with_reducible assumption) | assumption)
                              have q111 : x3_1 < (l0.length : Int) := of_decide_eq_true (by first | (with_reducible assumption) | assumption)
                              obtain ⟨ad111, A111_0, c111_0, e111, hx111_0, hl111_0, hi111_0⟩ := at_L1 HR0.out x3_1 p111 q111
                              obtain rfl : ad110 = ad111 := (by injection e111)
                              have HR111_0 := Aside0.mk hi111_0
                              have HC111_0 := Aside0.mk hl111_0
                              clear hi111_0 hl111_0
                              replace p111 := eq_true p111
                              replace q111 := eq_true q111
                              have ea_ := Option.some.inj (hx110_0.symm.trans hx111_0)
                              injection ea_ with ea_ en_ ec_
                              subst ea_
                              subst ec_
                              clear en_
                              have p112 : 0 ≤ (x4_3 : Int) := of_decide_eq_true (by first | (with_reducible assumption) | assumption)
                              have q112 : x4_3 < ((rd_L1 l0 x3_1).length : Int) := of_decide_eq_true (by first | (with_reducible assumption) | assumption)
                              obtain ⟨ad112, e112, hx112_0⟩ := Kd.at_int HR111_0.out x4_3 p112 q112
                              cases e112
                              replace p112 := eq_true p112
                              replace q112 := eq_true q112
                              go_wp2_with (first | (go_at_call 55; (with_reducible refine (spec_l1In.calls (rd (rd_L1 l0 x3_1) x4_3) (-1) 9999 false _ A15.out).mono ?_); rintro e w' ⟨rfl, ⟨nd, rfl⟩⟩; (try first | exact ⟨rfl, _, World.drewN_drewN _ _ _⟩ | exact ⟨rfl, _, Eq.trans (World.drewN_drewN _ _ _) (congrArg (World.drewN _) (Nat.add_assoc _ _ _))⟩)))
                              repeat (go_quiet (first | (go_at_call 55; (with_reducible refine (spec_l1In.calls (rd (rd_L1 l0 x3_1) x4_3) (-1) 9999 false _ A15.out).mono ?_); rintro e w' ⟨rfl, ⟨nd, rfl⟩⟩; (try first | exact ⟨rfl, _, World.drewN_drewN _ _ _⟩ | exact ⟨rfl, _, Eq.trans (World.drewN_drewN _ _ _) (congrArg (World.drewN _) (Nat.add_assoc _ _ _))⟩))); try go_wp2_with (first | (go_at_call 55; (with_reducible refine (spec_l1In.calls (rd (rd_L1 l0 x3_1) x4_3) (-1) 9999 false _ A15.out).mono ?_); rintro e w' ⟨rfl, ⟨nd, rfl⟩⟩; (try first | exact ⟨rfl, _, World.drewN_drewN _ _ _⟩ | exact ⟨rfl, _, Eq.trans (World.drewN_drewN _ _ _) (congrArg (World.drewN _) (Nat.add_assoc _ _ _))⟩))))
                              go_ret
                              exact ⟨by first | rfl | (simp; done) | (simp [*]; done), by repeat (first | exact Drawn0.refl _ | apply Drawn0.step)⟩
                          · rw [if_neg c14] at H
                            exact absurd H (by simp)
                        · rw [if_neg c13] at H
                          have c13b0 : decide (x4_3 < ((rd_L1 l0 x3_1).length : Int)) = false := decide_eq_false c13
                          clear c13
                          have H' := Aside0.mk H
                          clear H
                          have p110 : 0 ≤ (x3_1 : Int) := of_decide_eq_true (by first | (with_reducible assumption) | assumption)
                          have q110 : x3_1 < (l0.length : Int) := of_decide_eq_true (by first | (with_reducible assumption) | assumption)
                          obtain ⟨ad110, A110_0, c110_0, e110, hx110_0, hl110_0, hi110_0⟩ := at_L1 HR0.out x3_1 p110 q110
                          cases e110
                          have HR110_0 := Aside0.mk hi110_0
                          have HC110_0 := Aside0.mk hl110_0
                          clear hi110_0 hl110_0
                          replace p110 := eq_true p110
                          replace q110 := eq_true q110
                          go_wp2
                          repeat (go_quiet (fail); try go_wp2)
                          go_roundg k3
                          case measure => have := HK1.out; have := HJ4.out; have := HK3.out; omega
                          case rel => exact ⟨(wrap64 (x3_1 + 1)), (by first | rfl | (simp; done) | (simp [*]; done)), H', ⟨by have := HK1.out; have := HJ4.out; have := HK3.out; omega⟩, by repeat (first | exact Drawn0.refl _ | apply Drawn0.step)⟩
                      · rw [if_neg c12] at H
                        exact absurd H (by simp)
                    · rw [if_neg c11] at H
                      exact absurd H (by simp)
        · rw [if_neg c4] at H
          have c4b0 : decide (x3_1 < (l0.length : Int)) = false := decide_eq_false c4
          clear c4
          obtain rfl := Option.some.inj H
          go_wp2
          repeat (go_quiet (fail); try go_wp2)
          go_ret
          exact ⟨by first | rfl | (simp; done) | (simp [*]; done), by repeat (first | exact Drawn0.refl _ | apply Drawn0.step)⟩
  · replace c3 := Bool.eq_false_iff.mpr c3
    subst c3
    have H1 : (some false) = some r := by rw [if_neg (show ¬ (false = true) by decide)] at H; exact H
    clear H
    have H := H1
    clear H1
    obtain rfl := Option.some.inj H
    go_enter Try.func49, Try.ntmps49
    go_wp2_with (first | (go_at_call 55; (with_reducible refine (spec_l1In.calls (l0.length : Int) 1 6 false _ A2.out).mono ?_); rintro e w' ⟨rfl, ⟨nd, rfl⟩⟩; (try first | exact ⟨rfl, _, World.drewN_drewN _ _ _⟩ | exact ⟨rfl, _, Eq.trans (World.drewN_drewN _ _ _) (congrArg (World.drewN _) (Nat.add_assoc _ _ _))⟩)))
    repeat (go_quiet (first | (go_at_call 55; (with_reducible refine (spec_l1In.calls (l0.length : Int) 1 6 false _ A2.out).mono ?_); rintro e w' ⟨rfl, ⟨nd, rfl⟩⟩; (try first | exact ⟨rfl, _, World.drewN_drewN _ _ _⟩ | exact ⟨rfl, _, Eq.trans (World.drewN_drewN _ _ _) (congrArg (World.drewN _) (Nat.add_assoc _ _ _))⟩))); try go_wp2_with (first | (go_at_call 55; (with_reducible refine (spec_l1In.calls (l0.length : Int) 1 6 false _ A2.out).mono ?_); rintro e w' ⟨rfl, ⟨nd, rfl⟩⟩; (try first | exact ⟨rfl, _, World.drewN_drewN _ _ _⟩ | exact ⟨rfl, _, Eq.trans (World.drewN_drewN _ _ _) (congrArg (World.drewN _) (Nat.add_assoc _ _ _))⟩))))
    go_ret
    exact ⟨by first | rfl | (simp; done) | (simp [*]; done), by repeat (first | exact Drawn0.refl _ | apply Drawn0.step)⟩

end Go.Proofs.Ytfgbohochpjkfaa.G

namespace Go.Proofs.Ytfgbohochpjkfaa.G
open Go.RowKit Go.Proofs.YtfgbohochpjkfaaW.PrintWords Go.Proofs.YtfgbohochpjkfaaW.PrintLast
set_option linter.unusedVariables false
set_option linter.unusedSimpArgs false
def okC (row : List Int) (k : Int) : Prop := -1 ≤ rd row k ∧ rd row k ≤ 9999
def rowOk (t : List (List Int)) (i : Int) : Prop := ((rd_L1 t i).length : Int) = ((rd_L1 t 0).length : Int) ∧ All (okC (rd_L1 t i)) 0 ((rd_L1 t i).length : Int)
def Costs (t : List (List Int)) : Prop := (1 ≤ (t.length : Int) ∧ (t.length : Int) ≤ 6) ∧ ((t.length : Int) ≤ ((rd_L1 t 0).length : Int) ∧ ((rd_L1 t 0).length : Int) ≤ 6) ∧ All (rowOk t) 0 (t.length : Int)
theorem cont52_eq (row : List Int) : slices_ContainsFunc_int_int_52.f row = some (chk (All (okC row) 0 (row.length : Int)) false true) := by
  unfold slices_ContainsFunc_int_int_52.f
  congr 1
  have hb : (bad52 row row.length 0 ≥ 0) ↔ ¬ All (okC row) 0 (row.length : Int) := by
    rw [bad52_iff]
    constructor
    · intro h a
      refine h fun j _ hj => ?_
      have := a (j : Int) (by omega) (by omega)
      unfold okC at this
      unfold good52; exact decide_eq_true this
    · intro h a
      refine h fun j h0 hj => ?_
      have := a j.toNat (by omega) (by omega)
      rw [show ((j.toNat : Nat) : Int) = j from by omega] at this
      unfold good52 at this
      have h' := of_decide_eq_true this
      exact h'
  by_cases ha : All (okC row) 0 (row.length : Int)
  · rw [chk_pos ha]; exact decide_eq_false (fun x => hb.1 x ha)
  · rw [chk_neg ha]; exact decide_eq_true (hb.2 ha)
theorem impl_costs0 (t : List (List Int)) : Ev (fun k => impl_IsValidCosts.f k t) (chk (Costs t) true false) := by
  have no : ¬ Costs t → Ev (fun k => impl_IsValidCosts.j0 k t true) (chk (Costs t) true false) := by
    intro h
    rw [chk_neg h]
    refine Ev.step (fun k => by rw [impl_IsValidCosts.j0]) ?_
    simp only [if_true]; exact Ev.now _
  unfold impl_IsValidCosts.f
  simp only [impl_within_eq, Option.bind_some, decide_eq_true_eq]
  refine Ev.ite (fun h1 => ?_) (fun h1 => no (fun c => h1 c.1))
  simp (disch := omega) only [if_pos]
  by_cases h2 : (t.length : Int) ≤ ((rd_L1 t 0).length : Int) ∧ ((rd_L1 t 0).length : Int) ≤ 6
  · rw [decide_eq_true h2]
    refine Ev.step (fun k => by rw [impl_IsValidCosts.j0]) ?_
    simp only [Bool.not_true, Bool.false_eq_true, if_false]
    rw [chk_congr (show Costs t ↔ All (rowOk t) 0 (t.length : Int) from ⟨fun c => c.2.2, fun c => ⟨h1, h2, c⟩⟩)]
    refine Ev.check (fun k i => impl_IsValidCosts.l0 k t t (t.length : Int) i) (t.length : Int) (rowOk t) true false 0 ?_ ?_ 0 (by omega) (by omega)
    · refine Ev.step (fun k => by rw [impl_IsValidCosts.l0]) ?_
      simp only [Int.lt_irrefl, if_false]
      exact Ev.now _
    · intro i h0 hlt r hr
      refine Ev.step (fun k => by rw [impl_IsValidCosts.l0]) ?_
      simp (disch := omega) only [if_pos, wrap64_id, cont52_eq, Option.bind_some]
      refine Ev.ite (fun g1 => ?_) (fun g1 => ?_)
      · refine Ev.ite (fun g2 => ?_) (fun g2 => ?_)
        · rw [chk_neg (fun m : rowOk t i => by rw [chk_pos m.2] at g2; cases g2)]; exact Ev.now _
        · have ha : All (okC (rd_L1 t i)) 0 ((rd_L1 t i).length : Int) := by
            apply Classical.byContradiction; intro hn; rw [chk_neg hn] at g2; exact g2 rfl
          rw [chk_pos ⟨g1, ha⟩]; exact hr
      · rw [chk_neg (fun m : rowOk t i => g1 m.1)]; exact Ev.now _
  · rw [decide_eq_false h2]
    exact no (fun c => h2 c.2.1)
theorem impl_costs (t : List (List Int)) (hl : ∀ i, 0 ≤ i → i < (t.length : Int) → ((rd_L1 t i).length : Int) ≤ 1099511627776) : Ev (fun k => impl_IsValidCosts.f k t) (chk (Costs t) true false) := impl_costs0 t
theorem spec_costs (t : List (List Int)) (hl : ∀ i, 0 ≤ i → i < (t.length : Int) → ((rd_L1 t i).length : Int) ≤ 1099511627776) : Ev (fun k => spec_l17Good.f k t) (chk (Costs t) true false) := by
  unfold spec_l17Good.f
  simp only [spec_l1In_eq, Option.bind_some, decide_eq_true_eq]
  refine Ev.ite (fun h1 => ?_) (fun h1 => ?_)
  · have key : Costs t ↔ All (fun i => ((t.length : Int) ≤ ((rd_L1 t i).length : Int) ∧ ((rd_L1 t i).length : Int) ≤ 6) ∧ rowOk t i) 0 (t.length : Int) := by
      constructor
      · intro c i i0 i1
        have m := c.2.2 i i0 i1
        exact ⟨by rw [m.1]; exact c.2.1, m⟩
      · intro a
        exact ⟨h1, (a 0 (by omega) (by omega)).1, fun i i0 i1 => (a i i0 i1).2⟩
    rw [chk_congr key]
    refine Ev.check (fun k i => spec_l17Good.l0 k t i) (t.length : Int) _ true false 0 ?_ ?_ 0 (by omega) (by omega)
    · refine Ev.step (fun k => by rw [spec_l17Good.l0]) ?_
      simp only [Int.lt_irrefl, if_false]
      exact Ev.now _
    · intro i h0 hlt r hr
      have no : ¬ (((t.length : Int) ≤ ((rd_L1 t i).length : Int) ∧ ((rd_L1 t i).length : Int) ≤ 6) ∧ rowOk t i) → Ev (fun k => spec_l17Good.j1 k t i true) (chk (((t.length : Int) ≤ ((rd_L1 t i).length : Int) ∧ ((rd_L1 t i).length : Int) ≤ 6) ∧ rowOk t i) r false) := by
        intro h
        rw [chk_neg h]
        refine Ev.step (fun k => by rw [spec_l17Good.j1]) ?_
        simp only [if_true]; exact Ev.now _
      refine Ev.step (fun k => by rw [spec_l17Good.l0]) ?_
      simp (disch := omega) only [if_pos, wrap64_id, spec_l1In_eq, Option.bind_some, decide_eq_true_eq]
      refine Ev.ite (fun g1 => ?_) (fun g1 => no (fun m => g1 m.1))
      by_cases g2 : ((rd_L1 t i).length : Int) = ((rd_L1 t 0).length : Int)
      · rw [show (((rd_L1 t i).length : Int) != ((rd_L1 t 0).length : Int)) = false from by rw [g2]; exact bne_self_eq_false _]
        refine Ev.step (fun k => by rw [spec_l17Good.j1]) ?_
        simp only [Bool.false_eq_true, if_false]
        have inner := Ev.check (fun k j => spec_l17Good.l1 k t i j) ((rd_L1 t i).length : Int) (okC (rd_L1 t i)) r false 0 (by
          refine Ev.step (fun k => by rw [spec_l17Good.l1]) ?_
          simp (disch := omega) only [if_pos, Int.lt_irrefl, if_false, wrap64_id]
          exact hr) (by
          intro j j0 jlt r' hr'
          refine Ev.step (fun k => by rw [spec_l17Good.l1]) ?_
          simp (disch := omega) only [if_pos, wrap64_id, spec_l1In_eq, Option.bind_some, decide_eq_true_eq]
          refine Ev.ite (fun h => ?_) (fun h => ?_)
          · rw [chk_pos (show okC (rd_L1 t i) j from h)]; exact hr'
          · rw [chk_neg (show ¬ okC (rd_L1 t i) j from h)]; exact Ev.now _) 0 (by omega) (by omega)
        rwa [chk_congr (show All (okC (rd_L1 t i)) 0 ((rd_L1 t i).length : Int) ↔ (((t.length : Int) ≤ ((rd_L1 t i).length : Int) ∧ ((rd_L1 t i).length : Int) ≤ 6) ∧ rowOk t i) from ⟨fun a => ⟨g1, g2, a⟩, fun a => a.2.2⟩)] at inner
      · rw [show (((rd_L1 t i).length : Int) != ((rd_L1 t 0).length : Int)) = true from by rw [bne_iff_ne]; exact g2]
        exact no (fun m => g2 m.2.1)
  · rw [chk_neg (fun c : Costs t => h1 c.1)]
    exact Ev.now _
end Go.Proofs.Ytfgbohochpjkfaa.G

/- The contract of CountAssignments: of a valid table, the number of its assignments. -/
namespace Go.Proofs.Ytfgbohochpjkfaa.G
open Go.RowKit Go.Proofs.YtfgbohochpjkfaaW.PrintWords Go.Proofs.YtfgbohochpjkfaaW.PrintLast
set_option linter.unusedVariables false
set_option linter.unusedSimpArgs false
theorem costs_true {k : Nat} {t : List (List Int)} (h : impl_IsValidCosts.f k t = some true) : Costs t := by
  have e1 := impl_costs0 t
  have e2 := Ev.of (g := fun k => impl_IsValidCosts.f k t) (fun k => impl_IsValidCosts.mono t k) h
  have e := Ev.same e1 e2
  exact chk_true.1 e
theorem rd_L1_1000 {t : List (List Int)} (hc : Costs t) (i : Int) (h0 : 0 ≤ i) : (rd_L1 t i).length ≤ 1000 := by
  obtain ⟨h1, h2, h3⟩ := hc
  by_cases h : i < (t.length : Int)
  · have := (h3 i h0 h).1
    omega
  · unfold rd_L1
    rw [List.getD_eq_getElem?_getD, List.getElem?_eq_none (by omega)]
    simp
theorem Keeps.of_set (w : World) (g i : Nat) (u : Value) : Keeps (fun k => k = g) w (w.setCell ⟨g, i, none⟩ u) := ⟨rfl, rfl, rfl, by simp [World.setCell], fun k hk hn => Below.heap_setCell w ⟨g, i, none⟩ u k hn⟩
/-- How the count stands in its box. -/
def CountI (Bc : Nat) (w : World) (s : Int) : Prop := w.heap[Bc]? = some (.cells #[.int .i64 s] 3 (0, 0))
set_option maxHeartbeats 2000000 in
set_option maxRecDepth 100000 in
theorem count_call (Bc : Nat) (w : World) (s : Int) (v : Value) (h : CountI Bc w s) : Calls Try.prog 64 #[v, .pointer (some ⟨Bc, 0, none⟩)] w fun e w' => e = .returned (.tuple #[]) ∧ CountI Bc w' (wrap64 (s + 1)) ∧ Keeps (fun k => k = Bc) w w' := by
  have hX := Aside0.mk h
  have hc : w.cell? ⟨Bc, 0, none⟩ = some (.int .i64 s) := (blk_cell h 0).trans rfl
  have hf := blk_frozen h 0
  clear h
  go_enter Try.func64, Try.ntmps64
  go_wp2
  go_end0
  have hk := Keeps.of_set w Bc 0 (.int .i64 (wrap64 (s + 1)))
  first
  | exact ⟨rfl, blk_set hX.out 0 _, hk⟩
  | (simp only [i64_w]; exact ⟨rfl, blk_set hX.out 0 _, hk⟩)
theorem count_back (Bc B0 : Nat) : Back (σ := Int) 64 #[.pointer (some ⟨Bc, 0, none⟩)] (fun k => k = Bc) B0 (CountI Bc) (fun _ => True) (fun s _ => wrap64 (s + 1)) where
  enters := fun args w => enters_ Try.func64 (by kernel_rfl) rfl args w
  call := fun w s v l h _ _ => count_call Bc w s v h
  stay := fun w w' s h hb => blk_below h hb
  low := fun w s h k hk => by subst hk; exact blk_lt h
theorem count_below {w w2 w5 : World} {g : Nat} (h : Below w.heap.size w w2) (k : Keeps (fun k => k = g) w2 w5) (hg : w.heap.size ≤ g) : Below w.heap.size w w5 :=
  ⟨k.os.trans h.os, k.tape.trans h.tape, k.output.trans h.output, Nat.le_trans h.size k.size, fun i hi => (k.block i (Nat.lt_of_lt_of_le hi h.size) (fun e => by omega)).trans (h.block i hi)⟩
noncomputable def impl_CountAssignments.f (k : Nat) (t : List (List Int)) : Option (Int × Bool) := (impl_IsValidCosts.f k t).bind fun b => if b = true then some ((asgs t t.length []).foldl (fun s _ => wrap64 (s + 1)) 0, true) else some (0, false)
theorem impl_CountAssignments.mono : ∀ a0 k, LeO (impl_CountAssignments.f k a0) (impl_CountAssignments.f (k + 1) a0) := by
  intro a0 k
  unfold impl_CountAssignments.f
  exact LeO.bind (impl_IsValidCosts.mono _ _) (fun _ => LeO.refl _)
set_option maxHeartbeats 2000000 in
set_option maxRecDepth 100000 in
theorem impl_CountAssignments.calls (k : Nat) (A0 : Option Addr) (c0 : Nat) (l0 : List (List Int)) (r1 : Int) (r2 : Bool) (w : World) (hr0 : Kd.C (Kd.slice 3 (Kd.int .i64)) w A0 l0.length l0) (hc0 : l0.length ≤ c0) (h : impl_CountAssignments.f k l0 = some (r1, r2)) :
    Calls Try.prog 32 #[.slice A0 l0.length c0] w fun e w' => e = .returned (.tuple #[.int .i64 r1, .bool r2]) ∧ Below w.heap.size w w' := by
  obtain ⟨b, hb, h⟩ := Option.bind_eq_some_iff.mp h
  have HR := Aside0.mk hr0
  have HV := Aside0.mk hb
  clear hr0
  cases b with
  | false =>
    rw [if_neg (by decide)] at h
    obtain ⟨rfl, rfl⟩ := Prod.mk.inj (Option.some.inj h)
    clear h hb
    go_enter Try.func32, Try.ntmps32
    go_wp2_with (go_at_call 17; refine (impl_IsValidCosts.calls k A0 c0 l0 false _ HR.out hc0 HV.out).mono ?_; rintro e w' ⟨rfl, hd⟩)
    go_ret2
    exact ⟨rfl, hd.below⟩
  | true =>
    rw [if_pos rfl] at h
    obtain ⟨rfl, rfl⟩ := Prod.mk.inj (Option.some.inj h)
    have HC := Aside0.mk (costs_true hb)
    clear h hb
    go_enter Try.func32, Try.ntmps32
    go_wp2_with (first | (go_at_call 17; refine (impl_IsValidCosts.calls k A0 c0 l0 true _ HR.out hc0 HV.out).mono ?_; rintro e w1 ⟨rfl, hd⟩; have HD := Aside0.mk hd.below; clear hd) | ((with_reducible refine gate_dst (N := 4) rfl ?_); refine box_event ?hg4 (N := 4) ?hd4 (cs := #[.int .i64 0]) (t := 3) ?hr4 ?_; (case hd4 => rfl); (case hg4 => rfl); (case hr4 => first | (go_simp; done) | (go_simp; rfl)); intro g1 hgg w2 hbox hbb; have HG := Aside0.mk hgg; have hz1 : w2.cell? ⟨g1, 0, none⟩ = some (.int .i64 0) := (blk_cell hbox 0).trans rfl; have hz2 := blk_frozen hbox 0; have HI : Aside0 (CountI g1 (w2.setCell ⟨g1, 0, none⟩ (.int .i64 0)) 0) := Aside0.mk (blk_set hbox 0 (.int .i64 0)); have HB : Aside0 (Below w.heap.size w (w2.setCell ⟨g1, 0, none⟩ (.int .i64 0))) := Aside0.mk (Below.setCell (below_step HD.out hbb) (by show w.heap.size ≤ g1; rw [hgg]; exact HD.out.size) _); clear hgg hbox hbb) | (go_at_call 63; refine (assignments_any (count_back g1 w.heap.size) HR.out hc0 (by have := HC.out.1; omega) (rd_L1_1000 HC.out) _ 0 (fun _ _ => trivial) HB.out (fun k hk => by rw [hk, HG.out]; exact HD.out.size) HI.out).mono ?_; rintro e w5 ⟨rfl, hI5, hK5⟩; have hz5 : w5.cell? ⟨g1, 0, none⟩ = some (.int .i64 ((asgs l0 l0.length []).foldl (fun s _ => wrap64 (s + 1)) 0)) := (blk_cell hI5 0).trans rfl; have HE : Aside0 (Below w.heap.size w w5) := Aside0.mk (count_below HB.out hK5 (by rw [HG.out]; exact HD.out.size)); clear hI5 hK5))
    go_ret2
    exact ⟨rfl, HE.out⟩
end Go.Proofs.Ytfgbohochpjkfaa.G

-- Written by wip/tools/gen.py out of the translation (the kit's printer, one namespace a seat). Lean checks it.
namespace Go.Proofs.Ytfgbohochpjkfaa.G
open Go.RowKit Go.Proofs.YtfgbohochpjkfaaW.PrintWords Go.Proofs.YtfgbohochpjkfaaW.PrintLast Go.Proofs.YtfgbohochpjkfaaW.PrintMore
attribute [local go_sem] max2_int min2_int max_two min_two max_three min_three max_four min_four   -- for this text's walks alone
set_option linter.unusedVariables false
set_option linter.unusedSimpArgs false

/-! ### impl_IsAssignment: function 21 -/
mutual
def impl_IsAssignment.j0 : Nat → List (List Int) → List Int → Bool → Option (Bool)
  | 0, _, _, _ => none
  | k + 1, x0, x1, x16 => if x16 = true then (some false) else (impl_IsAssignment.l0 k x0 x1 x1 (x1.length : Int) 0)
def impl_IsAssignment.l0 : Nat → List (List Int) → List Int → List Int → Int → Int → Option (Bool)
  | 0, _, _, _, _, _ => none
  | k + 1, x0, x1, x17, x18, x19 => if x19 < x18 then (if 0 ≤ x19 then (if x19 < (x17.length : Int) then (if 0 < (x0.length : Int) then ((impl_within.f (rd x17 x19) 0 (wrap64 (((rd_L1 x0 0).length : Int) - 1))).bind fun t170 => (if t170 = true then (if x19 < (x0.length : Int) then (if 0 ≤ (rd x17 x19) then (if (rd x17 x19) < ((rd_L1 x0 x19).length : Int) then (if (rd (rd_L1 x0 x19) (rd x17 x19)) < 0 then (some false) else (if x19 ≤ (x1.length : Int) then ((slices_Contains_int_int.f k (x1.take (x19 : Int).toNat) (rd x17 x19)).bind fun t174 => (if t174 = true then (some false) else (impl_IsAssignment.l0 k x0 x1 x17 x18 (wrap64 (x19 + 1))))) else (none))) else (none)) else (none)) else (none)) else (some false))) else (none)) else (none)) else (none)) else (some true)
end
def impl_IsAssignment.f (k : Nat) (l0 : List (List Int)) (l1 : List Int) : Option (Bool) := (impl_IsValidCosts.f k l0).bind fun t167 => (if t167 = true then (impl_IsAssignment.j0 k l0 l1 ((l1.length : Int) != (l0.length : Int))) else (impl_IsAssignment.j0 k l0 l1 true))
theorem impl_IsAssignment.mono_l : ∀ k, (∀ y0 y1 y2, LeO (impl_IsAssignment.j0 k y0 y1 y2) (impl_IsAssignment.j0 (k + 1) y0 y1 y2)) ∧ (∀ y0 y1 y2 y3 y4, LeO (impl_IsAssignment.l0 k y0 y1 y2 y3 y4) (impl_IsAssignment.l0 (k + 1) y0 y1 y2 y3 y4))
  | 0 => ⟨fun _ _ _ r h => by simp [impl_IsAssignment.j0] at h, fun _ _ _ _ _ r h => by simp [impl_IsAssignment.l0] at h⟩
  | k + 1 => by
    obtain ⟨ih0, ih1⟩ := impl_IsAssignment.mono_l k
    refine ⟨?_, ?_⟩
    · intro y0 y1 y2
      unfold impl_IsAssignment.j0
      repeat' first
      | (with_reducible exact ih0 _ _ _)
      | (with_reducible exact ih1 _ _ _ _ _)
      | (with_reducible exact impl_IsValidCosts.mono _ _)
      | (with_reducible exact slices_Contains_int_int.mono _ _ _)
      | (with_reducible exact LeO.refl _)
      | (with_reducible exact LeO.none _)
      | (with_reducible refine LeO.ite ?_ ?_)
      | (with_reducible refine LeO.bind ?_ (fun _ => ?_))
      | exact ih0 _ _ _
      | exact ih1 _ _ _ _ _
      | exact impl_IsValidCosts.mono _ _
      | exact slices_Contains_int_int.mono _ _ _
      | exact LeO.none _
      | refine LeO.ite ?_ ?_
      | refine LeO.bind ?_ (fun _ => ?_)
    · intro y0 y1 y2 y3 y4
      unfold impl_IsAssignment.l0
      repeat' first
      | (with_reducible exact ih0 _ _ _)
      | (with_reducible exact ih1 _ _ _ _ _)
      | (with_reducible exact impl_IsValidCosts.mono _ _)
      | (with_reducible exact slices_Contains_int_int.mono _ _ _)
      | (with_reducible exact LeO.refl _)
      | (with_reducible exact LeO.none _)
      | (with_reducible refine LeO.ite ?_ ?_)
      | (with_reducible refine LeO.bind ?_ (fun _ => ?_))
      | exact ih0 _ _ _
      | exact ih1 _ _ _ _ _
      | exact impl_IsValidCosts.mono _ _
      | exact slices_Contains_int_int.mono _ _ _
      | exact LeO.none _
      | refine LeO.ite ?_ ?_
      | refine LeO.bind ?_ (fun _ => ?_)
theorem impl_IsAssignment.mono : ∀ a0 a1 k, LeO (impl_IsAssignment.f k a0 a1) (impl_IsAssignment.f (k + 1) a0 a1) := by
  intro a0 a1 k
  obtain ⟨ih0, ih1⟩ := impl_IsAssignment.mono_l k
  unfold impl_IsAssignment.f
  repeat' first
      | (with_reducible exact ih0 _ _ _)
      | (with_reducible exact ih1 _ _ _ _ _)
      | (with_reducible exact impl_IsValidCosts.mono _ _)
      | (with_reducible exact slices_Contains_int_int.mono _ _ _)
      | (with_reducible exact LeO.refl _)
      | (with_reducible exact LeO.none _)
      | (with_reducible refine LeO.ite ?_ ?_)
      | (with_reducible refine LeO.bind ?_ (fun _ => ?_))
      | exact ih0 _ _ _
      | exact ih1 _ _ _ _ _
      | exact impl_IsValidCosts.mono _ _
      | exact slices_Contains_int_int.mono _ _ _
      | exact LeO.none _
      | refine LeO.ite ?_ ?_
      | refine LeO.bind ?_ (fun _ => ?_)
set_option maxHeartbeats 8000000 in
set_option maxRecDepth 100000 in
theorem impl_IsAssignment.calls (k : Nat) (A0 : Option Addr) (c0 : Nat) (l0 : List (List Int)) (A1 : Option Addr) (c1 : Nat) (l1 : List Int) (r : Bool) (w : World) (hr0 : Kd.C (Kd.slice 3 (Kd.int .i64)) w A0 l0.length l0) (hc0 : l0.length ≤ c0) (hr1 : Kd.C (Kd.int .i64) w A1 l1.length l1) (hc1 : l1.length ≤ c1) (h : impl_IsAssignment.f k l0 l1 = some r) :
    Calls Try.prog 21 #[.slice A0 l0.length c0, .slice A1 l1.length c1] w fun e w' => e = .returned (.bool r) ∧ Drawn0 w w' := by
  have HR0 := Aside0.mk hr0
  have HC0 := Aside0.mk hc0
  clear hr0 hc0
  have HR1 := Aside0.mk hr1
  have HC1 := Aside0.mk hc1
  clear hr1 hc1
  have H : ((impl_IsValidCosts.f k l0).bind fun t167 => (if t167 = true then (impl_IsAssignment.j0 k l0 l1 ((l1.length : Int) != (l0.length : Int))) else (impl_IsAssignment.j0 k l0 l1 true))) = some r := h
  clear h
  have HC3 := Aside0.mk H
  clear H
  go_enter Try.func21, Try.ntmps21
  go_upto_region 1 with (fail)
  go_cut [16] (fun v16 wc => ∃ (kq : Nat) (x16_2 : Bool), v16 = .bool x16_2 ∧ Aside0 (impl_IsAssignment.j0 kq l0 l1 x16_2 = some r) ∧ Aside0 (kq ≤ k) ∧ Drawn0 w wc)
  case first =>
    have H := HC3.out
    clear HC3
    replace H := Option.bind_eq_some_iff.mp H
    obtain ⟨t167, A40, H⟩ := H
    replace H : (if t167 = true then (impl_IsAssignment.j0 k l0 l1 ((l1.length : Int) != (l0.length : Int))) else (impl_IsAssignment.j0 k l0 l1 true)) = some r := H
    have A4 := Aside0.mk A40
    clear A40
    by_cases c5 : t167 = true
    · subst c5
      have H1 : (impl_IsAssignment.j0 k l0 l1 ((l1.length : Int) != (l0.length : Int))) = some r := by rw [if_pos rfl] at H; exact H
      clear H
      have H := H1
      clear H1
      have H' := Aside0.mk H
      clear H
      go_wp2_with (first | ((with_reducible refine gate_callee (f := 17) rfl ?_); refine goesL_ (some 8) rfl rfl Try.func17 (by kernel_rfl) rfl #[.slice A0 l0.length c0] rfl (by (try simp only [List.map_toArray, List.map_cons, List.map_nil]); first | done | rfl | (simp only [List.length_drop, List.length_take]; rfl)) ?_; (with_reducible refine (impl_IsValidCosts.calls k _ _ l0 true _ ?side1 ?side2 A4.out).mono ?_); (case side1 => repeat (first | exact HR0.out | (with_reducible refine Kd.C_alloc ?_ _) | (with_reducible refine Kd.C_drewN ?_ _) | (with_reducible refine Kd.C_drew ?_))); (case side2 => exact HC0.out); rintro e w' ⟨rfl, ⟨nd, rfl⟩⟩; refine ⟨_, rfl, ?_⟩))
      go_meet
      case rel => exact ⟨_, (((l1.length : Int) != (l0.length : Int))), (by first | rfl | (simp; done) | (simp [*]; done)), H', ⟨by first | omega | exact Nat.le_refl _⟩, by repeat (first | exact Drawn0.refl _ | apply Drawn0.step)⟩
    · replace c5 := Bool.eq_false_iff.mpr c5
      subst c5
      have H1 : (impl_IsAssignment.j0 k l0 l1 true) = some r := by rw [if_neg (show ¬ (false = true) by decide)] at H; exact H
      clear H
      have H := H1
      clear H1
      have H' := Aside0.mk H
      clear H
      go_wp2_with (first | ((with_reducible refine gate_callee (f := 17) rfl ?_); refine goesL_ (some 8) rfl rfl Try.func17 (by kernel_rfl) rfl #[.slice A0 l0.length c0] rfl (by (try simp only [List.map_toArray, List.map_cons, List.map_nil]); first | done | rfl | (simp only [List.length_drop, List.length_take]; rfl)) ?_; (with_reducible refine (impl_IsValidCosts.calls k _ _ l0 false _ ?side1 ?side2 A4.out).mono ?_); (case side1 => repeat (first | exact HR0.out | (with_reducible refine Kd.C_alloc ?_ _) | (with_reducible refine Kd.C_drewN ?_ _) | (with_reducible refine Kd.C_drew ?_))); (case side2 => exact HC0.out); rintro e w' ⟨rfl, ⟨nd, rfl⟩⟩; refine ⟨_, rfl, ?_⟩))
      go_meet
      case rel => exact ⟨_, (true), (by first | rfl | (simp; done) | (simp [*]; done)), H', ⟨by first | omega | exact Nat.le_refl _⟩, by repeat (first | exact Drawn0.refl _ | apply Drawn0.step)⟩
  case rest =>
    clear HC3
    try clear c1
    try clear c2
    try clear p2
    try clear c5
    obtain ⟨kq, x16_2, rfl, HA, HJ2, ⟨mc2, rfl⟩⟩ := hcut
    cases kq with
    | zero => exact absurd HA.out (by simp [impl_IsAssignment.j0])
    | succ kj2 =>
      have H := HA.out
      clear HA
      simp only [impl_IsAssignment.j0] at H
      by_cases c6 : x16_2 = true
      · subst c6
        have H1 : (some false) = some r := by rw [if_pos rfl] at H; exact H
        clear H
        have H := H1
        clear H1
        obtain rfl := Option.some.inj H
        go_wp2
        go_ret
        exact ⟨by first | rfl | (simp; done) | (simp [*]; done), by repeat (first | exact Drawn0.refl _ | apply Drawn0.step)⟩
      · replace c6 := Bool.eq_false_iff.mpr c6
        subst c6
        have H1 : (impl_IsAssignment.l0 kj2 l0 l1 l1 (l1.length : Int) 0) = some r := by rw [if_neg (show ¬ (false = true) by decide)] at H; exact H
        clear H
        have H := H1
        clear H1
        have H' := Aside0.mk H
        clear H
        go_wp2
        go_loopg [19] kj2 (fun kq v19 w' => ∃ (x19_2 : Int), v19 = .int .i64 x19_2 ∧ Aside0 (impl_IsAssignment.l0 kq l0 l1 l1 (l1.length : Int) x19_2 = some r) ∧ Aside0 (kq ≤ kj2) ∧ Drawn0 w w')
        case atStart => exact ⟨(0), (by first | rfl | (simp; done) | (simp [*]; done)), H', ⟨Nat.le_refl _⟩, by repeat (first | exact Drawn0.refl _ | apply Drawn0.step)⟩
        case round =>
          clear H'
          try clear c1
          try clear c2
          try clear p2
          try clear c5
          try clear c6
          try clear p2
          obtain ⟨x19_2, rfl, HA, HK2, ⟨m2, rfl⟩⟩ := hrel
          cases gk with
          | zero => exact absurd HA.out (by simp [impl_IsAssignment.l0])
          | succ k2 =>
            have H := HA.out
            clear HA
            simp only [impl_IsAssignment.l0] at H
            by_cases c7 : x19_2 < (l1.length : Int)
            · rw [if_pos c7] at H
              have c7b0 : decide (x19_2 < (l1.length : Int)) = true := decide_eq_true c7
              clear c7
              by_cases c8 : 0 ≤ x19_2
              · rw [if_pos c8] at H
                have c8b0 : decide (0 ≤ x19_2) = true := decide_eq_true c8
                clear c8
                by_cases c9 : x19_2 < (l1.length : Int)
                · rw [if_pos c9] at H
                  have c9b0 : decide (x19_2 < (l1.length : Int)) = true := decide_eq_true c9
                  clear c9
                  by_cases c10 : 0 < (l0.length : Int)
                  · rw [if_pos c10] at H
                    have c10b0 : decide (0 < (l0.length : Int)) = true := decide_eq_true c10
                    have c10b1 : decide (0 < l0.length) = true := decide_eq_true (by omega)
                    clear c10
                    replace H := Option.bind_eq_some_iff.mp H
                    obtain ⟨t170, A110, H⟩ := H
                    replace H : (if t170 = true then (if x19_2 < (l0.length : Int) then (if 0 ≤ (rd l1 x19_2) then (if (rd l1 x19_2) < ((rd_L1 l0 x19_2).length : Int) then (if (rd (rd_L1 l0 x19_2) (rd l1 x19_2)) < 0 then (some false) else (if x19_2 ≤ (l1.length : Int) then ((slices_Contains_int_int.f k2 (l1.take (x19_2 : Int).toNat) (rd l1 x19_2)).bind fun t174 => (if t174 = true then (some false) else (impl_IsAssignment.l0 k2 l0 l1 l1 (l1.length : Int) (wrap64 (x19_2 + 1))))) else (none))) else (none)) else (none)) else (none)) else (some false)) = some r := H
                    have A11 := Aside0.mk A110
                    clear A110
                    by_cases c12 : t170 = true
                    · subst c12
                      have H1 : (if x19_2 < (l0.length : Int) then (if 0 ≤ (rd l1 x19_2) then (if (rd l1 x19_2) < ((rd_L1 l0 x19_2).length : Int) then (if (rd (rd_L1 l0 x19_2) (rd l1 x19_2)) < 0 then (some false) else (if x19_2 ≤ (l1.length : Int) then ((slices_Contains_int_int.f k2 (l1.take (x19_2 : Int).toNat) (rd l1 x19_2)).bind fun t174 => (if t174 = true then (some false) else (impl_IsAssignment.l0 k2 l0 l1 l1 (l1.length : Int) (wrap64 (x19_2 + 1))))) else (none))) else (none)) else (none)) else (none)) = some r := by rw [if_pos rfl] at H; exact H
                      clear H
                      have H := H1
                      clear H1
                      by_cases c13 : x19_2 < (l0.length : Int)
                      · rw [if_pos c13] at H
                        have c13b0 : decide (x19_2 < (l0.length : Int)) = true := decide_eq_true c13
                        clear c13
                        by_cases c14 : 0 ≤ (rd l1 x19_2)
                        · rw [if_pos c14] at H
                          have c14b0 : decide (0 ≤ (rd l1 x19_2)) = true := decide_eq_true c14
                          clear c14
                          by_cases c15 : (rd l1 x19_2) < ((rd_L1 l0 x19_2).length : Int)
                          · rw [if_pos c15] at H
                            have c15b0 : decide ((rd l1 x19_2) < ((rd_L1 l0 x19_2).length : Int)) = true := decide_eq_true c15
                            clear c15
                            by_cases c16 : (rd (rd_L1 l0 x19_2) (rd l1 x19_2)) < 0
                            · rw [if_pos c16] at H
                              have c16b0 : decide ((rd (rd_L1 l0 x19_2) (rd l1 x19_2)) < 0) = true := decide_eq_true c16
                              clear c16
                              obtain rfl := Option.some.inj H
                              have p168 : 0 ≤ (x19_2 : Int) := of_decide_eq_true (by first | (with_reducible assumption) | assumption)
                              have q168 : x19_2 < (l1.length : Int) := of_decide_eq_true (by first | (with_reducible assumption) | assumption)
                              obtain ⟨ad168, e168, hx168_0⟩ := Kd.at_int HR1.out x19_2 p168 q168
                              cases e168
                              replace p168 := eq_true p168
                              replace q168 := eq_true q168
                              have p169 : 0 ≤ (0 : Int) := (by omega)
                              have q169 : 0 < (l0.length : Int) := of_decide_eq_true (by first | (with_reducible assumption) | assumption)
                              obtain ⟨ad169, A169_0, c169_0, e169, hx169_0, hl169_0, hi169_0⟩ := at_L1 HR0.out 0 p169 q169
                              cases e169
                              have qi169 : (0 < l0.length) = True := eq_true (by omega)
                              (try rw [show ((0 : Int)).toNat = 0 from rfl] at hx169_0)
                              (try rw [Addr.add_zero'] at hx169_0)
                              have HR169_0 := Aside0.mk hi169_0
                              have HC169_0 := Aside0.mk hl169_0
                              clear hi169_0 hl169_0
                              replace p169 := eq_true p169
                              replace q169 := eq_true q169
                              go_wp2_with (first | ((with_reducible refine gate_callee (f := 50) rfl ?_); refine goesL_ (some 30) rfl rfl Try.func50 (by kernel_rfl) rfl #[.int .i64 (rd l1 x19_2), .int .i64 0, .int .i64 (wrap64 (((rd_L1 l0 0).length : Int) - 1))] rfl (by (try simp only [List.map_toArray, List.map_cons, List.map_nil]); first | done | rfl | (simp only [List.length_drop, List.length_take]; rfl)) ?_; (with_reducible refine (impl_within.calls (rd l1 x19_2) 0 (wrap64 (((rd_L1 l0 0).length : Int) - 1)) true _ A11.out).mono ?_); rintro e w' ⟨rfl, ⟨nd, rfl⟩⟩; refine ⟨_, rfl, ?_⟩; have p171 : 0 ≤ (x19_2 : Int) := of_decide_eq_true (by first | (with_reducible assumption) | assumption); have q171 : x19_2 < (l0.length : Int) := of_decide_eq_true (by first | (with_reducible assumption) | assumption); obtain ⟨ad171, A171_0, c171_0, e171, hx171_0, hl171_0, hi171_0⟩ := at_L1 HR0.out x19_2 p171 q171; obtain rfl : ad169 = ad171 := (by injection e171); have HR171_0 := Aside0.mk hi171_0; have HC171_0 := Aside0.mk hl171_0; clear hi171_0 hl171_0; replace p171 := eq_true p171; replace q171 := eq_true q171; have p172 : 0 ≤ ((rd l1 x19_2) : Int) := of_decide_eq_true (by first | (with_reducible assumption) | assumption); have q172 : (rd l1 x19_2) < ((rd_L1 l0 x19_2).length : Int) := of_decide_eq_true (by first | (with_reducible assumption) | assumption); obtain ⟨ad172, e172, hx172_0⟩ := Kd.at_int HR171_0.out (rd l1 x19_2) p172 q172; cases e172; replace p172 := eq_true p172; replace q172 := eq_true q172))
                              go_ret
                              exact ⟨by first | rfl | (simp; done) | (simp [*]; done), by repeat (first | exact Drawn0.refl _ | apply Drawn0.step)⟩
                            · rw [if_neg c16] at H
                              have c16b0 : decide ((rd (rd_L1 l0 x19_2) (rd l1 x19_2)) < 0) = false := decide_eq_false c16
                              clear c16
                              have c17b0 := eq_true (of_decide_eq_true (by first | (with_reducible assumption) | assumption) : 0 ≤ x19_2)
                              by_cases c18 : x19_2 ≤ (l1.length : Int)
                              · rw [if_pos c18] at H
                                have c18b0 := eq_true c18
                                have c18b1 : decide (x19_2 ≤ (l1.length : Int)) = true := decide_eq_true c18
                                clear c18
                                replace H := Option.bind_eq_some_iff.mp H
                                obtain ⟨t174, A190, H⟩ := H
                                replace H : (if t174 = true then (some false) else (impl_IsAssignment.l0 k2 l0 l1 l1 (l1.length : Int) (wrap64 (x19_2 + 1)))) = some r := H
                                have A19 := Aside0.mk A190
                                clear A190
                                by_cases c20 : t174 = true
                                · subst c20
                                  have H1 : (some false) = some r := by rw [if_pos rfl] at H; exact H
                                  clear H
                                  have H := H1
                                  clear H1
                                  obtain rfl := Option.some.inj H
                                  have p168 : 0 ≤ (x19_2 : Int) := of_decide_eq_true (by first | (with_reducible assumption) | assumption)
                                  have q168 : x19_2 < (l1.length : Int) := of_decide_eq_true (by first | (with_reducible assumption) | assumption)
                                  obtain ⟨ad168, e168, hx168_0⟩ := Kd.at_int HR1.out x19_2 p168 q168
                                  cases e168
                                  replace p168 := eq_true p168
                                  replace q168 := eq_true q168
                                  have p169 : 0 ≤ (0 : Int) := (by omega)
                                  have q169 : 0 < (l0.length : Int) := of_decide_eq_true (by first | (with_reducible assumption) | assumption)
                                  obtain ⟨ad169, A169_0, c169_0, e169, hx169_0, hl169_0, hi169_0⟩ := at_L1 HR0.out 0 p169 q169
                                  cases e169
                                  have qi169 : (0 < l0.length) = True := eq_true (by omega)
                                  (try rw [show ((0 : Int)).toNat = 0 from rfl] at hx169_0)
                                  (try rw [Addr.add_zero'] at hx169_0)
                                  have HR169_0 := Aside0.mk hi169_0
                                  have HC169_0 := Aside0.mk hl169_0
                                  clear hi169_0 hl169_0
                                  replace p169 := eq_true p169
                                  replace q169 := eq_true q169
                                  go_wp2_with (first | ((with_reducible refine gate_callee (f := 50) rfl ?_); refine goesL_ (some 30) rfl rfl Try.func50 (by kernel_rfl) rfl #[.int .i64 (rd l1 x19_2), .int .i64 0, .int .i64 (wrap64 (((rd_L1 l0 0).length : Int) - 1))] rfl (by (try simp only [List.map_toArray, List.map_cons, List.map_nil]); first | done | rfl | (simp only [List.length_drop, List.length_take]; rfl)) ?_; (with_reducible refine (impl_within.calls (rd l1 x19_2) 0 (wrap64 (((rd_L1 l0 0).length : Int) - 1)) true _ A11.out).mono ?_); rintro e w' ⟨rfl, ⟨nd, rfl⟩⟩; refine ⟨_, rfl, ?_⟩; have p171 : 0 ≤ (x19_2 : Int) := of_decide_eq_true (by first | (with_reducible assumption) | assumption); have q171 : x19_2 < (l0.length : Int) := of_decide_eq_true (by first | (with_reducible assumption) | assumption); obtain ⟨ad171, A171_0, c171_0, e171, hx171_0, hl171_0, hi171_0⟩ := at_L1 HR0.out x19_2 p171 q171; obtain rfl : ad169 = ad171 := (by injection e171); have HR171_0 := Aside0.mk hi171_0; have HC171_0 := Aside0.mk hl171_0; clear hi171_0 hl171_0; replace p171 := eq_true p171; replace q171 := eq_true q171; have p172 : 0 ≤ ((rd l1 x19_2) : Int) := of_decide_eq_true (by first | (with_reducible assumption) | assumption); have q172 : (rd l1 x19_2) < ((rd_L1 l0 x19_2).length : Int) := of_decide_eq_true (by first | (with_reducible assumption) | assumption); obtain ⟨ad172, e172, hx172_0⟩ := Kd.at_int HR171_0.out (rd l1 x19_2) p172 q172; cases e172; replace p172 := eq_true p172; replace q172 := eq_true q172; obtain ⟨i021, hi021, _, hsz21, _⟩ := info_parts info3; obtain ⟨hcut21, hA21, hC21⟩ := print_take_of (P := Try.prog) (Value.int .i64) 0 27 3 .i64 Try.underlying27 hi021 hsz21 (some ad168) c1 l1 x19_2 (of_decide_eq_true (by first | (with_reducible assumption) | assumption)) (of_decide_eq_true (by first | (with_reducible assumption) | assumption)) HC1.out; have HR173 := Aside0.mk (Kd.C_of_reads (h1 := fun _ => rfl) (hA21 _ (Kd.reads_of_C HR1.out))); have HC173 := Aside0.mk hC21; clear hA21 hC21 hi021 hsz21) | (go_at_call 54; refine calls_of_args (args' := #[.slice _ (l1.take (x19_2 : Int).toNat).length _, .int .i64 (rd l1 x19_2)]) (by first | rfl | (have q_ : (x19_2 : Int) < (l1.length : Int) := of_decide_eq_true (by first | (with_reducible assumption) | assumption); simp only [List.length_take]; rw [Nat.min_eq_left (by omega)])) ?_; (with_reducible refine (slices_Contains_int_int.calls k2 _ _ (l1.take (x19_2 : Int).toNat) (rd l1 x19_2) true _ ?side1 ?side2 A19.out).mono ?_); (case side1 => repeat (first | exact HR173.out | (with_reducible refine Kd.C_alloc ?_ _) | (with_reducible refine Kd.C_drewN ?_ _) | (with_reducible refine Kd.C_drew ?_))); (case side2 => exact HC173.out); rintro e w' ⟨rfl, ⟨nd, rfl⟩⟩))
                                  go_ret
                                  exact ⟨by first | rfl | (simp; done) | (simp [*]; done), by repeat (first | exact Drawn0.refl _ | apply Drawn0.step)⟩
                                · replace c20 := Bool.eq_false_iff.mpr c20
                                  subst c20
                                  have H1 : (impl_IsAssignment.l0 k2 l0 l1 l1 (l1.length : Int) (wrap64 (x19_2 + 1))) = some r := by rw [if_neg (show ¬ (false = true) by decide)] at H; exact H
                                  clear H
                                  have H := H1
                                  clear H1
                                  have H' := Aside0.mk H
                                  clear H
                                  have p168 : 0 ≤ (x19_2 : Int) := of_decide_eq_true (by first | (with_reducible assumption) | assumption)
                                  have q168 : x19_2 < (l1.length : Int) := of_decide_eq_true (by first | (with_reducible assumption) | assumption)
                                  obtain ⟨ad168, e168, hx168_0⟩ := Kd.at_int HR1.out x19_2 p168 q168
                                  cases e168
                                  replace p168 := eq_true p168
                                  replace q168 := eq_true q168
                                  have p169 : 0 ≤ (0 : Int) := (by omega)
                                  have q169 : 0 < (l0.length : Int) := of_decide_eq_true (by first | (with_reducible assumption) | assumption)
                                  obtain ⟨ad169, A169_0, c169_0, e169, hx169_0, hl169_0, hi169_0⟩ := at_L1 HR0.out 0 p169 q169
                                  cases e169
                                  have qi169 : (0 < l0.length) = True := eq_true (by omega)
                                  (try rw [show ((0 : Int)).toNat = 0 from rfl] at hx169_0)
                                  (try rw [Addr.add_zero'] at hx169_0)
                                  have HR169_0 := Aside0.mk hi169_0
                                  have HC169_0 := Aside0.mk hl169_0
                                  clear hi169_0 hl169_0
                                  replace p169 := eq_true p169
                                  replace q169 := eq_true q169
                                  go_wp2_with (first | ((with_reducible refine gate_callee (f := 50) rfl ?_); refine goesL_ (some 30) rfl rfl Try.func50 (by kernel_rfl) rfl #[.int .i64 (rd l1 x19_2), .int .i64 0, .int .i64 (wrap64 (((rd_L1 l0 0).length : Int) - 1))] rfl (by (try simp only [List.map_toArray, List.map_cons, List.map_nil]); first | done | rfl | (simp only [List.length_drop, List.length_take]; rfl)) ?_; (with_reducible refine (impl_within.calls (rd l1 x19_2) 0 (wrap64 (((rd_L1 l0 0).length : Int) - 1)) true _ A11.out).mono ?_); rintro e w' ⟨rfl, ⟨nd, rfl⟩⟩; refine ⟨_, rfl, ?_⟩; have p171 : 0 ≤ (x19_2 : Int) := of_decide_eq_true (by first | (with_reducible assumption) | assumption); have q171 : x19_2 < (l0.length : Int) := of_decide_eq_true (by first | (with_reducible assumption) | assumption); obtain ⟨ad171, A171_0, c171_0, e171, hx171_0, hl171_0, hi171_0⟩ := at_L1 HR0.out x19_2 p171 q171; obtain rfl : ad169 = ad171 := (by injection e171); have HR171_0 := Aside0.mk hi171_0; have HC171_0 := Aside0.mk hl171_0; clear hi171_0 hl171_0; replace p171 := eq_true p171; replace q171 := eq_true q171; have p172 : 0 ≤ ((rd l1 x19_2) : Int) := of_decide_eq_true (by first | (with_reducible assumption) | assumption); have q172 : (rd l1 x19_2) < ((rd_L1 l0 x19_2).length : Int) := of_decide_eq_true (by first | (with_reducible assumption) | assumption); obtain ⟨ad172, e172, hx172_0⟩ := Kd.at_int HR171_0.out (rd l1 x19_2) p172 q172; cases e172; replace p172 := eq_true p172; replace q172 := eq_true q172; obtain ⟨i022, hi022, _, hsz22, _⟩ := info_parts info3; obtain ⟨hcut22, hA22, hC22⟩ := print_take_of (P := Try.prog) (Value.int .i64) 0 27 3 .i64 Try.underlying27 hi022 hsz22 (some ad168) c1 l1 x19_2 (of_decide_eq_true (by first | (with_reducible assumption) | assumption)) (of_decide_eq_true (by first | (with_reducible assumption) | assumption)) HC1.out; have HR173 := Aside0.mk (Kd.C_of_reads (h1 := fun _ => rfl) (hA22 _ (Kd.reads_of_C HR1.out))); have HC173 := Aside0.mk hC22; clear hA22 hC22 hi022 hsz22) | (go_at_call 54; refine calls_of_args (args' := #[.slice _ (l1.take (x19_2 : Int).toNat).length _, .int .i64 (rd l1 x19_2)]) (by first | rfl | (have q_ : (x19_2 : Int) < (l1.length : Int) := of_decide_eq_true (by first | (with_reducible assumption) | assumption); simp only [List.length_take]; rw [Nat.min_eq_left (by omega)])) ?_; (with_reducible refine (slices_Contains_int_int.calls k2 _ _ (l1.take (x19_2 : Int).toNat) (rd l1 x19_2) false _ ?side1 ?side2 A19.out).mono ?_); (case side1 => repeat (first | exact HR173.out | (with_reducible refine Kd.C_alloc ?_ _) | (with_reducible refine Kd.C_drewN ?_ _) | (with_reducible refine Kd.C_drew ?_))); (case side2 => exact HC173.out); rintro e w' ⟨rfl, ⟨nd, rfl⟩⟩))
                                  go_roundg k2
                                  case measure => have := HJ2.out; have := HK2.out; omega
                                  case rel => exact ⟨(wrap64 (x19_2 + 1)), (by first | rfl | (simp; done) | (simp [*]; done)), H', ⟨by have := HJ2.out; have := HK2.out; omega⟩, by repeat (first | exact Drawn0.refl _ | apply Drawn0.step)⟩
                              · rw [if_neg c18] at H
                                exact absurd H (by simp)
                          · rw [if_neg c15] at H
                            exact absurd H (by simp)
                        · rw [if_neg c14] at H
                          exact absurd H (by simp)
                      · rw [if_neg c13] at H
                        exact absurd H (by simp)
                    · replace c12 := Bool.eq_false_iff.mpr c12
                      subst c12
                      have H1 : (some false) = some r := by rw [if_neg (show ¬ (false = true) by decide)] at H; exact H
                      clear H
                      have H := H1
                      clear H1
                      obtain rfl := Option.some.inj H
                      have p168 : 0 ≤ (x19_2 : Int) := of_decide_eq_true (by first | (with_reducible assumption) | assumption)
                      have q168 : x19_2 < (l1.length : Int) := of_decide_eq_true (by first | (with_reducible assumption) | assumption)
                      obtain ⟨ad168, e168, hx168_0⟩ := Kd.at_int HR1.out x19_2 p168 q168
                      cases e168
                      replace p168 := eq_true p168
                      replace q168 := eq_true q168
                      have p169 : 0 ≤ (0 : Int) := (by omega)
                      have q169 : 0 < (l0.length : Int) := of_decide_eq_true (by first | (with_reducible assumption) | assumption)
                      obtain ⟨ad169, A169_0, c169_0, e169, hx169_0, hl169_0, hi169_0⟩ := at_L1 HR0.out 0 p169 q169
                      cases e169
                      have qi169 : (0 < l0.length) = True := eq_true (by omega)
                      (try rw [show ((0 : Int)).toNat = 0 from rfl] at hx169_0)
                      (try rw [Addr.add_zero'] at hx169_0)
                      have HR169_0 := Aside0.mk hi169_0
                      have HC169_0 := Aside0.mk hl169_0
                      clear hi169_0 hl169_0
                      replace p169 := eq_true p169
                      replace q169 := eq_true q169
                      go_wp2_with (first | ((with_reducible refine gate_callee (f := 50) rfl ?_); refine goesL_ (some 30) rfl rfl Try.func50 (by kernel_rfl) rfl #[.int .i64 (rd l1 x19_2), .int .i64 0, .int .i64 (wrap64 (((rd_L1 l0 0).length : Int) - 1))] rfl (by (try simp only [List.map_toArray, List.map_cons, List.map_nil]); first | done | rfl | (simp only [List.length_drop, List.length_take]; rfl)) ?_; (with_reducible refine (impl_within.calls (rd l1 x19_2) 0 (wrap64 (((rd_L1 l0 0).length : Int) - 1)) false _ A11.out).mono ?_); rintro e w' ⟨rfl, ⟨nd, rfl⟩⟩; refine ⟨_, rfl, ?_⟩))
                      go_ret
                      exact ⟨by first | rfl | (simp; done) | (simp [*]; done), by repeat (first | exact Drawn0.refl _ | apply Drawn0.step)⟩
                  · rw [if_neg c10] at H
                    exact absurd H (by simp)
                · rw [if_neg c9] at H
                  exact absurd H (by simp)
              · rw [if_neg c8] at H
                exact absurd H (by simp)
            · rw [if_neg c7] at H
              have c7b0 : decide (x19_2 < (l1.length : Int)) = false := decide_eq_false c7
              clear c7
              obtain rfl := Option.some.inj H
              go_wp2
              go_ret
              exact ⟨by first | rfl | (simp; done) | (simp [*]; done), by repeat (first | exact Drawn0.refl _ | apply Drawn0.step)⟩

end Go.Proofs.Ytfgbohochpjkfaa.G

-- Written by wip/tools/gen.py out of the translation (the kit's printer, one namespace a seat). Lean checks it.
namespace Go.Proofs.Ytfgbohochpjkfaa.G
open Go.RowKit Go.Proofs.YtfgbohochpjkfaaW.PrintWords Go.Proofs.YtfgbohochpjkfaaW.PrintLast Go.Proofs.YtfgbohochpjkfaaW.PrintMore
attribute [local go_sem] max2_int min2_int max_two min_two max_three min_three max_four min_four   -- for this text's walks alone
set_option linter.unusedVariables false
set_option linter.unusedSimpArgs false

/-! ### spec_l17Assignment: function 53 -/
def spec_l17Assignment.f (k : Nat) (l0 : List (List Int)) (l1 : List Int) : Option (Bool) := (spec_l17Good.f k l0).bind fun t162 => (if t162 = true then (if (l1.length : Int) = (l0.length : Int) then ((spec_l17Jobs.f k l0 l1).bind fun t163 => (some t163)) else (some false)) else (some false))
theorem spec_l17Assignment.mono : ∀ a0 a1 k, LeO (spec_l17Assignment.f k a0 a1) (spec_l17Assignment.f (k + 1) a0 a1) := by
  intro a0 a1 k
  unfold spec_l17Assignment.f
  repeat' first
      | (with_reducible exact spec_l17Good.mono _ _)
      | (with_reducible exact spec_l17Jobs.mono _ _ _)
      | (with_reducible exact LeO.refl _)
      | (with_reducible exact LeO.none _)
      | (with_reducible refine LeO.ite ?_ ?_)
      | (with_reducible refine LeO.bind ?_ (fun _ => ?_))
      | exact spec_l17Good.mono _ _
      | exact spec_l17Jobs.mono _ _ _
      | exact LeO.none _
      | refine LeO.ite ?_ ?_
      | refine LeO.bind ?_ (fun _ => ?_)
set_option maxHeartbeats 8000000 in
set_option maxRecDepth 100000 in
theorem spec_l17Assignment.calls (k : Nat) (A0 : Option Addr) (c0 : Nat) (l0 : List (List Int)) (A1 : Option Addr) (c1 : Nat) (l1 : List Int) (r : Bool) (w : World) (hr0 : Kd.C (Kd.slice 3 (Kd.int .i64)) w A0 l0.length l0) (hc0 : l0.length ≤ c0) (hr1 : Kd.C (Kd.int .i64) w A1 l1.length l1) (hc1 : l1.length ≤ c1) (h : spec_l17Assignment.f k l0 l1 = some r) :
    Calls Try.prog 53 #[.slice A0 l0.length c0, .slice A1 l1.length c1] w fun e w' => e = .returned (.bool r) ∧ Below w.heap.size w w' := by
  have HR0 := Aside0.mk hr0
  have HC0 := Aside0.mk hc0
  clear hr0 hc0
  have HR1 := Aside0.mk hr1
  have HC1 := Aside0.mk hc1
  clear hr1 hc1
  have HB := Aside0.mk (Below.refl w.heap.size w)
  have H : ((spec_l17Good.f k l0).bind fun t162 => (if t162 = true then (if (l1.length : Int) = (l0.length : Int) then ((spec_l17Jobs.f k l0 l1).bind fun t163 => (some t163)) else (some false)) else (some false))) = some r := h
  clear h
  replace H := Option.bind_eq_some_iff.mp H
  obtain ⟨t162, A30, H⟩ := H
  replace H : (if t162 = true then (if (l1.length : Int) = (l0.length : Int) then ((spec_l17Jobs.f k l0 l1).bind fun t163 => (some t163)) else (some false)) else (some false)) = some r := H
  have A3 := Aside0.mk A30
  clear A30
  by_cases c4 : t162 = true
  · subst c4
    have H1 : (if (l1.length : Int) = (l0.length : Int) then ((spec_l17Jobs.f k l0 l1).bind fun t163 => (some t163)) else (some false)) = some r := by rw [if_pos rfl] at H; exact H
    clear H
    have H := H1
    clear H1
    by_cases c5 : (l1.length : Int) = (l0.length : Int)
    · rw [if_pos c5] at H
      have c5b0 : ((l1.length : Int) == (l0.length : Int)) = true := beq_iff_eq.mpr c5
      have c5b1 : ((l1.length : Int) != (l0.length : Int)) = false := bne_eq_false_iff_eq.mpr c5
      have c5b2 : (l1.length == l0.length) = true := by first | simpa using c5 | (simp at c5 ⊢; omega)
      clear c5
      replace H := Option.bind_eq_some_iff.mp H
      obtain ⟨t163, A60, H⟩ := H
      replace H : (some t163) = some r := H
      have A6 := Aside0.mk A60
      clear A60
      obtain rfl := Option.some.inj H
      go_enter Try.func53, Try.ntmps53
      go_wp2_with (first | ((with_reducible refine gate_callee (f := 49) rfl ?_); refine goesL_ (some 6) rfl rfl Try.func49 (by kernel_rfl) rfl #[.slice A0 l0.length c0] rfl (by (try simp only [List.map_toArray, List.map_cons, List.map_nil]); first | done | rfl | (simp only [List.length_drop, List.length_take]; rfl)) ?_; (with_reducible refine (spec_l17Good.calls k _ _ l0 true _ ?side1 ?side2 A3.out).mono ?_); (case side1 => repeat (first | exact HR0.out | (with_reducible refine Kd.C_alloc ?_ _) | (with_reducible refine Kd.C_drewN ?_ _) | (with_reducible refine Kd.C_drew ?_))); (case side2 => exact HC0.out); rintro e w' ⟨rfl, ⟨nd, rfl⟩⟩; refine ⟨_, rfl, ?_⟩) | (go_at_call 76; (with_reducible refine (spec_l17Jobs.calls k _ _ l0 _ _ l1 t163 _ ?side1 ?side2 ?side3 ?side4 A6.out).mono ?_); (case side1 => repeat (first | exact HR0.out | (with_reducible refine Kd.C_alloc ?_ _) | (with_reducible refine Kd.C_drewN ?_ _) | (with_reducible refine Kd.C_drew ?_))); (case side2 => exact HC0.out); (case side3 => repeat (first | exact HR1.out | (with_reducible refine Kd.C_alloc ?_ _) | (with_reducible refine Kd.C_drewN ?_ _) | (with_reducible refine Kd.C_drew ?_))); (case side4 => exact HC1.out); rintro e w7 ⟨rfl, hb⟩; have n0_ := Aside0.mk (below_step (by repeat (first | (with_reducible first | exact HB.out | apply below_alloc | apply pw_below_drewN | apply below_drew1) | exact HB.out)) hb); clear HB; have HB := n0_; clear n0_; (try clear hb); (try clear hb2); (try clear hk); (try clear hi)))
      go_ret
      exact ⟨by first | rfl | (simp [errW_none, errW_some] <;> rfl) | (simp [*, errW_none, errW_some] <;> rfl), by repeat (first | (with_reducible first | exact HB.out | apply below_alloc | apply pw_below_drewN | apply below_drew1) | exact HB.out)⟩
    · rw [if_neg c5] at H
      have c5b0 : ((l1.length : Int) == (l0.length : Int)) = false := beq_eq_false_iff_ne.mpr c5
      have c5b1 : ((l1.length : Int) != (l0.length : Int)) = true := bne_iff_ne.mpr c5
      have c5b2 : (l1.length == l0.length) = false := by first | simpa using c5 | (simp at c5 ⊢; omega)
      obtain rfl := Option.some.inj H
      go_enter Try.func53, Try.ntmps53
      go_wp2_with (first | ((with_reducible refine gate_callee (f := 49) rfl ?_); refine goesL_ (some 6) rfl rfl Try.func49 (by kernel_rfl) rfl #[.slice A0 l0.length c0] rfl (by (try simp only [List.map_toArray, List.map_cons, List.map_nil]); first | done | rfl | (simp only [List.length_drop, List.length_take]; rfl)) ?_; (with_reducible refine (spec_l17Good.calls k _ _ l0 true _ ?side1 ?side2 A3.out).mono ?_); (case side1 => repeat (first | exact HR0.out | (with_reducible refine Kd.C_alloc ?_ _) | (with_reducible refine Kd.C_drewN ?_ _) | (with_reducible refine Kd.C_drew ?_))); (case side2 => exact HC0.out); rintro e w' ⟨rfl, ⟨nd, rfl⟩⟩; refine ⟨_, rfl, ?_⟩))
      go_ret
      exact ⟨by first | rfl | (simp [errW_none, errW_some] <;> rfl) | (simp [*, errW_none, errW_some] <;> rfl), by repeat (first | (with_reducible first | exact HB.out | apply below_alloc | apply pw_below_drewN | apply below_drew1) | exact HB.out)⟩
  · replace c4 := Bool.eq_false_iff.mpr c4
    subst c4
    have H1 : (some false) = some r := by rw [if_neg (show ¬ (false = true) by decide)] at H; exact H
    clear H
    have H := H1
    clear H1
    obtain rfl := Option.some.inj H
    go_enter Try.func53, Try.ntmps53
    go_wp2_with (first | ((with_reducible refine gate_callee (f := 49) rfl ?_); refine goesL_ (some 6) rfl rfl Try.func49 (by kernel_rfl) rfl #[.slice A0 l0.length c0] rfl (by (try simp only [List.map_toArray, List.map_cons, List.map_nil]); first | done | rfl | (simp only [List.length_drop, List.length_take]; rfl)) ?_; (with_reducible refine (spec_l17Good.calls k _ _ l0 false _ ?side1 ?side2 A3.out).mono ?_); (case side1 => repeat (first | exact HR0.out | (with_reducible refine Kd.C_alloc ?_ _) | (with_reducible refine Kd.C_drewN ?_ _) | (with_reducible refine Kd.C_drew ?_))); (case side2 => exact HC0.out); rintro e w' ⟨rfl, ⟨nd, rfl⟩⟩; refine ⟨_, rfl, ?_⟩))
    go_ret
    exact ⟨by first | rfl | (simp [errW_none, errW_some] <;> rfl) | (simp [*, errW_none, errW_some] <;> rfl), by repeat (first | (with_reducible first | exact HB.out | apply below_alloc | apply pw_below_drewN | apply below_drew1) | exact HB.out)⟩

end Go.Proofs.Ytfgbohochpjkfaa.G

-- Written by wip/tools/gen.py out of the translation (the kit's printer, one namespace a seat). Lean checks it.
namespace Go.Proofs.Ytfgbohochpjkfaa.G
open Go.RowKit Go.Proofs.YtfgbohochpjkfaaW.PrintWords Go.Proofs.YtfgbohochpjkfaaW.PrintLast Go.Proofs.YtfgbohochpjkfaaW.PrintMore
attribute [local go_sem] max2_int min2_int max_two min_two max_three min_three max_four min_four   -- for this text's walks alone
set_option linter.unusedVariables false
set_option linter.unusedSimpArgs false

/-! ### spec_IsAssignment: function 19 -/
def spec_IsAssignment.f (k : Nat) (l0 : List (List Int)) (l1 : List Int) : Option (Bool) := (spec_l17Assignment.f k l0 l1).bind fun t164 => (some t164)
theorem spec_IsAssignment.mono : ∀ a0 a1 k, LeO (spec_IsAssignment.f k a0 a1) (spec_IsAssignment.f (k + 1) a0 a1) := by
  intro a0 a1 k
  unfold spec_IsAssignment.f
  repeat' first
      | (with_reducible exact spec_l17Assignment.mono _ _ _)
      | (with_reducible exact LeO.refl _)
      | (with_reducible exact LeO.none _)
      | (with_reducible refine LeO.ite ?_ ?_)
      | (with_reducible refine LeO.bind ?_ (fun _ => ?_))
      | exact spec_l17Assignment.mono _ _ _
      | exact LeO.none _
      | refine LeO.ite ?_ ?_
      | refine LeO.bind ?_ (fun _ => ?_)
set_option maxHeartbeats 8000000 in
set_option maxRecDepth 100000 in
theorem spec_IsAssignment.calls (k : Nat) (A0 : Option Addr) (c0 : Nat) (l0 : List (List Int)) (A1 : Option Addr) (c1 : Nat) (l1 : List Int) (r : Bool) (w : World) (hr0 : Kd.C (Kd.slice 3 (Kd.int .i64)) w A0 l0.length l0) (hc0 : l0.length ≤ c0) (hr1 : Kd.C (Kd.int .i64) w A1 l1.length l1) (hc1 : l1.length ≤ c1) (h : spec_IsAssignment.f k l0 l1 = some r) :
    Calls Try.prog 19 #[.slice A0 l0.length c0, .slice A1 l1.length c1] w fun e w' => e = .returned (.bool r) ∧ Below w.heap.size w w' := by
  have HR0 := Aside0.mk hr0
  have HC0 := Aside0.mk hc0
  clear hr0 hc0
  have HR1 := Aside0.mk hr1
  have HC1 := Aside0.mk hc1
  clear hr1 hc1
  have HB := Aside0.mk (Below.refl w.heap.size w)
  have H : ((spec_l17Assignment.f k l0 l1).bind fun t164 => (some t164)) = some r := h
  clear h
  replace H := Option.bind_eq_some_iff.mp H
  obtain ⟨t164, A30, H⟩ := H
  replace H : (some t164) = some r := H
  have A3 := Aside0.mk A30
  clear A30
  obtain rfl := Option.some.inj H
  go_enter Try.func19, Try.ntmps19
  go_wp2_with (first | ((with_reducible refine gate_callee (f := 53) rfl ?_); refine goesL_ (some 7) rfl rfl Try.func53 (by kernel_rfl) rfl #[.slice A0 l0.length c0, .slice A1 l1.length c1] rfl (by (try simp only [List.map_toArray, List.map_cons, List.map_nil]); first | done | rfl | (simp only [List.length_drop, List.length_take]; rfl)) ?_; (with_reducible refine (spec_l17Assignment.calls k _ _ l0 _ _ l1 t164 _ ?side1 ?side2 ?side3 ?side4 A3.out).mono ?_); (case side1 => repeat (first | exact HR0.out | (with_reducible refine Kd.C_alloc ?_ _) | (with_reducible refine Kd.C_drewN ?_ _) | (with_reducible refine Kd.C_drew ?_))); (case side2 => exact HC0.out); (case side3 => repeat (first | exact HR1.out | (with_reducible refine Kd.C_alloc ?_ _) | (with_reducible refine Kd.C_drewN ?_ _) | (with_reducible refine Kd.C_drew ?_))); (case side4 => exact HC1.out); rintro e w4 ⟨rfl, hb⟩; refine ⟨_, rfl, ?_⟩; have n0_ := Aside0.mk (below_step (by repeat (first | (with_reducible first | exact HB.out | apply below_alloc | apply pw_below_drewN | apply below_drew1) | exact HB.out)) hb); clear HB; have HB := n0_; clear n0_; (try clear hb); (try clear hb2); (try clear hk); (try clear hi)))
  go_ret
  exact ⟨by first | rfl | (simp [errW_none, errW_some] <;> rfl) | (simp [*, errW_none, errW_some] <;> rfl), by repeat (first | (with_reducible first | exact HB.out | apply below_alloc | apply pw_below_drewN | apply below_drew1) | exact HB.out)⟩

end Go.Proofs.Ytfgbohochpjkfaa.G

namespace Go.Proofs.Ytfgbohochpjkfaa.G
open Go.RowKit Go.Proofs.YtfgbohochpjkfaaW.PrintWords Go.Proofs.YtfgbohochpjkfaaW.PrintLast
set_option linter.unusedVariables false
set_option linter.unusedSimpArgs false
theorem spec_has (l : List Int) (x : Int) (hl : (l.length : Int) ≤ 1099511627776) : Ev (fun k => spec_l1Has.f k l x) (chk (Has l x) true false) := by
  unfold spec_l1Has.f
  have h := Ev.check (fun k i => spec_l1Has.l0 k l x i) (l.length : Int) (fun j => ¬ rd l j = x) false true 0 (by
    refine Ev.step (fun k => by rw [spec_l1Has.l0]) ?_
    simp only [Int.lt_irrefl, if_false]
    exact Ev.now _) (by
    intro i h0 hlt r hr
    refine Ev.step (fun k => by rw [spec_l1Has.l0]) ?_
    simp (disch := omega) only [if_pos, wrap64_id]
    refine Ev.ite (fun h => ?_) (fun h => ?_)
    · rw [chk_neg (fun m => m h)]; exact Ev.now _
    · rw [chk_pos h]; exact hr) 0 (by omega) (by omega)
  refine Ev.eq h ?_
  by_cases ha : All (fun j => ¬ rd l j = x) 0 (l.length : Int)
  · rw [chk_pos ha, chk_neg (fun m : Has l x => m ha)]
  · rw [chk_neg ha, chk_pos (show Has l x from ha)]
/-- What job i of an assignment must be. -/
def jobOk (t : List (List Int)) (jobs : List Int) (i : Int) : Prop := (0 ≤ rd jobs i ∧ rd jobs i ≤ ((rd_L1 t 0).length : Int) - 1) ∧ ¬ rd (rd_L1 t i) (rd jobs i) < 0 ∧ ¬ Has (jobs.take i.toNat) (rd jobs i)
def Asg (t : List (List Int)) (jobs : List Int) : Prop := Costs t ∧ (jobs.length : Int) = (t.length : Int) ∧ All (jobOk t jobs) 0 (jobs.length : Int)
theorem take_len (l : List Int) (i : Int) (h0 : 0 ≤ i) (h1 : i ≤ (l.length : Int)) : ((l.take i.toNat).length : Int) = i := by rw [List.length_take]; omega
theorem spec_jobs (t : List (List Int)) (hc : Costs t) (jobs : List Int) (hl : (jobs.length : Int) ≤ (t.length : Int)) : Ev (fun k => spec_l17Jobs.f k t jobs) (chk (All (jobOk t jobs) 0 (jobs.length : Int)) true false) := by
  obtain ⟨h1, h2, h3⟩ := hc
  unfold spec_l17Jobs.f
  refine Ev.check (fun k i => spec_l17Jobs.l0 k t jobs i) (jobs.length : Int) (jobOk t jobs) true false 0 ?_ ?_ 0 (by omega) (by omega)
  · refine Ev.step (fun k => by rw [spec_l17Jobs.l0]) ?_
    simp only [Int.lt_irrefl, if_false]
    exact Ev.now _
  · intro i h0 hlt r hr
    have hrow := (h3 i h0 (by omega)).1
    have tl := take_len jobs i h0 (by omega)
    refine Ev.step (fun k => by rw [spec_l17Jobs.l0]) ?_
    simp (disch := omega) only [if_pos, wrap64_id, spec_l1In_eq, Option.bind_some, decide_eq_true_eq]
    refine Ev.ite (fun g1 => ?_) (fun g1 => ?_)
    · try simp (disch := omega) only [if_pos]
      refine Ev.ite (fun g2 => ?_) (fun g2 => ?_)
      · rw [chk_neg (fun m : jobOk t jobs i => m.2.1 g2)]; exact Ev.now _
      · refine Ev.bind (spec_has _ _ (by omega)) ?_
        refine Ev.ite (fun g3 => ?_) (fun g3 => ?_)
        · rw [chk_neg (fun m : jobOk t jobs i => m.2.2 (chk_true.1 g3))]; exact Ev.now _
        · rw [chk_pos ⟨g1, g2, fun h => g3 (chk_true.2 h)⟩]; exact hr
    · rw [chk_neg (fun m : jobOk t jobs i => g1 m.1)]; exact Ev.now _
theorem impl_asg (t : List (List Int)) (hl : ∀ i, 0 ≤ i → i < (t.length : Int) → ((rd_L1 t i).length : Int) ≤ 1099511627776) (jobs : List Int) : Ev (fun k => impl_IsAssignment.f k t jobs) (chk (Asg t jobs) true false) := by
  have no : ¬ Asg t jobs → Ev (fun k => impl_IsAssignment.j0 k t jobs true) (chk (Asg t jobs) true false) := by
    intro h
    rw [chk_neg h]
    refine Ev.step (fun k => by rw [impl_IsAssignment.j0]) ?_
    simp only [if_true]; exact Ev.now _
  unfold impl_IsAssignment.f
  refine Ev.bind (impl_costs t hl) ?_
  refine Ev.ite (fun hc => ?_) (fun hc => no (fun m => hc (chk_true.2 m.1)))
  have hc := chk_true.1 hc
  by_cases hn : (jobs.length : Int) = (t.length : Int)
  · rw [show ((jobs.length : Int) != (t.length : Int)) = false from by rw [hn]; exact bne_self_eq_false _]
    refine Ev.step (fun k => by rw [impl_IsAssignment.j0]) ?_
    simp only [Bool.false_eq_true, if_false]
    rw [chk_congr (show Asg t jobs ↔ All (jobOk t jobs) 0 (jobs.length : Int) from ⟨fun m => m.2.2, fun m => ⟨hc, hn, m⟩⟩)]
    obtain ⟨h1, h2, h3⟩ := hc
    refine Ev.check (fun k i => impl_IsAssignment.l0 k t jobs jobs (jobs.length : Int) i) (jobs.length : Int) (jobOk t jobs) true false 0 ?_ ?_ 0 (by omega) (by omega)
    · refine Ev.step (fun k => by rw [impl_IsAssignment.l0]) ?_
      simp only [Int.lt_irrefl, if_false]
      exact Ev.now _
    · intro i h0 hlt r hr
      have hrow := (h3 i h0 (by omega)).1
      have tl := take_len jobs i h0 (by omega)
      refine Ev.step (fun k => by rw [impl_IsAssignment.l0]) ?_
      simp (disch := omega) only [if_pos, wrap64_id, impl_within_eq, Option.bind_some, decide_eq_true_eq]
      refine Ev.ite (fun g1 => ?_) (fun g1 => ?_)
      · try simp (disch := omega) only [if_pos]
        refine Ev.ite (fun g2 => ?_) (fun g2 => ?_)
        · rw [chk_neg (fun m : jobOk t jobs i => m.2.1 g2)]; exact Ev.now _
        · refine Ev.bind (impl_has _ _ (by omega)) ?_
          refine Ev.ite (fun g3 => ?_) (fun g3 => ?_)
          · rw [chk_neg (fun m : jobOk t jobs i => m.2.2 (chk_true.1 g3))]; exact Ev.now _
          · rw [chk_pos ⟨g1, g2, fun h => g3 (chk_true.2 h)⟩]; exact hr
      · rw [chk_neg (fun m : jobOk t jobs i => g1 m.1)]; exact Ev.now _
  · rw [show ((jobs.length : Int) != (t.length : Int)) = true from by rw [bne_iff_ne]; exact hn]
    exact no (fun m => hn m.2.1)
theorem spec_asg (t : List (List Int)) (hl : ∀ i, 0 ≤ i → i < (t.length : Int) → ((rd_L1 t i).length : Int) ≤ 1099511627776) (jobs : List Int) : Ev (fun k => spec_l17Assignment.f k t jobs) (chk (Asg t jobs) true false) := by
  unfold spec_l17Assignment.f
  refine Ev.bind (spec_costs t hl) ?_
  refine Ev.ite (fun hc => ?_) (fun hc => ?_)
  · have hc := chk_true.1 hc
    refine Ev.ite (fun hn => ?_) (fun hn => ?_)
    · refine Ev.bind (spec_jobs t hc jobs (by omega)) ?_
      rw [chk_congr (show Asg t jobs ↔ All (jobOk t jobs) 0 (jobs.length : Int) from ⟨fun m => m.2.2, fun m => ⟨hc, hn, m⟩⟩)]
      exact Ev.now _
    · rw [chk_neg (fun m : Asg t jobs => hn m.2.1)]; exact Ev.now _
  · rw [chk_neg (fun m : Asg t jobs => hc (chk_true.2 m.1))]; exact Ev.now _
end Go.Proofs.Ytfgbohochpjkfaa.G

/- The contract of the reference's GreedyAssignment. -/
namespace Go.Proofs.Ytfgbohochpjkfaa.G
open Go.RowKit Go.Proofs.YtfgbohochpjkfaaW.PrintWords Go.Proofs.YtfgbohochpjkfaaW.PrintLast
set_option linter.unusedVariables false
set_option linter.unusedSimpArgs false
/-- The cheapest free job among the first k of a row; -1 if there is none. -/
noncomputable def gBest (row out : List Int) : Nat → Int
  | 0 => -1
  | k + 1 => chk (0 ≤ rd row (k : Int) ∧ ¬ Has out (k : Int) ∧ (gBest row out k < 0 ∨ rd row (k : Int) < rd row (gBest row out k))) (k : Int) (gBest row out k)
noncomputable def gFrom (t : List (List Int)) : Nat → Nat → List Int → List Int × Bool
  | 0, _, out => (out, true)
  | r + 1, i, out => chk (gBest (rd_L1 t (i : Int)) out (rd_L1 t (i : Int)).length < 0) ([], false) (gFrom t r (i + 1) (out ++ [gBest (rd_L1 t (i : Int)) out (rd_L1 t (i : Int)).length]))
theorem gBest_bd (row out : List Int) : ∀ k : Nat, -1 ≤ gBest row out k ∧ gBest row out k < k
  | 0 => by simp [gBest]
  | k + 1 => by
    have := gBest_bd row out k
    unfold gBest
    by_cases h : 0 ≤ rd row (k : Int) ∧ ¬ Has out (k : Int) ∧ (gBest row out k < 0 ∨ rd row (k : Int) < rd row (gBest row out k))
    · rw [chk_pos h]; omega
    · rw [chk_neg h]; omega
theorem below_trans3 {w a b : World} (h : Below w.heap.size w a) (k : Below a.heap.size a b) : Below w.heap.size w b := h.trans (k.mono h.size)
set_option maxHeartbeats 8000000 in
set_option maxRecDepth 100000 in
theorem greedy_spec (k0 : Nat) (b0 : Bool) (At : Option Addr) (ct : Nat) (t : List (List Int)) (w : World) (hC : Kd.C (Kd.slice 3 (Kd.int .i64)) w At t.length t) (hct : t.length ≤ ct) (hn : t.length ≤ 1048576) (hrow : ∀ i : Int, 0 ≤ i → i < t.length → (rd_L1 t i).length ≤ 1048576) (hg : spec_l17Good.f k0 t = some b0) :
    Calls Try.prog 33 #[.slice At t.length ct] w fun e w' => ∃ v : Value, e = .returned (.tuple #[v, .bool (if b0 = true then gFrom t t.length 0 [] else ([], false)).2]) ∧ Kd.R (Kd.int .i64) 3 w' w.heap.size (fun _ => True) v (if b0 = true then gFrom t t.length 0 [] else ([], false)).1 ∧ Below w.heap.size w w' := by
  have HC := Aside0.mk hC
  have HG := Aside0.mk hg
  have HROW := Aside0.mk hrow
  clear hC hg hrow
  cases b0 with
  | false =>
    show Calls Try.prog 33 _ w fun e w' => ∃ v : Value, e = .returned (.tuple #[v, .bool false]) ∧ Kd.R (Kd.int .i64) 3 w' w.heap.size (fun _ => True) v [] ∧ Below w.heap.size w w'
    go_enter Try.func33, Try.ntmps33
    go_wp2_with (first | ((with_reducible refine gate_dst (N := 8) rfl ?_); refine Kd.R_lit (Kd.int .i64) _ 3 ?hg8 (N := 8) ?hd8 (xs := ([] : List Int)) (inner := []) (ok := fun _ => True) (okp := fun _ => True) ?hr8 ?hp8 (fun _ hk => hk) trivial (Below.refl _ _) (Nat.le_refl _) (by simp) ?_; (case hd8 => rfl); (case hg8 => rfl); (case hr8 => first | (go_simp; done) | (go_simp; rfl)); (case hp8 => exact (Reps.none _ _)); intro v8 w1 ho8 hb8 hg_ hnew_; have HO1 := Aside0.mk ho8; have HB1 := Aside0.mk hb8; clear hg_ hnew_ ho8 hb8) | (go_at_call 49; refine (spec_l17Good.calls k0 At ct t false _ (Kd.C_below HC.out HB1.out) hct HG.out).mono ?_; rintro e w2 ⟨rfl, hd⟩; have HB2 := Aside0.mk (below_step HB1.out hd.below); have HO2 := Aside0.mk (Kd.R_below HO1.out hd.below); clear hd))
    go_ret2
    exact ⟨_, rfl, HO2.out, HB2.out⟩
  | true =>
    show Calls Try.prog 33 _ w fun e w' => ∃ v : Value, e = .returned (.tuple #[v, .bool (gFrom t t.length 0 []).2]) ∧ Kd.R (Kd.int .i64) 3 w' w.heap.size (fun _ => True) v (gFrom t t.length 0 []).1 ∧ Below w.heap.size w w'
    obtain ⟨r, hr⟩ : ∃ r, gFrom t t.length 0 [] = r := ⟨_, rfl⟩
    rw [hr]
    have HGF : Aside0 (gFrom t (t.length - 0) 0 [] = r) := Aside0.mk hr
    clear hr
    go_enter Try.func33, Try.ntmps33
    go_wp2_with (first | ((with_reducible refine gate_dst (N := 8) rfl ?_); refine Kd.R_lit (Kd.int .i64) _ 3 ?hg8 (N := 8) ?hd8 (xs := ([] : List Int)) (inner := []) (ok := fun _ => True) (okp := fun _ => True) ?hr8 ?hp8 (fun _ hk => hk) trivial (Below.refl _ _) (Nat.le_refl _) (by simp) ?_; (case hd8 => rfl); (case hg8 => rfl); (case hr8 => first | (go_simp; done) | (go_simp; rfl)); (case hp8 => exact (Reps.none _ _)); intro v8 w1 ho8 hb8 hg_ hnew_; have HO1 := Aside0.mk ho8; have HB1 := Aside0.mk hb8; clear hg_ hnew_ ho8 hb8) | (go_at_call 49; refine (spec_l17Good.calls k0 At ct t true _ (Kd.C_below HC.out HB1.out) hct HG.out).mono ?_; rintro e w2 ⟨rfl, hd⟩; have HB2 := Aside0.mk (below_step HB1.out hd.below); have HO2 := Aside0.mk (Kd.R_below HO1.out hd.below); clear hd))
    go_loopw [4, 5] (fun ov iv w' => ∃ (i : Nat) (out : List Int), i ≤ t.length ∧ out.length = i ∧ iv = .int .i64 i ∧ Aside0 (gFrom t (t.length - i) i out = r) ∧ Aside0 (Kd.R (Kd.int .i64) 3 w' w.heap.size (fun _ => True) ov out) ∧ Aside0 (Below w.heap.size w w')) (fun _ i _ => t.length - (intOf i).toNat)
    case atStart => exact ⟨0, [], Nat.zero_le _, rfl, rfl, HGF, HO2, HB2⟩
    case round =>
      clear HGF
      obtain ⟨i, out, hi, hol, rfl, hgf, hR, hB⟩ := hrel
      obtain ⟨Ao, co, eo⟩ := Kd.R_slice hR.out
      subst eo
      have HOL := Aside0.mk hol
      clear hol
      by_cases hlt : i < t.length
      · obtain ⟨ad, A0, c0, rfl, hx0, hc0, hC0⟩ := at_L1 (Kd.C_below HC.out hB.out) (i : Int) (by omega) (by omega)
        rw [Int.toNat_natCast] at hx0
        have hrl := HROW.out (i : Int) (by omega) (by omega)
        have hunf : gFrom t (t.length - i) i out = chk (gBest (rd_L1 t (i : Int)) out (rd_L1 t (i : Int)).length < 0) ([], false) (gFrom t (t.length - (i + 1)) (i + 1) (out ++ [gBest (rd_L1 t (i : Int)) out (rd_L1 t (i : Int)).length])) := by
          rw [show t.length - i = (t.length - (i + 1)) + 1 from by omega, gFrom]
        rw [hunf] at hgf
        clear hunf
        have HC0 := Aside0.mk hC0
        clear hC0
        generalize rd_L1 t (i : Int) = row at hx0 hc0 HC0 hrl hgf
        go_wp2
        go_loopw [6, 7] (fun bv kv w' => ∃ k : Nat, k ≤ row.length ∧ kv = .int .i64 k ∧ bv = .int .i64 (gBest row out k) ∧ Drawn0 wr w') (fun _ k _ => row.length - (intOf k).toNat)
        case atStart => exact ⟨0, Nat.zero_le _, rfl, rfl, Drawn0.refl _⟩
        case round =>
          obtain ⟨k, hk, rfl, rfl, hd⟩ := hrel
          have hbd := gBest_bd row out k
          have hx0' := (Keeps.of_below (S := fun _ => False) hd.below).cell hx0 (fun h => h)
          have HRW := Aside0.mk (Kd.R_below hR.out hd.below)
          have HBW := Aside0.mk (below_trans3 hB.out hd.below)
          clear hx0
          by_cases hkl : k < row.length
          · obtain ⟨adr, rfl, hxr⟩ := Kd.at_int (Kd.C_below HC0.out hd.below) (k : Int) (by omega) (by omega)
            rw [Int.toNat_natCast] at hxr
            have hst : gBest row out (k + 1) = chk (0 ≤ rd row (k : Int) ∧ ¬ Has out (k : Int) ∧ (gBest row out k < 0 ∨ rd row (k : Int) < rd row (gBest row out k))) (k : Int) (gBest row out k) := rfl
            obtain ⟨kh, hkh⟩ : ∃ kh, spec_l1Has.f kh out (k : Int) = some (chk (Has out (k : Int)) true false) := Ev.rounds (spec_has out (k : Int) (by have := HOL.out; omega))
            generalize hbb : gBest row out k = b at hst hbd
            have HST := Aside0.mk hst
            clear hst hbb
            by_cases hge : 0 ≤ rd row (k : Int)
            · have hq1 : decide (rd row (k : Int) ≥ 0) = true := decide_eq_true hge
              by_cases hh : Has out (k : Int)
              · rw [chk_pos hh] at hkh
                have HK := Aside0.mk hkh
                have HE : Aside0 (gBest row out (k + 1) = b) := Aside0.mk (by rw [HST.out]; exact chk_neg (fun m => m.2.1 hh) _ _)
                clear hkh hh
                go_wp2
                repeat (go_quiet (first | (go_at_call 65; (with_reducible refine (spec_l1Has.calls kh _ _ out (k : Int) true _ ?side1 ?side2 HK.out).mono ?_); (case side1 => repeat (first | exact (Kd.R_reads' HRW.out).2.2 | (with_reducible refine Kd.C_drewN ?_ _) | (with_reducible refine Kd.C_drew ?_))); (case side2 => exact (Kd.R_reads' HRW.out).2.1); rintro e w' ⟨rfl, ⟨nd, rfl⟩⟩; (try first | exact ⟨rfl, _, World.drewN_drewN _ _ _⟩ | exact ⟨rfl, _, Eq.trans (World.drewN_drewN _ _ _) (congrArg (World.drewN _) (Nat.add_assoc _ _ _))⟩))); try go_wp2)
                go_roundw
                case rel => exact ⟨k + 1, by omega, by go_num, by rw [HE.out], hd.step _⟩
                case measure => simp [intOf]; omega
              · rw [chk_neg hh] at hkh
                have HK := Aside0.mk hkh
                clear hkh
                by_cases hb0 : b < 0
                · have hq2 : decide (b < 0) = true := decide_eq_true hb0
                  have HE : Aside0 (gBest row out (k + 1) = (k : Int)) := Aside0.mk (by rw [HST.out]; exact chk_pos ⟨hge, hh, .inl hb0⟩ _ _)
                  clear hh
                  go_wp2
                  repeat (go_quiet (first | (go_at_call 65; (with_reducible refine (spec_l1Has.calls kh _ _ out (k : Int) false _ ?side1 ?side2 HK.out).mono ?_); (case side1 => repeat (first | exact (Kd.R_reads' HRW.out).2.2 | (with_reducible refine Kd.C_drewN ?_ _) | (with_reducible refine Kd.C_drew ?_))); (case side2 => exact (Kd.R_reads' HRW.out).2.1); rintro e w' ⟨rfl, ⟨nd, rfl⟩⟩; (try first | exact ⟨rfl, _, World.drewN_drewN _ _ _⟩ | exact ⟨rfl, _, Eq.trans (World.drewN_drewN _ _ _) (congrArg (World.drewN _) (Nat.add_assoc _ _ _))⟩))); try go_wp2)
                  go_roundw
                  case rel => exact ⟨k + 1, by omega, by go_num, by rw [HE.out], hd.step _⟩
                  case measure => simp [intOf]; omega
                · have hq2 : decide (b < 0) = false := decide_eq_false hb0
                  have hb1 : 0 ≤ b := by omega
                  have hb2 : b < (row.length : Int) := by omega
                  obtain ⟨adr2, e2, hxb⟩ := Kd.at_int (Kd.C_below HC0.out hd.below) b (by omega) (by omega)
                  obtain rfl : adr = adr2 := (by injection e2)
                  by_cases hlo : rd row (k : Int) < rd row b
                  · have hq3 : decide (rd row (k : Int) < rd row b) = true := decide_eq_true hlo
                    have HE : Aside0 (gBest row out (k + 1) = (k : Int)) := Aside0.mk (by rw [HST.out]; exact chk_pos ⟨hge, hh, .inr hlo⟩ _ _)
                    clear hh
                    go_wp2
                    repeat (go_quiet (first | (go_at_call 65; (with_reducible refine (spec_l1Has.calls kh _ _ out (k : Int) false _ ?side1 ?side2 HK.out).mono ?_); (case side1 => repeat (first | exact (Kd.R_reads' HRW.out).2.2 | (with_reducible refine Kd.C_drewN ?_ _) | (with_reducible refine Kd.C_drew ?_))); (case side2 => exact (Kd.R_reads' HRW.out).2.1); rintro e w' ⟨rfl, ⟨nd, rfl⟩⟩; (try first | exact ⟨rfl, _, World.drewN_drewN _ _ _⟩ | exact ⟨rfl, _, Eq.trans (World.drewN_drewN _ _ _) (congrArg (World.drewN _) (Nat.add_assoc _ _ _))⟩))); try go_wp2)
                    go_roundw
                    case rel => exact ⟨k + 1, by omega, by go_num, by rw [HE.out], hd.step _⟩
                    case measure => simp [intOf]; omega
                  · have hq3 : decide (rd row (k : Int) < rd row b) = false := decide_eq_false hlo
                    have HE : Aside0 (gBest row out (k + 1) = b) := Aside0.mk (by rw [HST.out]; exact chk_neg (fun m => m.2.2.elim hb0 hlo) _ _)
                    clear hh
                    go_wp2
                    repeat (go_quiet (first | (go_at_call 65; (with_reducible refine (spec_l1Has.calls kh _ _ out (k : Int) false _ ?side1 ?side2 HK.out).mono ?_); (case side1 => repeat (first | exact (Kd.R_reads' HRW.out).2.2 | (with_reducible refine Kd.C_drewN ?_ _) | (with_reducible refine Kd.C_drew ?_))); (case side2 => exact (Kd.R_reads' HRW.out).2.1); rintro e w' ⟨rfl, ⟨nd, rfl⟩⟩; (try first | exact ⟨rfl, _, World.drewN_drewN _ _ _⟩ | exact ⟨rfl, _, Eq.trans (World.drewN_drewN _ _ _) (congrArg (World.drewN _) (Nat.add_assoc _ _ _))⟩))); try go_wp2)
                    go_roundw
                    case rel => exact ⟨k + 1, by omega, by go_num, by rw [HE.out], hd.step _⟩
                    case measure => simp [intOf]; omega
            · have hq1 : decide (rd row (k : Int) ≥ 0) = false := decide_eq_false hge
              have HE : Aside0 (gBest row out (k + 1) = b) := Aside0.mk (by rw [HST.out]; exact chk_neg (fun m => hge m.1) _ _)
              clear hkh
              go_wp2
              repeat (go_quiet (fail); try go_wp2)
              go_roundw
              case rel => exact ⟨k + 1, by omega, by go_num, by rw [HE.out], hd.step _⟩
              case measure => simp [intOf]; omega
          · obtain rfl : k = row.length := by omega
            generalize gBest row out row.length = b at hgf hbd
            by_cases hb0 : b < 0
            · rw [chk_pos hb0] at hgf
              have HR2 : Aside0 (r = ([], false)) := Aside0.mk hgf.out.symm
              clear hgf
              go_wp2_with (first | ((with_reducible refine gate_dst (N := 66) rfl ?_); refine Kd.R_lit (Kd.int .i64) _ 3 ?hg66 (N := 66) ?hd66 (xs := ([] : List Int)) (inner := []) (ok := fun _ => True) (okp := fun _ => True) ?hr66 ?hp66 (fun _ hk => hk) trivial (Below.refl _ _) (Nat.le_refl _) (by simp) ?_; (case hd66 => rfl); (case hg66 => rfl); (case hr66 => first | (go_simp; done) | (go_simp; rfl)); (case hp66 => exact (Reps.none _ _)); intro v9 w9 ho9 hb9 hg_ hnew_; have HO9 := Aside0.mk (Kd.R_lower ho9 HBW.out.size); have HB9 := Aside0.mk (below_trans3 HBW.out hb9); clear hg_ hnew_ ho9 hb9) | fail)
              go_ret2
              rw [HR2.out]
              exact ⟨_, rfl, HO9.out, HB9.out⟩
            · rw [chk_neg hb0] at hgf
              have hb1 : 0 ≤ b := by omega
              go_wp2_with (first | ((with_reducible refine gate_builtin (b := .append) (xs := #[.tmp 67, .tmp 69]) rfl ?_); at_builtin; refine Kd.R_append (Kd.int .i64) (w0 := w) w.heap.size rfl (.tmp 67) (.tmp 69) 27 3 (.int .i64 0) 8 rfl Try.underlying27 info3 rfl (by decide) (by omega) (.slice Ao out.length co) out b [.int .i64 b] (fun _ => True) (fun _ => False) rfl rfl ?aP (fun _ hk => hk.elim) ?aF ?aO ?aB ?aS ?aL ?_; (case aP => exact (show Kd.M (Kd.int .i64) _ _ _ b [.int .i64 b] from rfl)); (case aF => exact (fun _ _ => trivial)); (case aO => exact HRW.out); (case aB => exact HBW.out); (case aS => exact HBW.out.size); (case aL => have := HOL.out; omega); intro v5 w5 ho5 hb5 hg_ hat_; have HO5 := Aside0.mk ho5; have HB5 := Aside0.mk hb5; clear hg_ hat_ ho5 hb5) | fail)
              go_roundw
              case rel => exact ⟨i + 1, out ++ [b], by omega, by have := HOL.out; simp only [List.length_append, List.length_cons, List.length_nil]; omega, by go_num, hgf, HO5, HB5⟩
              case measure => simp [intOf]; omega
      · obtain rfl : i = t.length := by omega
        have HR2 : Aside0 (r = (out, true)) := Aside0.mk (by rw [← hgf.out, Nat.sub_self]; rfl)
        clear hgf
        go_wp2
        go_ret2
        rw [HR2.out]
        exact ⟨_, rfl, hR.out, hB.out⟩
end Go.Proofs.Ytfgbohochpjkfaa.G

namespace Go.Proofs.Ytfgbohochpjkfaa.G
open Go.RowKit Go.Proofs.YtfgbohochpjkfaaW.PrintWords Go.Proofs.YtfgbohochpjkfaaW.PrintLast
set_option linter.unusedVariables false
set_option linter.unusedSimpArgs false
/-- All lists of numbers below n that begin with some, d more to come. -/
def chIn (f : List Int → List (List Int)) (dv : List Int) : Nat → Int → List (List Int)
  | 0, _ => []
  | r + 1, k => f (dv ++ [k]) ++ chIn f dv r (k + 1)
def chs (n : Nat) : Nat → List Int → List (List Int)
  | 0, dv => [dv]
  | d + 1, dv => chIn (chs n d) dv n 0
theorem rd_left (xs ys : List Int) (k : Int) (h0 : 0 ≤ k) (h1 : k < (xs.length : Int)) : rd (xs ++ ys) k = rd xs k := by
  unfold rd
  rw [List.getD_eq_getElem?_getD, List.getD_eq_getElem?_getD, List.getElem?_append_left (by omega)]
theorem rd_last (xs : List Int) (x : Int) : rd (xs ++ [x]) (xs.length : Int) = x := by
  unfold rd
  rw [List.getD_eq_getElem?_getD, List.getElem?_append_right (by omega), show ((xs.length : Int)).toNat - xs.length = 0 from by omega]
  rfl
theorem chs_begin (n : Nat) : ∀ (d : Nat) (dv l : List Int), l ∈ chs n d dv → ∃ q, l = dv ++ q ∧ q.length = d := by
  intro d
  induction d with
  | zero =>
    intro dv l h
    refine ⟨[], ?_, rfl⟩
    simpa [chs] using h
  | succ d ih =>
    intro dv l h
    have go : ∀ (r : Nat) (k : Int), l ∈ chIn (chs n d) dv r k → ∃ q, l = dv ++ q ∧ q.length = d + 1 := by
      intro r
      induction r with
      | zero => intro k h; cases h
      | succ r ihr =>
        intro k h
        rcases List.mem_append.1 h with h | h
        · obtain ⟨q, e, hq⟩ := ih _ _ h
          exact ⟨k :: q, by rw [e, List.append_assoc]; rfl, by rw [List.length_cons, hq]⟩
        · exact ihr _ h
    exact go n 0 h
end Go.Proofs.Ytfgbohochpjkfaa.G

namespace Go.Proofs.Ytfgbohochpjkfaa.G
open Go.RowKit Go.Proofs.YtfgbohochpjkfaaW.PrintWords Go.Proofs.YtfgbohochpjkfaaW.PrintLast
set_option linter.unusedVariables false
set_option linter.unusedSimpArgs false
/-- The jobs so far are the beginning of an assignment. -/
def PreA (t : List (List Int)) (jobs : List Int) : Prop := All (jobOk t jobs) 0 (jobs.length : Int)
theorem preA_snoc {t : List (List Int)} (hc : Costs t) {jobs : List Int} (hp : PreA t jobs) (hl : (jobs.length : Int) < (t.length : Int)) (k : Int) (k0 : 0 ≤ k) (k1 : k < ((rd_L1 t 0).length : Int)) :
    PreA t (jobs ++ [k]) ↔ 0 ≤ rd (rd_L1 t (jobs.length : Int)) k ∧ ¬ Has jobs k := by
  have hlen : ((jobs ++ [k]).length : Int) = (jobs.length : Int) + 1 := by simp
  have tk : ∀ i : Int, 0 ≤ i → i ≤ (jobs.length : Int) → (jobs ++ [k]).take i.toNat = jobs.take i.toNat := fun i a b => List.take_append_of_le_length (by omega)
  have at_ : ∀ i : Int, 0 ≤ i → i < (jobs.length : Int) → (jobOk t (jobs ++ [k]) i ↔ jobOk t jobs i) := fun i a b => by
    unfold jobOk
    rw [rd_left jobs [k] i a b, tk i a (by omega)]
  have last : jobOk t (jobs ++ [k]) (jobs.length : Int) ↔ 0 ≤ rd (rd_L1 t (jobs.length : Int)) k ∧ ¬ Has jobs k := by
    unfold jobOk
    rw [rd_last, tk _ (by omega) (Int.le_refl _), show ((jobs.length : Int)).toNat = jobs.length from by omega, List.take_length]
    constructor
    · rintro ⟨_, b, c⟩; exact ⟨by omega, c⟩
    · rintro ⟨b, c⟩; exact ⟨by omega, by omega, c⟩
  constructor
  · intro h
    exact last.1 (h (jobs.length : Int) (by omega) (by omega))
  · intro h i a b
    by_cases e : i < (jobs.length : Int)
    · exact (at_ i a e).2 (hp i a e)
    · obtain rfl : i = (jobs.length : Int) := by omega
      exact last.2 h
theorem preA_nil (t : List (List Int)) : PreA t [] := fun i a b => by simp at b; omega
theorem asgs_asg {t : List (List Int)} (hc : Costs t) : ∀ (d : Nat) (jobs : List Int), jobs.length + d = t.length → PreA t jobs → ∀ l ∈ asgs t d jobs, Asg t l := by
  intro d
  induction d with
  | zero =>
    intro jobs hd hp l hl
    obtain rfl : l = jobs := by simpa [asgs] using hl
    exact ⟨hc, by omega, hp⟩
  | succ d ih =>
    intro jobs hd hp l hl
    have hrow := (hc.2.2 (jobs.length : Int) (by omega) (by omega)).1
    have go : ∀ (r : Nat) (i : Int), 0 ≤ i → i + r = ((rd_L1 t (jobs.length : Int)).length : Int) → l ∈ asgIn (asgs t d) (rd_L1 t (jobs.length : Int)) jobs r i → Asg t l := by
      intro r
      induction r with
      | zero => intro i _ _ h; cases h
      | succ r ihr =>
        intro i i0 hi h
        unfold asgIn at h
        rcases List.mem_append.1 h with h | h
        · by_cases hk : 0 ≤ rd (rd_L1 t (jobs.length : Int)) i ∧ ¬ Has jobs i
          · rw [chk_pos hk] at h
            exact ih (jobs ++ [i]) (by rw [List.length_append, List.length_cons, List.length_nil]; omega) ((preA_snoc hc hp (by omega) i i0 (by omega)).2 hk) l h
          · rw [chk_neg hk] at h; cases h
        · exact ihr (i + 1) (by omega) (by omega) h
    exact go _ 0 (by omega) (by omega) hl
end Go.Proofs.Ytfgbohochpjkfaa.G

namespace Go.Proofs.Ytfgbohochpjkfaa.G
open Go.RowKit Go.Proofs.YtfgbohochpjkfaaW.PrintWords Go.Proofs.YtfgbohochpjkfaaW.PrintLast
set_option linter.unusedVariables false
set_option linter.unusedSimpArgs false
theorem impl_greedy {t : List (List Int)} (hc : Costs t) : ∀ (d i : Nat) (out : List Int), i + d = t.length → out.length = i → Ev (fun k => impl_GreedyAssignment.l0 k out t (t.length : Int) (i : Int)) (gFrom t d i out) := by
  have h1 := hc.1
  have h2 := hc.2.1
  intro d
  induction d with
  | zero =>
    intro i out hi ho
    refine Ev.step (fun k => by rw [impl_GreedyAssignment.l0]) ?_
    simp (disch := omega) only [if_neg]
    exact Ev.now _
  | succ d ih =>
    intro i out hi ho
    have hrow := (hc.2.2 (i : Int) (by omega) (by omega)).1
    have main : ∀ (e kk : Nat), kk + e = (rd_L1 t (i : Int)).length → Ev (fun k => impl_GreedyAssignment.l1 k out (rd_L1 t (i : Int)) (gBest (rd_L1 t (i : Int)) out kk) t (t.length : Int) (i : Int) (rd_L1 t (i : Int)) ((rd_L1 t (i : Int)).length : Int) (kk : Int))
        (chk (gBest (rd_L1 t (i : Int)) out (rd_L1 t (i : Int)).length < 0) ([], false) (gFrom t d (i + 1) (out ++ [gBest (rd_L1 t (i : Int)) out (rd_L1 t (i : Int)).length]))) := by
      intro e
      induction e with
      | zero =>
        intro kk hk
        obtain rfl : kk = (rd_L1 t (i : Int)).length := by omega
        have hb := gBest_bd (rd_L1 t (i : Int)) out (rd_L1 t (i : Int)).length
        refine Ev.step (fun k => by rw [impl_GreedyAssignment.l1]) ?_
        simp only [Int.lt_irrefl, if_false]
        refine Ev.ite (fun g => ?_) (fun g => ?_)
        · rw [chk_pos g]; exact Ev.now _
        · rw [chk_neg g]
          simp (disch := omega) only [if_pos, wrap64_id]
          have r := ih (i + 1) (out ++ [gBest (rd_L1 t (i : Int)) out (rd_L1 t (i : Int)).length]) (by omega) (by rw [List.length_append, List.length_cons, List.length_nil]; omega)
          rw [show (((i + 1 : Nat)) : Int) = (i : Int) + 1 from by omega] at r
          exact r
      | succ e ihe =>
        intro kk hk
        have r := ihe (kk + 1) (by omega)
        have hb := gBest_bd (rd_L1 t (i : Int)) out kk
        rw [show (((kk + 1 : Nat)) : Int) = (kk : Int) + 1 from by omega] at r
        have hst : gBest (rd_L1 t (i : Int)) out (kk + 1) = chk (0 ≤ rd (rd_L1 t (i : Int)) (kk : Int) ∧ ¬ Has out (kk : Int) ∧ (gBest (rd_L1 t (i : Int)) out kk < 0 ∨ rd (rd_L1 t (i : Int)) (kk : Int) < rd (rd_L1 t (i : Int)) (gBest (rd_L1 t (i : Int)) out kk))) (kk : Int) (gBest (rd_L1 t (i : Int)) out kk) := rfl
        rw [hst] at r
        refine Ev.step (fun k => by rw [impl_GreedyAssignment.l1]) ?_
        simp (disch := omega) only [if_pos, wrap64_id]
        refine Ev.ite (fun g1 => ?_) (fun g1 => ?_)
        · refine Ev.bind (impl_has out (kk : Int) (by omega)) ?_
          refine Ev.ite (fun g2 => ?_) (fun g2 => ?_)
          · rw [chk_neg (fun m => m.2.1 (chk_true.1 g2))] at r; exact r
          · have hh : ¬ Has out (kk : Int) := fun m => g2 (chk_true.2 m)
            refine Ev.ite (fun g3 => ?_) (fun g3 => ?_)
            · rw [chk_pos ⟨g1, hh, .inl g3⟩] at r; exact r
            · refine Ev.ite (fun g4 => ?_) (fun g4 => ?_)
              · rw [chk_pos ⟨g1, hh, .inr g4⟩] at r; exact r
              · rw [chk_neg (fun m => m.2.2.elim g3 g4)] at r; exact r
        · rw [chk_neg (fun m => g1 m.1)] at r; exact r
    refine Ev.step (fun k => by rw [impl_GreedyAssignment.l0]) ?_
    simp (disch := omega) only [if_pos]
    exact main (rd_L1 t (i : Int)).length 0 (by omega)
theorem gFrom_len (t : List (List Int)) : ∀ (d i : Nat) (out : List Int), (gFrom t d i out).1.length ≤ out.length + d
  | 0, i, out => Nat.le_refl _
  | d + 1, i, out => by
    unfold gFrom
    by_cases h : gBest (rd_L1 t (i : Int)) out (rd_L1 t (i : Int)).length < 0
    · rw [chk_pos h]; simp
    · rw [chk_neg h]
      have := gFrom_len t d (i + 1) (out ++ [gBest (rd_L1 t (i : Int)) out (rd_L1 t (i : Int)).length])
      rw [List.length_append, List.length_cons, List.length_nil] at this
      omega
theorem greedy_R (t : List (List Int)) (hl : ∀ i, 0 ≤ i → i < (t.length : Int) → ((rd_L1 t i).length : Int) ≤ 1099511627776) : ∃ (b : Bool) (r : List Int × Bool), (if b = true then gFrom t t.length 0 [] else ([], false)) = r ∧ (r.1.length : Int) ≤ 1048576 ∧ Ev (fun k => spec_l17Good.f k t) b ∧ Ev (fun k => impl_GreedyAssignment.f k t) r := by
  unfold impl_GreedyAssignment.f
  by_cases hc : Costs t
  · refine ⟨true, gFrom t t.length 0 [], rfl, ?_, Ev.eq (spec_costs t hl) (chk_pos hc _ _), ?_⟩
    · have := gFrom_len t t.length 0 []
      have := hc.1
      simp only [List.length_nil] at *
      omega
    · refine Ev.bind (impl_costs0 t) ?_
      rw [chk_pos hc]
      simp only [if_true]
      exact impl_greedy hc t.length 0 [] (by omega) rfl
  · refine ⟨false, ([], false), rfl, by simp, Ev.eq (spec_costs t hl) (chk_neg hc _ _), ?_⟩
    refine Ev.bind (impl_costs0 t) ?_
    rw [chk_neg hc]
    simp only [Bool.false_eq_true, if_false]
    exact Ev.now _
end Go.Proofs.Ytfgbohochpjkfaa.G

/- The contract of markIntSS over a slice of slices of one's own: the number behind the marks, and nothing turned outside the slice's blocks. -/
namespace Go.Proofs.Ytfgbohochpjkfaa.G
open Go.RowKit Go.Proofs.YtfgbohochpjkfaaW.PrintWords Go.Proofs.YtfgbohochpjkfaaW.PrintLast
set_option linter.unusedVariables false
set_option linter.unusedSimpArgs false
/-- n cells for whole numbers lie at the slice's beginning. -/
def Shape (w : World) (A : Option Addr) (n : Nat) : Prop := 0 < n → ∃ (g : Nat) (cur : Array Value), A = some ⟨g, 0, none⟩ ∧ w.heap[g]? = some (.cells cur 3 (0, 0)) ∧ n ≤ cur.size
structure Marked (T : Nat → Prop) (w w' : World) : Prop where
  keeps : Keeps T w w'
  same : ∀ (b : Nat) (cur : Array Value), w.heap[b]? = some (.cells cur 3 (0, 0)) → ∃ cur' : Array Value, w'.heap[b]? = some (.cells cur' 3 (0, 0)) ∧ cur'.size = cur.size
theorem Marked.refl (T : Nat → Prop) (w : World) : Marked T w w := ⟨Keeps.refl _ _, fun b cur h => ⟨cur, h, rfl⟩⟩
theorem Marked.trans {T : Nat → Prop} {a b c : World} (h : Marked T a b) (k : Marked T b c) : Marked T a c := ⟨h.keeps.trans k.keeps, fun i cur hi => by
  obtain ⟨c1, h1, e1⟩ := h.same i cur hi
  obtain ⟨c2, h2, e2⟩ := k.same i c1 h1
  exact ⟨c2, h2, e2.trans e1⟩⟩
theorem Marked.mono {S S' : Nat → Prop} {w w' : World} (h : Marked S w w') (hs : ∀ k, S k → S' k) : Marked S' w w' := ⟨⟨h.keeps.os, h.keeps.tape, h.keeps.output, h.keeps.size, fun k hk hn => h.keeps.block k hk (fun m => hn (hs k m))⟩, h.same⟩
theorem Marked.put {T : Nat → Prop} {w : World} {g : Nat} {cur : Array Value} (h : w.heap[g]? = some (.cells cur 3 (0, 0))) (hT : T g) (i : Nat) (u : Value) : Marked T w (w.setCell ⟨g, i, none⟩ u) := by
  refine ⟨⟨rfl, rfl, rfl, by simp [World.setCell], fun k hk hn => Below.heap_setCell w ⟨g, i, none⟩ u k (fun e => hn (by rw [e]; exact hT))⟩, fun b c hb => ?_⟩
  by_cases e : b = g
  · subst e
    rw [h] at hb
    injection hb with hb
    injection hb with hb
    subst hb
    exact ⟨_, blk_set h i u, by simp⟩
  · exact ⟨c, (Below.heap_setCell w ⟨g, i, none⟩ u b e).trans hb, rfl⟩
theorem Shape.marked {T : Nat → Prop} {w w' : World} {A : Option Addr} {n : Nat} (h : Shape w A n) (m : Marked T w w') : Shape w' A n := fun hp => by
  obtain ⟨g, cur, e, hg, hn⟩ := h hp
  obtain ⟨c2, h2, e2⟩ := m.same g cur hg
  exact ⟨g, c2, e, h2, by omega⟩
theorem Shape.of_R {w : World} {base : Nat} {ok : Nat → Prop} {A : Option Addr} {c : Nat} {xs : List Int} (h : Kd.R (Kd.int .i64) 3 w base ok (.slice A xs.length c) xs) : Shape w A xs.length := fun hp => by
  obtain ⟨_, hs⟩ := Kd.own_of_R h
  rcases hs with ⟨_, e⟩ | ⟨g, cap, cur, e, _, hh, hn, _, hc, _⟩
  · omega
  · injection e with e1 e2 e3
    exact ⟨g, cur, e1, hh, by omega⟩
set_option maxHeartbeats 4000000 in
set_option maxRecDepth 100000 in
theorem markS_shape {T : Nat → Prop} (A : Option Addr) (n c : Nat) (k : Int) (w : World) (hS : Shape w A n) (hT : ∀ b, some b = (Value.slice A n c).ownBlock → T b) (k0 : 0 ≤ k) (k1 : k + n ≤ 4611686018427387904) :
    Calls Try.prog 35 #[.slice A n c, .int .i64 k] w fun e w' => e = .returned (.int .i64 (k + n)) ∧ Marked T w w' := by
  have HS := Aside0.mk hS
  have HT := Aside0.mk hT
  clear hS hT
  go_enter Try.func35, Try.ntmps35
  go_wp2
  go_loopw [1, 5] (fun kv iv w' => ∃ i : Nat, i ≤ n ∧ iv = .int .i64 i ∧ kv = .int .i64 (k + i) ∧ Aside0 (Marked T w w')) (fun _ i _ => n - (intOf i).toNat)
  case atStart => exact ⟨0, Nat.zero_le _, rfl, by simp, Aside0.mk (Marked.refl _ _)⟩
  case round =>
    obtain ⟨i, hi, rfl, rfl, hm⟩ := hrel
    by_cases hlt : i < n
    · obtain ⟨g, cur, e, hg, hn⟩ := (HS.out.marked hm.out) (by omega)
      subst e
      have hTg : Aside0 (T g) := Aside0.mk (HT.out g rfl)
      obtain ⟨old, hold⟩ : ∃ old, cur[i]? = some old := ⟨cur[i], Array.getElem?_eq_getElem (by omega)⟩
      have hz : wr.cell? ⟨g, i, none⟩ = some old := (blk_cell hg i).trans hold
      have hz2 := blk_frozen hg i
      have hm2 : Aside0 (Marked T w (wr.setCell ⟨g, i, none⟩ (.int .i64 (k + i)))) := Aside0.mk (hm.out.trans (Marked.put hg hTg.out i _))
      clear hg hold hm
      go_wp2
      go_roundw
      case rel => exact ⟨i + 1, by omega, by go_num, by go_num, hm2⟩
      case measure => simp [intOf]; omega
    · obtain rfl : i = n := by omega
      go_wp2
      go_ret
      exact ⟨rfl, hm.out⟩
def totTo (xs : List (List Int)) : Nat → Int
  | 0 => 0
  | i + 1 => totTo xs i + (rd_L1 xs (i : Int)).length
theorem totTo_mono (xs : List (List Int)) : ∀ i : Nat, 0 ≤ totTo xs i
  | 0 => Int.le_refl _
  | i + 1 => by have := totTo_mono xs i; unfold totTo; omega
theorem totTo_le (xs : List (List Int)) (i : Nat) : ∀ d : Nat, totTo xs i ≤ totTo xs (i + d)
  | 0 => Int.le_refl _
  | d + 1 => by have := totTo_le xs i d; show totTo xs i ≤ totTo xs (i + d) + (rd_L1 xs ((i + d : Nat) : Int)).length; omega
set_option maxHeartbeats 4000000 in
set_option maxRecDepth 100000 in
theorem markSS_own {base : Nat} {ok : Nat → Prop} (A : Option Addr) (c : Nat) (xs : List (List Int)) (k : Int) (w : World) (h : Kd.R (Kd.slice 3 (Kd.int .i64)) 27 w base ok (.slice A xs.length c) xs) (k0 : 0 ≤ k) (k1 : k + totTo xs xs.length ≤ 4611686018427387904) :
    Calls Try.prog 29 #[.slice A xs.length c, .int .i64 k] w fun e w' => e = .returned (.int .i64 (k + totTo xs xs.length)) ∧ Keeps ok w w' := by
  have hn : xs.length ≤ 9223372036854775807 := (Kd.R_reads' h).2.2.2.1
  have HR := Aside0.mk h
  clear h
  go_enter Try.func29, Try.ntmps29
  go_wp2
  go_loopw [1, 5] (fun kv iv w' => ∃ i : Nat, i ≤ xs.length ∧ iv = .int .i64 i ∧ kv = .int .i64 (k + totTo xs i) ∧ Aside0 (Marked (fun b => ok b ∧ ∃ cur : Array Value, w.heap[b]? = some (.cells cur 3 (0, 0))) w w')) (fun _ i _ => xs.length - (intOf i).toNat)
  case atStart => exact ⟨0, Nat.zero_le _, rfl, by simp [totTo], Aside0.mk (Marked.refl _ _)⟩
  case round =>
    obtain ⟨i, hi, rfl, rfl, hm⟩ := hrel
    by_cases hlt : i < xs.length
    · obtain ⟨g, cap, e, _, _, cells, hg27⟩ := Kd.R_form HR.out (by omega)
      injection e with e1 _ e3
      subst e1
      subst e3
      obtain ⟨ce, hcl, hM, hcc, _⟩ := Kd.R_elem HR.out ([] : List Int) (i : Int) (by omega) (by omega)
      obtain ⟨vr, rfl, hRr⟩ := hM
      obtain ⟨Ar, cr, rfl⟩ := Kd.R_slice hRr
      have hrow : xs.getD (i : Int).toNat ([] : List Int) = rd_L1 xs (i : Int) := rfl
      rw [hrow] at hRr hcc
      have hcell0 : w.cell? ⟨g, i, none⟩ = some (.slice Ar (rd_L1 xs (i : Int)).length cr) := by
        have := hcc 0 _ rfl
        rw [Int.toNat_natCast, show (Kd.slice 3 (Kd.int .i64)).sz = 1 from rfl, Nat.mul_one, Nat.add_zero] at this
        exact this
      have hcell : wr.cell? ⟨g, i, none⟩ = some (.slice Ar (rd_L1 xs (i : Int)).length cr) := hm.out.keeps.cell hcell0 (fun h => by
        obtain ⟨_, cur, h2⟩ := h
        rw [hg27] at h2
        injection h2 with h2
        injection h2 with _ h2
        exact absurd h2 (by decide))
      have HSh : Aside0 (Shape wr Ar (rd_L1 xs (i : Int)).length) := Aside0.mk ((Shape.of_R hRr).marked hm.out)
      have HTo : Aside0 (∀ b, some b = (Value.slice Ar (rd_L1 xs (i : Int)).length cr).ownBlock → ok b ∧ ∃ cur : Array Value, w.heap[b]? = some (.cells cur 3 (0, 0))) := Aside0.mk (fun b hb => by
        refine ⟨(hRr.1 b hb.symm).1, ?_⟩
        obtain ⟨inner, ho⟩ := Kd.R_own hRr
        exact own_typed ho b hb.symm)
      have htot : Aside0 (totTo xs (i + 1) = totTo xs i + (rd_L1 xs (i : Int)).length) := Aside0.mk rfl
      have hle := totTo_le xs (i + 1) (xs.length - (i + 1))
      rw [show i + 1 + (xs.length - (i + 1)) = xs.length from by omega] at hle
      have h0 := totTo_mono xs i
      have HK : Aside0 (0 ≤ k + totTo xs i ∧ k + totTo xs i + (rd_L1 xs (i : Int)).length ≤ 4611686018427387904) := Aside0.mk (by rw [htot.out] at hle; omega)
      clear hcl hcc hRr hcell0 hg27 hrow hle h0
      go_wp2_with (go_at_call 35; refine (markS_shape Ar (rd_L1 xs (i : Int)).length cr (k + totTo xs i) _ HSh.out HTo.out HK.out.1 HK.out.2).mono ?_; rintro e w2 ⟨rfl, hm2⟩; have HM2 := Aside0.mk (hm.out.trans hm2); clear hm2)
      go_roundw
      case rel => exact ⟨i + 1, by omega, by go_num, by rw [htot.out, Int.add_assoc], HM2⟩
      case measure => simp [intOf]; omega
    · obtain rfl : i = xs.length := by omega
      go_wp2
      go_ret
      exact ⟨rfl, (hm.out.mono (fun _ h => h.1)).keeps⟩
end Go.Proofs.Ytfgbohochpjkfaa.G

-- Written by wip/tools/gen.py out of the translation (the kit's printer, one namespace a seat). Lean checks it.
namespace Go.Proofs.Ytfgbohochpjkfaa.G
open Go.RowKit Go.Proofs.YtfgbohochpjkfaaW.PrintWords Go.Proofs.YtfgbohochpjkfaaW.PrintLast Go.Proofs.YtfgbohochpjkfaaW.PrintMore
attribute [local go_sem] max2_int min2_int max_two min_two max_three min_three max_four min_four   -- for this text's walks alone
set_option linter.unusedVariables false
set_option linter.unusedSimpArgs false

/-! ### laws_markIntS: function 35 -/
def laws_markIntS.l0 : Nat → List Int → Int → Int → Option (Int × List Int)
  | 0, _, _, _ => none
  | k + 1, x0, x1, x5 => if x5 < (x0.length : Int) then (if 0 ≤ x5 then (laws_markIntS.l0 k (x0.set (x5 : Int).toNat x1) (wrap64 (x1 + 1)) (wrap64 (x5 + 1))) else (none)) else (some (x1, x0))
def laws_markIntS.f (k : Nat) (l0 : List Int) (a1 : Int) : Option (Int × List Int) := laws_markIntS.l0 k l0 a1 0
theorem laws_markIntS.mono_l : ∀ k, (∀ y0 y1 y2, LeO (laws_markIntS.l0 k y0 y1 y2) (laws_markIntS.l0 (k + 1) y0 y1 y2))
  | 0 => fun _ _ _ r h => by simp [laws_markIntS.l0] at h
  | k + 1 => by
    have ih0 := laws_markIntS.mono_l k
    · intro y0 y1 y2
      unfold laws_markIntS.l0
      repeat' first
      | (with_reducible exact ih0 _ _ _)
      | (with_reducible exact LeO.refl _)
      | (with_reducible exact LeO.none _)
      | (with_reducible refine LeO.ite ?_ ?_)
      | (with_reducible refine LeO.bind ?_ (fun _ => ?_))
      | exact ih0 _ _ _
      | exact LeO.none _
      | refine LeO.ite ?_ ?_
      | refine LeO.bind ?_ (fun _ => ?_)
theorem laws_markIntS.mono : ∀ a0 a1 k, LeO (laws_markIntS.f k a0 a1) (laws_markIntS.f (k + 1) a0 a1) := by
  intro a0 a1 k
  have ih0 := laws_markIntS.mono_l k
  unfold laws_markIntS.f
  repeat' first
      | (with_reducible exact ih0 _ _ _)
      | (with_reducible exact LeO.refl _)
      | (with_reducible exact LeO.none _)
      | (with_reducible refine LeO.ite ?_ ?_)
      | (with_reducible refine LeO.bind ?_ (fun _ => ?_))
      | exact ih0 _ _ _
      | exact LeO.none _
      | refine LeO.ite ?_ ?_
      | refine LeO.bind ?_ (fun _ => ?_)
set_option maxHeartbeats 8000000 in
set_option maxRecDepth 100000 in
theorem laws_markIntS.calls (k : Nat) (P0_ : Nat → Prop) (u9000_ : Value) (l0 : List Int) (a1 : Int) (r1 : Int) (r2 : List Int) (w0 w : World) (hB : Below w0.heap.size w0 w) (ho0 : Kd.R (Kd.int .i64) 3 w w0.heap.size P0_ u9000_ l0) (h : laws_markIntS.f k l0 a1 = some (r1, r2)) :
    Calls Try.prog 35 #[u9000_, .int .i64 a1] w fun e w' => e = .returned (.int .i64 r1) ∧ Kd.R (Kd.int .i64) 3 w' w0.heap.size (fun k_ => (P0_ k_ ∨ w.heap.size ≤ k_)) u9000_ r2 ∧ Below w0.heap.size w0 w' ∧ Kept w w' (fun k_ => P0_ k_) := by
  have HO0 := Aside0.mk (show Kd.R (Kd.int .i64) 3 w w0.heap.size (fun k_ => (P0_ k_ ∨ w.heap.size ≤ k_)) u9000_ l0 from Kd.R_mono ho0 (fun k_ hk => (.inl hk)))
  have HK := Aside0.mk (Kept.refl w (fun k_ => P0_ k_))
  have HW0 := Aside0.mk hB.size
  have HB := Aside0.mk hB
  clear hB
  have H : (laws_markIntS.l0 k l0 a1 0) = some (r1, r2) := h
  clear h
  have H' := Aside0.mk H
  clear H
  go_enter Try.func35, Try.ntmps35
  go_wp2
  go_loopg [1, 5] k (fun kq v1 v5 w' => ∃ (x0_1 : List Int) (x1_1 : Int) (x5_1 : Int), v1 = .int .i64 x1_1 ∧ v5 = .int .i64 x5_1 ∧ Aside0 (laws_markIntS.l0 kq x0_1 x1_1 x5_1 = some (r1, r2)) ∧ Aside0 (kq ≤ k) ∧ Aside0 (Kd.R (Kd.int .i64) 3 w' w0.heap.size (fun k_ => (P0_ k_ ∨ w.heap.size ≤ k_)) u9000_ x0_1) ∧ Aside0 (Kept w w' (fun k_ => P0_ k_)) ∧ Aside0 (Below w0.heap.size w0 w'))
  case atStart => exact ⟨(l0), (a1), (0), (by first | rfl | (simp; done) | (simp [*]; done)), (by first | rfl | (simp; done) | (simp [*]; done)), H', ⟨Nat.le_refl _⟩, ⟨by (with_reducible repeat (first | apply Kd.R_alloc | apply Kd.R_drewN | apply Kd.R_drew)); exact HO0.out⟩, ⟨by repeat (first | (with_reducible first | exact HK.out | apply Kept.alloc | apply Kept.drewN | apply Kept.drew) | exact HK.out)⟩, ⟨by repeat (first | (with_reducible first | exact HB.out | apply below_alloc | apply pw_below_drewN | apply below_drew1) | exact HB.out)⟩⟩
  case round =>
    clear H'
    try clear p2
    obtain ⟨x0_1, x1_1, x5_1, rfl, rfl, HA, HK1, HO_0, HK, HB⟩ := hrel
    cases gk with
    | zero => exact absurd HA.out (by simp [laws_markIntS.l0])
    | succ k1 =>
      have H := HA.out
      clear HA
      simp only [laws_markIntS.l0] at H
      by_cases c3 : x5_1 < (x0_1.length : Int)
      · rw [if_pos c3] at H
        have c3b0 : decide (x5_1 < (x0_1.length : Int)) = true := decide_eq_true c3
        clear c3
        by_cases c4 : 0 ≤ x5_1
        · rw [if_pos c4] at H
          have c4b0 : decide (0 ≤ x5_1) = true := decide_eq_true c4
          clear c4
          obtain ⟨y315, hy315⟩ : ∃ y_ : List Int, y_ = (x0_1.set (x5_1 : Int).toNat x1_1) := ⟨_, rfl⟩
          replace H : (laws_markIntS.l0 k1 y315 (wrap64 (x1_1 + 1)) (wrap64 (x5_1 + 1))) = some (r1, r2) := by first | (rw [hy315]; with_reducible exact H) | (have H2_ := (Option.bind_some _ _).symm.trans H; rw [hy315]; with_reducible exact H2_) | (have H2_ := (Option.bind_some _ _).symm.trans H; with_reducible exact H2_) | with_reducible exact H | (rw [hy315]; exact H) | exact H
          have Ny315 := Aside0.mk hy315
          clear hy315
          have H' := Aside0.mk H
          clear H
          obtain ⟨Ao6, co6, eo6⟩ := Kd.R_slice HO_0.out
          subst eo6
          have p5 : 0 ≤ (x5_1 : Int) := of_decide_eq_true (by first | (with_reducible assumption) | assumption)
          have q5 : (x5_1 : Int) < ((x0_1.length : Int) : Int) := of_decide_eq_true (by first | (with_reducible assumption) | assumption)
          obtain ⟨go5, co5, eo5, gb5, gl5, cl5, HG5⟩ := Kd.R_form HO_0.out (by omega)
          (first | cases eo5 | (injection eo5 with ea_ en_ ec_; (first | subst ea_ | (injection ea_ with ea_; subst ea_)); subst ec_; clear en_))
          have GB5 := Aside0.mk gb5
          have GG5 := Aside0.mk HG5
          clear gb5 gl5 HG5
          have HMgo5 := Aside0.mk (show (P0_ go5 ∨ w.heap.size ≤ go5) from (HO_0.out.1 _ rfl))
          obtain ⟨hx5_0, hf5_0⟩ := Kd.R_celln 0 HO_0.out (x5_1 : Int) p5 q5
          replace p5 := eq_true p5
          replace q5 := eq_true q5
          have HP7 := Kd.R_putg HO_0.out (x5_1 : Int) x1_1
          go_wp2_with (first | ((with_reducible refine gate_store (t := 3) (p := 15) rfl ?_); refine store_event (t := 3) (p := 15) (v := ?vo_w8) (w1 := (wr.setCell ⟨go5, (x5_1 : Int).toNat, none⟩ (.int .i64 x1_1))) ?hg ?ho ?hn ?hr ?_; (case ho => rfl); (case hg => rfl); (case hn => rfl); (case hr => first | (go_simp; done) | (go_simp; rfl)); intro w8 hw; have hg : wr.grownBy w8 (some go5) := (by rw [hw]; exact HP7.2); have hp_ : Kd.R (Kd.int .i64) 3 w8 w0.heap.size (fun k_ => (P0_ k_ ∨ w.heap.size ≤ k_)) (.slice (some ⟨go5, 0, none⟩) x0_1.length co6) y315 := (by rw [hw, Ny315.out]; exact HP7.1); clear HP7; have n0_ := Aside0.mk (hp_); have n1_ := Aside0.mk ((by rw [hw]; exact below_set (HB.out) GB5.out : Below w0.heap.size w0 w8)); have n2_ := Aside0.mk (Kept.of_grown (S := (fun k_ => P0_ k_)) hg (by repeat (first | (with_reducible first | exact HK.out | apply Kept.alloc | apply Kept.drewN | apply Kept.drew) | exact HK.out)) (fun k_ e_ => (HO_0.out.1 k_ e_))); clear HO_0; clear HB; clear HK; have HO_0 := n0_; have HB := n1_; have HK := n2_; clear n0_ n1_ n2_; clear hg hw hp_))
          go_roundg k1
          case measure => have := HK1.out; omega
          case rel => exact ⟨(y315), (wrap64 (x1_1 + 1)), (wrap64 (x5_1 + 1)), (by first | rfl | (simp; done) | (simp [*]; done)), (by first | rfl | (simp; done) | (simp [*]; done)), H', ⟨by have := HK1.out; omega⟩, ⟨by (with_reducible repeat (first | apply Kd.R_alloc | apply Kd.R_drewN | apply Kd.R_drew)); exact HO_0.out⟩, ⟨by repeat (first | (with_reducible first | exact HK.out | apply Kept.alloc | apply Kept.drewN | apply Kept.drew) | exact HK.out)⟩, ⟨by repeat (first | (with_reducible first | exact HB.out | apply below_alloc | apply pw_below_drewN | apply below_drew1) | exact HB.out)⟩⟩
        · rw [if_neg c4] at H
          exact absurd H (by simp)
      · rw [if_neg c3] at H
        have c3b0 : decide (x5_1 < (x0_1.length : Int)) = false := decide_eq_false c3
        clear c3
        simp only [Option.some.injEq, Prod.mk.injEq] at H
        obtain ⟨rfl, rfl⟩ := H
        obtain ⟨Ao9, co9, eo9⟩ := Kd.R_slice HO_0.out
        subst eo9
        go_wp2
        go_ret
        exact ⟨by first | rfl | (simp [errW_none, errW_some] <;> rfl) | (simp [*, errW_none, errW_some] <;> rfl), by (with_reducible repeat (first | apply Kd.R_alloc | apply Kd.R_drewN | apply Kd.R_drew)); exact HO_0.out, by repeat (first | (with_reducible first | exact HB.out | apply below_alloc | apply pw_below_drewN | apply below_drew1) | exact HB.out), by repeat (first | (with_reducible first | exact HK.out | apply Kept.alloc | apply Kept.drewN | apply Kept.drew) | exact HK.out)⟩

end Go.Proofs.Ytfgbohochpjkfaa.G

-- Written by wip/tools/gen.py out of the translation (the kit's printer, one namespace a seat). Lean checks it.
namespace Go.Proofs.Ytfgbohochpjkfaa.G
open Go.RowKit Go.Proofs.YtfgbohochpjkfaaW.PrintWords Go.Proofs.YtfgbohochpjkfaaW.PrintLast Go.Proofs.YtfgbohochpjkfaaW.PrintMore
attribute [local go_sem] max2_int min2_int max_two min_two max_three min_three max_four min_four   -- for this text's walks alone
set_option linter.unusedVariables false
set_option linter.unusedSimpArgs false

/-! ### laws_heldIntS: function 36 -/
def laws_heldIntS.l0 : Nat → List Int → Int → Int → Option (Int)
  | 0, _, _, _ => none
  | k + 1, x0, x1, x5 => if x5 < (x0.length : Int) then (if 0 ≤ x5 then (if (rd x0 x5) = x1 then (laws_heldIntS.l0 k x0 (wrap64 (x1 + 1)) (wrap64 (x5 + 1))) else (some (-1))) else (none)) else (some x1)
def laws_heldIntS.f (k : Nat) (l0 : List Int) (a1 : Int) : Option (Int) := laws_heldIntS.l0 k l0 a1 0
theorem laws_heldIntS.mono_l : ∀ k, (∀ y0 y1 y2, LeO (laws_heldIntS.l0 k y0 y1 y2) (laws_heldIntS.l0 (k + 1) y0 y1 y2))
  | 0 => fun _ _ _ r h => by simp [laws_heldIntS.l0] at h
  | k + 1 => by
    have ih0 := laws_heldIntS.mono_l k
    · intro y0 y1 y2
      unfold laws_heldIntS.l0
      repeat' first
      | (with_reducible exact ih0 _ _ _)
      | (with_reducible exact LeO.refl _)
      | (with_reducible exact LeO.none _)
      | (with_reducible refine LeO.ite ?_ ?_)
      | (with_reducible refine LeO.bind ?_ (fun _ => ?_))
      | exact ih0 _ _ _
      | exact LeO.none _
      | refine LeO.ite ?_ ?_
      | refine LeO.bind ?_ (fun _ => ?_)
theorem laws_heldIntS.mono : ∀ a0 a1 k, LeO (laws_heldIntS.f k a0 a1) (laws_heldIntS.f (k + 1) a0 a1) := by
  intro a0 a1 k
  have ih0 := laws_heldIntS.mono_l k
  unfold laws_heldIntS.f
  repeat' first
      | (with_reducible exact ih0 _ _ _)
      | (with_reducible exact LeO.refl _)
      | (with_reducible exact LeO.none _)
      | (with_reducible refine LeO.ite ?_ ?_)
      | (with_reducible refine LeO.bind ?_ (fun _ => ?_))
      | exact ih0 _ _ _
      | exact LeO.none _
      | refine LeO.ite ?_ ?_
      | refine LeO.bind ?_ (fun _ => ?_)
set_option maxHeartbeats 8000000 in
set_option maxRecDepth 100000 in
theorem laws_heldIntS.calls (k : Nat) (A0 : Option Addr) (c0 : Nat) (l0 : List Int) (a1 : Int) (r : Int) (w : World) (hr0 : Kd.C (Kd.int .i64) w A0 l0.length l0) (hc0 : l0.length ≤ c0) (h : laws_heldIntS.f k l0 a1 = some r) :
    Calls Try.prog 36 #[.slice A0 l0.length c0, .int .i64 a1] w fun e w' => e = .returned (.int .i64 r) ∧ Drawn0 w w' := by
  have HR0 := Aside0.mk hr0
  have HC0 := Aside0.mk hc0
  clear hr0 hc0
  have H : (laws_heldIntS.l0 k l0 a1 0) = some r := h
  clear h
  have H' := Aside0.mk H
  clear H
  go_enter Try.func36, Try.ntmps36
  go_wp2
  go_loopg [1, 5] k (fun kq v1 v5 w' => ∃ (x1_1 : Int) (x5_1 : Int), v1 = .int .i64 x1_1 ∧ v5 = .int .i64 x5_1 ∧ Aside0 (laws_heldIntS.l0 kq l0 x1_1 x5_1 = some r) ∧ Aside0 (kq ≤ k) ∧ Drawn0 w w')
  case atStart => exact ⟨(a1), (0), (by first | rfl | (simp; done) | (simp [*]; done)), (by first | rfl | (simp; done) | (simp [*]; done)), H', ⟨Nat.le_refl _⟩, by repeat (first | exact Drawn0.refl _ | apply Drawn0.step)⟩
  case round =>
    clear H'
    try clear p2
    obtain ⟨x1_1, x5_1, rfl, rfl, HA, HK1, ⟨m1, rfl⟩⟩ := hrel
    cases gk with
    | zero => exact absurd HA.out (by simp [laws_heldIntS.l0])
    | succ k1 =>
      have H := HA.out
      clear HA
      simp only [laws_heldIntS.l0] at H
      by_cases c3 : x5_1 < (l0.length : Int)
      · rw [if_pos c3] at H
        have c3b0 : decide (x5_1 < (l0.length : Int)) = true := decide_eq_true c3
        clear c3
        by_cases c4 : 0 ≤ x5_1
        · rw [if_pos c4] at H
          have c4b0 : decide (0 ≤ x5_1) = true := decide_eq_true c4
          clear c4
          by_cases c5 : (rd l0 x5_1) = x1_1
          · rw [if_pos c5] at H
            have c5b0 : ((rd l0 x5_1) == x1_1) = true := beq_iff_eq.mpr c5
            have c5b1 : ((rd l0 x5_1) != x1_1) = false := bne_eq_false_iff_eq.mpr c5
            clear c5
            have H' := Aside0.mk H
            clear H
            have p317 : 0 ≤ (x5_1 : Int) := of_decide_eq_true (by first | (with_reducible assumption) | assumption)
            have q317 : x5_1 < (l0.length : Int) := of_decide_eq_true (by first | (with_reducible assumption) | assumption)
            obtain ⟨ad317, e317, hx317_0⟩ := Kd.at_int HR0.out x5_1 p317 q317
            cases e317
            replace p317 := eq_true p317
            replace q317 := eq_true q317
            go_wp2
            go_roundg k1
            case measure => have := HK1.out; omega
            case rel => exact ⟨(wrap64 (x1_1 + 1)), (wrap64 (x5_1 + 1)), (by first | rfl | (simp; done) | (simp [*]; done)), (by first | rfl | (simp; done) | (simp [*]; done)), H', ⟨by have := HK1.out; omega⟩, by repeat (first | exact Drawn0.refl _ | apply Drawn0.step)⟩
          · rw [if_neg c5] at H
            have c5b0 : ((rd l0 x5_1) == x1_1) = false := beq_eq_false_iff_ne.mpr c5
            have c5b1 : ((rd l0 x5_1) != x1_1) = true := bne_iff_ne.mpr c5
            obtain rfl := Option.some.inj H
            have p317 : 0 ≤ (x5_1 : Int) := of_decide_eq_true (by first | (with_reducible assumption) | assumption)
            have q317 : x5_1 < (l0.length : Int) := of_decide_eq_true (by first | (with_reducible assumption) | assumption)
            obtain ⟨ad317, e317, hx317_0⟩ := Kd.at_int HR0.out x5_1 p317 q317
            cases e317
            replace p317 := eq_true p317
            replace q317 := eq_true q317
            go_wp2
            go_ret
            exact ⟨by first | rfl | (simp; done) | (simp [*]; done), by repeat (first | exact Drawn0.refl _ | apply Drawn0.step)⟩
        · rw [if_neg c4] at H
          exact absurd H (by simp)
      · rw [if_neg c3] at H
        have c3b0 : decide (x5_1 < (l0.length : Int)) = false := decide_eq_false c3
        clear c3
        obtain rfl := Option.some.inj H
        go_wp2
        go_ret
        exact ⟨by first | rfl | (simp; done) | (simp [*]; done), by repeat (first | exact Drawn0.refl _ | apply Drawn0.step)⟩

end Go.Proofs.Ytfgbohochpjkfaa.G

namespace Go.Proofs.Ytfgbohochpjkfaa.G
open Go.RowKit Go.Proofs.YtfgbohochpjkfaaW.PrintWords Go.Proofs.YtfgbohochpjkfaaW.PrintLast
set_option linter.unusedVariables false
set_option linter.unusedSimpArgs false
theorem mark_I (xs : List Int) (h : (xs.length : Int) ≤ 1048576) (s : Int) (s0 : 0 ≤ s) (s1 : s ≤ 1099511627776) : ∃ ys, Ev (fun k => laws_markIntS.f k xs s) (s + 1 * (xs.length : Int), ys) ∧ Ev (fun k => laws_heldIntS.f k ys s) (s + 1 * (xs.length : Int)) ∧ (ys.length : Int) = (xs.length : Int) := by
  obtain ⟨ys, h1, h2, h3⟩ := Ev.markFrom (fun k xs c i => laws_markIntS.l0 k xs c i) (xs.length : Int) 1 s (fun i => s + 1 * i) (0 : Int) (by
      intro ys c hl
      refine Ev.step (fun k => by rw [laws_markIntS.l0]) ?_
      simp only [hl, Int.lt_irrefl, if_false]
      exact Ev.now _) (by
      intro ys c i hl h0 hlt hc r hr
      refine Ev.step (fun k => by rw [laws_markIntS.l0]) ?_
      have e0 : wrap64 (c + 1) = c + 1 := by rw [wrap64_id (by omega) (by omega)]
      have e9 : wrap64 (i + 1) = i + 1 := wrap64_id (by omega) (by omega)
      simp only [hl, if_pos hlt, if_pos h0, Option.bind_some, e0, e9, getD_set _ _ _ _ _ (show i.toNat < ys.length by omega), List.length_set, if_true, List.set_set]
      rw [hc] at hr ⊢
      exact hr) xs rfl
  refine ⟨ys, h1, ?_, h2⟩
  refine Ev.up (fun k (c : Int) i => laws_heldIntS.l0 k ys c i) (fun _ _ => s + 1 * (xs.length : Int)) (fun c i => 0 ≤ i ∧ c = s + 1 * i) (xs.length : Int) ?_ ?_ s 0 ⟨by omega, by omega⟩ (by omega)
  · rintro c ⟨_, rfl⟩
    refine Ev.step (fun k => by rw [laws_heldIntS.l0]) ?_
    simp only [h2, Int.lt_irrefl, if_false]
    exact Ev.now _
  · rintro c i ⟨h0, hc⟩ hlt ih
    refine Ev.step (fun k => by rw [laws_heldIntS.l0]) ?_
    have e0 : wrap64 (c + 1) = c + 1 := by rw [wrap64_id (by omega) (by omega)]
    have e9 : wrap64 (i + 1) = i + 1 := wrap64_id (by omega) (by omega)
    simp only [h2, if_pos hlt, if_pos h0, e0, e9, rd, h3 i h0 hlt, ← hc, if_true]
    exact ih _ ⟨by omega, by omega⟩
end Go.Proofs.Ytfgbohochpjkfaa.G

-- Written by wip/tools/gen.py out of the translation (the kit's printer, one namespace a seat). Lean checks it.
namespace Go.Proofs.Ytfgbohochpjkfaa.G
open Go.RowKit Go.Proofs.YtfgbohochpjkfaaW.PrintWords Go.Proofs.YtfgbohochpjkfaaW.PrintLast Go.Proofs.YtfgbohochpjkfaaW.PrintMore
attribute [local go_sem] max2_int min2_int max_two min_two max_three min_three max_four min_four   -- for this text's walks alone
set_option linter.unusedVariables false
set_option linter.unusedSimpArgs false

/-! ### laws_toIntS: function 20 -/
def laws_toIntS.l0 : Nat → List Int → List Int → Int → Option (List Int)
  | 0, _, _, _ => none
  | k + 1, x0, x3, x4 => if x4 < (x0.length : Int) then (if 0 ≤ x4 then (if x4 < (x3.length : Int) then (laws_toIntS.l0 k x0 (x3.set (x4 : Int).toNat (rd x0 x4)) (wrap64 (x4 + 1))) else (none)) else (none)) else (some x3)
def laws_toIntS.f (k : Nat) (l0 : List Int) : Option (List Int) := if 0 ≤ (l0.length : Int) then (if ((l0.length : Int) : Int).toNat ≤ 35184372088832 then (laws_toIntS.l0 k l0 (List.replicate ((l0.length : Int) : Int).toNat 0) 0) else (none)) else (none)
theorem laws_toIntS.mono_l : ∀ k, (∀ y0 y1 y2, LeO (laws_toIntS.l0 k y0 y1 y2) (laws_toIntS.l0 (k + 1) y0 y1 y2))
  | 0 => fun _ _ _ r h => by simp [laws_toIntS.l0] at h
  | k + 1 => by
    have ih0 := laws_toIntS.mono_l k
    · intro y0 y1 y2
      unfold laws_toIntS.l0
      repeat' first
      | (with_reducible exact ih0 _ _ _)
      | (with_reducible exact LeO.refl _)
      | (with_reducible exact LeO.none _)
      | (with_reducible refine LeO.ite ?_ ?_)
      | (with_reducible refine LeO.bind ?_ (fun _ => ?_))
      | exact ih0 _ _ _
      | exact LeO.none _
      | refine LeO.ite ?_ ?_
      | refine LeO.bind ?_ (fun _ => ?_)
theorem laws_toIntS.mono : ∀ a0 k, LeO (laws_toIntS.f k a0) (laws_toIntS.f (k + 1) a0) := by
  intro a0 k
  have ih0 := laws_toIntS.mono_l k
  unfold laws_toIntS.f
  repeat' first
      | (with_reducible exact ih0 _ _ _)
      | (with_reducible exact LeO.refl _)
      | (with_reducible exact LeO.none _)
      | (with_reducible refine LeO.ite ?_ ?_)
      | (with_reducible refine LeO.bind ?_ (fun _ => ?_))
      | exact ih0 _ _ _
      | exact LeO.none _
      | refine LeO.ite ?_ ?_
      | refine LeO.bind ?_ (fun _ => ?_)
set_option maxHeartbeats 8000000 in
set_option maxRecDepth 100000 in
theorem laws_toIntS.calls (k : Nat) (A0 : Option Addr) (c0 : Nat) (l0 : List Int) (r : List Int) (w : World) (hr0 : Kd.C (Kd.int .i64) w A0 l0.length l0) (hc0 : l0.length ≤ c0) (h : laws_toIntS.f k l0 = some r) :
    Calls Try.prog 20 #[.slice A0 l0.length c0] w fun e w' => ∃ v0_ : Value, e = .returned (v0_) ∧ Kd.R (Kd.int .i64) 3 w' w.heap.size (fun _ => True) v0_ r ∧ Below w.heap.size w w' := by
  have HR0 := Aside0.mk hr0
  have HC0 := Aside0.mk hc0
  clear hr0 hc0
  have HB := Aside0.mk (Below.refl w.heap.size w)
  have H : (if 0 ≤ (l0.length : Int) then (if ((l0.length : Int) : Int).toNat ≤ 35184372088832 then (laws_toIntS.l0 k l0 (List.replicate ((l0.length : Int) : Int).toNat 0) 0) else (none)) else (none)) = some r := h
  clear h
  by_cases c2 : 0 ≤ (l0.length : Int)
  · rw [if_pos c2] at H
    have c2b0 := eq_true c2
    have c2b1 : decide (0 ≤ (l0.length : Int)) = true := decide_eq_true c2
    clear c2
    by_cases c3 : ((l0.length : Int) : Int).toNat ≤ 35184372088832
    · rw [if_pos c3] at H
      have c3b0 := eq_true c3
      have c3b1 : decide (((l0.length : Int) : Int).toNat ≤ 35184372088832) = true := decide_eq_true c3
      clear c3
      obtain ⟨y115, hy115⟩ : ∃ y_ : List Int, y_ = (List.replicate ((l0.length : Int) : Int).toNat 0) := ⟨_, rfl⟩
      replace H : (laws_toIntS.l0 k l0 y115 0) = some r := by first | (rw [hy115]; with_reducible exact H) | (have H2_ := (Option.bind_some _ _).symm.trans H; rw [hy115]; with_reducible exact H2_) | (have H2_ := (Option.bind_some _ _).symm.trans H; with_reducible exact H2_) | with_reducible exact H | (rw [hy115]; exact H) | exact H
      have Ny115 := Aside0.mk hy115
      clear hy115
      have H' := Aside0.mk H
      clear H
      go_enter Try.func20, Try.ntmps20
      go_wp2_with (first | ((with_reducible refine gate_dst (N := 7) rfl ?_); refine Kd.R_make (Kd.int .i64) _ 3 rfl (N := 7) rfl 27 _ _ rfl (l0.length : Int) rfl rfl Try.underlying27 (.int .i64 0) 8 info3 rfl (by decide) (by omega) 0 (ok := fun _ => True) (okp := fun _ => True) rfl (fun _ hk => hk) trivial (of_decide_eq_true (by first | (with_reducible assumption) | assumption)) (Nat.le_trans (Nat.mul_le_mul_right _ (of_decide_eq_true (by first | (with_reducible assumption) | assumption) : (l0.length : Int).toNat ≤ 35184372088832)) (by omega)) (Below.refl _ _) (Nat.le_refl _) ?_; intro v116 w4 ho5 hb hg_ hnew_; clear hg_ hnew_; (first | rw [← Ny115.out] at ho5 | (simp only [Int.reduceToNat] at ho5; rw [← Ny115.out] at ho5)); have n0_ := Aside0.mk (Kd.R_lower ho5 (below_size (by repeat (first | (with_reducible first | exact HB.out | apply below_alloc | apply pw_below_drewN | apply below_drew1) | exact HB.out)))); have n1_ := Aside0.mk (below_step (by repeat (first | (with_reducible first | exact HB.out | apply below_alloc | apply pw_below_drewN | apply below_drew1) | exact HB.out)) hb); clear HB; have HO117 := n0_; have HB := n1_; clear n0_ n1_; clear hb ho5))
      go_loopg [4] k (fun kq v4 w' => ∃ (x3_1 : List Int) (x4_1 : Int), v4 = .int .i64 x4_1 ∧ Aside0 (laws_toIntS.l0 kq l0 x3_1 x4_1 = some r) ∧ Aside0 (kq ≤ k) ∧ Aside0 (Kd.R (Kd.int .i64) 3 w' w.heap.size (fun _ => True) v116 x3_1) ∧ Aside0 (Below w.heap.size w w'))
      case atStart => exact ⟨(y115), (0), (by first | rfl | (simp; done) | (simp [*]; done)), H', ⟨Nat.le_refl _⟩, ⟨by (with_reducible repeat (first | apply Kd.R_alloc | apply Kd.R_drewN | apply Kd.R_drew)); exact HO117.out⟩, ⟨by repeat (first | (with_reducible first | exact HB.out | apply below_alloc | apply pw_below_drewN | apply below_drew1) | exact HB.out)⟩⟩
      case round =>
        clear H'
        try clear c2
        try clear c2b0
        try clear c2b1
        try clear p2
        try clear c3
        try clear c3b0
        try clear c3b1
        obtain ⟨x3_1, x4_1, rfl, HA, HK1, HO_3, HB⟩ := hrel
        cases gk with
        | zero => exact absurd HA.out (by simp [laws_toIntS.l0])
        | succ k1 =>
          have H := HA.out
          clear HA
          simp only [laws_toIntS.l0] at H
          by_cases c6 : x4_1 < (l0.length : Int)
          · rw [if_pos c6] at H
            have c6b0 : decide (x4_1 < (l0.length : Int)) = true := decide_eq_true c6
            clear c6
            by_cases c7 : 0 ≤ x4_1
            · rw [if_pos c7] at H
              have c7b0 : decide (0 ≤ x4_1) = true := decide_eq_true c7
              clear c7
              by_cases c8 : x4_1 < (x3_1.length : Int)
              · rw [if_pos c8] at H
                have c8b0 : decide (x4_1 < (x3_1.length : Int)) = true := decide_eq_true c8
                clear c8
                obtain ⟨y119, hy119⟩ : ∃ y_ : List Int, y_ = (x3_1.set (x4_1 : Int).toNat (rd l0 x4_1)) := ⟨_, rfl⟩
                replace H : (laws_toIntS.l0 k1 l0 y119 (wrap64 (x4_1 + 1))) = some r := by first | (rw [hy119]; with_reducible exact H) | (have H2_ := (Option.bind_some _ _).symm.trans H; rw [hy119]; with_reducible exact H2_) | (have H2_ := (Option.bind_some _ _).symm.trans H; with_reducible exact H2_) | with_reducible exact H | (rw [hy119]; exact H) | exact H
                have Ny119 := Aside0.mk hy119
                clear hy119
                have H' := Aside0.mk H
                clear H
                have p118 : 0 ≤ (x4_1 : Int) := of_decide_eq_true (by first | (with_reducible assumption) | assumption)
                have q118 : x4_1 < (l0.length : Int) := of_decide_eq_true (by first | (with_reducible assumption) | assumption)
                obtain ⟨ad118, e118, hx118_0⟩ := Kd.at_int HR0.out x4_1 p118 q118
                cases e118
                replace hx118_0 := (HB.out.cell (World.block_lt_of_cell? w _ hx118_0)).trans hx118_0
                replace p118 := eq_true p118
                replace q118 := eq_true q118
                have p9 : 0 ≤ (x4_1 : Int) := of_decide_eq_true (by first | (with_reducible assumption) | assumption)
                have q9 : (x4_1 : Int) < ((x3_1.length : Int) : Int) := of_decide_eq_true (by first | (with_reducible assumption) | assumption)
                obtain ⟨go9, co9, eo9, gb9, gl9, cl9, HG9⟩ := Kd.R_form HO_3.out (by omega)
                (first | cases eo9 | (injection eo9 with ea_ en_ ec_; (first | subst ea_ | (injection ea_ with ea_; subst ea_)); subst ec_; clear en_))
                have GB9 := Aside0.mk gb9
                have GG9 := Aside0.mk HG9
                clear gb9 gl9 HG9
                obtain ⟨hx9_0, hf9_0⟩ := Kd.R_celln 0 HO_3.out (x4_1 : Int) p9 q9
                replace p9 := eq_true p9
                replace q9 := eq_true q9
                have HP10 := Kd.R_putg HO_3.out (x4_1 : Int) (rd l0 x4_1)
                go_wp2_with (first | ((with_reducible refine gate_store (t := 3) (p := 20) rfl ?_); refine store_event (t := 3) (p := 20) (v := ?vo_w11) (w1 := (wr.setCell ⟨go9, (x4_1 : Int).toNat, none⟩ (.int .i64 (rd l0 x4_1)))) ?hg ?ho ?hn ?hr ?_; (case ho => rfl); (case hg => rfl); (case hn => rfl); (case hr => first | (go_simp; done) | (go_simp; rfl)); intro w11 hw; have hg : wr.grownBy w11 (some go9) := (by rw [hw]; exact HP10.2); have hp_ : Kd.R (Kd.int .i64) 3 w11 w.heap.size (fun _ => True) (.slice (some ⟨go9, 0, none⟩) x3_1.length co9) y119 := (by rw [hw, Ny119.out]; exact HP10.1); clear HP10; have n0_ := Aside0.mk (hp_); have n1_ := Aside0.mk ((by rw [hw]; exact below_set (HB.out) GB9.out : Below w.heap.size w w11)); clear HO_3; clear HB; have HO_3 := n0_; have HB := n1_; clear n0_ n1_; clear hg hw hp_))
                go_roundg k1
                case measure => have := HK1.out; omega
                case rel => exact ⟨(y119), (wrap64 (x4_1 + 1)), (by first | rfl | (simp; done) | (simp [*]; done)), H', ⟨by have := HK1.out; omega⟩, ⟨by (with_reducible repeat (first | apply Kd.R_alloc | apply Kd.R_drewN | apply Kd.R_drew)); exact HO_3.out⟩, ⟨by repeat (first | (with_reducible first | exact HB.out | apply below_alloc | apply pw_below_drewN | apply below_drew1) | exact HB.out)⟩⟩
              · rw [if_neg c8] at H
                exact absurd H (by simp)
            · rw [if_neg c7] at H
              exact absurd H (by simp)
          · rw [if_neg c6] at H
            have c6b0 : decide (x4_1 < (l0.length : Int)) = false := decide_eq_false c6
            clear c6
            obtain rfl := Option.some.inj H
            go_wp2
            go_ret
            exact ⟨_, by first | rfl | (simp [errW_none, errW_some] <;> rfl) | (simp [*, errW_none, errW_some] <;> rfl), by (with_reducible repeat (first | apply Kd.R_alloc | apply Kd.R_drewN | apply Kd.R_drew)); exact HO_3.out, by repeat (first | (with_reducible first | exact HB.out | apply below_alloc | apply pw_below_drewN | apply below_drew1) | exact HB.out)⟩
    · rw [if_neg c3] at H
      exact absurd H (by simp)
  · rw [if_neg c2] at H
    exact absurd H (by simp)

end Go.Proofs.Ytfgbohochpjkfaa.G

-- Written by wip/tools/gen.py out of the translation (the kit's printer, one namespace a seat). Lean checks it.
namespace Go.Proofs.Ytfgbohochpjkfaa.G
open Go.RowKit Go.Proofs.YtfgbohochpjkfaaW.PrintWords Go.Proofs.YtfgbohochpjkfaaW.PrintLast Go.Proofs.YtfgbohochpjkfaaW.PrintMore
attribute [local go_sem] max2_int min2_int max_two min_two max_three min_three max_four min_four   -- for this text's walks alone
set_option linter.unusedVariables false
set_option linter.unusedSimpArgs false

/-! ### laws_eqIntS: function 22 -/
def laws_eqIntS.l0 : Nat → List Int → List Int → Int → Option (Bool)
  | 0, _, _, _ => none
  | k + 1, x0, x1, x5 => if x5 < (x0.length : Int) then (if 0 ≤ x5 then (if x5 < (x1.length : Int) then (if (rd x0 x5) = (rd x1 x5) then (laws_eqIntS.l0 k x0 x1 (wrap64 (x5 + 1))) else (some false)) else (none)) else (none)) else (some true)
def laws_eqIntS.f (k : Nat) (l0 : List Int) (l1 : List Int) : Option (Bool) := if (l0.length : Int) = (l1.length : Int) then (laws_eqIntS.l0 k l0 l1 0) else (some false)
theorem laws_eqIntS.mono_l : ∀ k, (∀ y0 y1 y2, LeO (laws_eqIntS.l0 k y0 y1 y2) (laws_eqIntS.l0 (k + 1) y0 y1 y2))
  | 0 => fun _ _ _ r h => by simp [laws_eqIntS.l0] at h
  | k + 1 => by
    have ih0 := laws_eqIntS.mono_l k
    · intro y0 y1 y2
      unfold laws_eqIntS.l0
      repeat' first
      | (with_reducible exact ih0 _ _ _)
      | (with_reducible exact LeO.refl _)
      | (with_reducible exact LeO.none _)
      | (with_reducible refine LeO.ite ?_ ?_)
      | (with_reducible refine LeO.bind ?_ (fun _ => ?_))
      | exact ih0 _ _ _
      | exact LeO.none _
      | refine LeO.ite ?_ ?_
      | refine LeO.bind ?_ (fun _ => ?_)
theorem laws_eqIntS.mono : ∀ a0 a1 k, LeO (laws_eqIntS.f k a0 a1) (laws_eqIntS.f (k + 1) a0 a1) := by
  intro a0 a1 k
  have ih0 := laws_eqIntS.mono_l k
  unfold laws_eqIntS.f
  repeat' first
      | (with_reducible exact ih0 _ _ _)
      | (with_reducible exact LeO.refl _)
      | (with_reducible exact LeO.none _)
      | (with_reducible refine LeO.ite ?_ ?_)
      | (with_reducible refine LeO.bind ?_ (fun _ => ?_))
      | exact ih0 _ _ _
      | exact LeO.none _
      | refine LeO.ite ?_ ?_
      | refine LeO.bind ?_ (fun _ => ?_)
set_option maxHeartbeats 8000000 in
set_option maxRecDepth 100000 in
theorem laws_eqIntS.calls (k : Nat) (A0 : Option Addr) (c0 : Nat) (l0 : List Int) (A1 : Option Addr) (c1 : Nat) (l1 : List Int) (r : Bool) (w : World) (hr0 : Kd.C (Kd.int .i64) w A0 l0.length l0) (hc0 : l0.length ≤ c0) (hr1 : Kd.C (Kd.int .i64) w A1 l1.length l1) (hc1 : l1.length ≤ c1) (h : laws_eqIntS.f k l0 l1 = some r) :
    Calls Try.prog 22 #[.slice A0 l0.length c0, .slice A1 l1.length c1] w fun e w' => e = .returned (.bool r) ∧ Drawn0 w w' := by
  have HR0 := Aside0.mk hr0
  have HC0 := Aside0.mk hc0
  clear hr0 hc0
  have HR1 := Aside0.mk hr1
  have HC1 := Aside0.mk hc1
  clear hr1 hc1
  have H : (if (l0.length : Int) = (l1.length : Int) then (laws_eqIntS.l0 k l0 l1 0) else (some false)) = some r := h
  clear h
  by_cases c3 : (l0.length : Int) = (l1.length : Int)
  · rw [if_pos c3] at H
    have c3b0 : ((l0.length : Int) == (l1.length : Int)) = true := beq_iff_eq.mpr c3
    have c3b1 : ((l0.length : Int) != (l1.length : Int)) = false := bne_eq_false_iff_eq.mpr c3
    have c3b2 : (l0.length == l1.length) = true := by first | simpa using c3 | (simp at c3 ⊢; omega)
    clear c3
    have H' := Aside0.mk H
    clear H
    go_enter Try.func22, Try.ntmps22
    go_wp2
    repeat (go_quiet (fail); try go_wp2)
    go_loopg [5] k (fun kq v5 w' => ∃ (x5_1 : Int), v5 = .int .i64 x5_1 ∧ Aside0 (laws_eqIntS.l0 kq l0 l1 x5_1 = some r) ∧ Aside0 (kq ≤ k) ∧ Drawn0 w w')
    case atStart => exact ⟨(0), (by first | rfl | (simp; done) | (simp [*]; done)), H', ⟨Nat.le_refl _⟩, by repeat (first | exact Drawn0.refl _ | apply Drawn0.step)⟩
    case round =>
      clear H'
      try clear c1
      try clear c2
      try clear p2
      try clear c3
      try clear c3b0
      try clear c3b1
      try clear c3b2
      obtain ⟨x5_1, rfl, HA, HK1, ⟨m1, rfl⟩⟩ := hrel
      cases gk with
      | zero => exact absurd HA.out (by simp [laws_eqIntS.l0])
      | succ k1 =>
        have H := HA.out
        clear HA
        simp only [laws_eqIntS.l0] at H
        by_cases c4 : x5_1 < (l0.length : Int)
        · rw [if_pos c4] at H
          have c4b0 : decide (x5_1 < (l0.length : Int)) = true := decide_eq_true c4
          clear c4
          by_cases c5 : 0 ≤ x5_1
          · rw [if_pos c5] at H
            have c5b0 : decide (0 ≤ x5_1) = true := decide_eq_true c5
            clear c5
            by_cases c6 : x5_1 < (l1.length : Int)
            · rw [if_pos c6] at H
              have c6b0 : decide (x5_1 < (l1.length : Int)) = true := decide_eq_true c6
              clear c6
              by_cases c7 : (rd l0 x5_1) = (rd l1 x5_1)
              · rw [if_pos c7] at H
                have c7b0 : ((rd l0 x5_1) == (rd l1 x5_1)) = true := beq_iff_eq.mpr c7
                have c7b1 : ((rd l0 x5_1) != (rd l1 x5_1)) = false := bne_eq_false_iff_eq.mpr c7
                clear c7
                have H' := Aside0.mk H
                clear H
                have p134 : 0 ≤ (x5_1 : Int) := of_decide_eq_true (by first | (with_reducible assumption) | assumption)
                have q134 : x5_1 < (l0.length : Int) := of_decide_eq_true (by first | (with_reducible assumption) | assumption)
                obtain ⟨ad134, e134, hx134_0⟩ := Kd.at_int HR0.out x5_1 p134 q134
                cases e134
                replace p134 := eq_true p134
                replace q134 := eq_true q134
                have p135 : 0 ≤ (x5_1 : Int) := of_decide_eq_true (by first | (with_reducible assumption) | assumption)
                have q135 : x5_1 < (l1.length : Int) := of_decide_eq_true (by first | (with_reducible assumption) | assumption)
                obtain ⟨ad135, e135, hx135_0⟩ := Kd.at_int HR1.out x5_1 p135 q135
                cases e135
                replace p135 := eq_true p135
                replace q135 := eq_true q135
                go_wp2
                repeat (go_quiet (fail); try go_wp2)
                go_roundg k1
                case measure => have := HK1.out; omega
                case rel => exact ⟨(wrap64 (x5_1 + 1)), (by first | rfl | (simp; done) | (simp [*]; done)), H', ⟨by have := HK1.out; omega⟩, by repeat (first | exact Drawn0.refl _ | apply Drawn0.step)⟩
              · rw [if_neg c7] at H
                have c7b0 : ((rd l0 x5_1) == (rd l1 x5_1)) = false := beq_eq_false_iff_ne.mpr c7
                have c7b1 : ((rd l0 x5_1) != (rd l1 x5_1)) = true := bne_iff_ne.mpr c7
                obtain rfl := Option.some.inj H
                have p134 : 0 ≤ (x5_1 : Int) := of_decide_eq_true (by first | (with_reducible assumption) | assumption)
                have q134 : x5_1 < (l0.length : Int) := of_decide_eq_true (by first | (with_reducible assumption) | assumption)
                obtain ⟨ad134, e134, hx134_0⟩ := Kd.at_int HR0.out x5_1 p134 q134
                cases e134
                replace p134 := eq_true p134
                replace q134 := eq_true q134
                have p135 : 0 ≤ (x5_1 : Int) := of_decide_eq_true (by first | (with_reducible assumption) | assumption)
                have q135 : x5_1 < (l1.length : Int) := of_decide_eq_true (by first | (with_reducible assumption) | assumption)
                obtain ⟨ad135, e135, hx135_0⟩ := Kd.at_int HR1.out x5_1 p135 q135
                cases e135
                replace p135 := eq_true p135
                replace q135 := eq_true q135
                go_wp2
                repeat (go_quiet (fail); try go_wp2)
                go_ret
                exact ⟨by first | rfl | (simp; done) | (simp [*]; done), by repeat (first | exact Drawn0.refl _ | apply Drawn0.step)⟩
            · rw [if_neg c6] at H
              exact absurd H (by simp)
          · rw [if_neg c5] at H
            exact absurd H (by simp)
        · rw [if_neg c4] at H
          have c4b0 : decide (x5_1 < (l0.length : Int)) = false := decide_eq_false c4
          clear c4
          obtain rfl := Option.some.inj H
          go_wp2
          repeat (go_quiet (fail); try go_wp2)
          go_ret
          exact ⟨by first | rfl | (simp; done) | (simp [*]; done), by repeat (first | exact Drawn0.refl _ | apply Drawn0.step)⟩
  · rw [if_neg c3] at H
    have c3b0 : ((l0.length : Int) == (l1.length : Int)) = false := beq_eq_false_iff_ne.mpr c3
    have c3b1 : ((l0.length : Int) != (l1.length : Int)) = true := bne_iff_ne.mpr c3
    have c3b2 : (l0.length == l1.length) = false := by first | simpa using c3 | (simp at c3 ⊢; omega)
    obtain rfl := Option.some.inj H
    go_enter Try.func22, Try.ntmps22
    go_wp2
    repeat (go_quiet (fail); try go_wp2)
    go_ret
    exact ⟨by first | rfl | (simp; done) | (simp [*]; done), by repeat (first | exact Drawn0.refl _ | apply Drawn0.step)⟩

end Go.Proofs.Ytfgbohochpjkfaa.G

-- Written by wip/tools/gen.py out of the translation (the kit's printer, one namespace a seat). Lean checks it.
namespace Go.Proofs.Ytfgbohochpjkfaa.G
open Go.RowKit Go.Proofs.YtfgbohochpjkfaaW.PrintWords Go.Proofs.YtfgbohochpjkfaaW.PrintLast Go.Proofs.YtfgbohochpjkfaaW.PrintMore
attribute [local go_sem] max2_int min2_int max_two min_two max_three min_three max_four min_four   -- for this text's walks alone
set_option linter.unusedVariables false
set_option linter.unusedSimpArgs false

/-! ### laws_szIntS: function 48 -/
def laws_szIntS.f (l0 : List Int) (a1 : Int) : Option (Int) := if (wrap64 (a1 - (l0.length : Int))) < 0 then (some (-1)) else (some (wrap64 (a1 - (l0.length : Int))))
set_option maxHeartbeats 8000000 in
set_option maxRecDepth 100000 in
theorem laws_szIntS.calls (A0 : Option Addr) (c0 : Nat) (l0 : List Int) (a1 : Int) (r : Int) (w : World) (hr0 : Kd.C (Kd.int .i64) w A0 l0.length l0) (hc0 : l0.length ≤ c0) (h : laws_szIntS.f l0 a1 = some r) :
    Calls Try.prog 48 #[.slice A0 l0.length c0, .int .i64 a1] w fun e w' => e = .returned (.int .i64 r) ∧ Drawn0 w w' := by
  have HR0 := Aside0.mk hr0
  have HC0 := Aside0.mk hc0
  clear hr0 hc0
  have H : (if (wrap64 (a1 - (l0.length : Int))) < 0 then (some (-1)) else (some (wrap64 (a1 - (l0.length : Int))))) = some r := h
  clear h
  by_cases c3 : (wrap64 (a1 - (l0.length : Int))) < 0
  · rw [if_pos c3] at H
    have c3b0 : decide ((wrap64 (a1 - (l0.length : Int))) < 0) = true := decide_eq_true c3
    clear c3
    obtain rfl := Option.some.inj H
    go_enter Try.func48, Try.ntmps48
    go_wp2
    go_ret
    exact ⟨by first | rfl | (simp; done) | (simp [*]; done), by repeat (first | exact Drawn0.refl _ | apply Drawn0.step)⟩
  · rw [if_neg c3] at H
    have c3b0 : decide ((wrap64 (a1 - (l0.length : Int))) < 0) = false := decide_eq_false c3
    clear c3
    obtain rfl := Option.some.inj H
    go_enter Try.func48, Try.ntmps48
    go_wp2
    go_ret
    exact ⟨by first | rfl | (simp; done) | (simp [*]; done), by repeat (first | exact Drawn0.refl _ | apply Drawn0.step)⟩

end Go.Proofs.Ytfgbohochpjkfaa.G

-- Written by wip/tools/gen.py out of the translation (the kit's printer, one namespace a seat). Lean checks it.
namespace Go.Proofs.Ytfgbohochpjkfaa.G
open Go.RowKit Go.Proofs.YtfgbohochpjkfaaW.PrintWords Go.Proofs.YtfgbohochpjkfaaW.PrintLast Go.Proofs.YtfgbohochpjkfaaW.PrintMore
attribute [local go_sem] max2_int min2_int max_two min_two max_three min_three max_four min_four   -- for this text's walks alone
set_option linter.unusedVariables false
set_option linter.unusedSimpArgs false

/-! ### laws_szIntSS: function 14 -/
def laws_szIntSS.l0 : Nat → List (List Int) → Int → Int → Option (Int)
  | 0, _, _, _ => none
  | k + 1, x0, x1, x5 => if x5 < (x0.length : Int) then (if 0 ≤ x5 then ((laws_szIntS.f (rd_L1 x0 x5) x1).bind fun t104 => (if t104 < 0 then (some (-1)) else (laws_szIntSS.l0 k x0 t104 (wrap64 (x5 + 1))))) else (none)) else (some x1)
def laws_szIntSS.f (k : Nat) (l0 : List (List Int)) (a1 : Int) : Option (Int) := if (wrap64 (a1 - (l0.length : Int))) < 0 then (some (-1)) else (laws_szIntSS.l0 k l0 (wrap64 (a1 - (l0.length : Int))) 0)
theorem laws_szIntSS.mono_l : ∀ k, (∀ y0 y1 y2, LeO (laws_szIntSS.l0 k y0 y1 y2) (laws_szIntSS.l0 (k + 1) y0 y1 y2))
  | 0 => fun _ _ _ r h => by simp [laws_szIntSS.l0] at h
  | k + 1 => by
    have ih0 := laws_szIntSS.mono_l k
    · intro y0 y1 y2
      unfold laws_szIntSS.l0
      repeat' first
      | (with_reducible exact ih0 _ _ _)
      | (with_reducible exact LeO.refl _)
      | (with_reducible exact LeO.none _)
      | (with_reducible refine LeO.ite ?_ ?_)
      | (with_reducible refine LeO.bind ?_ (fun _ => ?_))
      | exact ih0 _ _ _
      | exact LeO.none _
      | refine LeO.ite ?_ ?_
      | refine LeO.bind ?_ (fun _ => ?_)
theorem laws_szIntSS.mono : ∀ a0 a1 k, LeO (laws_szIntSS.f k a0 a1) (laws_szIntSS.f (k + 1) a0 a1) := by
  intro a0 a1 k
  have ih0 := laws_szIntSS.mono_l k
  unfold laws_szIntSS.f
  repeat' first
      | (with_reducible exact ih0 _ _ _)
      | (with_reducible exact LeO.refl _)
      | (with_reducible exact LeO.none _)
      | (with_reducible refine LeO.ite ?_ ?_)
      | (with_reducible refine LeO.bind ?_ (fun _ => ?_))
      | exact ih0 _ _ _
      | exact LeO.none _
      | refine LeO.ite ?_ ?_
      | refine LeO.bind ?_ (fun _ => ?_)
set_option maxHeartbeats 8000000 in
set_option maxRecDepth 100000 in
theorem laws_szIntSS.calls (k : Nat) (A0 : Option Addr) (c0 : Nat) (l0 : List (List Int)) (a1 : Int) (r : Int) (w : World) (hr0 : Kd.C (Kd.slice 3 (Kd.int .i64)) w A0 l0.length l0) (hc0 : l0.length ≤ c0) (h : laws_szIntSS.f k l0 a1 = some r) :
    Calls Try.prog 14 #[.slice A0 l0.length c0, .int .i64 a1] w fun e w' => e = .returned (.int .i64 r) ∧ Drawn0 w w' := by
  have HR0 := Aside0.mk hr0
  have HC0 := Aside0.mk hc0
  clear hr0 hc0
  have H : (if (wrap64 (a1 - (l0.length : Int))) < 0 then (some (-1)) else (laws_szIntSS.l0 k l0 (wrap64 (a1 - (l0.length : Int))) 0)) = some r := h
  clear h
  by_cases c3 : (wrap64 (a1 - (l0.length : Int))) < 0
  · rw [if_pos c3] at H
    have c3b0 : decide ((wrap64 (a1 - (l0.length : Int))) < 0) = true := decide_eq_true c3
    clear c3
    obtain rfl := Option.some.inj H
    go_enter Try.func14, Try.ntmps14
    go_wp2
    go_ret
    exact ⟨by first | rfl | (simp; done) | (simp [*]; done), by repeat (first | exact Drawn0.refl _ | apply Drawn0.step)⟩
  · rw [if_neg c3] at H
    have c3b0 : decide ((wrap64 (a1 - (l0.length : Int))) < 0) = false := decide_eq_false c3
    clear c3
    have H' := Aside0.mk H
    clear H
    go_enter Try.func14, Try.ntmps14
    go_wp2
    go_loopg [1, 5] k (fun kq v1 v5 w' => ∃ (x1_1 : Int) (x5_1 : Int), v1 = .int .i64 x1_1 ∧ v5 = .int .i64 x5_1 ∧ Aside0 (laws_szIntSS.l0 kq l0 x1_1 x5_1 = some r) ∧ Aside0 (kq ≤ k) ∧ Drawn0 w w')
    case atStart => exact ⟨(wrap64 (a1 - (l0.length : Int))), (0), (by first | rfl | (simp; done) | (simp [*]; done)), (by first | rfl | (simp; done) | (simp [*]; done)), H', ⟨Nat.le_refl _⟩, by repeat (first | exact Drawn0.refl _ | apply Drawn0.step)⟩
    case round =>
      clear H'
      try clear c1
      try clear p2
      try clear c3
      try clear c3b0
      obtain ⟨x1_1, x5_1, rfl, rfl, HA, HK1, ⟨m1, rfl⟩⟩ := hrel
      cases gk with
      | zero => exact absurd HA.out (by simp [laws_szIntSS.l0])
      | succ k1 =>
        have H := HA.out
        clear HA
        simp only [laws_szIntSS.l0] at H
        by_cases c4 : x5_1 < (l0.length : Int)
        · rw [if_pos c4] at H
          have c4b0 : decide (x5_1 < (l0.length : Int)) = true := decide_eq_true c4
          clear c4
          by_cases c5 : 0 ≤ x5_1
          · rw [if_pos c5] at H
            have c5b0 : decide (0 ≤ x5_1) = true := decide_eq_true c5
            clear c5
            replace H := Option.bind_eq_some_iff.mp H
            obtain ⟨t104, A60, H⟩ := H
            replace H : (if t104 < 0 then (some (-1)) else (laws_szIntSS.l0 k1 l0 t104 (wrap64 (x5_1 + 1)))) = some r := H
            have A6 := Aside0.mk A60
            clear A60
            by_cases c7 : t104 < 0
            · rw [if_pos c7] at H
              have c7b0 : decide (t104 < 0) = true := decide_eq_true c7
              clear c7
              obtain rfl := Option.some.inj H
              have p103 : 0 ≤ (x5_1 : Int) := of_decide_eq_true (by first | (with_reducible assumption) | assumption)
              have q103 : x5_1 < (l0.length : Int) := of_decide_eq_true (by first | (with_reducible assumption) | assumption)
              obtain ⟨ad103, A103_0, c103_0, e103, hx103_0, hl103_0, hi103_0⟩ := at_L1 HR0.out x5_1 p103 q103
              cases e103
              have HR103_0 := Aside0.mk hi103_0
              have HC103_0 := Aside0.mk hl103_0
              clear hi103_0 hl103_0
              replace p103 := eq_true p103
              replace q103 := eq_true q103
              go_wp2_with (first | ((with_reducible refine gate_callee (f := 48) rfl ?_); refine goesL_ (some 23) rfl rfl Try.func48 (by kernel_rfl) rfl #[.slice A103_0 (rd_L1 l0 x5_1).length c103_0, .int .i64 x1_1] rfl (by (try simp only [List.map_toArray, List.map_cons, List.map_nil]); first | done | rfl | (simp only [List.length_drop, List.length_take]; rfl)) ?_; (with_reducible refine (laws_szIntS.calls _ _ (rd_L1 l0 x5_1) x1_1 t104 _ ?side1 ?side2 A6.out).mono ?_); (case side1 => repeat (first | exact HR103_0.out | (with_reducible refine Kd.C_alloc ?_ _) | (with_reducible refine Kd.C_drewN ?_ _) | (with_reducible refine Kd.C_drew ?_))); (case side2 => exact HC103_0.out); rintro e w' ⟨rfl, ⟨nd, rfl⟩⟩; refine ⟨_, rfl, ?_⟩))
              go_ret
              exact ⟨by first | rfl | (simp; done) | (simp [*]; done), by repeat (first | exact Drawn0.refl _ | apply Drawn0.step)⟩
            · rw [if_neg c7] at H
              have c7b0 : decide (t104 < 0) = false := decide_eq_false c7
              clear c7
              have H' := Aside0.mk H
              clear H
              have p103 : 0 ≤ (x5_1 : Int) := of_decide_eq_true (by first | (with_reducible assumption) | assumption)
              have q103 : x5_1 < (l0.length : Int) := of_decide_eq_true (by first | (with_reducible assumption) | assumption)
              obtain ⟨ad103, A103_0, c103_0, e103, hx103_0, hl103_0, hi103_0⟩ := at_L1 HR0.out x5_1 p103 q103
              cases e103
              have HR103_0 := Aside0.mk hi103_0
              have HC103_0 := Aside0.mk hl103_0
              clear hi103_0 hl103_0
              replace p103 := eq_true p103
              replace q103 := eq_true q103
              go_wp2_with (first | ((with_reducible refine gate_callee (f := 48) rfl ?_); refine goesL_ (some 23) rfl rfl Try.func48 (by kernel_rfl) rfl #[.slice A103_0 (rd_L1 l0 x5_1).length c103_0, .int .i64 x1_1] rfl (by (try simp only [List.map_toArray, List.map_cons, List.map_nil]); first | done | rfl | (simp only [List.length_drop, List.length_take]; rfl)) ?_; (with_reducible refine (laws_szIntS.calls _ _ (rd_L1 l0 x5_1) x1_1 t104 _ ?side1 ?side2 A6.out).mono ?_); (case side1 => repeat (first | exact HR103_0.out | (with_reducible refine Kd.C_alloc ?_ _) | (with_reducible refine Kd.C_drewN ?_ _) | (with_reducible refine Kd.C_drew ?_))); (case side2 => exact HC103_0.out); rintro e w' ⟨rfl, ⟨nd, rfl⟩⟩; refine ⟨_, rfl, ?_⟩))
              go_roundg k1
              case measure => have := HK1.out; omega
              case rel => exact ⟨(t104), (wrap64 (x5_1 + 1)), (by first | rfl | (simp; done) | (simp [*]; done)), (by first | rfl | (simp; done) | (simp [*]; done)), H', ⟨by have := HK1.out; omega⟩, by repeat (first | exact Drawn0.refl _ | apply Drawn0.step)⟩
          · rw [if_neg c5] at H
            exact absurd H (by simp)
        · rw [if_neg c4] at H
          have c4b0 : decide (x5_1 < (l0.length : Int)) = false := decide_eq_false c4
          clear c4
          obtain rfl := Option.some.inj H
          go_wp2
          go_ret
          exact ⟨by first | rfl | (simp; done) | (simp [*]; done), by repeat (first | exact Drawn0.refl _ | apply Drawn0.step)⟩

end Go.Proofs.Ytfgbohochpjkfaa.G

-- Written by wip/tools/gen.py out of the translation (the kit's printer, one namespace a seat). Lean checks it.
namespace Go.Proofs.Ytfgbohochpjkfaa.G
open Go.RowKit Go.Proofs.YtfgbohochpjkfaaW.PrintWords Go.Proofs.YtfgbohochpjkfaaW.PrintLast Go.Proofs.YtfgbohochpjkfaaW.PrintMore
attribute [local go_sem] max2_int min2_int max_two min_two max_three min_three max_four min_four   -- for this text's walks alone
set_option linter.unusedVariables false
set_option linter.unusedSimpArgs false

/-! ### laws_toIntSS: function 16 -/
def laws_toIntSS.l0 : Nat → List (List Int) → List (List Int) → Int → Option ((List (List Int)))
  | 0, _, _, _ => none
  | k + 1, x0, x3, x4 => if x4 < (x0.length : Int) then (if 0 ≤ x4 then ((laws_toIntS.f k (rd_L1 x0 x4)).bind fun t124 => (if x4 < (x3.length : Int) then (laws_toIntSS.l0 k x0 (x3.set (x4 : Int).toNat t124) (wrap64 (x4 + 1))) else (none))) else (none)) else (some x3)
def laws_toIntSS.f (k : Nat) (l0 : List (List Int)) : Option ((List (List Int))) := if 0 ≤ (l0.length : Int) then (if ((l0.length : Int) : Int).toNat ≤ 11728124029610 then (laws_toIntSS.l0 k l0 (List.replicate ((l0.length : Int) : Int).toNat []) 0) else (none)) else (none)
theorem laws_toIntSS.mono_l : ∀ k, (∀ y0 y1 y2, LeO (laws_toIntSS.l0 k y0 y1 y2) (laws_toIntSS.l0 (k + 1) y0 y1 y2))
  | 0 => fun _ _ _ r h => by simp [laws_toIntSS.l0] at h
  | k + 1 => by
    have ih0 := laws_toIntSS.mono_l k
    · intro y0 y1 y2
      unfold laws_toIntSS.l0
      repeat' first
      | (with_reducible exact ih0 _ _ _)
      | (with_reducible exact laws_toIntS.mono _ _)
      | (with_reducible exact LeO.refl _)
      | (with_reducible exact LeO.none _)
      | (with_reducible refine LeO.ite ?_ ?_)
      | (with_reducible refine LeO.bind ?_ (fun _ => ?_))
      | exact ih0 _ _ _
      | exact laws_toIntS.mono _ _
      | exact LeO.none _
      | refine LeO.ite ?_ ?_
      | refine LeO.bind ?_ (fun _ => ?_)
theorem laws_toIntSS.mono : ∀ a0 k, LeO (laws_toIntSS.f k a0) (laws_toIntSS.f (k + 1) a0) := by
  intro a0 k
  have ih0 := laws_toIntSS.mono_l k
  unfold laws_toIntSS.f
  repeat' first
      | (with_reducible exact ih0 _ _ _)
      | (with_reducible exact laws_toIntS.mono _ _)
      | (with_reducible exact LeO.refl _)
      | (with_reducible exact LeO.none _)
      | (with_reducible refine LeO.ite ?_ ?_)
      | (with_reducible refine LeO.bind ?_ (fun _ => ?_))
      | exact ih0 _ _ _
      | exact laws_toIntS.mono _ _
      | exact LeO.none _
      | refine LeO.ite ?_ ?_
      | refine LeO.bind ?_ (fun _ => ?_)
set_option maxHeartbeats 8000000 in
set_option maxRecDepth 100000 in
theorem laws_toIntSS.calls (k : Nat) (A0 : Option Addr) (c0 : Nat) (l0 : List (List Int)) (r : List (List Int)) (w : World) (hr0 : Kd.C (Kd.slice 3 (Kd.int .i64)) w A0 l0.length l0) (hc0 : l0.length ≤ c0) (h : laws_toIntSS.f k l0 = some r) :
    Calls Try.prog 16 #[.slice A0 l0.length c0] w fun e w' => ∃ v0_ : Value, e = .returned (v0_) ∧ Kd.S (Kd.slice 3 (Kd.int .i64)) 27 w' w.heap.size (fun _ => True) v0_ r ∧ Below w.heap.size w w' := by
  have HR0 := Aside0.mk hr0
  have HC0 := Aside0.mk hc0
  clear hr0 hc0
  have HB := Aside0.mk (Below.refl w.heap.size w)
  have H : (if 0 ≤ (l0.length : Int) then (if ((l0.length : Int) : Int).toNat ≤ 11728124029610 then (laws_toIntSS.l0 k l0 (List.replicate ((l0.length : Int) : Int).toNat []) 0) else (none)) else (none)) = some r := h
  clear h
  by_cases c2 : 0 ≤ (l0.length : Int)
  · rw [if_pos c2] at H
    have c2b0 := eq_true c2
    have c2b1 : decide (0 ≤ (l0.length : Int)) = true := decide_eq_true c2
    clear c2
    by_cases c3 : ((l0.length : Int) : Int).toNat ≤ 11728124029610
    · rw [if_pos c3] at H
      have c3b0 := eq_true c3
      have c3b1 : decide (((l0.length : Int) : Int).toNat ≤ 11728124029610) = true := decide_eq_true c3
      clear c3
      obtain ⟨y120, hy120⟩ : ∃ y_ : List (List Int), y_ = (List.replicate ((l0.length : Int) : Int).toNat []) := ⟨_, rfl⟩
      replace H : (laws_toIntSS.l0 k l0 y120 0) = some r := by first | (rw [hy120]; with_reducible exact H) | (have H2_ := (Option.bind_some _ _).symm.trans H; rw [hy120]; with_reducible exact H2_) | (have H2_ := (Option.bind_some _ _).symm.trans H; with_reducible exact H2_) | with_reducible exact H | (rw [hy120]; exact H) | exact H
      have Ny120 := Aside0.mk hy120
      clear hy120
      have H' := Aside0.mk H
      clear H
      go_enter Try.func16, Try.ntmps16
      go_wp2_with (first | ((with_reducible refine gate_dst (N := 7) rfl ?_); refine Kd.S_make (Kd.slice 3 (Kd.int .i64)) _ 27 rfl (N := 7) rfl 22 _ _ rfl (l0.length : Int) rfl rfl Try.underlying22 (.slice none 0 0) 24 info27 rfl (by decide) (by omega) [] (ok := fun _ => True) (okp := fun _ => True) ⟨_, rfl, Kd.R_nil _ _ _ _ _⟩ (fun _ hk => hk) trivial (of_decide_eq_true (by first | (with_reducible assumption) | assumption)) (Nat.le_trans (Nat.mul_le_mul_right _ (of_decide_eq_true (by first | (with_reducible assumption) | assumption) : (l0.length : Int).toNat ≤ 11728124029610)) (by omega)) (Below.refl _ _) (Nat.le_refl _) ?_; intro v121 w4 ho5 hb hg_ hnew_; clear hg_ hnew_; (first | rw [← Ny120.out] at ho5 | (simp only [Int.reduceToNat] at ho5; rw [← Ny120.out] at ho5)); have n0_ := Aside0.mk (Kd.S_lower ho5 (below_size (by repeat (first | (with_reducible first | exact HB.out | apply below_alloc | apply pw_below_drewN | apply below_drew1) | exact HB.out)))); have n1_ := Aside0.mk (below_step (by repeat (first | (with_reducible first | exact HB.out | apply below_alloc | apply pw_below_drewN | apply below_drew1) | exact HB.out)) hb); clear HB; have HO122 := n0_; have HB := n1_; clear n0_ n1_; clear hb ho5))
      go_loopg [4] k (fun kq v4 w' => ∃ (x3_1 : List (List Int)) (x4_1 : Int), v4 = .int .i64 x4_1 ∧ Aside0 (laws_toIntSS.l0 kq l0 x3_1 x4_1 = some r) ∧ Aside0 (kq ≤ k) ∧ Aside0 (Kd.S (Kd.slice 3 (Kd.int .i64)) 27 w' w.heap.size (fun _ => True) v121 x3_1) ∧ Aside0 (Below w.heap.size w w'))
      case atStart => exact ⟨(y120), (0), (by first | rfl | (simp; done) | (simp [*]; done)), H', ⟨Nat.le_refl _⟩, ⟨by (with_reducible repeat (first | apply Kd.S_alloc | apply Kd.S_drewN | apply Kd.S_drew)); exact HO122.out⟩, ⟨by repeat (first | (with_reducible first | exact HB.out | apply below_alloc | apply pw_below_drewN | apply below_drew1) | exact HB.out)⟩⟩
      case round =>
        clear H'
        try clear c1
        try clear c2
        try clear c2b0
        try clear c2b1
        try clear p2
        try clear c3
        try clear c3b0
        try clear c3b1
        obtain ⟨x3_1, x4_1, rfl, HA, HK1, HO_3, HB⟩ := hrel
        cases gk with
        | zero => exact absurd HA.out (by simp [laws_toIntSS.l0])
        | succ k1 =>
          have H := HA.out
          clear HA
          simp only [laws_toIntSS.l0] at H
          by_cases c6 : x4_1 < (l0.length : Int)
          · rw [if_pos c6] at H
            have c6b0 : decide (x4_1 < (l0.length : Int)) = true := decide_eq_true c6
            clear c6
            by_cases c7 : 0 ≤ x4_1
            · rw [if_pos c7] at H
              have c7b0 : decide (0 ≤ x4_1) = true := decide_eq_true c7
              clear c7
              replace H := Option.bind_eq_some_iff.mp H
              obtain ⟨t124, A80, H⟩ := H
              replace H : (if x4_1 < (x3_1.length : Int) then (laws_toIntSS.l0 k1 l0 (x3_1.set (x4_1 : Int).toNat t124) (wrap64 (x4_1 + 1))) else (none)) = some r := H
              have A8 := Aside0.mk A80
              clear A80
              by_cases c9 : x4_1 < (x3_1.length : Int)
              · rw [if_pos c9] at H
                have c9b0 : decide (x4_1 < (x3_1.length : Int)) = true := decide_eq_true c9
                clear c9
                obtain ⟨y127, hy127⟩ : ∃ y_ : List (List Int), y_ = (x3_1.set (x4_1 : Int).toNat t124) := ⟨_, rfl⟩
                replace H : (laws_toIntSS.l0 k1 l0 y127 (wrap64 (x4_1 + 1))) = some r := by first | (rw [hy127]; with_reducible exact H) | (have H2_ := (Option.bind_some _ _).symm.trans H; rw [hy127]; with_reducible exact H2_) | (have H2_ := (Option.bind_some _ _).symm.trans H; with_reducible exact H2_) | with_reducible exact H | (rw [hy127]; exact H) | exact H
                have Ny127 := Aside0.mk hy127
                clear hy127
                have H' := Aside0.mk H
                clear H
                have p123 : 0 ≤ (x4_1 : Int) := of_decide_eq_true (by first | (with_reducible assumption) | assumption)
                have q123 : x4_1 < (l0.length : Int) := of_decide_eq_true (by first | (with_reducible assumption) | assumption)
                obtain ⟨ad123, A123_0, c123_0, e123, hx123_0, hl123_0, hi123_0⟩ := at_L1 HR0.out x4_1 p123 q123
                cases e123
                replace hx123_0 := (HB.out.cell (World.block_lt_of_cell? w _ hx123_0)).trans hx123_0
                have HR123_0 := Aside0.mk hi123_0
                have HC123_0 := Aside0.mk hl123_0
                clear hi123_0 hl123_0
                replace p123 := eq_true p123
                replace q123 := eq_true q123
                go_wp2_with (first | ((with_reducible refine gate_callee (f := 20) rfl ?_); refine goesL_ (some 20) rfl rfl Try.func20 (by kernel_rfl) rfl #[.slice A123_0 (rd_L1 l0 x4_1).length c123_0] rfl (by (try simp only [List.map_toArray, List.map_cons, List.map_nil]); first | done | rfl | (simp only [List.length_drop, List.length_take]; rfl)) ?_; (with_reducible refine (laws_toIntS.calls k1 _ _ (rd_L1 l0 x4_1) t124 _ ?side1 ?side2 A8.out).mono ?_); (case side1 => repeat (first | exact (Kd.C_below HR123_0.out HB.out) | (with_reducible refine Kd.C_alloc ?_ _) | (with_reducible refine Kd.C_drewN ?_ _) | (with_reducible refine Kd.C_drew ?_))); (case side2 => exact HC123_0.out); rintro e w11 ⟨v125, rfl, ho0, hb⟩; refine ⟨_, rfl, ?_⟩; have n0_ := Aside0.mk (Kd.S_elder' (by (with_reducible repeat (first | apply Kd.S_alloc | apply Kd.S_drewN | apply Kd.S_drew)); exact HO_3.out) (Kd.R_base ho0) hb); have n1_ := Aside0.mk (Kd.R_lower ho0 (below_size (by repeat (first | (with_reducible first | exact HB.out | apply below_alloc | apply pw_below_drewN | apply below_drew1) | exact HB.out)))); have n2_ := Aside0.mk (below_step (by repeat (first | (with_reducible first | exact HB.out | apply below_alloc | apply pw_below_drewN | apply below_drew1) | exact HB.out)) hb); clear HO_3; clear HB; have HO_3 := n0_; have HO126 := n1_; have HB := n2_; clear n0_ n1_ n2_; (try clear hb); (try clear hb2); (try clear hk); (try clear hi); (try clear ho0); have p10 : 0 ≤ (x4_1 : Int) := of_decide_eq_true (by first | (with_reducible assumption) | assumption); have q10 : (x4_1 : Int) < ((x3_1.length : Int) : Int) := of_decide_eq_true (by first | (with_reducible assumption) | assumption); obtain ⟨go10, co10, eo10, gb10, gl10, cl10, HG10⟩ := Kd.S_form HO_3.out (by omega); (first | cases eo10 | (injection eo10 with ea_ en_ ec_; (first | subst ea_ | (injection ea_ with ea_; subst ea_)); subst ec_; clear en_)); have GB10 := Aside0.mk gb10; have GG10 := Aside0.mk HG10; clear gb10 gl10 HG10; obtain ⟨_, ce10, hcl10, hM10, hcc10, hfr10, _, _⟩ := Kd.S_elem HO_3.out [] (x4_1 : Int) p10 q10; obtain ⟨ve10_0, rfl, ge10_0⟩ := hM10; have hx10_0 := hcc10 0 _ rfl; have hf10_0 := hfr10 0; (try simp only [show ((Kd.slice 3 (Kd.int .i64))).sz = 1 from rfl, Nat.mul_one, Nat.add_zero] at hx10_0); (try simp only [show ((Kd.slice 3 (Kd.int .i64))).sz = 1 from rfl, Nat.mul_one, Nat.add_zero] at hf10_0); clear hcl10 hcc10 hfr10; (try clear hM10); replace p10 := eq_true p10; replace q10 := eq_true q10; have n_ := Aside0.mk (Kd.S_mono (ok' := (fun k_ => some k_ ≠ (v125 : Value).ownBlock)) HO_3.out (fun k_ hk => hk.2)); clear HO_3; have HO_3 := n_; clear n_; have HX12 := Aside0.mk (show Kd.S (Kd.slice 3 (Kd.int .i64)) 27 w11 w.heap.size (fun k_ => ((fun _ => True)) k_ ∧ ¬ ((fun k_ => some k_ = (v125 : Value).ownBlock)) k_) (.slice (some ⟨go10, 0, none⟩) x3_1.length co10) x3_1 from (by (with_reducible repeat (first | apply Kd.S_alloc | apply Kd.S_drewN | apply Kd.S_drew)); exact Kd.S_mono HO_3.out (fun k_ hk => ⟨trivial, fun e_ => hk e_⟩))); obtain ⟨oki12, ce12, hcl12, hM12, hcc12, hfr12, hoki12, hH12⟩ := Kd.S_elem HX12.out [] (x4_1 : Int) (of_decide_eq_true (by first | (with_reducible assumption) | assumption)) (by have h_ : (x4_1 : Int) < ((x3_1.length : Int) : Int) := of_decide_eq_true (by first | (with_reducible assumption) | assumption); first | exact h_ | (have e_ := (Kd.S_reads' HO_3.out).1; omega) | simpa using h_); obtain ⟨ve12_0, rfl, ge12_0⟩ := hM12; have HP12 := Kd.S_seg hH12 (of_decide_eq_true (by first | (with_reducible assumption) | assumption)) (by have h_ : (x4_1 : Int) < ((x3_1.length : Int) : Int) := of_decide_eq_true (by first | (with_reducible assumption) | assumption); first | exact h_ | (have e_ := (Kd.S_reads' HO_3.out).1; omega) | simpa using h_) (seg := [v125]) (j := 0) (show 1 ≤ 1 from by decide) (x' := t124) (Kd.M_row (Kd.R_mono (Kd.R_tight rfl (Kd.R_mono (ok' := fun k_ => ((fun _ => True)) k_ ∧ k_ ≠ go10) (Kd.R_apart' (HO126.out) (Kd.S_typed HO_3.out) (by decide)) (fun k_ hk => ⟨trivial, fun e_ => (hk.2) (by rw [e_]; rfl)⟩))) (fun _ h_ => Or.inr (h_)))) (fun _ hk => hk) (fun k_ hk_ => ((Kd.R_mono (ok' := fun k_ => ((fun _ => True)) k_ ∧ k_ ≠ go10) (Kd.R_apart' (HO126.out) (Kd.S_typed HO_3.out) (by decide)) (fun k_ hk => ⟨trivial, fun e_ => (hk.2) (by rw [e_]; rfl)⟩))).1 k_ hk_.symm); have hx12_0 := hcc12 0 _ rfl; (try simp only [show ((Kd.slice 3 (Kd.int .i64))).sz = 1 from rfl, Nat.mul_one, Nat.add_zero] at hx12_0); have hf12_0 := hfr12 0; (try simp only [show ((Kd.slice 3 (Kd.int .i64))).sz = 1 from rfl, Nat.mul_one, Nat.add_zero] at hf12_0); clear hcl12 hcc12 hfr12 hoki12 hH12; (try clear hM12); (try simp only [show ((Kd.slice 3 (Kd.int .i64))).sz = 1 from rfl, Nat.mul_one, Nat.add_zero] at HP12)) | ((with_reducible refine gate_store (t := 27) (p := 21) rfl ?_); refine store_event (t := 27) (p := 21) (v := ?vo_w13) (w1 := (w11.setCell ⟨go10, (x4_1 : Int).toNat, none⟩ (v125))) ?hg ?ho ?hn ?hr ?_; (case ho => rfl); (case hg => rfl); (case hn => rfl); (case hr => first | (go_simp; done) | (go_simp; rfl) | (obtain ⟨Aq_, cq_, eq_⟩ := Kd.R_slice HO126.out; subst eq_; go_simp; done) | (obtain ⟨Aq_, cq_, eq_⟩ := Kd.R_slice HO126.out; subst eq_; go_simp; rfl)); intro w13 hw; have hg : w11.grownBy w13 (some go10) := (by rw [hw]; exact HP12.2); have hp_ : Kd.S (Kd.slice 3 (Kd.int .i64)) 27 w13 w.heap.size (fun _ => True) (.slice (some ⟨go10, 0, none⟩) x3_1.length co10) y127 := (by rw [hw, Ny127.out]; exact HP12.1); clear HP12; have n0_ := Aside0.mk (hp_); have n1_ := Aside0.mk ((by rw [hw]; exact below_set (HB.out) GB10.out : Below w.heap.size w w13)); clear HO_3; clear HB; clear HO126; have HO_3 := n0_; have HB := n1_; clear n0_ n1_; clear hg hw hp_))
                go_roundg k1
                case measure => have := HK1.out; omega
                case rel => exact ⟨(y127), (wrap64 (x4_1 + 1)), (by first | rfl | (simp; done) | (simp [*]; done)), H', ⟨by have := HK1.out; omega⟩, ⟨by (with_reducible repeat (first | apply Kd.S_alloc | apply Kd.S_drewN | apply Kd.S_drew)); exact HO_3.out⟩, ⟨by repeat (first | (with_reducible first | exact HB.out | apply below_alloc | apply pw_below_drewN | apply below_drew1) | exact HB.out)⟩⟩
              · rw [if_neg c9] at H
                exact absurd H (by simp)
            · rw [if_neg c7] at H
              exact absurd H (by simp)
          · rw [if_neg c6] at H
            have c6b0 : decide (x4_1 < (l0.length : Int)) = false := decide_eq_false c6
            clear c6
            obtain rfl := Option.some.inj H
            go_wp2
            go_ret
            exact ⟨_, by first | rfl | (simp [errW_none, errW_some] <;> rfl) | (simp [*, errW_none, errW_some] <;> rfl), by (with_reducible repeat (first | apply Kd.S_alloc | apply Kd.S_drewN | apply Kd.S_drew)); exact HO_3.out, by repeat (first | (with_reducible first | exact HB.out | apply below_alloc | apply pw_below_drewN | apply below_drew1) | exact HB.out)⟩
    · rw [if_neg c3] at H
      exact absurd H (by simp)
  · rw [if_neg c2] at H
    exact absurd H (by simp)

end Go.Proofs.Ytfgbohochpjkfaa.G
