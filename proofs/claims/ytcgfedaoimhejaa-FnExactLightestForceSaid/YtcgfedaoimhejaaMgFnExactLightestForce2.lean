/- Texts of the proof of FnExactLightestForce, joined in build order. -/
import Derived.Test.YtcgfedaoimhejaaMgFnExactLightestForce1
import Derived.IntWalk
import Derived.Maps.AppendAt
namespace Go.Proofs.Ytcgfedaoimhejaa.G
open Go.RowKit Go.Proofs.YtcgfedaoimhejaaW.PrintWords Go.Proofs.YtcgfedaoimhejaaW.PrintLast
set_option linter.unusedVariables false
set_option linter.unusedSimpArgs false
/-! Plain laws on printed functions: what holds from some number of rounds on, case by case and loop by loop. -/
theorem Ev.ite {α : Type} {c : Prop} [Decidable c] {A B : Nat → Option α} {r : α} (h1 : c → Ev A r) (h2 : ¬ c → Ev B r) : Ev (fun k => if c then A k else B k) r := by
  by_cases h : c
  · simpa only [if_pos h] using h1 h
  · simpa only [if_neg h] using h2 h
theorem Ev.val {α : Type} {v r : α} (h : v = r) : Ev (fun _ => some v) r := by rw [h]; exact Ev.now r
theorem Ev.eq {α : Type} {g : Nat → Option α} {r r' : α} (h : Ev g r) (e : r = r') : Ev g r' := e ▸ h
theorem wrap64_id {x : Int} (h1 : -9223372036854775808 ≤ x) (h2 : x ≤ 9223372036854775807) : wrap64 x = x := IntWalk.wrap64_in x ⟨h1, h2⟩
/-- What holds of all indices from i up to, and without, n. -/
def All (P : Int → Prop) (i n : Int) : Prop := ∀ j, i ≤ j → j < n → P j
theorem All.end_ (P : Int → Prop) (n : Int) : All P n n := fun j h1 h2 => by omega
theorem All.step {P : Int → Prop} {i n : Int} (h : i < n) : All P i n ↔ P i ∧ All P (i + 1) n := by
  constructor
  · intro a
    exact ⟨a i (Int.le_refl _) h, fun j h1 h2 => a j (by omega) h2⟩
  · rintro ⟨p, a⟩ j h1 h2
    by_cases e : j = i
    · rw [e]; exact p
    · exact a j (by omega) h2
/-- One of two values, by a statement. -/
noncomputable def chk {β : Type} (p : Prop) (a b : β) : β := @ite β p (Classical.propDecidable p) a b
theorem chk_pos {β : Type} {p : Prop} (h : p) (a b : β) : chk p a b = a := by unfold chk; exact if_pos h
theorem chk_neg {β : Type} {p : Prop} (h : ¬ p) (a b : β) : chk p a b = b := by unfold chk; exact if_neg h
theorem chk_congr {β : Type} {p q : Prop} (h : p ↔ q) (a b : β) : chk p a b = chk q a b := by rw [propext h]
theorem chk_and {β : Type} {p q : Prop} (a b : β) : chk p (chk q a b) b = chk (p ∧ q) a b := by
  by_cases h : p
  · rw [chk_pos h]
    exact chk_congr ⟨fun x => ⟨h, x⟩, fun x => x.2⟩ _ _
  · rw [chk_neg h, chk_neg (fun x => h x.1)]
/-- A loop that goes up, any state. -/
theorem Ev.up {σ β : Type} (g : Nat → σ → Int → Option β) (R : σ → Int → β) (I : σ → Int → Prop) (n : Int)
    (hend : ∀ s, I s n → Ev (fun k => g k s n) (R s n))
    (hstep : ∀ s i, I s i → i < n → (∀ s', I s' (i + 1) → Ev (fun k => g k s' (i + 1)) (R s' (i + 1))) → Ev (fun k => g k s i) (R s i)) :
    ∀ s i, I s i → i ≤ n → Ev (fun k => g k s i) (R s i) := by
  have main : ∀ (d : Nat) s i, I s i → i + d = n → Ev (fun k => g k s i) (R s i) := by
    intro d
    induction d with
    | zero =>
      intro s i hI hd
      obtain rfl : i = n := by omega
      exact hend s hI
    | succ d ih => intro s i hI hd; exact hstep s i hI (by omega) (fun s' hI' => ih s' (i + 1) hI' (by omega))
  intro s i hI hi
  exact main (n - i).toNat s i hI (by omega)
/-- A loop that tests each index. -/
theorem Ev.check {β : Type} (g : Nat → Int → Option β) (n : Int) (P : Int → Prop) (r0 r1 : β) (i0 : Int)
    (hend : Ev (fun k => g k n) r0)
    (hstep : ∀ i, i0 ≤ i → i < n → ∀ r, Ev (fun k => g k (i + 1)) r → Ev (fun k => g k i) (chk (P i) r r1)) :
    ∀ i, i0 ≤ i → i ≤ n → Ev (fun k => g k i) (chk (All P i n) r0 r1) := by
  intro i h0 hi
  refine Ev.up (fun k (_ : Unit) i => g k i) (fun _ i => chk (All P i n) r0 r1) (fun _ i => i0 ≤ i) n (fun _ _ => ?_) (fun _ i h0 hlt ih => ?_) () i h0 hi
  · rw [chk_pos (All.end_ P n)]; exact hend
  · have := hstep i h0 hlt _ (ih () (by omega))
    rw [chk_and, chk_congr (All.step hlt).symm] at this
    exact this
theorem Ev.upc {β : Type} (g : Nat → Int → Option β) (r : β) (n i0 : Int) (hend : Ev (fun k => g k n) r) (hstep : ∀ i, i0 ≤ i → i < n → Ev (fun k => g k (i + 1)) r → Ev (fun k => g k i) r) :
    ∀ i, i0 ≤ i → i ≤ n → Ev (fun k => g k i) r := by
  intro i h0 hi
  exact Ev.up (fun k (_ : Unit) i => g k i) (fun _ _ => r) (fun _ i => i0 ≤ i) n (fun _ _ => hend) (fun _ i h0 hlt ih => hstep i h0 hlt (ih () (by omega))) () i h0 hi
theorem getD_set {α : Type} (xs : List α) (i j : Nat) (v z : α) (hi : i < xs.length) : (xs.set i v).getD j z = if j = i then v else xs.getD j z := by
  rw [List.getD_eq_getElem?_getD, List.getD_eq_getElem?_getD]
  by_cases h : j = i
  · subst h; rw [List.getElem?_set_self hi, if_pos rfl]; rfl
  · rw [List.getElem?_set_ne (fun e => h e.symm), if_neg h]
theorem ext_getD {α : Type} (z : α) {xs ys : List α} (hl : xs.length = ys.length) (h : ∀ j : Nat, j < xs.length → xs.getD j z = ys.getD j z) : xs = ys := by
  apply List.ext_getElem hl
  intro i h1 h2
  have := h i h1
  rw [List.getD_eq_getElem?_getD, List.getD_eq_getElem?_getD, List.getElem?_eq_getElem h1, List.getElem?_eq_getElem h2] at this
  exact this
theorem getD_map {α β : Type} (f : α → β) (xs : List α) (j : Nat) (z : α) (z' : β) (h : j < xs.length) : (xs.map f).getD j z' = f (xs.getD j z) := by
  rw [List.getD_eq_getElem?_getD, List.getD_eq_getElem?_getD, List.getElem?_map, List.getElem?_eq_getElem h]; rfl
/-- out := make(n); out[i] = conv(xs[i]) for all i. -/
theorem Ev.fill {α β : Type} (g : Nat → List β → Int → Option (List β)) (xs : List α) (conv : α → β) (z : α) (z' : β)
    (hend : ∀ out, Ev (fun k => g k out (xs.length : Int)) out)
    (hstep : ∀ out i, out.length = xs.length → 0 ≤ i → i < (xs.length : Int) → ∀ r, Ev (fun k => g k (out.set i.toNat (conv (xs.getD i.toNat z))) (i + 1)) r → Ev (fun k => g k out i) r) :
    Ev (fun k => g k (List.replicate xs.length z') 0) (xs.map conv) := by
  refine Ev.up g (fun _ _ => xs.map conv) (fun out i => 0 ≤ i ∧ out.length = xs.length ∧ ∀ j : Nat, (j : Int) < i → out.getD j z' = conv (xs.getD j z)) (xs.length : Int) ?_ ?_ _ 0 ⟨by omega, by simp, fun j h => by omega⟩ (by omega)
  · rintro out ⟨_, hl, h⟩
    refine Ev.eq (hend out) (ext_getD z' (by simpa using hl) fun j hj => ?_)
    rw [h j (by omega), getD_map conv xs j z z' (by omega)]
  · rintro out i ⟨h0, hl, h⟩ hlt ih
    refine hstep out i hl h0 hlt _ (ih _ ⟨by omega, by simpa using hl, fun j hj => ?_⟩)
    rw [getD_set _ _ _ _ _ (by omega)]
    by_cases e : j = i.toNat
    · rw [if_pos e, e]
    · rw [if_neg e]; exact h j (by omega)
/-- The same from any number on. -/
theorem Ev.markFrom {α : Type} (g : Nat → List α → Int → Int → Option (Int × List α)) (n m s : Int) (mk : Int → α) (z : α)
    (hend : ∀ xs c, (xs.length : Int) = n → Ev (fun k => g k xs c n) (c, xs))
    (hstep : ∀ xs c i, (xs.length : Int) = n → 0 ≤ i → i < n → c = s + m * i → ∀ r, Ev (fun k => g k (xs.set i.toNat (mk i)) (c + m) (i + 1)) r → Ev (fun k => g k xs c i) r)
    (xs : List α) (hl : (xs.length : Int) = n) : ∃ ys : List α, Ev (fun k => g k xs s 0) (s + m * n, ys) ∧ (ys.length : Int) = n ∧ ∀ j, 0 ≤ j → j < n → ys.getD j.toNat z = mk j := by
  have main : ∀ (d : Nat) (xs : List α) (i : Int), (xs.length : Int) = n → 0 ≤ i → i + d = n → (∀ j, 0 ≤ j → j < i → xs.getD j.toNat z = mk j) → ∃ ys : List α, Ev (fun k => g k xs (s + m * i) i) (s + m * n, ys) ∧ (ys.length : Int) = n ∧ ∀ j, 0 ≤ j → j < n → ys.getD j.toNat z = mk j := by
    intro d
    induction d with
    | zero =>
      intro xs i hl h0 hd h
      obtain rfl : i = n := by omega
      exact ⟨xs, hend xs _ hl, hl, h⟩
    | succ d ih =>
      intro xs i hl h0 hd h
      obtain ⟨ys, h1, h2, h3⟩ := ih (xs.set i.toNat (mk i)) (i + 1) (by simpa using hl) (by omega) (by omega) (fun j hj0 hj => by
        rw [getD_set _ _ _ _ _ (by omega)]
        by_cases e : j = i
        · rw [if_pos (by rw [e]), e]
        · rw [if_neg (by omega)]; exact h j hj0 (by omega))
      refine ⟨ys, hstep xs _ i hl h0 (by omega) rfl _ ?_, h2, h3⟩
      rw [show s + m * i + m = s + m * (i + 1) from by rw [Int.mul_add]; omega]
      exact h1
  obtain ⟨ys, h1, h2⟩ := main n.toNat xs 0 hl (by omega) (by omega) (fun j _ _ => by omega)
  exact ⟨ys, by simpa using h1, h2⟩
theorem mul_bd {x y A B : Int} (hA : 0 ≤ A) (hB : 0 ≤ B) (h1 : -A ≤ x) (h2 : x ≤ A) (h3 : -B ≤ y) (h4 : y ≤ B) : -(A * B) ≤ x * y ∧ x * y ≤ A * B := by
  have hx : x.natAbs ≤ A.natAbs := by omega
  have hy : y.natAbs ≤ B.natAbs := by omega
  have h := Nat.mul_le_mul hx hy
  rw [← Int.natAbs_mul, ← Int.natAbs_mul] at h
  have hAB : 0 ≤ A * B := Int.mul_nonneg hA hB
  omega

end Go.Proofs.Ytcgfedaoimhejaa.G

-- Written by wip/tools/gen.py out of the translation (the kit's printer, one namespace a seat). Lean checks it.
namespace Go.Proofs.Ytcgfedaoimhejaa.G
open Go.RowKit Go.Proofs.YtcgfedaoimhejaaW.PrintWords Go.Proofs.YtcgfedaoimhejaaW.PrintLast Go.Proofs.YtcgfedaoimhejaaW.PrintMore
attribute [local go_sem] max2_int min2_int max_two min_two max_three min_three max_four min_four   -- for this text's walks alone
set_option linter.unusedVariables false
set_option linter.unusedSimpArgs false

/-! ### slices_Index_int_int: function 87 -/
def slices_Index_int_int.l0 : Nat → List Int → Int → Int → Int → Option (Int)
 | 0, _, _, _, _ => none
 | k + 1, x0, x1, x7, x8 => if x8 < x7 then (if 0 ≤ x8 then (if x8 < (x0.length : Int) then (if x1 = (rd x0 x8) then (some x8) else (slices_Index_int_int.l0 k x0 x1 x7 (wrap64 (x8 + 1)))) else (none)) else (none)) else (some (-1))
def slices_Index_int_int.f (k : Nat) (l0 : List Int) (a1 : Int) : Option (Int) := slices_Index_int_int.l0 k l0 a1 (l0.length : Int) 0
set_option maxHeartbeats 8000000 in
set_option maxRecDepth 100000 in
theorem slices_Index_int_int.calls (k : Nat) (A0 : Option Addr) (c0 : Nat) (l0 : List Int) (a1 : Int) (r : Int) (w : World) (hr0 : Kd.C (Kd.int .i64) w A0 l0.length l0) (hc0 : l0.length ≤ c0) (h : slices_Index_int_int.f k l0 a1 = some r) :
  Calls Try.prog 87 #[.slice A0 l0.length c0, .int .i64 a1] w fun e w' => e = .returned (.int .i64 r) ∧ Drawn0 w w' := by
 have HR0 := zM hr0
 have HC0 := zM hc0
 clear hr0 hc0
 have H : (slices_Index_int_int.l0 k l0 a1 (l0.length : Int) 0) = some r := h
 clear h
 have H' := zM H
 clear H
 go_enter Try.func87, Try.ntmps87
 go_wp2
 go_loopg [8] k (fun kq v8 w' => ∃ (x8_1 : Int), v8 = .int .i64 x8_1 ∧ Aside0 (slices_Index_int_int.l0 kq l0 a1 (l0.length : Int) x8_1 = some r) ∧ Aside0 (kq ≤ k) ∧ Drawn0 w w')
 case atStart => exact ⟨(0), (by first | rfl | (simp; done) | (simp [*]; done)), H', ⟨Nat.le_refl _⟩, by repeat (first | exact Drawn0.refl _ | apply Drawn0.step)⟩
 case round =>
  clear H'
  try clear p2
  obtain ⟨x8_1, rfl, HA, HK1, ⟨m1, rfl⟩⟩ := hrel
  cases gk with
  | zero => exact absurd HA.out (by simp [slices_Index_int_int.l0])
  | succ k1 =>
   have H := HA.out
   clear HA
   simp only [slices_Index_int_int.l0] at H
   by_cases c3 : x8_1 < (l0.length : Int)
   ·rw [if_pos c3] at H
    have c3b0 : decide (x8_1 < (l0.length : Int)) = true := decide_eq_true c3
    clear c3
    by_cases c4 : 0 ≤ x8_1
    ·rw [if_pos c4] at H
     have c4b0 : decide (0 ≤ x8_1) = true := decide_eq_true c4
     clear c4
     by_cases c5 : x8_1 < (l0.length : Int)
     ·rw [if_pos c5] at H
      have c5b0 : decide (x8_1 < (l0.length : Int)) = true := decide_eq_true c5
      clear c5
      by_cases c6 : a1 = (rd l0 x8_1)
      ·rw [if_pos c6] at H
       have c6b0 : (a1 == (rd l0 x8_1)) = true := beq_iff_eq.mpr c6
       have c6b1 : (a1 != (rd l0 x8_1)) = false := bne_eq_false_iff_eq.mpr c6
       clear c6
       obtain rfl := Option.some.inj H
       have p103 : 0 ≤ (x8_1 : Int) := of_decide_eq_true (by first | (with_reducible assumption) | assumption)
       have q103 : x8_1 < (l0.length : Int) := of_decide_eq_true (by first | (with_reducible assumption) | assumption)
       obtain ⟨ad103, e103, hx103_0⟩ := Kd.at_int HR0.out x8_1 p103 q103
       cases e103
       replace p103 := eq_true p103
       replace q103 := eq_true q103
       go_wp2
       go_ret
       exact ⟨by first | rfl | (simp; done) | (simp [*]; done), by repeat (first | exact Drawn0.refl _ | apply Drawn0.step)⟩
      ·rw [if_neg c6] at H
       have c6b0 : (a1 == (rd l0 x8_1)) = false := beq_eq_false_iff_ne.mpr c6
       have c6b1 : (a1 != (rd l0 x8_1)) = true := bne_iff_ne.mpr c6
       have H' := zM H
       clear H
       have p103 : 0 ≤ (x8_1 : Int) := of_decide_eq_true (by first | (with_reducible assumption) | assumption)
       have q103 : x8_1 < (l0.length : Int) := of_decide_eq_true (by first | (with_reducible assumption) | assumption)
       obtain ⟨ad103, e103, hx103_0⟩ := Kd.at_int HR0.out x8_1 p103 q103
       cases e103
       replace p103 := eq_true p103
       replace q103 := eq_true q103
       go_wp2
       go_roundg k1
       case measure => have := HK1.out; omega
       case rel => exact ⟨(wrap64 (x8_1 + 1)), (by first | rfl | (simp; done) | (simp [*]; done)), H', ⟨by have := HK1.out; omega⟩, by repeat (first | exact Drawn0.refl _ | apply Drawn0.step)⟩
     ·rw [if_neg c5] at H
      exact absurd H (by simp)
    ·rw [if_neg c4] at H
     exact absurd H (by simp)
   ·rw [if_neg c3] at H
    have c3b0 : decide (x8_1 < (l0.length : Int)) = false := decide_eq_false c3
    clear c3
    obtain rfl := Option.some.inj H
    go_wp2
    go_ret
    exact ⟨by first | rfl | (simp; done) | (simp [*]; done), by repeat (first | exact Drawn0.refl _ | apply Drawn0.step)⟩

end Go.Proofs.Ytcgfedaoimhejaa.G

-- Written by wip/tools/gen.py out of the translation (the kit's printer, one namespace a seat). Lean checks it.
namespace Go.Proofs.Ytcgfedaoimhejaa.G
open Go.RowKit Go.Proofs.YtcgfedaoimhejaaW.PrintWords Go.Proofs.YtcgfedaoimhejaaW.PrintLast Go.Proofs.YtcgfedaoimhejaaW.PrintMore
attribute [local go_sem] max2_int min2_int max_two min_two max_three min_three max_four min_four   -- for this text's walks alone
set_option linter.unusedVariables false
set_option linter.unusedSimpArgs false

/-! ### slices_Contains_int_int: function 81 -/
def slices_Contains_int_int.f (k : Nat) (l0 : List Int) (a1 : Int) : Option (Bool) := (slices_Index_int_int.f k l0 a1).bind fun t104 => (some (decide (t104 ≥ 0)))
set_option maxHeartbeats 8000000 in
set_option maxRecDepth 100000 in
theorem slices_Contains_int_int.calls (k : Nat) (A0 : Option Addr) (c0 : Nat) (l0 : List Int) (a1 : Int) (r : Bool) (w : World) (hr0 : Kd.C (Kd.int .i64) w A0 l0.length l0) (hc0 : l0.length ≤ c0) (h : slices_Contains_int_int.f k l0 a1 = some r) :
  Calls Try.prog 81 #[.slice A0 l0.length c0, .int .i64 a1] w fun e w' => e = .returned (.bool r) ∧ Drawn0 w w' := by
 have HR0 := zM hr0
 have HC0 := zM hc0
 clear hr0 hc0
 have H : ((slices_Index_int_int.f k l0 a1).bind fun t104 => (some (decide (t104 ≥ 0)))) = some r := h
 clear h
 replace H := Option.bind_eq_some_iff.mp H
 obtain ⟨t104, A30, H⟩ := H
 replace H : (some (decide (t104 ≥ 0))) = some r := H
 have A3 := zM A30
 clear A30
 obtain rfl := Option.some.inj H
 go_enter Try.func81, Try.ntmps81
 go_wp2_with (first | ((with_reducible refine gate_callee (f := 87) rfl ?_); refine goesL_ (some 7) rfl rfl Try.func87 (by kernel_rfl) rfl #[.slice A0 l0.length c0, .int .i64 a1] rfl (by (try simp only [List.map_toArray, List.map_cons, List.map_nil]); first | done | rfl | (simp only [List.length_drop, List.length_take]; rfl)) ?_; (with_reducible refine (slices_Index_int_int.calls k _ _ l0 a1 t104 _ ?side1 ?side2 A3.out).mono ?_); (case side1 => repeat (first | exact HR0.out | (with_reducible refine zG ?_ _) | (with_reducible refine zH ?_ _) | (with_reducible refine zI ?_))); (case side2 => exact HC0.out); rintro e w' ⟨rfl, ⟨nd, rfl⟩⟩; refine ⟨_, rfl, ?_⟩))
 go_ret
 exact ⟨by first | rfl | (simp; done) | (simp [*]; done), by repeat (first | exact Drawn0.refl _ | apply Drawn0.step)⟩

end Go.Proofs.Ytcgfedaoimhejaa.G

namespace Go.Proofs.Ytcgfedaoimhejaa.G
open Go.RowKit Go.Proofs.YtcgfedaoimhejaaW.PrintWords Go.Proofs.YtcgfedaoimhejaaW.PrintLast
set_option linter.unusedVariables false
set_option linter.unusedSimpArgs false
/-- x stands in the list. -/
def Has (l : List Int) (x : Int) : Prop := ¬ All (fun j => ¬ rd l j = x) 0 (l.length : Int)
theorem impl_has (l : List Int) (x : Int) (hl : (l.length : Int) ≤ 1099511627776) : Ev (fun k => slices_Contains_int_int.f k l x) (chk (Has l x) true false) := by
  unfold slices_Contains_int_int.f slices_Index_int_int.f
  have main : ∀ (d : Nat) (i : Int), 0 ≤ i → i + d = (l.length : Int) → ∃ v, Ev (fun k => slices_Index_int_int.l0 k l x (l.length : Int) i) v ∧ (v ≥ 0 ↔ ¬ All (fun j => ¬ rd l j = x) i (l.length : Int)) := by
    intro d
    induction d with
    | zero =>
      intro i h0 hd
      refine ⟨-1, ?_, ?_⟩
      · refine Ev.step (fun k => by rw [slices_Index_int_int.l0]) ?_
        simp (disch := omega) only [if_neg]
        exact Ev.now _
      · constructor
        · intro h; omega
        · intro h; exact absurd (fun j h1 h2 => by omega) h
    | succ d ih =>
      intro i h0 hd
      by_cases e : x = rd l i
      · refine ⟨i, ?_, ?_⟩
        · refine Ev.step (fun k => by rw [slices_Index_int_int.l0]) ?_
          simp (disch := omega) only [if_pos]
          exact Ev.now _
        · exact ⟨fun _ a => a i (by omega) (by omega) e.symm, fun _ => h0⟩
      · obtain ⟨v, hv, hi⟩ := ih (i + 1) (by omega) (by omega)
        refine ⟨v, ?_, ?_⟩
        · refine Ev.step (fun k => by rw [slices_Index_int_int.l0]) ?_
          simp (disch := omega) only [if_pos, wrap64_id]
          simp only [if_neg e]
          exact hv
        · rw [hi, All.step (show i < (l.length : Int) by omega)]
          exact ⟨fun h a => h a.2, fun h a => h ⟨fun e2 => e e2.symm, a⟩⟩
  obtain ⟨v, hv, hi⟩ := main l.length 0 (by omega) (by omega)
  refine Ev.bind hv ?_
  refine Ev.val ?_
  by_cases hh : Has l x
  · rw [chk_pos hh]; exact decide_eq_true (hi.2 hh)
  · rw [chk_neg hh]; exact decide_eq_false (fun h => hh (hi.1 h))
end Go.Proofs.Ytcgfedaoimhejaa.G

/- The contract of orders: what is called back turns its state at each order, in lexicographic order. -/
namespace Go.Proofs.Ytcgfedaoimhejaa.G
open Go.RowKit Go.Proofs.YtcgfedaoimhejaaW.PrintWords Go.Proofs.YtcgfedaoimhejaaW.PrintLast
set_option linter.unusedVariables false
set_option linter.unusedSimpArgs false
/-- Outside the blocks of S the world w' is as w was. -/
structure Keeps (S : Nat → Prop) (w w' : World) : Prop where
  os : w'.os = w.os
  tape : w'.tape = w.tape
  output : w'.output = w.output
  size : w.heap.size ≤ w'.heap.size
  block : ∀ k, k < w.heap.size → ¬ S k → w'.heap[k]? = w.heap[k]?
theorem Keeps.refl (S : Nat → Prop) (w : World) : Keeps S w w := ⟨rfl, rfl, rfl, Nat.le_refl _, fun _ _ _ => rfl⟩
theorem Keeps.trans {S : Nat → Prop} {a b c : World} (h : Keeps S a b) (k : Keeps S b c) : Keeps S a c :=
  ⟨k.os.trans h.os, k.tape.trans h.tape, k.output.trans h.output, Nat.le_trans h.size k.size, fun i hi hn => (k.block i (Nat.lt_of_lt_of_le hi h.size) hn).trans (h.block i hi hn)⟩
theorem Keeps.of_below {S : Nat → Prop} {w w' : World} (h : Below w.heap.size w w') : Keeps S w w' := ⟨h.os, h.tape, h.output, h.size, fun k hk _ => h.block k hk⟩
theorem Keeps.cell {S : Nat → Prop} {w w' : World} (h : Keeps S w w') {p : Addr} {v : Value} (hp : w.cell? p = some v) (hn : ¬ S p.block) : w'.cell? p = some v :=
  (World.cell?_of_block (w := w) (h.block p.block (World.block_lt_of_cell? w p hp) hn)).trans hp
/-- What is called back (function F over captured values): it turns the state by step at each list, and nothing outside S. -/
structure Back {σ : Type} (F : FuncId) (caps : Array Value) (S : Nat → Prop) (B0 : Nat) (I : World → σ → Prop) (P : List Int → Prop) (step : σ → List Int → σ) : Prop where
  enters : ∀ (args : Array Value) (w : World), (callFunc F args).run Try.prog w = .ok (.enter F args) w
  call : ∀ (w : World) (s : σ) (v : Value) (l : List Int), I w s → P l → Kd.R (Kd.int .i64) 3 w B0 (fun k => ¬ S k) v l → Calls Try.prog F (#[v] ++ caps) w fun e w' => e = .returned (.tuple #[]) ∧ I w' (step s l) ∧ Keeps S w w'
  stay : ∀ (w w' : World) (s : σ), I w s → Below w.heap.size w w' → I w' s
  low : ∀ (w : World) (s : σ), I w s → ∀ k, S k → k < w.heap.size
/-- The boxes that orders$1 has captured. -/
structure Boxes (F : FuncId) (caps : Array Value) (S : Nat → Prop) (B0 n Bn Bc Be : Nat) (w : World) : Prop where
  base : B0 ≤ w.heap.size
  cn : w.cell? ⟨Bn, 0, none⟩ = some (.int .i64 n)
  cc : w.cell? ⟨Bc, 0, none⟩ = some (.func (.func F) #[] caps)
  ce : w.cell? ⟨Be, 0, none⟩ = some (.func (.func 80) #[] #[.pointer (some ⟨Bn, 0, none⟩), .pointer (some ⟨Bc, 0, none⟩), .pointer (some ⟨Be, 0, none⟩)])
  sn : ¬ S Bn
  sc : ¬ S Bc
  se : ¬ S Be
theorem Boxes.keeps {F : FuncId} {caps : Array Value} {S : Nat → Prop} {B0 n Bn Bc Be : Nat} {w w' : World} (h : Boxes F caps S B0 n Bn Bc Be w) (k : Keeps S w w') : Boxes F caps S B0 n Bn Bc Be w' :=
  ⟨Nat.le_trans h.base k.size, k.cell h.cn h.sn, k.cell h.cc h.sc, k.cell h.ce h.se, h.sn, h.sc, h.se⟩
/-- All orders that begin with some numbers, d more to come. -/
noncomputable def ordIn (f : List Int → List (List Int)) (jobs : List Int) : Nat → Int → List (List Int)
  | 0, _ => []
  | r + 1, i => chk (Has jobs i) [] (f (jobs ++ [i])) ++ ordIn f jobs r (i + 1)
noncomputable def ords (n : Nat) : Nat → List Int → List (List Int)
  | 0, jobs => [jobs]
  | d + 1, jobs => ordIn (ords n d) jobs n 0
set_option maxHeartbeats 8000000 in
set_option maxRecDepth 100000 in
theorem extend_any {σ : Type} {F : FuncId} {caps : Array Value} {S : Nat → Prop} {B0 : Nat} {I : World → σ → Prop} {P : List Int → Prop} {step : σ → List Int → σ} (hb : Back F caps S B0 I P step) (n Bn Bc Be : Nat) (hn : n ≤ 1000) :
    ∀ (d : Nat) (jobs : List Int) (w : World) (s : σ) (A : Option Addr) (c : Nat), jobs.length + d = n → (∀ l ∈ ords n d jobs, P l) → Boxes F caps S B0 n Bn Bc Be w → I w s → Kd.R (Kd.int .i64) 3 w B0 (fun k => ¬ S k) (.slice A jobs.length c) jobs →
    Calls Try.prog 80 #[.slice A jobs.length c, .pointer (some ⟨Bn, 0, none⟩), .pointer (some ⟨Bc, 0, none⟩), .pointer (some ⟨Be, 0, none⟩)] w fun e w' => e = .returned (.tuple #[]) ∧ I w' ((ords n d jobs).foldl step s) ∧ Keeps S w w' := by
  intro d
  induction d with
  | zero =>
    intro jobs w s A c hd hP hX hI hC
    have hN := hX.cn
    have hCB := hX.cc
    have hc : jobs.length ≤ c := (Kd.R_reads' hC).2.1
    have HR := Aside0.mk hC
    have HC := Aside0.mk (Kd.R_reads' hC).2.2
    have HX := Aside0.mk hX
    have HI := Aside0.mk hI
    have HP := Aside0.mk (hP jobs (by simp [ords]))
    have HN : Aside0 (jobs.length = n) := Aside0.mk (by omega)
    have c1 : ((jobs.length : Int) == (n : Int)) = true := beq_iff_eq.2 (by omega)
    clear hC hX hI hP hd
    go_enter Try.func80, Try.ntmps80
    go_wp2
    refine start_ (n := 4) (S := fun w' => w'.cell? ⟨Bc, 0, none⟩ = some (.func (.func F) #[] caps)) (ds := [3]) #[false, false, false, false] (by kernel_rfl) rfl rfl hCB (fun hHeld => ?_)
    have HCd : Aside0 ((Kd.int .i64).C w.drew A jobs.length jobs) := Aside0.mk (Kd.C_drew HC.out)
    have HXd : Aside0 (Boxes F caps S B0 n Bn Bc Be w.drew) := Aside0.mk (HX.out.keeps (Keeps.of_below (below_drew1 (Below.refl _ _))))
    have HId : Aside0 (I w.drew s) := Aside0.mk (hb.stay _ _ _ HI.out (below_drew1 (Below.refl _ _)))
    have HKd : Aside0 (Keeps S w w.drew) := Aside0.mk (Keeps.of_below (below_drew1 (Below.refl _ _)))
    generalize w.drew = w0 at HCd HXd HId HKd hHeld ⊢
    refine take_ (i := 0) (N := some 10) (v := ?_) (a' := ?_) #[true, false, false, false] rfl rfl (by kernel_rfl) (fun _ _ _ h => h) (Or.inl ⟨by rfl, ?_⟩) hHeld ?_ ?_
    rotate_left
    · intro w' s0
      go_simp
      with_reducible rfl
    rotate_left
    · simp only [Act.put, List.setIfInBounds_toArray, List.set_cons_zero, List.set_cons_succ, i64_w, i32_w]
      rfl
    refine pure_ (i := 1) (N := some 11) (v := ?_) (a' := ?_) #[true, true, false, false] rfl rfl (by kernel_rfl) (fun _ _ _ h => h) (Or.inl ⟨by rfl, ?_⟩) ?_ ?_
    rotate_left
    · intro w'
      go_simp
      with_reducible rfl
    rotate_left
    · simp only [Act.put, List.setIfInBounds_toArray, List.set_cons_zero, List.set_cons_succ, i64_w, i32_w]
      rfl
    refine one_ (i := 2) (N := some 12) #[true, true, true, false] rfl rfl (by kernel_rfl) (by decide) (fun K hK => ?_)
    refine goes_ Try.func52 (by kernel_rfl) rfl #[.slice A jobs.length c] (by rfl) rfl rfl (by (try simp only [List.map_toArray, List.map_cons, List.map_nil]); first | done | rfl) ?_
    refine (slices_Clone_int_int.calls A c jobs jobs w0 HCd.out hc (by unfold slices_Clone_int_int.f; exact if_pos (by have := HN.out; simp only [List.length_nil]; omega))).mono ?_
    rintro e w1 ⟨v, rfl, hR, hB⟩
    refine ⟨v, rfl, ?_⟩
    refine hK.out _ _ ((Keeps.of_below (S := S) hB).cell hHeld HXd.out.sc) (fun hHeld => ?_)
    clear hK K
    refine norm_ (a' := ?_) ?_ ?_
    rotate_left
    · show Act.put _ (some 12) _ = _
      simp only [Act.put, List.setIfInBounds_toArray, List.set_cons_zero, List.set_cons_succ, i64_w, i32_w]
      rfl
    refine last_ (i := 3) (N := some 13) #[true, true, true, true] rfl rfl (by kernel_rfl) (by decide) (fun K hK => ?_)
    have hR2 : Kd.R (Kd.int .i64) 3 w1 B0 (fun k => ¬ S k) v jobs := Kd.R_lower (Kd.R_mono (Kd.R_bound hR) (fun k hk hs => by have := hb.low _ _ HId.out k hs; have := hk.2.1; omega)) HXd.out.base
    refine call_ F (#[v] ++ caps) (by rfl) rfl ?hrun ?_
    case hrun =>
      unfold execOp
      simp [resolve, Deferred.ofValue, invoke, Act.eval, hb.enters]
    refine (hb.call w1 s v jobs (hb.stay _ _ _ HId.out hB) HP.out hR2).mono ?_
    rintro e w2 ⟨rfl, hI2, hK2⟩
    refine ⟨_, rfl, ?_⟩
    refine hK.out _ _ ?_
    clear hK K
    refine norm_ (a' := ?_) ?_ ?_
    rotate_left
    · show Act.put _ (some 13) _ = _
      simp only [Act.put, List.setIfInBounds_toArray, List.set_cons_zero, List.set_cons_succ, i64_w, i32_w]
      rfl
    refine done_ (by kernel_rfl) ?_
    go_wp2
    refine bodyPost_ret (results_none rfl _ _ _) rfl ?_
    exact ⟨rfl, hI2, HKd.out.trans ((Keeps.of_below hB).trans hK2)⟩
  | succ d ih =>
    intro jobs w s A c hd hP hX hI hC
    have hN := hX.cn
    have hc : jobs.length ≤ c := (Kd.R_reads' hC).2.1
    have HR := Aside0.mk hC
    have HX := Aside0.mk hX
    have HI := Aside0.mk hI
    have HP : Aside0 (∀ l ∈ ordIn (ords n d) jobs (n - 0) ((0 : Nat) : Int), P l) := Aside0.mk hP
    have HF : Aside0 ((ords n (d + 1) jobs).foldl step s = (ordIn (ords n d) jobs (n - 0) ((0 : Nat) : Int)).foldl step s) := Aside0.mk rfl
    have HN : Aside0 (jobs.length + (d + 1) = n) := Aside0.mk hd
    have c1 : ((jobs.length : Int) == (n : Int)) = false := beq_eq_false_iff_ne.2 (by omega)
    clear hC hX hI hP hd
    go_enter Try.func80, Try.ntmps80
    go_wp2
    go_loopw [15] (fun i w' => ∃ (k : Nat) (s' : σ), k ≤ n ∧ i = .int .i64 k ∧ Aside0 ((ords n (d + 1) jobs).foldl step s = (ordIn (ords n d) jobs (n - k) k).foldl step s') ∧ Aside0 (∀ l ∈ ordIn (ords n d) jobs (n - k) k, P l) ∧ Aside0 (I w' s') ∧ Aside0 (Keeps S w w')) (fun i _ => n - (intOf i).toNat)
    case atStart => exact ⟨0, s, Nat.zero_le _, rfl, HF, HP, HI, Aside0.mk (Keeps.refl _ _)⟩
    case round =>
      clear HF HP
      obtain ⟨k, s', hk, rfl, hf, hp, hi, hkp⟩ := hrel
      by_cases hlt : k < n
      · have HRr : Aside0 ((Kd.int .i64).R 3 wr B0 (fun k => ¬ S k) (.slice A jobs.length c) jobs) := Aside0.mk (Kd.R_step HR.out (fun b hb2 hl => hkp.out.block b hl hb2))
        have HXr : Aside0 (Boxes F caps S B0 n Bn Bc Be wr) := Aside0.mk (HX.out.keeps hkp.out)
        have hEr := HXr.out.ce
        obtain ⟨kk, hkk⟩ : ∃ kk, slices_Contains_int_int.f kk jobs (k : Int) = some (chk (Has jobs (k : Int)) true false) := Ev.rounds (impl_has jobs (k : Int) (by have := HN.out; omega))
        have hunf : ordIn (ords n d) jobs (n - k) (k : Int) = chk (Has jobs (k : Int)) [] (ords n d (jobs ++ [(k : Int)])) ++ ordIn (ords n d) jobs (n - (k + 1)) ((k + 1 : Nat) : Int) := by
          rw [show n - k = (n - (k + 1)) + 1 from by omega, ordIn]
          rfl
        have HU := Aside0.mk hunf
        clear hunf
        by_cases hh : Has jobs (k : Int)
        · rw [chk_pos hh] at hkk
          have HK := Aside0.mk hkk
          have hs2 : Aside0 ((ords n (d + 1) jobs).foldl step s = (ordIn (ords n d) jobs (n - (k + 1)) ((k + 1 : Nat) : Int)).foldl step s') := Aside0.mk (by rw [hf.out, HU.out, chk_pos hh]; rfl)
          have hp2 : Aside0 (∀ l ∈ ordIn (ords n d) jobs (n - (k + 1)) ((k + 1 : Nat) : Int), P l) := Aside0.mk (fun l hl => hp.out l (by rw [HU.out]; exact List.mem_append_right _ hl))
          clear hkk hh hf hp
          go_wp2_with (go_at_call 81; refine (slices_Contains_int_int.calls kk A c jobs (k : Int) true _ (Kd.R_reads' HRr.out).2.2 hc HK.out).mono ?_; rintro e w2 ⟨rfl, hd2⟩)
          go_roundw
          case rel => exact ⟨k + 1, s', by omega, by go_num, hs2, hp2, Aside0.mk (hb.stay _ _ _ hi.out hd2.below), Aside0.mk (hkp.out.trans (Keeps.of_below hd2.below))⟩
          case measure => simp [intOf]; omega
        · rw [chk_neg hh] at hkk
          have HK := Aside0.mk hkk
          have hs2 : Aside0 ((ords n (d + 1) jobs).foldl step s = (ordIn (ords n d) jobs (n - (k + 1)) ((k + 1 : Nat) : Int)).foldl step ((ords n d (jobs ++ [(k : Int)])).foldl step s')) := Aside0.mk (by rw [hf.out, HU.out, chk_neg hh, List.foldl_append])
          have hp2 : Aside0 (∀ l ∈ ordIn (ords n d) jobs (n - (k + 1)) ((k + 1 : Nat) : Int), P l) := Aside0.mk (fun l hl => hp.out l (by rw [HU.out]; exact List.mem_append_right _ hl))
          have hp3 : Aside0 (∀ l ∈ ords n d (jobs ++ [(k : Int)]), P l) := Aside0.mk (fun l hl => hp.out l (by rw [HU.out, chk_neg hh]; exact List.mem_append_left _ hl))
          clear hkk hh hf hp
          go_wp2_with (go_at_call 81; refine (slices_Contains_int_int.calls kk A c jobs (k : Int) false _ (Kd.R_reads' HRr.out).2.2 hc HK.out).mono ?_; rintro e w2 ⟨rfl, hd2⟩)
          have HEr := (Keeps.of_below (S := S) hd2.below).cell hEr HXr.out.se
          refine start_ (n := 7) (S := fun w' => w'.cell? ⟨Be, 0, none⟩ = some (.func (.func 80) #[] #[.pointer (some ⟨Bn, 0, none⟩), .pointer (some ⟨Bc, 0, none⟩), .pointer (some ⟨Be, 0, none⟩)])) (ds := [6]) #[false, false, false, false, false, false, false] (by kernel_rfl) rfl rfl HEr (fun hHeld => ?_)
          have HB2 : Aside0 (Below wr.heap.size wr w2.drew) := Aside0.mk (below_drew1 hd2.below)
          generalize w2.drew = w0 at HB2 hHeld ⊢
          refine take_ (i := 0) (N := some 22) (v := ?_) (a' := ?_) #[true, false, false, false, false, false, false] rfl rfl (by kernel_rfl) (fun _ _ _ h => h) (Or.inl ⟨by rfl, ?_⟩) hHeld ?_ ?_
          rotate_left
          · intro w' s0
            go_simp
            with_reducible rfl
          rotate_left
          · simp only [Act.put, List.setIfInBounds_toArray, List.set_cons_zero, List.set_cons_succ, i64_w, i32_w]
            rfl
          refine pure_ (i := 1) (N := some 23) (v := ?_) (a' := ?_) #[true, true, false, false, false, false, false] rfl rfl (by kernel_rfl) (fun _ _ _ h => h) (Or.inl ⟨by rfl, ?_⟩) ?_ ?_
          rotate_left
          · intro w'
            go_simp
            with_reducible rfl
          rotate_left
          · simp only [Act.put, List.setIfInBounds_toArray, List.set_cons_zero, List.set_cons_succ, i64_w, i32_w]
            rfl
          refine pure_ (i := 3) (N := some 25) (v := ?_) (a' := ?_) #[true, true, false, true, false, false, false] rfl rfl (by kernel_rfl) (fun _ _ _ h => h) (Or.inl ⟨by rfl, ?_⟩) ?_ ?_
          rotate_left
          · intro w'
            go_simp
            with_reducible rfl
          rotate_left
          · simp only [Act.put, List.setIfInBounds_toArray, List.set_cons_zero, List.set_cons_succ, i64_w, i32_w]
            rfl
          refine join_ (σ := Value × Value) 2 #[true, true, true, true, true, false, false] (fun s_ => [(24, s_.1), (26, s_.2)]) (fun s_ w' => Below w0.heap.size w0 w' ∧ Kd.R (Kd.int .i64) 3 w' w0.heap.size (fun k_ => some k_ ≠ s_.2.ownBlock) s_.1 jobs ∧ Kd.R (Kd.int .i64) 3 w' w0.heap.size (fun _ => True) s_.2 [(k : Int)]) ?_ ?_
          rotate_left
          · intro hCont
            refine two_ (i := 2) (j := 4) (Ni := some 24) (Nj := some 26) #[true, true, true, true, false, false, false] #[true, true, false, true, true, false, false] rfl rfl rfl rfl (by kernel_rfl) (by decide) (by decide) (fun K hK => ?_) (fun K hK => ?_)
            · refine goes_ Try.func52 (by kernel_rfl) rfl #[.slice A jobs.length c] (by rfl) rfl rfl (by (try simp only [List.map_toArray, List.map_cons, List.map_nil]); first | done | rfl) ?_
              have hR0 := Kd.R_below HRr.out HB2.out
              refine (slices_Clone_int_int.calls A c jobs jobs w0 (Kd.R_reads' hR0).2.2 hc (by unfold slices_Clone_int_int.f; exact if_pos (by have := HN.out; simp only [List.length_nil]; omega))).mono ?_
              rintro e w3 ⟨v, rfl, hR, hB⟩
              refine ⟨v, rfl, ?_⟩
              refine hK.out _ _ ((Keeps.of_below (S := S) hB).cell hHeld HXr.out.se) (fun hHeld => ?_)
              clear hK K
              refine norm_ (a' := ?_) ?_ ?_
              rotate_left
              · show Act.put _ (some 24) _ = _
                simp only [Act.put, List.setIfInBounds_toArray, List.set_cons_zero, List.set_cons_succ, i64_w, i32_w]
                rfl
              refine one_ (i := 4) (N := some 26) #[true, true, true, true, true, false, false] rfl rfl (by kernel_rfl) (by decide) (fun K hK => ?_)
              refine Kd.R_lit_step (Kd.int .i64) _ 3 ?hg1 (N := 26) ?hd1 (xs := [(k : Int)]) (inner := [.int .i64 k]) (ok := fun _ => True) (okp := fun _ => True) ?hr1 ?hp1 (fun _ hk => hk) trivial (Below.refl _ _) (Nat.le_refl _) (by simp) ?_
              case hd1 => rfl
              case hg1 => rfl
              case hr1 => first | (go_simp; done) | (go_simp; rfl)
              case hp1 => exact (Reps.one (show Kd.M (Kd.int .i64) _ _ _ (k : Int) [.int .i64 k] from rfl) (Reps.none _ _))
              intro v1 w4 ho hb4 hg_ hnew_
              refine hK.out _ _ ((Keeps.of_below (S := S) hb4).cell hHeld HXr.out.se) (fun hHeld => ?_)
              clear hK K
              refine norm_ (a' := ?_) ?_ ?_
              rotate_left
              · show Act.put _ (some 26) _ = _
                simp only [Act.put, List.setIfInBounds_toArray, List.set_cons_zero, List.set_cons_succ, i64_w, i32_w]
                rfl
              exact norm_ (by simp only [putAll, Act.put, List.setIfInBounds_toArray, List.set_cons_zero, List.set_cons_succ]) (hCont (v, v1) _ ⟨below_step hB hb4, Kd.R_mono (Kd.R_elder' hR (Kd.R_base ho) hb4) (fun _ hk => hk.2), Kd.R_lower ho hB.size⟩)
            · refine Kd.R_lit_step (Kd.int .i64) _ 3 ?hg2 (N := 26) ?hd2 (xs := [(k : Int)]) (inner := [.int .i64 k]) (ok := fun _ => True) (okp := fun _ => True) ?hr2 ?hp2 (fun _ hk => hk) trivial (Below.refl _ _) (Nat.le_refl _) (by simp) ?_
              case hd2 => rfl
              case hg2 => rfl
              case hr2 => first | (go_simp; done) | (go_simp; rfl)
              case hp2 => exact (Reps.one (show Kd.M (Kd.int .i64) _ _ _ (k : Int) [.int .i64 k] from rfl) (Reps.none _ _))
              intro v1 w3 ho hb3 hg_ hnew_
              refine hK.out _ _ ((Keeps.of_below (S := S) hb3).cell hHeld HXr.out.se) (fun hHeld => ?_)
              clear hK K
              refine norm_ (a' := ?_) ?_ ?_
              rotate_left
              · show Act.put _ (some 26) _ = _
                simp only [Act.put, List.setIfInBounds_toArray, List.set_cons_zero, List.set_cons_succ, i64_w, i32_w]
                rfl
              refine one_ (i := 2) (N := some 24) #[true, true, true, true, true, false, false] rfl rfl (by kernel_rfl) (by decide) (fun K hK => ?_)
              refine goes_ Try.func52 (by kernel_rfl) rfl #[.slice A jobs.length c] (by rfl) rfl rfl (by (try simp only [List.map_toArray, List.map_cons, List.map_nil]); first | done | rfl) ?_
              have hR0 := Kd.R_below (Kd.R_below HRr.out HB2.out) hb3
              refine (slices_Clone_int_int.calls A c jobs jobs w3 (Kd.R_reads' hR0).2.2 hc (by unfold slices_Clone_int_int.f; exact if_pos (by have := HN.out; simp only [List.length_nil]; omega))).mono ?_
              rintro e w4 ⟨v, rfl, hR, hB⟩
              refine ⟨v, rfl, ?_⟩
              refine hK.out _ _ ((Keeps.of_below (S := S) hB).cell hHeld HXr.out.se) (fun hHeld => ?_)
              clear hK K
              refine norm_ (a' := ?_) ?_ ?_
              rotate_left
              · show Act.put _ (some 24) _ = _
                simp only [Act.put, List.setIfInBounds_toArray, List.set_cons_zero, List.set_cons_succ, i64_w, i32_w]
                rfl
              exact norm_ (by simp only [putAll, Act.put, List.setIfInBounds_toArray, List.set_cons_zero, List.set_cons_succ]) (hCont (v, v1) _ ⟨below_step hb3 hB, Kd.R_lower (Kd.R_mono (Kd.R_new' hR (Kd.R_lt ho)) (fun _ hk => hk.2)) hb3.size, Kd.R_below ho hB⟩)
          · rintro ⟨v, v1⟩ w3 ⟨hB3, hRv, hR1⟩
            have hB3' := Aside0.mk hB3
            obtain ⟨A3, c3, e3⟩ := Kd.R_slice hRv
            subst e3
            obtain ⟨A1, c4, e4⟩ := Kd.R_slice hR1
            subst e4
            refine norm_ (a' := ?_) ?_ ?_
            rotate_left
            · simp only [putAll, Act.put, List.setIfInBounds_toArray, List.set_cons_zero, List.set_cons_succ]
              rfl
            refine one_ (i := 5) (N := some 27) #[true, true, true, true, true, true, false] rfl rfl (by kernel_rfl) (by decide) (fun K hK => ?_)
            refine Kd.R_append_rows_step (Kd.int .i64) (w0 := w0) w0.heap.size (by rfl) (.tmp 24) (.tmp 26) 22 3 (.int .i64 0) 8 rfl Try.underlying22 info3 rfl (by decide) (by omega) (.slice A3 jobs.length c3) jobs [(k : Int)] _ _ _ (fun k_ => True) (fun _ => False) rfl rfl ?aO ?aR (fun _ _ h => h) (fun _ h => h.elim) ?aF ?aB ?aS ?aL ?_
            case aR => exact (Kd.R_reads' hR1).2.2
            case aB => exact hB3
            case aF => exact (fun _ _ => trivial)
            case aO => exact Kd.R_mono hRv (fun _ _ => trivial)
            case aS => exact hB3.size
            case aL => have := HN.out; simp only [List.length_cons, List.length_nil]; omega
            intro v5 w5 ho hb5 hg hat
            refine hK.out _ _ ((Keeps.of_below (S := S) hb5).cell (HXr.out.keeps (Keeps.of_below HB2.out)).ce HXr.out.se) (fun hHeld => ?_)
            clear hK K
            refine norm_ (a' := ?_) ?_ ?_
            rotate_left
            · show Act.put _ (some 27) _ = _
              simp only [Act.put, List.setIfInBounds_toArray, List.set_cons_zero, List.set_cons_succ, i64_w, i32_w]
              rfl
            refine last_ (i := 6) (N := some 28) #[true, true, true, true, true, true, true] rfl rfl (by kernel_rfl) (by decide) (fun K hK => ?_)
            have hB5 := below_step HB2.out hb5
            have hI5 := hb.stay _ _ _ hi.out hB5
            have hR5 : Kd.R (Kd.int .i64) 3 w5 B0 (fun k => ¬ S k) v5 (jobs ++ [(k : Int)]) := Kd.R_lower (Kd.R_mono (Kd.R_bound ho) (fun b hk hs => by have := hb.low _ _ hi.out b hs; have := hk.2.1; have := HB2.out.size; omega)) (Nat.le_trans HXr.out.base HB2.out.size)
            obtain ⟨A5, c5, e5⟩ := Kd.R_slice hR5
            subst e5
            refine call_ 80 #[.slice A5 (jobs ++ [(k : Int)]).length c5, .pointer (some ⟨Bn, 0, none⟩), .pointer (some ⟨Bc, 0, none⟩), .pointer (some ⟨Be, 0, none⟩)] (by rfl) rfl ?hrun ?_
            case hrun =>
              unfold execOp
              simp [resolve, Deferred.ofValue, invoke, Act.eval, enters_ Try.func80 (by kernel_rfl) rfl]
            refine (ih (jobs ++ [(k : Int)]) w5 s' A5 c5 (by have := HN.out; simp only [List.length_append, List.length_cons, List.length_nil]; omega) hp3.out (HXr.out.keeps (Keeps.of_below hB5)) hI5 hR5).mono ?_
            rintro e w6 ⟨rfl, hI6, hK6⟩
            refine ⟨_, rfl, ?_⟩
            refine hK.out _ _ ?_
            clear hK K
            refine norm_ (a' := ?_) ?_ ?_
            rotate_left
            · show Act.put _ (some 28) _ = _
              simp only [Act.put, List.setIfInBounds_toArray, List.set_cons_zero, List.set_cons_succ, i64_w, i32_w]
              rfl
            have HI6 := Aside0.mk hI6
            have HK6 := Aside0.mk (hkp.out.trans ((Keeps.of_below hB5).trans hK6))
            clear hI6 hK6
            refine done_ (by kernel_rfl) ?_
            go_wp2
            go_roundw
            case rel => exact ⟨k + 1, _, by omega, by go_num, hs2, hp2, HI6, HK6⟩
            case measure => simp [intOf]; omega
      · have hs2 : Aside0 ((ords n (d + 1) jobs).foldl step s = s') := Aside0.mk (by rw [hf.out, show n - k = 0 from by omega]; rfl)
        clear hf hp
        go_wp2
        go_end0
        exact ⟨rfl, by rw [hs2.out]; exact hi.out, hkp.out⟩
theorem st_func {P : Program} (a : Addr) (m : Mode) (f : Fn) (b c : Array Value) (w : World) : (store a (.func f b c) m).run P w = stored P w a (.func f b c) m := run_store P w a _ m rfl
attribute [local go_sem] st_func
theorem orders_boxes {F : FuncId} {caps : Array Value} {S : Nat → Prop} {B0 : Nat} {w w1 w2 w3 : World} {g1 g2 g3 : Nat} (n : Nat) (hB0 : B0 ≤ w.heap.size) (hlow : ∀ k, S k → k < w.heap.size)
    (h1 : g1 = w.heap.size) (x1 : w1.heap[g1]? = some (.cells #[.int .i64 n] 3 (0, 0))) (b1 : Below w.heap.size w w1)
    (h2 : g2 = w1.heap.size) (x2 : w2.heap[g2]? = some (.cells #[.func (.func F) #[] caps] 69 (0, 0))) (b2 : Below w1.heap.size w1 w2)
    (h3 : g3 = w2.heap.size) (x3 : w3.heap[g3]? = some (.cells #[.nilFunc] 69 (0, 0))) (b3 : Below w2.heap.size w2 w3) :
    Boxes F caps S B0 n g1 g2 g3 (w3.setCell ⟨g3, 0, none⟩ (.func (.func 80) #[] #[.pointer (some ⟨g1, 0, none⟩), .pointer (some ⟨g2, 0, none⟩), .pointer (some ⟨g3, 0, none⟩)])) ∧ Below w.heap.size w (w3.setCell ⟨g3, 0, none⟩ (.func (.func 80) #[] #[.pointer (some ⟨g1, 0, none⟩), .pointer (some ⟨g2, 0, none⟩), .pointer (some ⟨g3, 0, none⟩)])) := by
  have s1 := b1.size
  have s2 := b2.size
  have s3 := b3.size
  have l1 := blk_lt x1
  have l2 := blk_lt x2
  have hB : Below w.heap.size w (w3.setCell ⟨g3, 0, none⟩ (.func (.func 80) #[] #[.pointer (some ⟨g1, 0, none⟩), .pointer (some ⟨g2, 0, none⟩), .pointer (some ⟨g3, 0, none⟩)])) := Below.setCell (below_step b1 (below_step b2 b3)) (by show w.heap.size ≤ g3; omega) _
  have y1 := blk_below (blk_below x1 b2) b3
  have y2 := blk_below x2 b3
  refine ⟨⟨Nat.le_trans hB0 hB.size, ?_, ?_, (blk_cell (blk_set x3 0 _) 0).trans rfl, fun h => by have := hlow _ h; omega, fun h => by have := hlow _ h; omega, fun h => by have := hlow _ h; omega⟩, hB⟩
  · exact (cell_far (p := ⟨g3, 0, none⟩) (by show g1 ≠ g3; omega) _).trans ((blk_cell y1 0).trans rfl)
  · exact (cell_far (p := ⟨g3, 0, none⟩) (by show g2 ≠ g3; omega) _).trans ((blk_cell y2 0).trans rfl)
set_option maxHeartbeats 8000000 in
set_option maxRecDepth 100000 in
theorem orders_any {σ : Type} {F : FuncId} {caps : Array Value} {S : Nat → Prop} {B0 : Nat} {I : World → σ → Prop} {P : List Int → Prop} {step : σ → List Int → σ} (hb : Back F caps S B0 I P step) (n : Nat) (hn : n ≤ 1000) (w : World) (s : σ) (hP : ∀ l ∈ ords n n [], P l) (hB0 : B0 ≤ w.heap.size) (hI : I w s) :
    Calls Try.prog 65 #[.int .i64 n, .func (.func F) #[] caps] w fun e w' => e = .returned (.tuple #[]) ∧ I w' ((ords n n []).foldl step s) ∧ Keeps S w w' := by
  have hlow := hb.low w s hI
  have HP := Aside0.mk hP
  have HI := Aside0.mk hI
  clear hP hI
  go_enter Try.func65, Try.ntmps65
  go_wp2_with (first | ((with_reducible refine gate_dst (N := 2) rfl ?_); refine box_event ?hg2 (N := 2) ?hd2 (cs := #[.int .i64 n]) (t := 3) ?hr2 ?_; (case hd2 => rfl); (case hg2 => rfl); (case hr2 => first | (go_simp; done) | (go_simp; rfl)); intro g1 hgg1 w1 hboxg1 hbg1; have HG1 := Aside0.mk hgg1; have HX1 := Aside0.mk hboxg1; have HB1 := Aside0.mk hbg1; clear hgg1 hboxg1 hbg1) | ((with_reducible refine gate_dst (N := 3) rfl ?_); refine box_event ?hg3 (N := 3) ?hd3 (cs := #[.func (.func F) #[] caps]) (t := 69) ?hr3 ?_; (case hd3 => rfl); (case hg3 => rfl); (case hr3 => first | (go_simp; done) | (go_simp; rfl)); intro g2 hgg2 w2 hboxg2 hbg2; have HG2 := Aside0.mk hgg2; have HX2 := Aside0.mk hboxg2; have HB2 := Aside0.mk hbg2; clear hgg2 hboxg2 hbg2) | ((with_reducible refine gate_dst (N := 4) rfl ?_); refine box_event ?hg4 (N := 4) ?hd4 (cs := #[.nilFunc]) (t := 69) ?hr4 ?_; (case hd4 => rfl); (case hg4 => rfl); (case hr4 => first | (go_simp; done) | (go_simp; rfl)); intro g3 hgg3 w3 hboxg3 hbg3; have HG3 := Aside0.mk hgg3; have hz1 : w3.cell? ⟨g3, 0, none⟩ = some .nilFunc := (blk_cell hboxg3 0).trans rfl; have hz2 := blk_frozen hboxg3 0; have hz4 : (w3.setCell ⟨g3, 0, none⟩ (.func (.func 80) #[] #[.pointer (some ⟨g1, 0, none⟩), .pointer (some ⟨g2, 0, none⟩), .pointer (some ⟨g3, 0, none⟩)])).cell? ⟨g3, 0, none⟩ = some (.func (.func 80) #[] #[.pointer (some ⟨g1, 0, none⟩), .pointer (some ⟨g2, 0, none⟩), .pointer (some ⟨g3, 0, none⟩)]) := (blk_cell (blk_set hboxg3 0 (.func (.func 80) #[] #[.pointer (some ⟨g1, 0, none⟩), .pointer (some ⟨g2, 0, none⟩), .pointer (some ⟨g3, 0, none⟩)])) 0).trans rfl; have HX3 := Aside0.mk hboxg3; have HB3 := Aside0.mk hbg3; clear hgg3 hboxg3 hbg3) | (go_at_call 80; refine (extend_any hb n g1 g2 g3 hn n [] _ s none 0 (by simp) HP.out (orders_boxes n hB0 hlow HG1.out HX1.out HB1.out HG2.out HX2.out HB2.out HG3.out HX3.out HB3.out).1 (hb.stay _ _ _ HI.out (orders_boxes n hB0 hlow HG1.out HX1.out HB1.out HG2.out HX2.out HB2.out HG3.out HX3.out HB3.out).2) (Kd.R_nil _ _ _ _ _)).mono ?_; rintro e w5 ⟨rfl, hI5, hK5⟩; have HI5 := Aside0.mk hI5; have HK5 := Aside0.mk ((Keeps.of_below (orders_boxes n hB0 hlow HG1.out HX1.out HB1.out HG2.out HX2.out HB2.out HG3.out HX3.out HB3.out).2).trans hK5); clear hI5 hK5))
  go_end0
  exact ⟨rfl, HI5.out, HK5.out⟩
end Go.Proofs.Ytcgfedaoimhejaa.G

-- Written by wip/tools/gen.py out of the translation (the kit's printer, one namespace a seat). Lean checks it.
namespace Go.Proofs.Ytcgfedaoimhejaa.G
open Go.RowKit Go.Proofs.YtcgfedaoimhejaaW.PrintWords Go.Proofs.YtcgfedaoimhejaaW.PrintLast Go.Proofs.YtcgfedaoimhejaaW.PrintMore
attribute [local go_sem] max2_int min2_int max_two min_two max_three min_three max_four min_four   -- for this text's walks alone
set_option linter.unusedVariables false
set_option linter.unusedSimpArgs false

/-! ### impl_within: function 58 -/
def impl_within.f (a0 : Int) (a1 : Int) (a2 : Int) : Option (Bool) := if a0 ≥ a1 then (some (decide (a0 ≤ a2))) else (some false)
set_option maxHeartbeats 8000000 in
set_option maxRecDepth 100000 in
theorem impl_within.calls (a0 : Int) (a1 : Int) (a2 : Int) (r : Bool) (w : World) (h : impl_within.f a0 a1 a2 = some r) :
  Calls Try.prog 58 #[.int .i64 a0, .int .i64 a1, .int .i64 a2] w fun e w' => e = .returned (.bool r) ∧ Drawn0 w w' := by
 have H : (if a0 ≥ a1 then (some (decide (a0 ≤ a2))) else (some false)) = some r := h
 clear h
 by_cases c4 : a0 ≥ a1
 ·rw [if_pos c4] at H
  have c4b0 : decide (a1 ≤ a0) = true := decide_eq_true c4
  clear c4
  obtain rfl := Option.some.inj H
  go_enter Try.func58, Try.ntmps58
  go_wp2
  go_ret
  exact ⟨by first | rfl | (simp; done) | (simp [*]; done), by repeat (first | exact Drawn0.refl _ | apply Drawn0.step)⟩
 ·rw [if_neg c4] at H
  have c4b0 : decide (a1 ≤ a0) = false := decide_eq_false c4
  clear c4
  obtain rfl := Option.some.inj H
  go_enter Try.func58, Try.ntmps58
  go_wp2
  go_ret
  exact ⟨by first | rfl | (simp; done) | (simp [*]; done), by repeat (first | exact Drawn0.refl _ | apply Drawn0.step)⟩

end Go.Proofs.Ytcgfedaoimhejaa.G

namespace Go.Proofs.Ytcgfedaoimhejaa.G
open Go.RowKit Go.Proofs.YtcgfedaoimhejaaW.PrintWords Go.Proofs.YtcgfedaoimhejaaW.PrintLast
set_option linter.unusedVariables false
set_option linter.unusedSimpArgs false
theorem impl_within_eq (a b c : Int) : impl_within.f a b c = some (decide (b ≤ a ∧ a ≤ c)) := by
  unfold impl_within.f
  split
  · rename_i h; congr 1; simp; omega
  · rename_i h; congr 1; simp; omega
theorem spec_l1In_eq (a b c : Int) : spec_l1In.f a b c = some (decide (b ≤ a ∧ a ≤ c)) := by
  unfold spec_l1In.f
  split
  · rename_i h; congr 1; simp; omega
  · rename_i h; congr 1; simp; omega
end Go.Proofs.Ytcgfedaoimhejaa.G

-- Written by wip/tools/gen.py out of the translation (the kit's printer, one namespace a seat). Lean checks it.
namespace Go.Proofs.Ytcgfedaoimhejaa.G
open Go.RowKit Go.Proofs.YtcgfedaoimhejaaW.PrintWords Go.Proofs.YtcgfedaoimhejaaW.PrintLast Go.Proofs.YtcgfedaoimhejaaW.PrintMore
attribute [local go_sem] max2_int min2_int max_two min_two max_three min_three max_four min_four   -- for this text's walks alone
set_option linter.unusedVariables false
set_option linter.unusedSimpArgs false

/-! ### impl_IsValidColumn_1: function 76 -/
def impl_IsValidColumn_1.f (a0 : Int) : Option (Bool) := (impl_within.f a0 1 32000).bind fun t101 => (some (!t101))
set_option maxHeartbeats 8000000 in
set_option maxRecDepth 100000 in
theorem impl_IsValidColumn_1.calls (a0 : Int) (r : Bool) (w : World) (h : impl_IsValidColumn_1.f a0 = some r) :
  Calls Try.prog 76 #[.int .i64 a0] w fun e w' => e = .returned (.bool r) ∧ Drawn0 w w' := by
 have H : ((impl_within.f a0 1 32000).bind fun t101 => (some (!t101))) = some r := h
 clear h
 replace H := Option.bind_eq_some_iff.mp H
 obtain ⟨t101, A20, H⟩ := H
 replace H : (some (!t101)) = some r := H
 have A2 := zM A20
 clear A20
 obtain rfl := Option.some.inj H
 go_enter Try.func76, Try.ntmps76
 go_wp2_with (first | ((with_reducible refine gate_callee (f := 58) rfl ?_); refine goesL_ (some 4) rfl rfl Try.func58 (by kernel_rfl) rfl #[.int .i64 a0, .int .i64 1, .int .i64 32000] rfl (by (try simp only [List.map_toArray, List.map_cons, List.map_nil]); first | done | rfl | (simp only [List.length_drop, List.length_take]; rfl)) ?_; (with_reducible refine (impl_within.calls a0 1 32000 t101 _ A2.out).mono ?_); rintro e w' ⟨rfl, ⟨nd, rfl⟩⟩; refine ⟨_, rfl, ?_⟩))
 go_ret
 exact ⟨by first | rfl | (simp; done) | (simp [*]; done), by repeat (first | exact Drawn0.refl _ | apply Drawn0.step)⟩

end Go.Proofs.Ytcgfedaoimhejaa.G

/- The contract of slices.ContainsFunc at the test of IsValidColumn. -/
namespace Go.Proofs.Ytcgfedaoimhejaa.G
open Go.RowKit Go.Proofs.YtcgfedaoimhejaaW.PrintWords Go.Proofs.YtcgfedaoimhejaaW.PrintLast
set_option linter.unusedVariables false
set_option linter.unusedSimpArgs false
theorem ret_int {k : IntKind} {a b : Int} (h : a = b) : Ending.returned (.int k a) = .returned (.int k b) := by rw [h]
theorem drawn_two {w w1 w2 : World} (h : Drawn0 w w1) (h2 : Drawn0 w1 w2) : Drawn0 w w2 := by
  obtain ⟨⟨n1, rfl⟩⟩ := h
  obtain ⟨⟨n2, rfl⟩⟩ := h2
  exact ⟨⟨n1 + n2, World.drewN_drewN ..⟩⟩
def good76 (n : Int) : Bool := decide (1 ≤ n ∧ n ≤ 32000)
def bad76 (l : List Int) : Nat → Nat → Int
  | 0, _ => -1
  | d + 1, i => if good76 (rd l i) then bad76 l d (i + 1) else i
theorem bad76_iff (l : List Int) : ∀ d i, bad76 l d i ≥ 0 ↔ ¬ ∀ j : Nat, i ≤ j → j < i + d → good76 (rd l j) = true := by
  intro d
  induction d with
  | zero => intro i; simp [bad76]; omega
  | succ d ih =>
    intro i
    unfold bad76
    split
    · rename_i h
      rw [ih (i + 1)]
      constructor
      · intro h1 h2
        exact h1 fun j a b => h2 j (by omega) (by omega)
      · intro h1 h2
        refine h1 fun j a b => ?_
        by_cases e : j = i
        · rw [e]; exact h
        · exact h2 j (by omega) (by omega)
    · rename_i h
      constructor
      · intro _ h2
        exact h (h2 i (by omega) (by omega))
      · intro _; omega
theorem lit76_eq (n : Int) : impl_IsValidColumn_1.f n = some (!good76 n) := by
  unfold impl_IsValidColumn_1.f impl_within.f good76
  by_cases h : n ≥ 1
  · simp [h]
  · simp [h]
set_option maxHeartbeats 2000000 in
set_option maxRecDepth 100000 in
theorem idx76 (A0 : Option Addr) (c0 : Nat) (l0 : List Int) (w : World) (hr0 : Kd.C (Kd.int .i64) w A0 l0.length l0) (hc0 : l0.length ≤ c0) :
    Calls Try.prog 78 #[.slice A0 l0.length c0, .func (.func 76) #[] #[]] w fun e w' => e = .returned (.int .i64 (bad76 l0 l0.length 0)) ∧ Drawn0 w w' := by
  have hn : l0.length ≤ 9223372036854775807 := hr0.2.1
  have HR := Aside0.mk hr0
  clear hr0
  have HN : Aside0 (bad76 l0 l0.length 0 = bad76 l0 (l0.length - 0) 0) := Aside0.mk rfl
  go_enter Try.func78, Try.ntmps78
  go_wp2
  go_loopw [8] (fun i w' => ∃ k : Nat, k ≤ l0.length ∧ i = .int .i64 k ∧ Aside0 (bad76 l0 l0.length 0 = bad76 l0 (l0.length - k) k) ∧ Drawn0 w w') (fun i _ => l0.length - (intOf i).toNat)
  case atStart => exact ⟨0, Nat.zero_le _, rfl, HN, Drawn0.refl _⟩
  case round =>
    obtain ⟨k, hk, rfl, hb, hd⟩ := hrel
    by_cases hlt : k < l0.length
    · obtain ⟨ad, rfl, hx⟩ := Kd.at_int (Kd.C_below HR.out hd.below) (k : Int) (by omega) (by omega)
      rw [Int.toNat_natCast] at hx
      by_cases hg : good76 (rd l0 k) = true
      · have hs : Aside0 (bad76 l0 l0.length 0 = bad76 l0 (l0.length - (k + 1)) (k + 1)) := Aside0.mk (by
          rw [hb.out, show l0.length - k = (l0.length - (k + 1)) + 1 from by omega]
          conv => lhs; unfold bad76
          rw [if_pos hg])
        have hf : Aside0 (impl_IsValidColumn_1.f (rd l0 k) = some false) := Aside0.mk (by rw [lit76_eq, hg]; rfl)
        clear hb hg
        go_wp2_with (go_at_call 76; refine (impl_IsValidColumn_1.calls _ false _ hf.out).mono ?_; rintro e w' ⟨rfl, hd2⟩)
        go_roundw
        case rel => exact ⟨k + 1, by omega, by go_num, hs, drawn_two hd hd2⟩
        case measure => simp [intOf]; omega
      · have hs : Aside0 (bad76 l0 l0.length 0 = (k : Int)) := Aside0.mk (by
          rw [hb.out, show l0.length - k = (l0.length - (k + 1)) + 1 from by omega]
          conv => lhs; unfold bad76
          rw [if_neg hg])
        have hf : Aside0 (impl_IsValidColumn_1.f (rd l0 k) = some true) := Aside0.mk (by rw [lit76_eq, Bool.eq_false_iff.2 hg]; rfl)
        clear hb hg
        go_wp2_with (go_at_call 76; refine (impl_IsValidColumn_1.calls _ true _ hf.out).mono ?_; rintro e w' ⟨rfl, hd2⟩)
        go_ret
        exact ⟨ret_int hs.out.symm, drawn_two hd hd2⟩
    · have hs : Aside0 (bad76 l0 l0.length 0 = -1) := Aside0.mk (by
        rw [hb.out, show l0.length - k = 0 from by omega]; rfl)
      clear hb
      go_wp2
      go_ret
      exact ⟨ret_int hs.out.symm, hd⟩
def slices_ContainsFunc_int_int_76.f (l0 : List Int) : Option Bool := some (decide (bad76 l0 l0.length 0 ≥ 0))
set_option maxHeartbeats 2000000 in
set_option maxRecDepth 100000 in
theorem slices_ContainsFunc_int_int_76.calls (A0 : Option Addr) (c0 : Nat) (l0 : List Int) (r : Bool) (w : World) (hr0 : Kd.C (Kd.int .i64) w A0 l0.length l0) (hc0 : l0.length ≤ c0) (h : slices_ContainsFunc_int_int_76.f l0 = some r) :
    Calls Try.prog 59 #[.slice A0 l0.length c0, .func (.func 76) #[] #[]] w fun e w' => e = .returned (.bool r) ∧ Drawn0 w w' := by
  obtain rfl : decide (bad76 l0 l0.length 0 ≥ 0) = r := Option.some.inj h
  have HR := Aside0.mk hr0
  clear hr0 h
  go_enter Try.func59, Try.ntmps59
  go_wp2_with (go_at_call 78; refine (idx76 A0 c0 l0 _ HR.out hc0).mono ?_; rintro e w' ⟨rfl, hd⟩)
  go_ret
  exact ⟨rfl, hd⟩
end Go.Proofs.Ytcgfedaoimhejaa.G

-- Written by wip/tools/gen.py out of the translation (the kit's printer, one namespace a seat). Lean checks it.
namespace Go.Proofs.Ytcgfedaoimhejaa.G
open Go.RowKit Go.Proofs.YtcgfedaoimhejaaW.PrintWords Go.Proofs.YtcgfedaoimhejaaW.PrintLast Go.Proofs.YtcgfedaoimhejaaW.PrintMore
attribute [local go_sem] max2_int min2_int max_two min_two max_three min_three max_four min_four   -- for this text's walks alone
set_option linter.unusedVariables false
set_option linter.unusedSimpArgs false

/-! ### impl_IsValidColumn: function 43 -/
def impl_IsValidColumn.f (l0 : List Int) : Option (Bool) := if (l0.length : Int) ≤ 4 then ((slices_ContainsFunc_int_int_76.f l0).bind fun t145 => (some (!t145))) else (some false)
set_option maxHeartbeats 8000000 in
set_option maxRecDepth 100000 in
theorem impl_IsValidColumn.calls (A0 : Option Addr) (c0 : Nat) (l0 : List Int) (r : Bool) (w : World) (hr0 : Kd.C (Kd.int .i64) w A0 l0.length l0) (hc0 : l0.length ≤ c0) (h : impl_IsValidColumn.f l0 = some r) :
  Calls Try.prog 43 #[.slice A0 l0.length c0] w fun e w' => e = .returned (.bool r) ∧ Drawn0 w w' := by
 have HR0 := zM hr0
 have HC0 := zM hc0
 clear hr0 hc0
 have H : (if (l0.length : Int) ≤ 4 then ((slices_ContainsFunc_int_int_76.f l0).bind fun t145 => (some (!t145))) else (some false)) = some r := h
 clear h
 by_cases c2 : (l0.length : Int) ≤ 4
 ·rw [if_pos c2] at H
  have c2b0 : decide ((l0.length : Int) ≤ 4) = true := decide_eq_true c2
  have c2b1 : decide (l0.length ≤ 4) = true := decide_eq_true (by omega)
  clear c2
  replace H := Option.bind_eq_some_iff.mp H
  obtain ⟨t145, A30, H⟩ := H
  replace H : (some (!t145)) = some r := H
  have A3 := zM A30
  clear A30
  obtain rfl := Option.some.inj H
  go_enter Try.func43, Try.ntmps43
  go_wp2_with (first | (go_at_call 59; (with_reducible refine (slices_ContainsFunc_int_int_76.calls _ _ l0  t145 _ ?side1 ?side2 A3.out).mono ?_); (case side1 => repeat (first | exact HR0.out | (with_reducible refine zG ?_ _) | (with_reducible refine zH ?_ _) | (with_reducible refine zI ?_))); (case side2 => exact HC0.out); rintro e w' ⟨rfl, ⟨nd, rfl⟩⟩))
  go_ret
  exact ⟨by first | rfl | (simp; done) | (simp [*]; done), by repeat (first | exact Drawn0.refl _ | apply Drawn0.step)⟩
 ·rw [if_neg c2] at H
  have c2b0 : decide ((l0.length : Int) ≤ 4) = false := decide_eq_false c2
  have c2b1 : decide (l0.length ≤ 4) = false := decide_eq_false (by omega)
  clear c2
  obtain rfl := Option.some.inj H
  go_enter Try.func43, Try.ntmps43
  go_wp2
  go_ret
  exact ⟨by first | rfl | (simp; done) | (simp [*]; done), by repeat (first | exact Drawn0.refl _ | apply Drawn0.step)⟩

end Go.Proofs.Ytcgfedaoimhejaa.G

-- Written by wip/tools/gen.py out of the translation (the kit's printer, one namespace a seat). Lean checks it.
namespace Go.Proofs.Ytcgfedaoimhejaa.G
open Go.RowKit Go.Proofs.YtcgfedaoimhejaaW.PrintWords Go.Proofs.YtcgfedaoimhejaaW.PrintLast Go.Proofs.YtcgfedaoimhejaaW.PrintMore
attribute [local go_sem] max2_int min2_int max_two min_two max_three min_three max_four min_four   -- for this text's walks alone
set_option linter.unusedVariables false
set_option linter.unusedSimpArgs false

/-! ### impl_isLashed: function 47 -/
def impl_isLashed.f (l0 : List Int) (a1_0 : Int) (a1_1 : Int) (a1_2 : Int) : Option (Bool) := (impl_IsValidColumn.f l0).bind fun t147 => (if t147 = true then ((impl_within.f a1_0 1 200000).bind fun t148 => (if t148 = true then ((impl_within.f a1_1 0 100).bind fun t149 => (if t149 = true then ((impl_within.f a1_2 1 100000).bind fun t150 => (some t150)) else (some false))) else (some false))) else (some false))
set_option maxHeartbeats 8000000 in
set_option maxRecDepth 100000 in
theorem impl_isLashed.calls (A0 : Option Addr) (c0 : Nat) (l0 : List Int) (a1_0 : Int) (a1_1 : Int) (a1_2 : Int) (r : Bool) (w : World) (hr0 : Kd.C (Kd.int .i64) w A0 l0.length l0) (hc0 : l0.length ≤ c0) (h : impl_isLashed.f l0 a1_0 a1_1 a1_2 = some r) :
  Calls Try.prog 47 #[.slice A0 l0.length c0, .agg #[.int .i64 a1_0, .int .i64 a1_1, .int .i64 a1_2]] w fun e w' => e = .returned (.bool r) ∧ Below w.heap.size w w' := by
 have hu28 := Try.underlying28
 have HR0 := zM hr0
 have HC0 := zM hc0
 clear hr0 hc0
 have HB := zM (Below.refl w.heap.size w)
 have H : ((impl_IsValidColumn.f l0).bind fun t147 => (if t147 = true then ((impl_within.f a1_0 1 200000).bind fun t148 => (if t148 = true then ((impl_within.f a1_1 0 100).bind fun t149 => (if t149 = true then ((impl_within.f a1_2 1 100000).bind fun t150 => (some t150)) else (some false))) else (some false))) else (some false))) = some r := h
 clear h
 replace H := Option.bind_eq_some_iff.mp H
 obtain ⟨t147, A30, H⟩ := H
 replace H : (if t147 = true then ((impl_within.f a1_0 1 200000).bind fun t148 => (if t148 = true then ((impl_within.f a1_1 0 100).bind fun t149 => (if t149 = true then ((impl_within.f a1_2 1 100000).bind fun t150 => (some t150)) else (some false))) else (some false))) else (some false)) = some r := H
 have A3 := zM A30
 clear A30
 by_cases c4 : t147 = true
 ·subst c4
  have H1 : ((impl_within.f a1_0 1 200000).bind fun t148 => (if t148 = true then ((impl_within.f a1_1 0 100).bind fun t149 => (if t149 = true then ((impl_within.f a1_2 1 100000).bind fun t150 => (some t150)) else (some false))) else (some false))) = some r := by rw [if_pos rfl] at H; exact H
  clear H
  have H := H1
  clear H1
  replace H := Option.bind_eq_some_iff.mp H
  obtain ⟨t148, A50, H⟩ := H
  replace H : (if t148 = true then ((impl_within.f a1_1 0 100).bind fun t149 => (if t149 = true then ((impl_within.f a1_2 1 100000).bind fun t150 => (some t150)) else (some false))) else (some false)) = some r := H
  have A5 := zM A50
  clear A50
  by_cases c6 : t148 = true
  ·subst c6
   have H1 : ((impl_within.f a1_1 0 100).bind fun t149 => (if t149 = true then ((impl_within.f a1_2 1 100000).bind fun t150 => (some t150)) else (some false))) = some r := by rw [if_pos rfl] at H; exact H
   clear H
   have H := H1
   clear H1
   replace H := Option.bind_eq_some_iff.mp H
   obtain ⟨t149, A70, H⟩ := H
   replace H : (if t149 = true then ((impl_within.f a1_2 1 100000).bind fun t150 => (some t150)) else (some false)) = some r := H
   have A7 := zM A70
   clear A70
   by_cases c8 : t149 = true
   ·subst c8
    have H1 : ((impl_within.f a1_2 1 100000).bind fun t150 => (some t150)) = some r := by rw [if_pos rfl] at H; exact H
    clear H
    have H := H1
    clear H1
    replace H := Option.bind_eq_some_iff.mp H
    obtain ⟨t150, A90, H⟩ := H
    replace H : (some t150) = some r := H
    have A9 := zM A90
    clear A90
    obtain rfl := Option.some.inj H
    go_enter Try.func47, Try.ntmps47
    go_wp2_with (first | ((with_reducible refine gate_dst (N := 3) rfl ?_); refine box_event ?hg (N := 3) ?hd (cs := #[.int .i64 a1_0, .int .i64 a1_1, .int .i64 a1_2]) (t := 28) ?hr ?_; (case hd => rfl); (case hg => rfl); (case hr => first | (go_simp; done) | (go_simp; rfl)); intro gb146 hg w10 hbox hb; have n0_ := zM (zQ (by repeat (first | (with_reducible first | exact HB.out | apply zD | apply zE | apply zF) | exact HB.out)) hb); have n1_ := zM (hbox); have n2_ := zM ((by rw [hg]; exact (zR (by repeat (first | (with_reducible first | exact HB.out | apply zD | apply zE | apply zF) | exact HB.out))) : w.heap.size ≤ gb146)); have n3_ := zM ((by rw [hg]; exact (zR (by repeat (first | (with_reducible first | exact HB.out | apply zD | apply zE | apply zF) | exact HB.out))) : w.heap.size ≤ gb146)); clear HB; have HB := n0_; have BK146 := n1_; have GW146 := n2_; have GE146 := n3_; clear n0_ n1_ n2_ n3_; clear hb hbox hg) | ((with_reducible refine gate_callee (f := 43) rfl ?_); refine goesL_ (some 6) rfl rfl Try.func43 (by kernel_rfl) rfl #[.slice A0 l0.length c0] rfl (by (try simp only [List.map_toArray, List.map_cons, List.map_nil]); first | done | rfl | (simp only [List.length_drop, List.length_take]; rfl)) ?_; (with_reducible refine (impl_IsValidColumn.calls _ _ l0 true _ ?side1 ?side2 A3.out).mono ?_); (case side1 => repeat (first | exact (zO HR0.out HB.out) | (with_reducible refine zG ?_ _) | (with_reducible refine zH ?_ _) | (with_reducible refine zI ?_))); (case side2 => exact HC0.out); rintro e w' ⟨rfl, ⟨nd, rfl⟩⟩; refine ⟨_, rfl, ?_⟩; have hcz11_0 : w10.cell? ⟨gb146, 0, none⟩ = some (.int .i64 a1_0) := (blk_cell BK146.out 0).trans rfl; have hcz11_1 : w10.cell? ⟨gb146, 1, none⟩ = some (.int .i64 a1_1) := (blk_cell BK146.out 1).trans rfl; have hcz11_2 : w10.cell? ⟨gb146, 2, none⟩ = some (.int .i64 a1_2) := (blk_cell BK146.out 2).trans rfl; have hfz11_0 := blk_frozen BK146.out 0; have hfz11_1 := blk_frozen BK146.out 1; have hfz11_2 := blk_frozen BK146.out 2) | (go_at_call 58; (with_reducible refine (impl_within.calls a1_0 1 200000 true _ A5.out).mono ?_); rintro e w' ⟨rfl, ⟨nd, rfl⟩⟩) | (go_at_call 58; (with_reducible refine (impl_within.calls a1_1 0 100 true _ A7.out).mono ?_); rintro e w' ⟨rfl, ⟨nd, rfl⟩⟩) | (go_at_call 58; (with_reducible refine (impl_within.calls a1_2 1 100000 t150 _ A9.out).mono ?_); rintro e w' ⟨rfl, ⟨nd, rfl⟩⟩))
    go_ret
    exact ⟨by first | rfl | (simp [errW_none, errW_some] <;> rfl) | (simp [*, errW_none, errW_some] <;> rfl), by repeat (first | (with_reducible first | exact HB.out | apply zD | apply zE | apply zF | refine below_set ?_ GE146.out) | exact HB.out)⟩
   ·replace c8 := Bool.eq_false_iff.mpr c8
    subst c8
    have H1 : (some false) = some r := by rw [if_neg (show ¬ (false = true) by decide)] at H; exact H
    clear H
    have H := H1
    clear H1
    obtain rfl := Option.some.inj H
    go_enter Try.func47, Try.ntmps47
    go_wp2_with (first | ((with_reducible refine gate_dst (N := 3) rfl ?_); refine box_event ?hg (N := 3) ?hd (cs := #[.int .i64 a1_0, .int .i64 a1_1, .int .i64 a1_2]) (t := 28) ?hr ?_; (case hd => rfl); (case hg => rfl); (case hr => first | (go_simp; done) | (go_simp; rfl)); intro gb146 hg w12 hbox hb; have n0_ := zM (zQ (by repeat (first | (with_reducible first | exact HB.out | apply zD | apply zE | apply zF) | exact HB.out)) hb); have n1_ := zM (hbox); have n2_ := zM ((by rw [hg]; exact (zR (by repeat (first | (with_reducible first | exact HB.out | apply zD | apply zE | apply zF) | exact HB.out))) : w.heap.size ≤ gb146)); have n3_ := zM ((by rw [hg]; exact (zR (by repeat (first | (with_reducible first | exact HB.out | apply zD | apply zE | apply zF) | exact HB.out))) : w.heap.size ≤ gb146)); clear HB; have HB := n0_; have BK146 := n1_; have GW146 := n2_; have GE146 := n3_; clear n0_ n1_ n2_ n3_; clear hb hbox hg) | ((with_reducible refine gate_callee (f := 43) rfl ?_); refine goesL_ (some 6) rfl rfl Try.func43 (by kernel_rfl) rfl #[.slice A0 l0.length c0] rfl (by (try simp only [List.map_toArray, List.map_cons, List.map_nil]); first | done | rfl | (simp only [List.length_drop, List.length_take]; rfl)) ?_; (with_reducible refine (impl_IsValidColumn.calls _ _ l0 true _ ?side1 ?side2 A3.out).mono ?_); (case side1 => repeat (first | exact (zO HR0.out HB.out) | (with_reducible refine zG ?_ _) | (with_reducible refine zH ?_ _) | (with_reducible refine zI ?_))); (case side2 => exact HC0.out); rintro e w' ⟨rfl, ⟨nd, rfl⟩⟩; refine ⟨_, rfl, ?_⟩; have hcz13_0 : w12.cell? ⟨gb146, 0, none⟩ = some (.int .i64 a1_0) := (blk_cell BK146.out 0).trans rfl; have hcz13_1 : w12.cell? ⟨gb146, 1, none⟩ = some (.int .i64 a1_1) := (blk_cell BK146.out 1).trans rfl; have hcz13_2 : w12.cell? ⟨gb146, 2, none⟩ = some (.int .i64 a1_2) := (blk_cell BK146.out 2).trans rfl; have hfz13_0 := blk_frozen BK146.out 0; have hfz13_1 := blk_frozen BK146.out 1; have hfz13_2 := blk_frozen BK146.out 2) | (go_at_call 58; (with_reducible refine (impl_within.calls a1_0 1 200000 true _ A5.out).mono ?_); rintro e w' ⟨rfl, ⟨nd, rfl⟩⟩) | (go_at_call 58; (with_reducible refine (impl_within.calls a1_1 0 100 false _ A7.out).mono ?_); rintro e w' ⟨rfl, ⟨nd, rfl⟩⟩))
    go_ret
    exact ⟨by first | rfl | (simp [errW_none, errW_some] <;> rfl) | (simp [*, errW_none, errW_some] <;> rfl), by repeat (first | (with_reducible first | exact HB.out | apply zD | apply zE | apply zF | refine below_set ?_ GE146.out) | exact HB.out)⟩
  ·replace c6 := Bool.eq_false_iff.mpr c6
   subst c6
   have H1 : (some false) = some r := by rw [if_neg (show ¬ (false = true) by decide)] at H; exact H
   clear H
   have H := H1
   clear H1
   obtain rfl := Option.some.inj H
   go_enter Try.func47, Try.ntmps47
   go_wp2_with (first | ((with_reducible refine gate_dst (N := 3) rfl ?_); refine box_event ?hg (N := 3) ?hd (cs := #[.int .i64 a1_0, .int .i64 a1_1, .int .i64 a1_2]) (t := 28) ?hr ?_; (case hd => rfl); (case hg => rfl); (case hr => first | (go_simp; done) | (go_simp; rfl)); intro gb146 hg w14 hbox hb; have n0_ := zM (zQ (by repeat (first | (with_reducible first | exact HB.out | apply zD | apply zE | apply zF) | exact HB.out)) hb); have n1_ := zM (hbox); have n2_ := zM ((by rw [hg]; exact (zR (by repeat (first | (with_reducible first | exact HB.out | apply zD | apply zE | apply zF) | exact HB.out))) : w.heap.size ≤ gb146)); have n3_ := zM ((by rw [hg]; exact (zR (by repeat (first | (with_reducible first | exact HB.out | apply zD | apply zE | apply zF) | exact HB.out))) : w.heap.size ≤ gb146)); clear HB; have HB := n0_; have BK146 := n1_; have GW146 := n2_; have GE146 := n3_; clear n0_ n1_ n2_ n3_; clear hb hbox hg) | ((with_reducible refine gate_callee (f := 43) rfl ?_); refine goesL_ (some 6) rfl rfl Try.func43 (by kernel_rfl) rfl #[.slice A0 l0.length c0] rfl (by (try simp only [List.map_toArray, List.map_cons, List.map_nil]); first | done | rfl | (simp only [List.length_drop, List.length_take]; rfl)) ?_; (with_reducible refine (impl_IsValidColumn.calls _ _ l0 true _ ?side1 ?side2 A3.out).mono ?_); (case side1 => repeat (first | exact (zO HR0.out HB.out) | (with_reducible refine zG ?_ _) | (with_reducible refine zH ?_ _) | (with_reducible refine zI ?_))); (case side2 => exact HC0.out); rintro e w' ⟨rfl, ⟨nd, rfl⟩⟩; refine ⟨_, rfl, ?_⟩; have hcz15_0 : w14.cell? ⟨gb146, 0, none⟩ = some (.int .i64 a1_0) := (blk_cell BK146.out 0).trans rfl; have hcz15_1 : w14.cell? ⟨gb146, 1, none⟩ = some (.int .i64 a1_1) := (blk_cell BK146.out 1).trans rfl; have hcz15_2 : w14.cell? ⟨gb146, 2, none⟩ = some (.int .i64 a1_2) := (blk_cell BK146.out 2).trans rfl; have hfz15_0 := blk_frozen BK146.out 0; have hfz15_1 := blk_frozen BK146.out 1; have hfz15_2 := blk_frozen BK146.out 2) | (go_at_call 58; (with_reducible refine (impl_within.calls a1_0 1 200000 false _ A5.out).mono ?_); rintro e w' ⟨rfl, ⟨nd, rfl⟩⟩))
   go_ret
   exact ⟨by first | rfl | (simp [errW_none, errW_some] <;> rfl) | (simp [*, errW_none, errW_some] <;> rfl), by repeat (first | (with_reducible first | exact HB.out | apply zD | apply zE | apply zF | refine below_set ?_ GE146.out) | exact HB.out)⟩
 ·replace c4 := Bool.eq_false_iff.mpr c4
  subst c4
  have H1 : (some false) = some r := by rw [if_neg (show ¬ (false = true) by decide)] at H; exact H
  clear H
  have H := H1
  clear H1
  obtain rfl := Option.some.inj H
  go_enter Try.func47, Try.ntmps47
  go_wp2_with (first | ((with_reducible refine gate_dst (N := 3) rfl ?_); refine box_event ?hg (N := 3) ?hd (cs := #[.int .i64 a1_0, .int .i64 a1_1, .int .i64 a1_2]) (t := 28) ?hr ?_; (case hd => rfl); (case hg => rfl); (case hr => first | (go_simp; done) | (go_simp; rfl)); intro gb146 hg w16 hbox hb; have n0_ := zM (zQ (by repeat (first | (with_reducible first | exact HB.out | apply zD | apply zE | apply zF) | exact HB.out)) hb); have n1_ := zM (hbox); have n2_ := zM ((by rw [hg]; exact (zR (by repeat (first | (with_reducible first | exact HB.out | apply zD | apply zE | apply zF) | exact HB.out))) : w.heap.size ≤ gb146)); have n3_ := zM ((by rw [hg]; exact (zR (by repeat (first | (with_reducible first | exact HB.out | apply zD | apply zE | apply zF) | exact HB.out))) : w.heap.size ≤ gb146)); clear HB; have HB := n0_; have BK146 := n1_; have GW146 := n2_; have GE146 := n3_; clear n0_ n1_ n2_ n3_; clear hb hbox hg) | ((with_reducible refine gate_callee (f := 43) rfl ?_); refine goesL_ (some 6) rfl rfl Try.func43 (by kernel_rfl) rfl #[.slice A0 l0.length c0] rfl (by (try simp only [List.map_toArray, List.map_cons, List.map_nil]); first | done | rfl | (simp only [List.length_drop, List.length_take]; rfl)) ?_; (with_reducible refine (impl_IsValidColumn.calls _ _ l0 false _ ?side1 ?side2 A3.out).mono ?_); (case side1 => repeat (first | exact (zO HR0.out HB.out) | (with_reducible refine zG ?_ _) | (with_reducible refine zH ?_ _) | (with_reducible refine zI ?_))); (case side2 => exact HC0.out); rintro e w' ⟨rfl, ⟨nd, rfl⟩⟩; refine ⟨_, rfl, ?_⟩))
  go_ret
  exact ⟨by first | rfl | (simp [errW_none, errW_some] <;> rfl) | (simp [*, errW_none, errW_some] <;> rfl), by repeat (first | (with_reducible first | exact HB.out | apply zD | apply zE | apply zF | refine below_set ?_ GE146.out) | exact HB.out)⟩

end Go.Proofs.Ytcgfedaoimhejaa.G

-- Written by wip/tools/gen.py out of the translation (the kit's printer, one namespace a seat). Lean checks it.
namespace Go.Proofs.Ytcgfedaoimhejaa.G
open Go.RowKit Go.Proofs.YtcgfedaoimhejaaW.PrintWords Go.Proofs.YtcgfedaoimhejaaW.PrintLast Go.Proofs.YtcgfedaoimhejaaW.PrintMore
attribute [local go_sem] max2_int min2_int max_two min_two max_three min_three max_four min_four   -- for this text's walks alone
set_option linter.unusedVariables false
set_option linter.unusedSimpArgs false

/-! ### impl_ceiling: function 49 -/
def impl_ceiling.f (a0 : Int) (a1 : Int) : Option (Int) := if a1 = 0 then (none) else (some (wrap64 (Int.tdiv (wrap64 ((wrap64 (a0 + a1)) - 1)) a1)))
set_option maxHeartbeats 8000000 in
set_option maxRecDepth 100000 in
theorem impl_ceiling.calls (a0 : Int) (a1 : Int) (r : Int) (w : World) (h : impl_ceiling.f a0 a1 = some r) :
  Calls Try.prog 49 #[.int .i64 a0, .int .i64 a1] w fun e w' => e = .returned (.int .i64 r) ∧ Drawn0 w w' := by
 have H : (if a1 = 0 then (none) else (some (wrap64 (Int.tdiv (wrap64 ((wrap64 (a0 + a1)) - 1)) a1)))) = some r := h
 clear h
 by_cases c3 : a1 = 0
 ·rw [if_pos c3] at H
  exact absurd H (by simp)
 ·rw [if_neg c3] at H
  have c3b0 : (a1 == 0) = false := beq_eq_false_iff_ne.mpr c3
  have c3b1 : (a1 != 0) = true := bne_iff_ne.mpr c3
  obtain rfl := Option.some.inj H
  go_enter Try.func49, Try.ntmps49
  go_wp2
  go_ret
  exact ⟨by first | rfl | (simp; done) | (simp [*]; done), by repeat (first | exact Drawn0.refl _ | apply Drawn0.step)⟩

end Go.Proofs.Ytcgfedaoimhejaa.G

-- Written by wip/tools/gen.py out of the translation (the kit's printer, one namespace a seat). Lean checks it.
namespace Go.Proofs.Ytcgfedaoimhejaa.G
open Go.RowKit Go.Proofs.YtcgfedaoimhejaaW.PrintWords Go.Proofs.YtcgfedaoimhejaaW.PrintLast Go.Proofs.YtcgfedaoimhejaaW.PrintMore
attribute [local go_sem] max2_int min2_int max_two min_two max_three min_three max_four min_four   -- for this text's walks alone
set_option linter.unusedVariables false
set_option linter.unusedSimpArgs false

/-! ### impl_sumOf: function 53 -/
def impl_sumOf.l0 : Nat → Int → List Int → Int → Int → Option (Int)
 | 0, _, _, _, _ => none
 | k + 1, x3, x6, x7, x8 => if x8 < x7 then (if 0 ≤ x8 then (if x8 < (x6.length : Int) then (impl_sumOf.l0 k (wrap64 (x3 + (rd x6 x8))) x6 x7 (wrap64 (x8 + 1))) else (none)) else (none)) else (some x3)
def impl_sumOf.f (k : Nat) (l0 : List Int) : Option (Int) := impl_sumOf.l0 k 0 l0 (l0.length : Int) 0
set_option maxHeartbeats 8000000 in
set_option maxRecDepth 100000 in
theorem impl_sumOf.calls (k : Nat) (A0 : Option Addr) (c0 : Nat) (l0 : List Int) (r : Int) (w : World) (hr0 : Kd.C (Kd.int .i64) w A0 l0.length l0) (hc0 : l0.length ≤ c0) (h : impl_sumOf.f k l0 = some r) :
  Calls Try.prog 53 #[.slice A0 l0.length c0] w fun e w' => e = .returned (.int .i64 r) ∧ Drawn0 w w' := by
 have HR0 := zM hr0
 have HC0 := zM hc0
 clear hr0 hc0
 have H : (impl_sumOf.l0 k 0 l0 (l0.length : Int) 0) = some r := h
 clear h
 have H' := zM H
 clear H
 go_enter Try.func53, Try.ntmps53
 go_wp2
 go_loopg [3, 8] k (fun kq v3 v8 w' => ∃ (x3_1 : Int) (x8_1 : Int), v3 = .int .i64 x3_1 ∧ v8 = .int .i64 x8_1 ∧ Aside0 (impl_sumOf.l0 kq x3_1 l0 (l0.length : Int) x8_1 = some r) ∧ Aside0 (kq ≤ k) ∧ Drawn0 w w')
 case atStart => exact ⟨(0), (0), (by first | rfl | (simp; done) | (simp [*]; done)), (by first | rfl | (simp; done) | (simp [*]; done)), H', ⟨Nat.le_refl _⟩, by repeat (first | exact Drawn0.refl _ | apply Drawn0.step)⟩
 case round =>
  clear H'
  obtain ⟨x3_1, x8_1, rfl, rfl, HA, HK1, ⟨m1, rfl⟩⟩ := hrel
  cases gk with
  | zero => exact absurd HA.out (by simp [impl_sumOf.l0])
  | succ k1 =>
   have H := HA.out
   clear HA
   simp only [impl_sumOf.l0] at H
   by_cases c2 : x8_1 < (l0.length : Int)
   ·rw [if_pos c2] at H
    have c2b0 : decide (x8_1 < (l0.length : Int)) = true := decide_eq_true c2
    clear c2
    by_cases c3 : 0 ≤ x8_1
    ·rw [if_pos c3] at H
     have c3b0 : decide (0 ≤ x8_1) = true := decide_eq_true c3
     clear c3
     by_cases c4 : x8_1 < (l0.length : Int)
     ·rw [if_pos c4] at H
      have c4b0 : decide (x8_1 < (l0.length : Int)) = true := decide_eq_true c4
      clear c4
      have H' := zM H
      clear H
      have p151 : 0 ≤ (x8_1 : Int) := of_decide_eq_true (by first | (with_reducible assumption) | assumption)
      have q151 : x8_1 < (l0.length : Int) := of_decide_eq_true (by first | (with_reducible assumption) | assumption)
      obtain ⟨ad151, e151, hx151_0⟩ := Kd.at_int HR0.out x8_1 p151 q151
      cases e151
      replace p151 := eq_true p151
      replace q151 := eq_true q151
      go_wp2
      go_roundg k1
      case measure => have := HK1.out; omega
      case rel => exact ⟨(wrap64 (x3_1 + (rd l0 x8_1))), (wrap64 (x8_1 + 1)), (by first | rfl | (simp; done) | (simp [*]; done)), (by first | rfl | (simp; done) | (simp [*]; done)), H', ⟨by have := HK1.out; omega⟩, by repeat (first | exact Drawn0.refl _ | apply Drawn0.step)⟩
     ·rw [if_neg c4] at H
      exact absurd H (by simp)
    ·rw [if_neg c3] at H
     exact absurd H (by simp)
   ·rw [if_neg c2] at H
    have c2b0 : decide (x8_1 < (l0.length : Int)) = false := decide_eq_false c2
    clear c2
    obtain rfl := Option.some.inj H
    go_wp2
    go_ret
    exact ⟨by first | rfl | (simp; done) | (simp [*]; done), by repeat (first | exact Drawn0.refl _ | apply Drawn0.step)⟩

end Go.Proofs.Ytcgfedaoimhejaa.G

-- Written by wip/tools/gen.py out of the translation (the kit's printer, one namespace a seat). Lean checks it.
namespace Go.Proofs.Ytcgfedaoimhejaa.G
open Go.RowKit Go.Proofs.YtcgfedaoimhejaaW.PrintWords Go.Proofs.YtcgfedaoimhejaaW.PrintLast Go.Proofs.YtcgfedaoimhejaaW.PrintMore
attribute [local go_sem] max2_int min2_int max_two min_two max_three min_three max_four min_four   -- for this text's walks alone
set_option linter.unusedVariables false
set_option linter.unusedSimpArgs false

/-! ### impl_forcesOf: function 48 -/
def impl_forcesOf.l0 : Nat → List Int → List Int → Int → Int → Int → Int → Int → Option (List Int)
 | 0, _, _, _, _, _, _, _ => none
 | k + 1, x0, x5, x9, x10, x153000, x153001, x153002 => if x10 < x9 then (if 0 ≤ x10 then (if x10 ≤ (x0.length : Int) then ((impl_sumOf.f k (x0.drop (x10 : Int).toNat)).bind fun t157 => ((impl_ceiling.f (wrap64 (x153001 * t157)) 100).bind fun t158 => (if x5.length < 17592186044416 then (impl_forcesOf.l0 k x0 (x5 ++ [t158]) x9 (wrap64 (x10 + 1)) x153000 x153001 x153002) else (none)))) else (none)) else (none)) else (some x5)
def impl_forcesOf.f (k : Nat) (l0 : List Int) (a1_0 : Int) (a1_1 : Int) (a1_2 : Int) : Option (List Int) := impl_forcesOf.l0 k l0 (([] : List Int)) (l0.length : Int) 0 a1_0 a1_1 a1_2
def impl_forcesOf.T5 : Bool × List (List Nat × List Nat) := (true, [([], []), ([], []), ([1], [1]), ([], []), ([], []), ([3, 4], [3, 4]), ([5], [5]), ([2, 6], [2, 6]), ([7, 6], [7]), ([8], [8]), ([0, 9, 8], [0, 9]), ([10, 10, 0, 1, 2, 3, 4, 5, 6, 7, 8, 9, 10], [0, 10])])
def impl_forcesOf.B5 : List Nat := [0, 0, 2, 0, 0, 24, 56, 126, 254, 510, 1023, 2047]
theorem impl_forcesOf.tab5 : rtab .any (opsOf Try.f48 5) = impl_forcesOf.T5 := by kernel_rfl
theorem impl_forcesOf.bits5 : waitsOk impl_forcesOf.T5.2 impl_forcesOf.B5 = true := by kernel_rfl
set_option maxHeartbeats 8000000 in
set_option maxRecDepth 100000 in
theorem impl_forcesOf.calls (k : Nat) (A0 : Option Addr) (c0 : Nat) (l0 : List Int) (a1_0 : Int) (a1_1 : Int) (a1_2 : Int) (r : List Int) (w : World) (hr0 : Kd.C (Kd.int .i64) w A0 l0.length l0) (hc0 : l0.length ≤ c0) (h : impl_forcesOf.f k l0 a1_0 a1_1 a1_2 = some r) :
  Calls Try.prog 48 #[.slice A0 l0.length c0, .agg #[.int .i64 a1_0, .int .i64 a1_1, .int .i64 a1_2]] w fun e w' => ∃ v0_ : Value, e = .returned (v0_) ∧ Kd.R (Kd.int .i64) 3 w' w.heap.size (fun _ => True) v0_ r ∧ Below w.heap.size w w' := by
 have hu28 := Try.underlying28
 have HR0 := zM hr0
 have HC0 := zM hc0
 clear hr0 hc0
 have HB := zM (Below.refl w.heap.size w)
 have H : (impl_forcesOf.l0 k l0 (([] : List Int)) (l0.length : Int) 0 a1_0 a1_1 a1_2) = some r := h
 clear h
 obtain ⟨y153, hy153⟩ : ∃ y_ : List Int, y_ = (([] : List Int)) := ⟨_, rfl⟩
 replace H : (impl_forcesOf.l0 k l0 y153 (l0.length : Int) 0 a1_0 a1_1 a1_2) = some r := by first | (rw [hy153]; with_reducible exact H) | (have H2_ := (Option.bind_some _ _).symm.trans H; rw [hy153]; with_reducible exact H2_) | (have H2_ := (Option.bind_some _ _).symm.trans H; with_reducible exact H2_) | with_reducible exact H | (rw [hy153]; exact H) | exact H
 have Ny153 := zM hy153
 clear hy153
 have H' := zM H
 clear H
 go_enter Try.func48, Try.ntmps48
 go_wp2_with (first | ((with_reducible refine gate_dst (N := 3) rfl ?_); refine box_event ?hg (N := 3) ?hd (cs := #[.int .i64 a1_0, .int .i64 a1_1, .int .i64 a1_2]) (t := 28) ?hr ?_; (case hd => rfl); (case hg => rfl); (case hr => first | (go_simp; done) | (go_simp; rfl)); intro gb152 hg w3 hbox hb; have n0_ := zM (zQ (by repeat (first | (with_reducible first | exact HB.out | apply zD | apply zE | apply zF) | exact HB.out)) hb); have n1_ := zM (hbox); have n2_ := zM ((by rw [hg]; exact (zR (by repeat (first | (with_reducible first | exact HB.out | apply zD | apply zE | apply zF) | exact HB.out))) : w.heap.size ≤ gb152)); have n3_ := zM ((by rw [hg]; exact (zR (by repeat (first | (with_reducible first | exact HB.out | apply zD | apply zE | apply zF) | exact HB.out))) : w.heap.size ≤ gb152)); clear HB; have HB := n0_; have BK152 := n1_; have GW152 := n2_; have GE152 := n3_; clear n0_ n1_ n2_ n3_; clear hb hbox hg) | ((with_reducible refine gate_dst (N := 7) rfl ?_); refine Kd.R_lit (Kd.int .i64) _ 3 ?hg (N := 7) ?hd (xs := ([] : List Int)) (inner := []) (ok := fun _ => True) (okp := fun _ => True) ?hr ?hp (fun _ hk => hk) trivial (Below.refl _ _) (Nat.le_refl _) (by simp) ?_; (case hd => rfl); (case hg => rfl); (case hr => first | (go_simp; done) | (go_simp; rfl)); (case hp => exact (Reps.none _ _)); intro v154 w4 ho5 hb hg_ hnew_; clear hg_ hnew_; (first | rw [← Ny153.out] at ho5 | (simp only [Int.reduceToNat] at ho5; rw [← Ny153.out] at ho5)); have n0_ := zM (Kd.R_lower ho5 (zR (by repeat (first | (with_reducible first | exact HB.out | apply zD | apply zE | apply zF | refine below_set ?_ GE152.out) | exact HB.out)))); have n1_ := zM (blk_below (g := gb152) (o := .cells #[.int .i64 a1_0, .int .i64 a1_1, .int .i64 a1_2] 28 (0, 0)) (by (with_reducible repeat (first | refine zJ ?_ _ | refine zK ?_ | refine zL ?_ _)); exact BK152.out) hb); have n2_ := zM (zQ (by repeat (first | (with_reducible first | exact HB.out | apply zD | apply zE | apply zF | refine below_set ?_ GE152.out) | exact HB.out)) hb); clear BK152; clear HB; have HO155 := n0_; have BK152 := n1_; have HB := n2_; clear n0_ n1_ n2_; clear hb ho5))
 go_loopg [5, 10] k (fun kq v5 v10 w' => ∃ (x5_1 : List Int) (x10_1 : Int), v10 = .int .i64 x10_1 ∧ Aside0 (impl_forcesOf.l0 kq l0 x5_1 (l0.length : Int) x10_1 a1_0 a1_1 a1_2 = some r) ∧ Aside0 (kq ≤ k) ∧ Aside0 (Kd.R (Kd.int .i64) 3 w' w.heap.size (fun _ => True) v5 x5_1) ∧ Aside0 (w'.heap[gb152]? = some (.cells #[.int .i64 a1_0, .int .i64 a1_1, .int .i64 a1_2] 28 (0, 0))) ∧ Aside0 (Below w.heap.size w w'))
 case atStart => exact ⟨(y153), (0), (by first | rfl | (simp; done) | (simp [*]; done)), H', ⟨Nat.le_refl _⟩, ⟨by (with_reducible repeat (first | apply zA | apply zB | apply zC)); exact HO155.out⟩, ⟨by (with_reducible repeat (first | refine zJ ?_ _ | refine zK ?_ | refine zL ?_ _)); exact BK152.out⟩, ⟨by repeat (first | (with_reducible first | exact HB.out | apply zD | apply zE | apply zF | refine below_set ?_ GE152.out) | exact HB.out)⟩⟩
 case round =>
  clear H'
  try clear p2
  try clear c4
  obtain ⟨x5_1, x10_1, rfl, HA, HK1, HO_5, BK152, HB⟩ := hrel
  cases gk with
  | zero => exact absurd HA.out (by simp [impl_forcesOf.l0])
  | succ k1 =>
   have H := HA.out
   clear HA
   simp only [impl_forcesOf.l0] at H
   by_cases c6 : x10_1 < (l0.length : Int)
   ·rw [if_pos c6] at H
    have c6b0 : decide (x10_1 < (l0.length : Int)) = true := decide_eq_true c6
    clear c6
    by_cases c7 : 0 ≤ x10_1
    ·rw [if_pos c7] at H
     have c7b0 := eq_true c7
     have c7b1 : decide (0 ≤ x10_1) = true := decide_eq_true c7
     clear c7
     by_cases c8 : x10_1 ≤ (l0.length : Int)
     ·rw [if_pos c8] at H
      have c8b0 := eq_true c8
      have c8b1 : decide (x10_1 ≤ (l0.length : Int)) = true := decide_eq_true c8
      clear c8
      replace H := Option.bind_eq_some_iff.mp H
      obtain ⟨t157, A90, H⟩ := H
      replace H : ((impl_ceiling.f (wrap64 (a1_1 * t157)) 100).bind fun t158 => (if x5_1.length < 17592186044416 then (impl_forcesOf.l0 k1 l0 (x5_1 ++ [t158]) (l0.length : Int) (wrap64 (x10_1 + 1)) a1_0 a1_1 a1_2) else (none))) = some r := H
      have A9 := zM A90
      clear A90
      replace H := Option.bind_eq_some_iff.mp H
      obtain ⟨t158, A100, H⟩ := H
      replace H : (if x5_1.length < 17592186044416 then (impl_forcesOf.l0 k1 l0 (x5_1 ++ [t158]) (l0.length : Int) (wrap64 (x10_1 + 1)) a1_0 a1_1 a1_2) else (none)) = some r := H
      have A10 := zM A100
      clear A100
      by_cases c11 : x5_1.length < 17592186044416
      ·rw [if_pos c11] at H
       have LMc11 := zM c11
       clear c11
       obtain ⟨y159, hy159⟩ : ∃ y_ : List Int, y_ = (x5_1 ++ [t158]) := ⟨_, rfl⟩
       replace H : (impl_forcesOf.l0 k1 l0 y159 (l0.length : Int) (wrap64 (x10_1 + 1)) a1_0 a1_1 a1_2) = some r := by first | (rw [hy159]; with_reducible exact H) | (have H2_ := (Option.bind_some _ _).symm.trans H; rw [hy159]; with_reducible exact H2_) | (have H2_ := (Option.bind_some _ _).symm.trans H; with_reducible exact H2_) | with_reducible exact H | (rw [hy159]; exact H) | exact H
       have Ny159 := zM hy159
       clear hy159
       have H' := zM H
       clear H
       try go_wp2
       have n0_ := zM (zC HO_5.out)
       have n1_ := zM (zK BK152.out)
       have n2_ := zM (zF HB.out)
       clear HO_5
       clear BK152
       clear HB
       have HO_5 := n0_
       have BK152 := n1_
       have HB := n2_
       clear n0_ n1_ n2_
       obtain ⟨i013, hi013, _, hsz13, _⟩ := info_parts info3
       obtain ⟨A13, hcut13, hA13, hC13⟩ := print_drop_of (P := Try.prog) (Value.int .i64) 0 22 3 .i64 Try.underlying22 hi013 hsz13 A0 c0 l0 x10_1 (of_decide_eq_true (by first | (with_reducible assumption) | assumption)) (of_decide_eq_true (by first | (with_reducible assumption) | assumption)) HC0.out
       have HR156 := zM (Kd.C_of_reads (h1 := fun _ => rfl) (hA13 _ (Kd.reads_of_C HR0.out)))
       have HC156 := zM hC13
       clear hA13 hC13 hi013 hsz13
       refine start_ (n := 12) (S := fun w' => w'.cell? ⟨gb152, 0, none⟩ = some (.int .i64 a1_0) ∧ w'.cell? ⟨gb152, 1, none⟩ = some (.int .i64 a1_1) ∧ w'.cell? ⟨gb152, 2, none⟩ = some (.int .i64 a1_2)) (ds := []) #[false, false, false, false, false, false, false, false, false, false, false, false] (by kernel_rfl) rfl rfl ⟨(blk_cell BK152.out 0).trans rfl, (blk_cell BK152.out 1).trans rfl, (blk_cell BK152.out 2).trans rfl⟩ (fun hHeld => ?_); refine with_tabW impl_forcesOf.tab5 impl_forcesOf.bits5 (fun HT_ HW_ => ?_)
       generalize wr.drew = w12 at HO_5 BK152 HB HR156 hHeld ⊢
       refine pure_ (i := 0) (N := some 13) (v := ?_) (a' := ?_) #[true, false, false, false, false, false, false, false, false, false, false, false] rfl rfl (any_of HT_.out (by kernel_rfl)) (fun _ _ _ h => h) (Or.inl ⟨by rfl, ?_⟩) ?_ ?_
       rotate_left
       ·intro w'
        go_simp
        with_reducible rfl
       rotate_left
       ·simp only [Act.put, List.setIfInBounds_toArray, List.set_cons_zero, List.set_cons_succ, i64_w, i32_w]
        rfl
       refine pure_ (i := 1) (N := some 14) (v := ?_) (a' := ?_) #[true, true, false, false, false, false, false, false, false, false, false, false] rfl rfl (any_of HT_.out (by kernel_rfl)) (fun _ _ _ h => h) (Or.inl ⟨by rfl, ?_⟩) ?_ ?_
       rotate_left
       ·intro w'
        go_simp
        with_reducible rfl
       rotate_left
       ·simp only [Act.put, List.setIfInBounds_toArray, List.set_cons_zero, List.set_cons_succ, i64_w, i32_w]
        rfl
       refine pure_ (i := 3) (N := some 16) (v := ?_) (a' := ?_) #[true, true, false, true, false, false, false, false, false, false, false, false] rfl rfl (any_of HT_.out (by kernel_rfl)) (fun _ _ _ h => h) (Or.inl ⟨by rfl, ?_⟩) ?_ ?_
       rotate_left
       ·intro w'
        go_simp
        with_reducible rfl
       rotate_left
       ·simp only [Act.put, List.setIfInBounds_toArray, List.set_cons_zero, List.set_cons_succ, i64_w, i32_w]
        rfl
       refine pure_ (i := 4) (N := some 17) (v := ?_) (a' := ?_) #[true, true, false, true, true, false, false, false, false, false, false, false] rfl rfl (any_of HT_.out (by kernel_rfl)) (fun _ _ _ h => h) (Or.inl ⟨by rfl, ?_⟩) ?_ ?_
       rotate_left
       ·intro w'
        go_simp
        with_reducible rfl
       rotate_left
       ·simp only [Act.put, List.setIfInBounds_toArray, List.set_cons_zero, List.set_cons_succ, i64_w, i32_w]
        rfl
       refine pure_ (i := 5) (N := some 18) (v := ?_) (a' := ?_) #[true, true, false, true, true, true, false, false, false, false, false, false] rfl rfl (any_of HT_.out (by kernel_rfl)) (fun _ _ _ h => h) (Or.inl ⟨by rfl, ?_⟩) ?_ ?_
       rotate_left
       ·intro w'
        go_simp
        with_reducible rfl
       rotate_left
       ·simp only [Act.put, List.setIfInBounds_toArray, List.set_cons_zero, List.set_cons_succ, i64_w, i32_w]
        rfl
       refine take_ (i := 2) (N := some 15) (v := ?_) (a' := ?_) #[true, true, true, true, true, true, false, false, false, false, false, false] rfl rfl (take_ofW HT_.out HW_.out (by kernel_rfl)) (fun _ _ _ h => h) (Or.inl ⟨by rfl, ?_⟩) hHeld ?_ ?_
       rotate_left
       ·rintro w' ⟨s0, s1, s2⟩
        go_simp
        with_reducible rfl
       rotate_left
       ·simp only [Act.put, List.setIfInBounds_toArray, List.set_cons_zero, List.set_cons_succ, i64_w, i32_w]
        rfl
       refine one_ (i := 6) (N := some 19) #[true, true, true, true, true, true, true, false, false, false, false, false] rfl rfl (one_of HT_.out (by kernel_rfl)) (by decide) (fun K hK => ?_)
       refine goes_ Try.func53 (by kernel_rfl) rfl #[.slice A13 (l0.drop (x10_1 : Int).toNat).length (c0 - x10_1.toNat)] (by rfl) rfl rfl (by (try simp only [List.map_toArray, List.map_cons, List.map_nil]); first | done | (rw [show (l0.drop (x10_1 : Int).toNat).length = (l0.length - x10_1.toNat) from List.length_drop] <;> rfl) | rfl | (simp only [List.length_drop, List.length_take]; rfl)) ?_
       with_reducible refine (impl_sumOf.calls k1 _ _ (l0.drop (x10_1 : Int).toNat) t157 _ ?side1 ?side2 A9.out).mono ?_
       (case side1 => repeat (first | exact (zO HR156.out HB.out) | (with_reducible refine zG ?_ _) | (with_reducible refine zH ?_ _) | (with_reducible refine zI ?_)))
       (case side2 => exact HC156.out)
       rintro e w' ⟨rfl, ⟨nd, rfl⟩⟩
       refine ⟨_, rfl, ?_⟩
       refine hK.out _ _ ⟨(blk_cell BK152.out 0).trans rfl, (blk_cell BK152.out 1).trans rfl, (blk_cell BK152.out 2).trans rfl⟩ (fun hHeld => ?_)
       clear hK K
       refine norm_ (a' := ?_) ?_ ?_
       rotate_left
       ·show Act.put _ (some 19) _ = _
        simp only [Act.put, List.setIfInBounds_toArray, List.set_cons_zero, List.set_cons_succ, i64_w, i32_w]
        rfl
       refine pure_ (i := 7) (N := some 20) (v := ?_) (a' := ?_) #[true, true, true, true, true, true, true, true, false, false, false, false] rfl rfl (any_of HT_.out (by kernel_rfl)) (fun _ _ _ h => h) (Or.inl ⟨by rfl, ?_⟩) ?_ ?_
       rotate_left
       ·intro w'
        go_simp
        with_reducible rfl
       rotate_left
       ·simp only [Act.put, List.setIfInBounds_toArray, List.set_cons_zero, List.set_cons_succ, i64_w, i32_w]
        rfl
       refine one_ (i := 8) (N := some 21) #[true, true, true, true, true, true, true, true, true, false, false, false] rfl rfl (one_of HT_.out (by kernel_rfl)) (by decide) (fun K hK => ?_)
       refine goes_ Try.func49 (by kernel_rfl) rfl #[.int .i64 (wrap64 (a1_1 * t157)), .int .i64 100] (by rfl) rfl rfl (by (try simp only [List.map_toArray, List.map_cons, List.map_nil]); first | done | rfl | (simp only [List.length_drop, List.length_take]; rfl)) ?_
       with_reducible refine (impl_ceiling.calls (wrap64 (a1_1 * t157)) 100 t158 _ A10.out).mono ?_
       rintro e w' ⟨rfl, ⟨nd, rfl⟩⟩
       refine ⟨_, rfl, ?_⟩
       refine hK.out _ _ ⟨(blk_cell BK152.out 0).trans rfl, (blk_cell BK152.out 1).trans rfl, (blk_cell BK152.out 2).trans rfl⟩ (fun hHeld => ?_)
       clear hK K
       refine norm_ (a' := ?_) ?_ ?_
       rotate_left
       ·show Act.put _ (some 21) _ = _
        simp only [Act.put, List.setIfInBounds_toArray, List.set_cons_zero, List.set_cons_succ, i64_w, i32_w]
        rfl
       refine one_ (i := 9) (N := some 22) #[true, true, true, true, true, true, true, true, true, true, false, false] rfl rfl (one_of HT_.out (by kernel_rfl)) (by decide) (fun K hK => ?_)
       refine value_ (w1 := ?_) (v := ?_) (by rfl) rfl ?_ ?_
       rotate_left 2
       ·go_simp
        constructor
        ·rfl
        ·rfl
       refine hK.out _ _ ⟨(blk_cell (zL BK152.out _) 0).trans rfl, (blk_cell (zL BK152.out _) 1).trans rfl, (blk_cell (zL BK152.out _) 2).trans rfl⟩ (fun hHeld => ?_)
       clear hK K
       refine norm_ (a' := ?_) ?_ ?_
       rotate_left
       ·show Act.put _ (some 22) _ = _
        simp only [Act.put, List.setIfInBounds_toArray, List.set_cons_zero, List.set_cons_succ, i64_w, i32_w]
        rfl
       refine one_ (i := 10) (N := some 23) #[true, true, true, true, true, true, true, true, true, true, true, false] rfl rfl (one_of HT_.out (by kernel_rfl)) (by decide) (fun K hK => ?_)
       refine Kd.R_append_step (Kd.int .i64) (w0 := w) w.heap.size (by rfl) (.tmp 13) (.tmp 22) 22 3 (.int .i64 0) 8 rfl Try.underlying22 info3 rfl (by decide) (by omega) u5 x5_1 t158 [.int .i64 t158] (fun _ => True) (fun _ => False) rfl rfl ?aP (fun _ hk => hk.elim) ?aF ?aO ?aB ?aS ?aL ?_
       (case aP => exact rfl)
       (case aB => exact (by repeat (first | (with_reducible first | exact HB.out | apply zD | apply zE | apply zF | refine below_set ?_ GE152.out) | exact HB.out)))
       (case aF => exact (fun _ _ => trivial))
       (case aO => exact (by (with_reducible repeat (first | apply zA | apply zB | apply zC)); exact HO_5.out))
       (case aS => exact (zR (by repeat (first | (with_reducible first | exact HB.out | apply zD | apply zE | apply zF | refine below_set ?_ GE152.out) | exact HB.out))))
       (case aL => have := LMc11.out; omega)
       intro v160 w14 ho hb hg hat
       rw [← Ny159.out] at ho
       have n0_ := zM (blk_grown (g := gb152) (o := .cells #[.int .i64 a1_0, .int .i64 a1_1, .int .i64 a1_2] 28 (0, 0)) (by (with_reducible repeat (first | refine zJ ?_ _ | refine zK ?_ | refine zL ?_ _)); exact BK152.out) hg (Kd.R_ne HO_5.out BK152.out (by decide)))
       have n1_ := zM (hb)
       have n2_ := zM (ho)
       clear BK152
       clear HB
       clear HO_5
       have BK152 := n0_
       have HB := n1_
       have HO161 := n2_
       clear n0_ n1_ n2_
       clear ho hb hg hat
       refine hK.out _ _ ⟨(blk_cell BK152.out 0).trans rfl, (blk_cell BK152.out 1).trans rfl, (blk_cell BK152.out 2).trans rfl⟩ (fun hHeld => ?_)
       clear hK K
       refine norm_ (a' := ?_) ?_ ?_
       rotate_left
       ·show Act.put _ (some 23) _ = _
        simp only [Act.put, List.setIfInBounds_toArray, List.set_cons_zero, List.set_cons_succ, i64_w, i32_w]
        rfl
       refine pure_ (i := 11) (N := some 5) (v := ?_) (a' := ?_) #[true, true, true, true, true, true, true, true, true, true, true, true] rfl rfl (any_of HT_.out (by kernel_rfl)) (fun _ _ _ h => h) (Or.inl ⟨by rfl, ?_⟩) ?_ ?_
       rotate_left
       ·intro w'
        go_simp
        with_reducible rfl
       rotate_left
       ·simp only [Act.put, List.setIfInBounds_toArray, List.set_cons_zero, List.set_cons_succ, i64_w, i32_w]
        rfl
       refine done_ (done_of HT_.out (by kernel_rfl)) ?_
       try go_wp2
       go_roundg k1
       case measure => have := HK1.out; omega
       case rel => exact ⟨(y159), (wrap64 (x10_1 + 1)), (by first | rfl | (simp; done) | (simp [*]; done)), H', ⟨by have := HK1.out; omega⟩, ⟨by (with_reducible repeat (first | apply zA | apply zB | apply zC)); exact HO161.out⟩, ⟨by (with_reducible repeat (first | refine zJ ?_ _ | refine zK ?_ | refine zL ?_ _)); exact BK152.out⟩, ⟨by repeat (first | (with_reducible first | exact HB.out | apply zD | apply zE | apply zF | refine below_set ?_ GE152.out) | exact HB.out)⟩⟩
      ·rw [if_neg c11] at H
       exact absurd H (by simp)
     ·rw [if_neg c8] at H
      exact absurd H (by simp)
    ·rw [if_neg c7] at H
     exact absurd H (by simp)
   ·rw [if_neg c6] at H
    have c6b0 : decide (x10_1 < (l0.length : Int)) = false := decide_eq_false c6
    clear c6
    obtain rfl := Option.some.inj H
    go_wp2
    go_ret
    exact ⟨_, by first | rfl | (simp [errW_none, errW_some] <;> rfl) | (simp [*, errW_none, errW_some] <;> rfl), by (with_reducible repeat (first | apply zA | apply zB | apply zC)); exact HO_5.out, by repeat (first | (with_reducible first | exact HB.out | apply zD | apply zE | apply zF | refine below_set ?_ GE152.out) | exact HB.out)⟩

end Go.Proofs.Ytcgfedaoimhejaa.G

-- Written by wip/tools/gen.py out of the translation (the kit's printer, one namespace a seat). Lean checks it.
namespace Go.Proofs.Ytcgfedaoimhejaa.G
open Go.RowKit Go.Proofs.YtcgfedaoimhejaaW.PrintWords Go.Proofs.YtcgfedaoimhejaaW.PrintLast Go.Proofs.YtcgfedaoimhejaaW.PrintMore
attribute [local go_sem] max2_int min2_int max_two min_two max_three min_three max_four min_four   -- for this text's walks alone
set_option linter.unusedVariables false
set_option linter.unusedSimpArgs false

/-! ### impl_LashForces: function 15 -/
def impl_LashForces.f (k : Nat) (l0 : List Int) (a1_0 : Int) (a1_1 : Int) (a1_2 : Int) : Option (List Int × Bool) := (impl_isLashed.f l0 a1_0 a1_1 a1_2).bind fun t163 => (if t163 = true then ((impl_forcesOf.f k l0 a1_0 a1_1 a1_2).bind fun t164 => (some (t164, true))) else (some (([] : List Int), false)))
set_option maxHeartbeats 8000000 in
set_option maxRecDepth 100000 in
theorem impl_LashForces.calls (k : Nat) (A0 : Option Addr) (c0 : Nat) (l0 : List Int) (a1_0 : Int) (a1_1 : Int) (a1_2 : Int) (r1 : List Int) (r2 : Bool) (w : World) (hr0 : Kd.C (Kd.int .i64) w A0 l0.length l0) (hc0 : l0.length ≤ c0) (h : impl_LashForces.f k l0 a1_0 a1_1 a1_2 = some (r1, r2)) :
  Calls Try.prog 15 #[.slice A0 l0.length c0, .agg #[.int .i64 a1_0, .int .i64 a1_1, .int .i64 a1_2]] w fun e w' => ∃ v0_ : Value, e = .returned (.tuple #[v0_, .bool r2]) ∧ Kd.R (Kd.int .i64) 3 w' w.heap.size (fun _ => True) v0_ r1 ∧ Below w.heap.size w w' := by
 have hu28 := Try.underlying28
 have HR0 := zM hr0
 have HC0 := zM hc0
 clear hr0 hc0
 have HB := zM (Below.refl w.heap.size w)
 have H : ((impl_isLashed.f l0 a1_0 a1_1 a1_2).bind fun t163 => (if t163 = true then ((impl_forcesOf.f k l0 a1_0 a1_1 a1_2).bind fun t164 => (some (t164, true))) else (some (([] : List Int), false)))) = some (r1, r2) := h
 clear h
 replace H := Option.bind_eq_some_iff.mp H
 obtain ⟨t163, A30, H⟩ := H
 replace H : (if t163 = true then ((impl_forcesOf.f k l0 a1_0 a1_1 a1_2).bind fun t164 => (some (t164, true))) else (some (([] : List Int), false))) = some (r1, r2) := H
 have A3 := zM A30
 clear A30
 by_cases c4 : t163 = true
 ·subst c4
  have H1 : ((impl_forcesOf.f k l0 a1_0 a1_1 a1_2).bind fun t164 => (some (t164, true))) = some (r1, r2) := by rw [if_pos rfl] at H; exact H
  clear H
  have H := H1
  clear H1
  replace H := Option.bind_eq_some_iff.mp H
  obtain ⟨t164, A50, H⟩ := H
  replace H : (some (t164, true)) = some (r1, r2) := H
  have A5 := zM A50
  clear A50
  simp only [Option.some.injEq, Prod.mk.injEq] at H
  obtain ⟨rfl, rfl⟩ := H
  go_enter Try.func15, Try.ntmps15
  go_wp2_with (first | ((with_reducible refine gate_dst (N := 3) rfl ?_); refine box_event ?hg (N := 3) ?hd (cs := #[.int .i64 a1_0, .int .i64 a1_1, .int .i64 a1_2]) (t := 28) ?hr ?_; (case hd => rfl); (case hg => rfl); (case hr => first | (go_simp; done) | (go_simp; rfl)); intro gb162 hg w6 hbox hb; have n0_ := zM (zQ (by repeat (first | (with_reducible first | exact HB.out | apply zD | apply zE | apply zF) | exact HB.out)) hb); have n1_ := zM (hbox); have n2_ := zM ((by rw [hg]; exact (zR (by repeat (first | (with_reducible first | exact HB.out | apply zD | apply zE | apply zF) | exact HB.out))) : w.heap.size ≤ gb162)); have n3_ := zM ((by rw [hg]; exact (zR (by repeat (first | (with_reducible first | exact HB.out | apply zD | apply zE | apply zF) | exact HB.out))) : w.heap.size ≤ gb162)); clear HB; have HB := n0_; have BK162 := n1_; have GW162 := n2_; have GE162 := n3_; clear n0_ n1_ n2_ n3_; clear hb hbox hg; have hcz7_0 : w6.cell? ⟨gb162, 0, none⟩ = some (.int .i64 a1_0) := (blk_cell BK162.out 0).trans rfl; have hcz7_1 : w6.cell? ⟨gb162, 1, none⟩ = some (.int .i64 a1_1) := (blk_cell BK162.out 1).trans rfl; have hcz7_2 : w6.cell? ⟨gb162, 2, none⟩ = some (.int .i64 a1_2) := (blk_cell BK162.out 2).trans rfl; have hfz7_0 := blk_frozen BK162.out 0; have hfz7_1 := blk_frozen BK162.out 1; have hfz7_2 := blk_frozen BK162.out 2) | ((with_reducible refine gate_callee (f := 47) rfl ?_); refine goesL_ (some 8) rfl rfl Try.func47 (by kernel_rfl) rfl #[.slice A0 l0.length c0, .agg #[.int .i64 a1_0, .int .i64 a1_1, .int .i64 a1_2]] rfl (by (try simp only [List.map_toArray, List.map_cons, List.map_nil]); first | done | rfl | (simp only [List.length_drop, List.length_take]; rfl)) ?_; (with_reducible refine (impl_isLashed.calls _ _ l0 a1_0 a1_1 a1_2 true _ ?side1 ?side2 A3.out).mono ?_); (case side1 => repeat (first | exact (zO HR0.out HB.out) | (with_reducible refine zG ?_ _) | (with_reducible refine zH ?_ _) | (with_reducible refine zI ?_))); (case side2 => exact HC0.out); rintro e w8 ⟨rfl, hb⟩; refine ⟨_, rfl, ?_⟩; have n0_ := zM (blk_below (g := gb162) (o := .cells #[.int .i64 a1_0, .int .i64 a1_1, .int .i64 a1_2] 28 (0, 0)) (by (with_reducible repeat (first | refine zJ ?_ _ | refine zK ?_ | refine zL ?_ _)); exact BK162.out) hb); have n1_ := zM (zQ (by repeat (first | (with_reducible first | exact HB.out | apply zD | apply zE | apply zF | refine below_set ?_ GE162.out) | exact HB.out)) hb); clear BK162; clear HB; have BK162 := n0_; have HB := n1_; clear n0_ n1_; (try clear hb); (try clear hb2); (try clear hk); (try clear hi); have hcz9_0 : w8.cell? ⟨gb162, 0, none⟩ = some (.int .i64 a1_0) := (blk_cell BK162.out 0).trans rfl; have hcz9_1 : w8.cell? ⟨gb162, 1, none⟩ = some (.int .i64 a1_1) := (blk_cell BK162.out 1).trans rfl; have hcz9_2 : w8.cell? ⟨gb162, 2, none⟩ = some (.int .i64 a1_2) := (blk_cell BK162.out 2).trans rfl; have hfz9_0 := blk_frozen BK162.out 0; have hfz9_1 := blk_frozen BK162.out 1; have hfz9_2 := blk_frozen BK162.out 2) | ((with_reducible refine gate_callee (f := 48) rfl ?_); refine goesL_ (some 12) rfl rfl Try.func48 (by kernel_rfl) rfl #[.slice A0 l0.length c0, .agg #[.int .i64 a1_0, .int .i64 a1_1, .int .i64 a1_2]] rfl (by (try simp only [List.map_toArray, List.map_cons, List.map_nil]); first | done | rfl | (simp only [List.length_drop, List.length_take]; rfl)) ?_; (with_reducible refine (impl_forcesOf.calls k _ _ l0 a1_0 a1_1 a1_2 t164 _ ?side1 ?side2 A5.out).mono ?_); (case side1 => repeat (first | exact (zO HR0.out HB.out) | (with_reducible refine zG ?_ _) | (with_reducible refine zH ?_ _) | (with_reducible refine zI ?_))); (case side2 => exact HC0.out); rintro e w10 ⟨v165, rfl, ho0, hb⟩; refine ⟨_, rfl, ?_⟩; have n0_ := zM (Kd.R_lower ho0 (zR (by repeat (first | (with_reducible first | exact HB.out | apply zD | apply zE | apply zF | refine below_set ?_ GE162.out) | exact HB.out)))); have n1_ := zM (blk_below (g := gb162) (o := .cells #[.int .i64 a1_0, .int .i64 a1_1, .int .i64 a1_2] 28 (0, 0)) (by (with_reducible repeat (first | refine zJ ?_ _ | refine zK ?_ | refine zL ?_ _)); exact BK162.out) hb); have n2_ := zM (zQ (by repeat (first | (with_reducible first | exact HB.out | apply zD | apply zE | apply zF | refine below_set ?_ GE162.out) | exact HB.out)) hb); clear BK162; clear HB; have HO166 := n0_; have BK162 := n1_; have HB := n2_; clear n0_ n1_ n2_; (try clear hb); (try clear hb2); (try clear hk); (try clear hi); (try clear ho0)))
  go_ret2
  exact ⟨_, by first | rfl | (simp [errW_none, errW_some] <;> rfl) | (simp [*, errW_none, errW_some] <;> rfl), by (with_reducible repeat (first | apply zA | apply zB | apply zC)); exact HO166.out, by repeat (first | (with_reducible first | exact HB.out | apply zD | apply zE | apply zF | refine below_set ?_ GE162.out) | exact HB.out)⟩
 ·replace c4 := Bool.eq_false_iff.mpr c4
  subst c4
  have H1 : (some (([] : List Int), false)) = some (r1, r2) := by rw [if_neg (show ¬ (false = true) by decide)] at H; exact H
  clear H
  have H := H1
  clear H1
  simp only [Option.some.injEq, Prod.mk.injEq] at H
  obtain ⟨rfl, rfl⟩ := H
  go_enter Try.func15, Try.ntmps15
  go_wp2_with (first | ((with_reducible refine gate_dst (N := 3) rfl ?_); refine box_event ?hg (N := 3) ?hd (cs := #[.int .i64 a1_0, .int .i64 a1_1, .int .i64 a1_2]) (t := 28) ?hr ?_; (case hd => rfl); (case hg => rfl); (case hr => first | (go_simp; done) | (go_simp; rfl)); intro gb162 hg w11 hbox hb; have n0_ := zM (zQ (by repeat (first | (with_reducible first | exact HB.out | apply zD | apply zE | apply zF) | exact HB.out)) hb); have n1_ := zM (hbox); have n2_ := zM ((by rw [hg]; exact (zR (by repeat (first | (with_reducible first | exact HB.out | apply zD | apply zE | apply zF) | exact HB.out))) : w.heap.size ≤ gb162)); have n3_ := zM ((by rw [hg]; exact (zR (by repeat (first | (with_reducible first | exact HB.out | apply zD | apply zE | apply zF) | exact HB.out))) : w.heap.size ≤ gb162)); clear HB; have HB := n0_; have BK162 := n1_; have GW162 := n2_; have GE162 := n3_; clear n0_ n1_ n2_ n3_; clear hb hbox hg; have hcz12_0 : w11.cell? ⟨gb162, 0, none⟩ = some (.int .i64 a1_0) := (blk_cell BK162.out 0).trans rfl; have hcz12_1 : w11.cell? ⟨gb162, 1, none⟩ = some (.int .i64 a1_1) := (blk_cell BK162.out 1).trans rfl; have hcz12_2 : w11.cell? ⟨gb162, 2, none⟩ = some (.int .i64 a1_2) := (blk_cell BK162.out 2).trans rfl; have hfz12_0 := blk_frozen BK162.out 0; have hfz12_1 := blk_frozen BK162.out 1; have hfz12_2 := blk_frozen BK162.out 2) | ((with_reducible refine gate_callee (f := 47) rfl ?_); refine goesL_ (some 8) rfl rfl Try.func47 (by kernel_rfl) rfl #[.slice A0 l0.length c0, .agg #[.int .i64 a1_0, .int .i64 a1_1, .int .i64 a1_2]] rfl (by (try simp only [List.map_toArray, List.map_cons, List.map_nil]); first | done | rfl | (simp only [List.length_drop, List.length_take]; rfl)) ?_; (with_reducible refine (impl_isLashed.calls _ _ l0 a1_0 a1_1 a1_2 false _ ?side1 ?side2 A3.out).mono ?_); (case side1 => repeat (first | exact (zO HR0.out HB.out) | (with_reducible refine zG ?_ _) | (with_reducible refine zH ?_ _) | (with_reducible refine zI ?_))); (case side2 => exact HC0.out); rintro e w13 ⟨rfl, hb⟩; refine ⟨_, rfl, ?_⟩; have n0_ := zM (blk_below (g := gb162) (o := .cells #[.int .i64 a1_0, .int .i64 a1_1, .int .i64 a1_2] 28 (0, 0)) (by (with_reducible repeat (first | refine zJ ?_ _ | refine zK ?_ | refine zL ?_ _)); exact BK162.out) hb); have n1_ := zM (zQ (by repeat (first | (with_reducible first | exact HB.out | apply zD | apply zE | apply zF | refine below_set ?_ GE162.out) | exact HB.out)) hb); clear BK162; clear HB; have BK162 := n0_; have HB := n1_; clear n0_ n1_; (try clear hb); (try clear hb2); (try clear hk); (try clear hi)))
  go_ret2
  exact ⟨_, by first | rfl | (simp [errW_none, errW_some] <;> rfl) | (simp [*, errW_none, errW_some] <;> rfl), by first | exact Kd.R_nil _ _ _ _ _ | exact Kd.N_nil _ _ _ _ _ | exact Kd.V_nil _ _ _ _ _ | exact Kd.Q_nil _ _ _ _ _ | exact Kd.S_nil _ _ _ _ _, by repeat (first | (with_reducible first | exact HB.out | apply zD | apply zE | apply zF | refine below_set ?_ GE162.out) | exact HB.out)⟩

end Go.Proofs.Ytcgfedaoimhejaa.G

-- Written by wip/tools/gen.py out of the translation (the kit's printer, one namespace a seat). Lean checks it.
namespace Go.Proofs.Ytcgfedaoimhejaa.G
open Go.RowKit Go.Proofs.YtcgfedaoimhejaaW.PrintWords Go.Proofs.YtcgfedaoimhejaaW.PrintLast Go.Proofs.YtcgfedaoimhejaaW.PrintMore
attribute [local go_sem] max2_int min2_int max_two min_two max_three min_three max_four min_four   -- for this text's walks alone
set_option linter.unusedVariables false
set_option linter.unusedSimpArgs false

/-! ### spec_LashForces: function 12 -/
def spec_LashForces.f (k : Nat) (l0 : List Int) (a1_0 : Int) (a1_1 : Int) (a1_2 : Int) : Option (List Int × Bool) := (spec_l12Good.f k l0).bind fun t126 => (if t126 = true then ((spec_l12Rules.f a1_0 a1_1 a1_2).bind fun t127 => (if t127 = true then ((spec_l12Forces.f k l0 a1_1).bind fun t128 => (some (t128, true))) else (some ((([] : List Int)), false)))) else (some ((([] : List Int)), false)))
set_option maxHeartbeats 8000000 in
set_option maxRecDepth 100000 in
theorem spec_LashForces.calls (k : Nat) (A0 : Option Addr) (c0 : Nat) (l0 : List Int) (a1_0 : Int) (a1_1 : Int) (a1_2 : Int) (r1 : List Int) (r2 : Bool) (w : World) (hr0 : Kd.C (Kd.int .i64) w A0 l0.length l0) (hc0 : l0.length ≤ c0) (h : spec_LashForces.f k l0 a1_0 a1_1 a1_2 = some (r1, r2)) :
  Calls Try.prog 12 #[.slice A0 l0.length c0, .agg #[.int .i64 a1_0, .int .i64 a1_1, .int .i64 a1_2]] w fun e w' => ∃ v0_ : Value, e = .returned (.tuple #[v0_, .bool r2]) ∧ Kd.R (Kd.int .i64) 3 w' w.heap.size (fun _ => True) v0_ r1 ∧ Below w.heap.size w w' := by
 have hu28 := Try.underlying28
 have HR0 := zM hr0
 have HC0 := zM hc0
 clear hr0 hc0
 have HB := zM (Below.refl w.heap.size w)
 have H : ((spec_l12Good.f k l0).bind fun t126 => (if t126 = true then ((spec_l12Rules.f a1_0 a1_1 a1_2).bind fun t127 => (if t127 = true then ((spec_l12Forces.f k l0 a1_1).bind fun t128 => (some (t128, true))) else (some ((([] : List Int)), false)))) else (some ((([] : List Int)), false)))) = some (r1, r2) := h
 clear h
 replace H := Option.bind_eq_some_iff.mp H
 obtain ⟨t126, A30, H⟩ := H
 replace H : (if t126 = true then ((spec_l12Rules.f a1_0 a1_1 a1_2).bind fun t127 => (if t127 = true then ((spec_l12Forces.f k l0 a1_1).bind fun t128 => (some (t128, true))) else (some ((([] : List Int)), false)))) else (some ((([] : List Int)), false))) = some (r1, r2) := H
 have A3 := zM A30
 clear A30
 by_cases c4 : t126 = true
 ·subst c4
  have H1 : ((spec_l12Rules.f a1_0 a1_1 a1_2).bind fun t127 => (if t127 = true then ((spec_l12Forces.f k l0 a1_1).bind fun t128 => (some (t128, true))) else (some ((([] : List Int)), false)))) = some (r1, r2) := by rw [if_pos rfl] at H; exact H
  clear H
  have H := H1
  clear H1
  replace H := Option.bind_eq_some_iff.mp H
  obtain ⟨t127, A50, H⟩ := H
  replace H : (if t127 = true then ((spec_l12Forces.f k l0 a1_1).bind fun t128 => (some (t128, true))) else (some ((([] : List Int)), false))) = some (r1, r2) := H
  have A5 := zM A50
  clear A50
  by_cases c6 : t127 = true
  ·subst c6
   have H1 : ((spec_l12Forces.f k l0 a1_1).bind fun t128 => (some (t128, true))) = some (r1, r2) := by rw [if_pos rfl] at H; exact H
   clear H
   have H := H1
   clear H1
   replace H := Option.bind_eq_some_iff.mp H
   obtain ⟨t128, A70, H⟩ := H
   replace H : (some (t128, true)) = some (r1, r2) := H
   have A7 := zM A70
   clear A70
   simp only [Option.some.injEq, Prod.mk.injEq] at H
   obtain ⟨rfl, rfl⟩ := H
   go_enter Try.func12, Try.ntmps12
   go_wp2_with (first | ((with_reducible refine gate_dst (N := 3) rfl ?_); refine box_event ?hg (N := 3) ?hd (cs := #[.int .i64 a1_0, .int .i64 a1_1, .int .i64 a1_2]) (t := 28) ?hr ?_; (case hd => rfl); (case hg => rfl); (case hr => first | (go_simp; done) | (go_simp; rfl)); intro gb125 hg w8 hbox hb; have n0_ := zM (zQ (by repeat (first | (with_reducible first | exact HB.out | apply zD | apply zE | apply zF) | exact HB.out)) hb); have n1_ := zM (hbox); have n2_ := zM ((by rw [hg]; exact (zR (by repeat (first | (with_reducible first | exact HB.out | apply zD | apply zE | apply zF) | exact HB.out))) : w.heap.size ≤ gb125)); have n3_ := zM ((by rw [hg]; exact (zR (by repeat (first | (with_reducible first | exact HB.out | apply zD | apply zE | apply zF) | exact HB.out))) : w.heap.size ≤ gb125)); clear HB; have HB := n0_; have BK125 := n1_; have GW125 := n2_; have GE125 := n3_; clear n0_ n1_ n2_ n3_; clear hb hbox hg) | ((with_reducible refine gate_callee (f := 44) rfl ?_); refine goesL_ (some 7) rfl rfl Try.func44 (by kernel_rfl) rfl #[.slice A0 l0.length c0] rfl (by (try simp only [List.map_toArray, List.map_cons, List.map_nil]); first | done | rfl | (simp only [List.length_drop, List.length_take]; rfl)) ?_; (with_reducible refine (spec_l12Good.calls k _ _ l0 true _ ?side1 ?side2 A3.out).mono ?_); (case side1 => repeat (first | exact (zO HR0.out HB.out) | (with_reducible refine zG ?_ _) | (with_reducible refine zH ?_ _) | (with_reducible refine zI ?_))); (case side2 => exact HC0.out); rintro e w' ⟨rfl, ⟨nd, rfl⟩⟩; refine ⟨_, rfl, ?_⟩; have hcz9_0 : w8.cell? ⟨gb125, 0, none⟩ = some (.int .i64 a1_0) := (blk_cell BK125.out 0).trans rfl; have hcz9_1 : w8.cell? ⟨gb125, 1, none⟩ = some (.int .i64 a1_1) := (blk_cell BK125.out 1).trans rfl; have hcz9_2 : w8.cell? ⟨gb125, 2, none⟩ = some (.int .i64 a1_2) := (blk_cell BK125.out 2).trans rfl; have hfz9_0 := blk_frozen BK125.out 0; have hfz9_1 := blk_frozen BK125.out 1; have hfz9_2 := blk_frozen BK125.out 2) | (go_at_call 45; (with_reducible refine (spec_l12Rules.calls a1_0 a1_1 a1_2 true _ A5.out).mono ?_); rintro e w10 ⟨rfl, hb⟩; have n0_ := zM (blk_below (g := gb125) (o := .cells #[.int .i64 a1_0, .int .i64 a1_1, .int .i64 a1_2] 28 (0, 0)) (by (with_reducible repeat (first | refine zJ ?_ _ | refine zK ?_ | refine zL ?_ _)); exact BK125.out) hb); have n1_ := zM (zQ (by repeat (first | (with_reducible first | exact HB.out | apply zD | apply zE | apply zF | refine below_set ?_ GE125.out) | exact HB.out)) hb); clear BK125; clear HB; have BK125 := n0_; have HB := n1_; clear n0_ n1_; (try clear hb); (try clear hb2); (try clear hk); (try clear hi); have hcz11_0 : w10.cell? ⟨gb125, 0, none⟩ = some (.int .i64 a1_0) := (blk_cell BK125.out 0).trans rfl; have hcz11_1 : w10.cell? ⟨gb125, 1, none⟩ = some (.int .i64 a1_1) := (blk_cell BK125.out 1).trans rfl; have hcz11_2 : w10.cell? ⟨gb125, 2, none⟩ = some (.int .i64 a1_2) := (blk_cell BK125.out 2).trans rfl; have hfz11_0 := blk_frozen BK125.out 0; have hfz11_1 := blk_frozen BK125.out 1; have hfz11_2 := blk_frozen BK125.out 2) | ((with_reducible refine gate_callee (f := 46) rfl ?_); refine goesL_ (some 18) rfl rfl Try.func46 (by kernel_rfl) rfl #[.slice A0 l0.length c0, .int .i64 a1_1] rfl (by (try simp only [List.map_toArray, List.map_cons, List.map_nil]); first | done | rfl | (simp only [List.length_drop, List.length_take]; rfl)) ?_; (with_reducible refine (spec_l12Forces.calls k _ _ l0 a1_1 t128 _ ?side1 ?side2 A7.out).mono ?_); (case side1 => repeat (first | exact (zO HR0.out HB.out) | (with_reducible refine zG ?_ _) | (with_reducible refine zH ?_ _) | (with_reducible refine zI ?_))); (case side2 => exact HC0.out); rintro e w12 ⟨v129, rfl, ho0, hb⟩; refine ⟨_, rfl, ?_⟩; have n0_ := zM (Kd.R_lower ho0 (zR (by repeat (first | (with_reducible first | exact HB.out | apply zD | apply zE | apply zF | refine below_set ?_ GE125.out) | exact HB.out)))); have n1_ := zM (blk_below (g := gb125) (o := .cells #[.int .i64 a1_0, .int .i64 a1_1, .int .i64 a1_2] 28 (0, 0)) (by (with_reducible repeat (first | refine zJ ?_ _ | refine zK ?_ | refine zL ?_ _)); exact BK125.out) hb); have n2_ := zM (zQ (by repeat (first | (with_reducible first | exact HB.out | apply zD | apply zE | apply zF | refine below_set ?_ GE125.out) | exact HB.out)) hb); clear BK125; clear HB; have HO130 := n0_; have BK125 := n1_; have HB := n2_; clear n0_ n1_ n2_; (try clear hb); (try clear hb2); (try clear hk); (try clear hi); (try clear ho0)))
   go_ret2
   exact ⟨_, by first | rfl | (simp [errW_none, errW_some] <;> rfl) | (simp [*, errW_none, errW_some] <;> rfl), by (with_reducible repeat (first | apply zA | apply zB | apply zC)); exact HO130.out, by repeat (first | (with_reducible first | exact HB.out | apply zD | apply zE | apply zF | refine below_set ?_ GE125.out) | exact HB.out)⟩
  ·replace c6 := Bool.eq_false_iff.mpr c6
   subst c6
   have H1 : (some ((([] : List Int)), false)) = some (r1, r2) := by rw [if_neg (show ¬ (false = true) by decide)] at H; exact H
   clear H
   have H := H1
   clear H1
   obtain ⟨y131, hy131⟩ : ∃ y_ : List Int, y_ = (([] : List Int)) := ⟨_, rfl⟩
   replace H : (some (y131, false)) = some (r1, r2) := by first | (rw [hy131]; with_reducible exact H) | (have H2_ := (Option.bind_some _ _).symm.trans H; rw [hy131]; with_reducible exact H2_) | (have H2_ := (Option.bind_some _ _).symm.trans H; with_reducible exact H2_) | with_reducible exact H | (rw [hy131]; exact H) | exact H
   have Ny131 := zM hy131
   clear hy131
   simp only [Option.some.injEq, Prod.mk.injEq] at H
   obtain ⟨rfl, rfl⟩ := H
   go_enter Try.func12, Try.ntmps12
   go_wp2_with (first | ((with_reducible refine gate_dst (N := 3) rfl ?_); refine box_event ?hg (N := 3) ?hd (cs := #[.int .i64 a1_0, .int .i64 a1_1, .int .i64 a1_2]) (t := 28) ?hr ?_; (case hd => rfl); (case hg => rfl); (case hr => first | (go_simp; done) | (go_simp; rfl)); intro gb125 hg w13 hbox hb; have n0_ := zM (zQ (by repeat (first | (with_reducible first | exact HB.out | apply zD | apply zE | apply zF) | exact HB.out)) hb); have n1_ := zM (hbox); have n2_ := zM ((by rw [hg]; exact (zR (by repeat (first | (with_reducible first | exact HB.out | apply zD | apply zE | apply zF) | exact HB.out))) : w.heap.size ≤ gb125)); have n3_ := zM ((by rw [hg]; exact (zR (by repeat (first | (with_reducible first | exact HB.out | apply zD | apply zE | apply zF) | exact HB.out))) : w.heap.size ≤ gb125)); clear HB; have HB := n0_; have BK125 := n1_; have GW125 := n2_; have GE125 := n3_; clear n0_ n1_ n2_ n3_; clear hb hbox hg) | ((with_reducible refine gate_callee (f := 44) rfl ?_); refine goesL_ (some 7) rfl rfl Try.func44 (by kernel_rfl) rfl #[.slice A0 l0.length c0] rfl (by (try simp only [List.map_toArray, List.map_cons, List.map_nil]); first | done | rfl | (simp only [List.length_drop, List.length_take]; rfl)) ?_; (with_reducible refine (spec_l12Good.calls k _ _ l0 true _ ?side1 ?side2 A3.out).mono ?_); (case side1 => repeat (first | exact (zO HR0.out HB.out) | (with_reducible refine zG ?_ _) | (with_reducible refine zH ?_ _) | (with_reducible refine zI ?_))); (case side2 => exact HC0.out); rintro e w' ⟨rfl, ⟨nd, rfl⟩⟩; refine ⟨_, rfl, ?_⟩; have hcz14_0 : w13.cell? ⟨gb125, 0, none⟩ = some (.int .i64 a1_0) := (blk_cell BK125.out 0).trans rfl; have hcz14_1 : w13.cell? ⟨gb125, 1, none⟩ = some (.int .i64 a1_1) := (blk_cell BK125.out 1).trans rfl; have hcz14_2 : w13.cell? ⟨gb125, 2, none⟩ = some (.int .i64 a1_2) := (blk_cell BK125.out 2).trans rfl; have hfz14_0 := blk_frozen BK125.out 0; have hfz14_1 := blk_frozen BK125.out 1; have hfz14_2 := blk_frozen BK125.out 2) | (go_at_call 45; (with_reducible refine (spec_l12Rules.calls a1_0 a1_1 a1_2 false _ A5.out).mono ?_); rintro e w15 ⟨rfl, hb⟩; have n0_ := zM (blk_below (g := gb125) (o := .cells #[.int .i64 a1_0, .int .i64 a1_1, .int .i64 a1_2] 28 (0, 0)) (by (with_reducible repeat (first | refine zJ ?_ _ | refine zK ?_ | refine zL ?_ _)); exact BK125.out) hb); have n1_ := zM (zQ (by repeat (first | (with_reducible first | exact HB.out | apply zD | apply zE | apply zF | refine below_set ?_ GE125.out) | exact HB.out)) hb); clear BK125; clear HB; have BK125 := n0_; have HB := n1_; clear n0_ n1_; (try clear hb); (try clear hb2); (try clear hk); (try clear hi)) | ((with_reducible refine gate_dst (N := 14) rfl ?_); refine Kd.R_lit (Kd.int .i64) _ 3 ?hg (N := 14) ?hd (xs := ([] : List Int)) (inner := []) (ok := fun _ => True) (okp := fun _ => True) ?hr ?hp (fun _ hk => hk) trivial (Below.refl _ _) (Nat.le_refl _) (by simp) ?_; (case hd => rfl); (case hg => rfl); (case hr => first | (go_simp; done) | (go_simp; rfl)); (case hp => exact (Reps.none _ _)); intro v132 w16 ho17 hb hg_ hnew_; clear hg_ hnew_; (first | rw [← Ny131.out] at ho17 | (simp only [Int.reduceToNat] at ho17; rw [← Ny131.out] at ho17)); have n0_ := zM (Kd.R_lower ho17 (zR (by repeat (first | (with_reducible first | exact HB.out | apply zD | apply zE | apply zF | refine below_set ?_ GE125.out) | exact HB.out)))); have n1_ := zM (blk_below (g := gb125) (o := .cells #[.int .i64 a1_0, .int .i64 a1_1, .int .i64 a1_2] 28 (0, 0)) (by (with_reducible repeat (first | refine zJ ?_ _ | refine zK ?_ | refine zL ?_ _)); exact BK125.out) hb); have n2_ := zM (zQ (by repeat (first | (with_reducible first | exact HB.out | apply zD | apply zE | apply zF | refine below_set ?_ GE125.out) | exact HB.out)) hb); clear BK125; clear HB; have HO133 := n0_; have BK125 := n1_; have HB := n2_; clear n0_ n1_ n2_; clear hb ho17))
   go_ret2
   exact ⟨_, by first | rfl | (simp [errW_none, errW_some] <;> rfl) | (simp [*, errW_none, errW_some] <;> rfl), by (with_reducible repeat (first | apply zA | apply zB | apply zC)); exact HO133.out, by repeat (first | (with_reducible first | exact HB.out | apply zD | apply zE | apply zF | refine below_set ?_ GE125.out) | exact HB.out)⟩
 ·replace c4 := Bool.eq_false_iff.mpr c4
  subst c4
  have H1 : (some ((([] : List Int)), false)) = some (r1, r2) := by rw [if_neg (show ¬ (false = true) by decide)] at H; exact H
  clear H
  have H := H1
  clear H1
  obtain ⟨y134, hy134⟩ : ∃ y_ : List Int, y_ = (([] : List Int)) := ⟨_, rfl⟩
  replace H : (some (y134, false)) = some (r1, r2) := by first | (rw [hy134]; with_reducible exact H) | (have H2_ := (Option.bind_some _ _).symm.trans H; rw [hy134]; with_reducible exact H2_) | (have H2_ := (Option.bind_some _ _).symm.trans H; with_reducible exact H2_) | with_reducible exact H | (rw [hy134]; exact H) | exact H
  have Ny134 := zM hy134
  clear hy134
  simp only [Option.some.injEq, Prod.mk.injEq] at H
  obtain ⟨rfl, rfl⟩ := H
  go_enter Try.func12, Try.ntmps12
  go_wp2_with (first | ((with_reducible refine gate_dst (N := 3) rfl ?_); refine box_event ?hg (N := 3) ?hd (cs := #[.int .i64 a1_0, .int .i64 a1_1, .int .i64 a1_2]) (t := 28) ?hr ?_; (case hd => rfl); (case hg => rfl); (case hr => first | (go_simp; done) | (go_simp; rfl)); intro gb125 hg w18 hbox hb; have n0_ := zM (zQ (by repeat (first | (with_reducible first | exact HB.out | apply zD | apply zE | apply zF) | exact HB.out)) hb); have n1_ := zM (hbox); have n2_ := zM ((by rw [hg]; exact (zR (by repeat (first | (with_reducible first | exact HB.out | apply zD | apply zE | apply zF) | exact HB.out))) : w.heap.size ≤ gb125)); have n3_ := zM ((by rw [hg]; exact (zR (by repeat (first | (with_reducible first | exact HB.out | apply zD | apply zE | apply zF) | exact HB.out))) : w.heap.size ≤ gb125)); clear HB; have HB := n0_; have BK125 := n1_; have GW125 := n2_; have GE125 := n3_; clear n0_ n1_ n2_ n3_; clear hb hbox hg) | ((with_reducible refine gate_callee (f := 44) rfl ?_); refine goesL_ (some 7) rfl rfl Try.func44 (by kernel_rfl) rfl #[.slice A0 l0.length c0] rfl (by (try simp only [List.map_toArray, List.map_cons, List.map_nil]); first | done | rfl | (simp only [List.length_drop, List.length_take]; rfl)) ?_; (with_reducible refine (spec_l12Good.calls k _ _ l0 false _ ?side1 ?side2 A3.out).mono ?_); (case side1 => repeat (first | exact (zO HR0.out HB.out) | (with_reducible refine zG ?_ _) | (with_reducible refine zH ?_ _) | (with_reducible refine zI ?_))); (case side2 => exact HC0.out); rintro e w' ⟨rfl, ⟨nd, rfl⟩⟩; refine ⟨_, rfl, ?_⟩) | ((with_reducible refine gate_dst (N := 14) rfl ?_); refine Kd.R_lit (Kd.int .i64) _ 3 ?hg (N := 14) ?hd (xs := ([] : List Int)) (inner := []) (ok := fun _ => True) (okp := fun _ => True) ?hr ?hp (fun _ hk => hk) trivial (Below.refl _ _) (Nat.le_refl _) (by simp) ?_; (case hd => rfl); (case hg => rfl); (case hr => first | (go_simp; done) | (go_simp; rfl)); (case hp => exact (Reps.none _ _)); intro v135 w19 ho20 hb hg_ hnew_; clear hg_ hnew_; (first | rw [← Ny134.out] at ho20 | (simp only [Int.reduceToNat] at ho20; rw [← Ny134.out] at ho20)); have n0_ := zM (Kd.R_lower ho20 (zR (by repeat (first | (with_reducible first | exact HB.out | apply zD | apply zE | apply zF | refine below_set ?_ GE125.out) | exact HB.out)))); have n1_ := zM (blk_below (g := gb125) (o := .cells #[.int .i64 a1_0, .int .i64 a1_1, .int .i64 a1_2] 28 (0, 0)) (by (with_reducible repeat (first | refine zJ ?_ _ | refine zK ?_ | refine zL ?_ _)); exact BK125.out) hb); have n2_ := zM (zQ (by repeat (first | (with_reducible first | exact HB.out | apply zD | apply zE | apply zF | refine below_set ?_ GE125.out) | exact HB.out)) hb); clear BK125; clear HB; have HO136 := n0_; have BK125 := n1_; have HB := n2_; clear n0_ n1_ n2_; clear hb ho20))
  go_ret2
  exact ⟨_, by first | rfl | (simp [errW_none, errW_some] <;> rfl) | (simp [*, errW_none, errW_some] <;> rfl), by (with_reducible repeat (first | apply zA | apply zB | apply zC)); exact HO136.out, by repeat (first | (with_reducible first | exact HB.out | apply zD | apply zE | apply zF | refine below_set ?_ GE125.out) | exact HB.out)⟩

end Go.Proofs.Ytcgfedaoimhejaa.G

-- Written by wip/tools/gen.py out of the translation (the kit's printer, one namespace a seat). Lean checks it.
namespace Go.Proofs.Ytcgfedaoimhejaa.G
open Go.RowKit Go.Proofs.YtcgfedaoimhejaaW.PrintWords Go.Proofs.YtcgfedaoimhejaaW.PrintLast Go.Proofs.YtcgfedaoimhejaaW.PrintMore
attribute [local go_sem] max2_int min2_int max_two min_two max_three min_three max_four min_four   -- for this text's walks alone
set_option linter.unusedVariables false
set_option linter.unusedSimpArgs false

/-! ### impl_LashingsNeeded: function 20 -/
def impl_LashingsNeeded.l0 : Nat → List Int → List Int → Int → Int → Int → Int → Int → Option (List Int × Bool)
 | 0, _, _, _, _, _, _, _ => none
 | k + 1, x6, x17, x18, x19, x232000, x232001, x232002 => if x19 < x18 then (if 0 ≤ x19 then (if x19 < (x17.length : Int) then ((impl_ceiling.f (rd x17 x19) x232002).bind fun t240 => (if t240 > 4 then (some (([] : List Int), false)) else (if x6.length < 17592186044416 then (impl_LashingsNeeded.l0 k (x6 ++ [t240]) x17 x18 (wrap64 (x19 + 1)) x232000 x232001 x232002) else (none)))) else (none)) else (none)) else (some (x6, true))
def impl_LashingsNeeded.f (k : Nat) (l0 : List Int) (a1_0 : Int) (a1_1 : Int) (a1_2 : Int) : Option (List Int × Bool) := (impl_isLashed.f l0 a1_0 a1_1 a1_2).bind fun t232 => (if t232 = true then ((impl_forcesOf.f k l0 a1_0 a1_1 a1_2).bind fun t236 => (impl_LashingsNeeded.l0 k (([] : List Int)) t236 (t236.length : Int) 0 a1_0 a1_1 a1_2)) else (some (([] : List Int), false)))
set_option maxHeartbeats 8000000 in
set_option maxRecDepth 100000 in
theorem impl_LashingsNeeded.calls (k : Nat) (A0 : Option Addr) (c0 : Nat) (l0 : List Int) (a1_0 : Int) (a1_1 : Int) (a1_2 : Int) (r1 : List Int) (r2 : Bool) (w : World) (hr0 : Kd.C (Kd.int .i64) w A0 l0.length l0) (hc0 : l0.length ≤ c0) (h : impl_LashingsNeeded.f k l0 a1_0 a1_1 a1_2 = some (r1, r2)) :
  Calls Try.prog 20 #[.slice A0 l0.length c0, .agg #[.int .i64 a1_0, .int .i64 a1_1, .int .i64 a1_2]] w fun e w' => ∃ v0_ : Value, e = .returned (.tuple #[v0_, .bool r2]) ∧ Kd.R (Kd.int .i64) 3 w' w.heap.size (fun _ => True) v0_ r1 ∧ Below w.heap.size w w' := by
 have hu28 := Try.underlying28
 have HR0 := zM hr0
 have HC0 := zM hc0
 clear hr0 hc0
 have HB := zM (Below.refl w.heap.size w)
 have H : ((impl_isLashed.f l0 a1_0 a1_1 a1_2).bind fun t232 => (if t232 = true then ((impl_forcesOf.f k l0 a1_0 a1_1 a1_2).bind fun t236 => (impl_LashingsNeeded.l0 k (([] : List Int)) t236 (t236.length : Int) 0 a1_0 a1_1 a1_2)) else (some (([] : List Int), false)))) = some (r1, r2) := h
 clear h
 replace H := Option.bind_eq_some_iff.mp H
 obtain ⟨t232, A30, H⟩ := H
 replace H : (if t232 = true then ((impl_forcesOf.f k l0 a1_0 a1_1 a1_2).bind fun t236 => (impl_LashingsNeeded.l0 k (([] : List Int)) t236 (t236.length : Int) 0 a1_0 a1_1 a1_2)) else (some (([] : List Int), false))) = some (r1, r2) := H
 have A3 := zM A30
 clear A30
 by_cases c4 : t232 = true
 ·subst c4
  have H1 : ((impl_forcesOf.f k l0 a1_0 a1_1 a1_2).bind fun t236 => (impl_LashingsNeeded.l0 k (([] : List Int)) t236 (t236.length : Int) 0 a1_0 a1_1 a1_2)) = some (r1, r2) := by rw [if_pos rfl] at H; exact H
  clear H
  have H := H1
  clear H1
  obtain ⟨y233, hy233⟩ : ∃ y_ : List Int, y_ = (([] : List Int)) := ⟨_, rfl⟩
  replace H : ((impl_forcesOf.f k l0 a1_0 a1_1 a1_2).bind fun t236 => (impl_LashingsNeeded.l0 k y233 t236 (t236.length : Int) 0 a1_0 a1_1 a1_2)) = some (r1, r2) := by first | (rw [hy233]; with_reducible exact H) | (have H2_ := (Option.bind_some _ _).symm.trans H; rw [hy233]; with_reducible exact H2_) | (have H2_ := (Option.bind_some _ _).symm.trans H; with_reducible exact H2_) | with_reducible exact H | (rw [hy233]; exact H) | exact H
  have Ny233 := zM hy233
  clear hy233
  replace H := Option.bind_eq_some_iff.mp H
  obtain ⟨t236, A50, H⟩ := H
  replace H : (impl_LashingsNeeded.l0 k y233 t236 (t236.length : Int) 0 a1_0 a1_1 a1_2) = some (r1, r2) := H
  have A5 := zM A50
  clear A50
  have H' := zM H
  clear H
  go_enter Try.func20, Try.ntmps20
  go_wp2_with (first | ((with_reducible refine gate_dst (N := 3) rfl ?_); refine box_event ?hg (N := 3) ?hd (cs := #[.int .i64 a1_0, .int .i64 a1_1, .int .i64 a1_2]) (t := 28) ?hr ?_; (case hd => rfl); (case hg => rfl); (case hr => first | (go_simp; done) | (go_simp; rfl)); intro gb231 hg w6 hbox hb; have n0_ := zM (zQ (by repeat (first | (with_reducible first | exact HB.out | apply zD | apply zE | apply zF) | exact HB.out)) hb); have n1_ := zM (hbox); have n2_ := zM ((by rw [hg]; exact (zR (by repeat (first | (with_reducible first | exact HB.out | apply zD | apply zE | apply zF) | exact HB.out))) : w.heap.size ≤ gb231)); have n3_ := zM ((by rw [hg]; exact (zR (by repeat (first | (with_reducible first | exact HB.out | apply zD | apply zE | apply zF) | exact HB.out))) : w.heap.size ≤ gb231)); clear HB; have HB := n0_; have BK231 := n1_; have GW231 := n2_; have GE231 := n3_; clear n0_ n1_ n2_ n3_; clear hb hbox hg; have hcz7_0 : w6.cell? ⟨gb231, 0, none⟩ = some (.int .i64 a1_0) := (blk_cell BK231.out 0).trans rfl; have hcz7_1 : w6.cell? ⟨gb231, 1, none⟩ = some (.int .i64 a1_1) := (blk_cell BK231.out 1).trans rfl; have hcz7_2 : w6.cell? ⟨gb231, 2, none⟩ = some (.int .i64 a1_2) := (blk_cell BK231.out 2).trans rfl; have hfz7_0 := blk_frozen BK231.out 0; have hfz7_1 := blk_frozen BK231.out 1; have hfz7_2 := blk_frozen BK231.out 2) | ((with_reducible refine gate_callee (f := 47) rfl ?_); refine goesL_ (some 12) rfl rfl Try.func47 (by kernel_rfl) rfl #[.slice A0 l0.length c0, .agg #[.int .i64 a1_0, .int .i64 a1_1, .int .i64 a1_2]] rfl (by (try simp only [List.map_toArray, List.map_cons, List.map_nil]); first | done | rfl | (simp only [List.length_drop, List.length_take]; rfl)) ?_; (with_reducible refine (impl_isLashed.calls _ _ l0 a1_0 a1_1 a1_2 true _ ?side1 ?side2 A3.out).mono ?_); (case side1 => repeat (first | exact (zO HR0.out HB.out) | (with_reducible refine zG ?_ _) | (with_reducible refine zH ?_ _) | (with_reducible refine zI ?_))); (case side2 => exact HC0.out); rintro e w8 ⟨rfl, hb⟩; refine ⟨_, rfl, ?_⟩; have n0_ := zM (blk_below (g := gb231) (o := .cells #[.int .i64 a1_0, .int .i64 a1_1, .int .i64 a1_2] 28 (0, 0)) (by (with_reducible repeat (first | refine zJ ?_ _ | refine zK ?_ | refine zL ?_ _)); exact BK231.out) hb); have n1_ := zM (zQ (by repeat (first | (with_reducible first | exact HB.out | apply zD | apply zE | apply zF | refine below_set ?_ GE231.out) | exact HB.out)) hb); clear BK231; clear HB; have BK231 := n0_; have HB := n1_; clear n0_ n1_; (try clear hb); (try clear hb2); (try clear hk); (try clear hi)) | ((with_reducible refine gate_dst (N := 14) rfl ?_); refine Kd.R_lit (Kd.int .i64) _ 3 ?hg (N := 14) ?hd (xs := ([] : List Int)) (inner := []) (ok := fun _ => True) (okp := fun _ => True) ?hr ?hp (fun _ hk => hk) trivial (Below.refl _ _) (Nat.le_refl _) (by simp) ?_; (case hd => rfl); (case hg => rfl); (case hr => first | (go_simp; done) | (go_simp; rfl)); (case hp => exact (Reps.none _ _)); intro v234 w9 ho10 hb hg_ hnew_; clear hg_ hnew_; (first | rw [← Ny233.out] at ho10 | (simp only [Int.reduceToNat] at ho10; rw [← Ny233.out] at ho10)); have n0_ := zM (Kd.R_lower ho10 (zR (by repeat (first | (with_reducible first | exact HB.out | apply zD | apply zE | apply zF | refine below_set ?_ GE231.out) | exact HB.out)))); have n1_ := zM (blk_below (g := gb231) (o := .cells #[.int .i64 a1_0, .int .i64 a1_1, .int .i64 a1_2] 28 (0, 0)) (by (with_reducible repeat (first | refine zJ ?_ _ | refine zK ?_ | refine zL ?_ _)); exact BK231.out) hb); have n2_ := zM (zQ (by repeat (first | (with_reducible first | exact HB.out | apply zD | apply zE | apply zF | refine below_set ?_ GE231.out) | exact HB.out)) hb); clear BK231; clear HB; have HO235 := n0_; have BK231 := n1_; have HB := n2_; clear n0_ n1_ n2_; clear hb ho10; have hcz11_0 : w9.cell? ⟨gb231, 0, none⟩ = some (.int .i64 a1_0) := (blk_cell BK231.out 0).trans rfl; have hcz11_1 : w9.cell? ⟨gb231, 1, none⟩ = some (.int .i64 a1_1) := (blk_cell BK231.out 1).trans rfl; have hcz11_2 : w9.cell? ⟨gb231, 2, none⟩ = some (.int .i64 a1_2) := (blk_cell BK231.out 2).trans rfl; have hfz11_0 := blk_frozen BK231.out 0; have hfz11_1 := blk_frozen BK231.out 1; have hfz11_2 := blk_frozen BK231.out 2) | ((with_reducible refine gate_callee (f := 48) rfl ?_); refine goesL_ (some 17) rfl rfl Try.func48 (by kernel_rfl) rfl #[.slice A0 l0.length c0, .agg #[.int .i64 a1_0, .int .i64 a1_1, .int .i64 a1_2]] rfl (by (try simp only [List.map_toArray, List.map_cons, List.map_nil]); first | done | rfl | (simp only [List.length_drop, List.length_take]; rfl)) ?_; (with_reducible refine (impl_forcesOf.calls k _ _ l0 a1_0 a1_1 a1_2 t236 _ ?side1 ?side2 A5.out).mono ?_); (case side1 => repeat (first | exact (zO HR0.out HB.out) | (with_reducible refine zG ?_ _) | (with_reducible refine zH ?_ _) | (with_reducible refine zI ?_))); (case side2 => exact HC0.out); rintro e w12 ⟨v237, rfl, ho0, hb⟩; refine ⟨_, rfl, ?_⟩; have n0_ := zM (Kd.R_elder' (by (with_reducible repeat (first | apply zA | apply zB | apply zC)); exact HO235.out) (Kd.R_base ho0) hb); have n1_ := zM (Kd.R_lower (Kd.R_new' ho0 (Kd.R_lt (by (with_reducible repeat (first | apply zA | apply zB | apply zC)); exact HO235.out))) (zR (by repeat (first | (with_reducible first | exact HB.out | apply zD | apply zE | apply zF | refine below_set ?_ GE231.out) | exact HB.out)))); have n2_ := zM (blk_below (g := gb231) (o := .cells #[.int .i64 a1_0, .int .i64 a1_1, .int .i64 a1_2] 28 (0, 0)) (by (with_reducible repeat (first | refine zJ ?_ _ | refine zK ?_ | refine zL ?_ _)); exact BK231.out) hb); have n3_ := zM (zQ (by repeat (first | (with_reducible first | exact HB.out | apply zD | apply zE | apply zF | refine below_set ?_ GE231.out) | exact HB.out)) hb); clear HO235; clear BK231; clear HB; have HO235 := n0_; have HO238 := n1_; have BK231 := n2_; have HB := n3_; clear n0_ n1_ n2_ n3_; (try clear hb); (try clear hb2); (try clear hk); (try clear hi); (try clear ho0); obtain ⟨Ao13, co13, eo13⟩ := Kd.R_slice HO238.out; subst eo13))
  go_loopg [6, 19] k (fun kq v6 v19 w' => ∃ (x6_1 : List Int) (x19_1 : Int), v19 = .int .i64 x19_1 ∧ Aside0 (impl_LashingsNeeded.l0 kq x6_1 t236 (t236.length : Int) x19_1 a1_0 a1_1 a1_2 = some (r1, r2)) ∧ Aside0 (kq ≤ k) ∧ Aside0 (Kd.R (Kd.int .i64) 3 w' w.heap.size (fun k_ => some k_ ≠ ((.slice Ao13 t236.length co13) : Value).ownBlock) v6 x6_1) ∧ Aside0 (Kd.R (Kd.int .i64) 3 w' w.heap.size (fun k_ => some k_ ≠ (v6 : Value).ownBlock) (.slice Ao13 t236.length co13) t236) ∧ Aside0 (w'.heap[gb231]? = some (.cells #[.int .i64 a1_0, .int .i64 a1_1, .int .i64 a1_2] 28 (0, 0))) ∧ Aside0 (Below w.heap.size w w'))
  case atStart => exact ⟨(y233), (0), (by first | rfl | (simp; done) | (simp [*]; done)), H', ⟨Nat.le_refl _⟩, ⟨by (with_reducible repeat (first | apply zA | apply zB | apply zC)); exact Kd.R_mono HO235.out (fun _ hk => hk.2)⟩, ⟨by (with_reducible repeat (first | apply zA | apply zB | apply zC)); exact Kd.R_mono HO238.out (fun _ hk => hk.2)⟩, ⟨by (with_reducible repeat (first | refine zJ ?_ _ | refine zK ?_ | refine zL ?_ _)); exact BK231.out⟩, ⟨by repeat (first | (with_reducible first | exact HB.out | apply zD | apply zE | apply zF | refine below_set ?_ GE231.out) | exact HB.out)⟩⟩
  case round =>
   clear H'
   try clear c2
   try clear p2
   try clear c4
   try clear hcz11_0
   try clear hcz11_1
   try clear hcz11_2
   try clear hcz7_0
   try clear hcz7_1
   try clear hcz7_2
   try clear hfz11_0
   try clear hfz11_1
   try clear hfz11_2
   try clear hfz7_0
   try clear hfz7_1
   try clear hfz7_2
   obtain ⟨x6_1, x19_1, rfl, HA, HK1, HO_6, HO_17, BK231, HB⟩ := hrel
   cases gk with
   | zero => exact absurd HA.out (by simp [impl_LashingsNeeded.l0])
   | succ k1 =>
    have H := HA.out
    clear HA
    simp only [impl_LashingsNeeded.l0] at H
    by_cases c14 : x19_1 < (t236.length : Int)
    ·rw [if_pos c14] at H
     have c14b0 : decide (x19_1 < (t236.length : Int)) = true := decide_eq_true c14
     clear c14
     by_cases c15 : 0 ≤ x19_1
     ·rw [if_pos c15] at H
      have c15b0 : decide (0 ≤ x19_1) = true := decide_eq_true c15
      clear c15
      by_cases c16 : x19_1 < (t236.length : Int)
      ·rw [if_pos c16] at H
       have c16b0 : decide (x19_1 < (t236.length : Int)) = true := decide_eq_true c16
       clear c16
       replace H := Option.bind_eq_some_iff.mp H
       obtain ⟨t240, A170, H⟩ := H
       replace H : (if t240 > 4 then (some (([] : List Int), false)) else (if x6_1.length < 17592186044416 then (impl_LashingsNeeded.l0 k1 (x6_1 ++ [t240]) t236 (t236.length : Int) (wrap64 (x19_1 + 1)) a1_0 a1_1 a1_2) else (none))) = some (r1, r2) := H
       have A17 := zM A170
       clear A170
       by_cases c18 : t240 > 4
       ·rw [if_pos c18] at H
        have c18b0 : decide (4 < t240) = true := decide_eq_true c18
        clear c18
        simp only [Option.some.injEq, Prod.mk.injEq] at H
        obtain ⟨rfl, rfl⟩ := H
        have p239 : 0 ≤ (x19_1 : Int) := of_decide_eq_true (by first | (with_reducible assumption) | assumption)
        have q239 : x19_1 < (t236.length : Int) := of_decide_eq_true (by first | (with_reducible assumption) | assumption)
        obtain ⟨ad239, e239, hx239_0⟩ := Kd.at_int (zN HO_17.out).2.2 x19_1 p239 q239
        cases e239
        replace p239 := eq_true p239
        replace q239 := eq_true q239
        have hcz19_0 : wr.cell? ⟨gb231, 0, none⟩ = some (.int .i64 a1_0) := (blk_cell BK231.out 0).trans rfl
        have hcz19_1 : wr.cell? ⟨gb231, 1, none⟩ = some (.int .i64 a1_1) := (blk_cell BK231.out 1).trans rfl
        have hcz19_2 : wr.cell? ⟨gb231, 2, none⟩ = some (.int .i64 a1_2) := (blk_cell BK231.out 2).trans rfl
        have hfz19_0 := blk_frozen BK231.out 0
        have hfz19_1 := blk_frozen BK231.out 1
        have hfz19_2 := blk_frozen BK231.out 2
        go_wp2_with (first | ((with_reducible refine gate_callee (f := 49) rfl ?_); refine goesL_ (some 26) rfl rfl Try.func49 (by kernel_rfl) rfl #[.int .i64 (rd t236 x19_1), .int .i64 a1_2] rfl (by (try simp only [List.map_toArray, List.map_cons, List.map_nil]); first | done | rfl | (simp only [List.length_drop, List.length_take]; rfl)) ?_; (with_reducible refine (impl_ceiling.calls (rd t236 x19_1) a1_2 t240 _ A17.out).mono ?_); rintro e w' ⟨rfl, ⟨nd, rfl⟩⟩; refine ⟨_, rfl, ?_⟩))
        go_ret2
        exact ⟨_, by first | rfl | (simp [errW_none, errW_some] <;> rfl) | (simp [*, errW_none, errW_some] <;> rfl), by first | exact Kd.R_nil _ _ _ _ _ | exact Kd.N_nil _ _ _ _ _ | exact Kd.V_nil _ _ _ _ _ | exact Kd.Q_nil _ _ _ _ _ | exact Kd.S_nil _ _ _ _ _, by repeat (first | (with_reducible first | exact HB.out | apply zD | apply zE | apply zF | refine below_set ?_ GE231.out) | exact HB.out)⟩
       ·rw [if_neg c18] at H
        have c18b0 : decide (4 < t240) = false := decide_eq_false c18
        clear c18
        by_cases c20 : x6_1.length < 17592186044416
        ·rw [if_pos c20] at H
         have LMc20 := zM c20
         clear c20
         obtain ⟨y241, hy241⟩ : ∃ y_ : List Int, y_ = (x6_1 ++ [t240]) := ⟨_, rfl⟩
         replace H : (impl_LashingsNeeded.l0 k1 y241 t236 (t236.length : Int) (wrap64 (x19_1 + 1)) a1_0 a1_1 a1_2) = some (r1, r2) := by first | (rw [hy241]; with_reducible exact H) | (have H2_ := (Option.bind_some _ _).symm.trans H; rw [hy241]; with_reducible exact H2_) | (have H2_ := (Option.bind_some _ _).symm.trans H; with_reducible exact H2_) | with_reducible exact H | (rw [hy241]; exact H) | exact H
         have Ny241 := zM hy241
         clear hy241
         have H' := zM H
         clear H
         have p239 : 0 ≤ (x19_1 : Int) := of_decide_eq_true (by first | (with_reducible assumption) | assumption)
         have q239 : x19_1 < (t236.length : Int) := of_decide_eq_true (by first | (with_reducible assumption) | assumption)
         obtain ⟨ad239, e239, hx239_0⟩ := Kd.at_int (zN HO_17.out).2.2 x19_1 p239 q239
         cases e239
         replace p239 := eq_true p239
         replace q239 := eq_true q239
         have hcz21_0 : wr.cell? ⟨gb231, 0, none⟩ = some (.int .i64 a1_0) := (blk_cell BK231.out 0).trans rfl
         have hcz21_1 : wr.cell? ⟨gb231, 1, none⟩ = some (.int .i64 a1_1) := (blk_cell BK231.out 1).trans rfl
         have hcz21_2 : wr.cell? ⟨gb231, 2, none⟩ = some (.int .i64 a1_2) := (blk_cell BK231.out 2).trans rfl
         have hfz21_0 := blk_frozen BK231.out 0
         have hfz21_1 := blk_frozen BK231.out 1
         have hfz21_2 := blk_frozen BK231.out 2
         go_wp2_with (first | ((with_reducible refine gate_callee (f := 49) rfl ?_); refine goesL_ (some 26) rfl rfl Try.func49 (by kernel_rfl) rfl #[.int .i64 (rd t236 x19_1), .int .i64 a1_2] rfl (by (try simp only [List.map_toArray, List.map_cons, List.map_nil]); first | done | rfl | (simp only [List.length_drop, List.length_take]; rfl)) ?_; (with_reducible refine (impl_ceiling.calls (rd t236 x19_1) a1_2 t240 _ A17.out).mono ?_); rintro e w' ⟨rfl, ⟨nd, rfl⟩⟩; refine ⟨_, rfl, ?_⟩) | ((with_reducible refine gate_builtin (b := .append) (xs := #[.tmp 29, .tmp 31]) rfl ?_); at_builtin; refine Kd.R_append (Kd.int .i64) (w0 := w) w.heap.size rfl (.tmp 29) (.tmp 31) 22 3 (.int .i64 0) 8 rfl Try.underlying22 info3 rfl (by decide) (by omega) u6 x6_1 t240 [.int .i64 t240] (fun k_ => some k_ ≠ (.slice (some ad239) t236.length co13 : Value).ownBlock) (fun _ => False) rfl rfl ?aP (fun _ hk => hk.elim) ?aF ?aO ?aB ?aS ?aL ?_; (case aP => exact rfl); (case aB => exact (by repeat (first | (with_reducible first | exact HB.out | apply zD | apply zE | apply zF | refine below_set ?_ GE231.out) | exact HB.out))); (case aF => exact (fun k_ hk => Kd.fresh' (Kd.R_lt (by (with_reducible repeat (first | apply zA | apply zB | apply zC)); exact HO_17.out)) k_ hk)); (case aO => exact (by (with_reducible repeat (first | apply zA | apply zB | apply zC)); exact HO_6.out)); (case aS => exact (zR (by repeat (first | (with_reducible first | exact HB.out | apply zD | apply zE | apply zF | refine below_set ?_ GE231.out) | exact HB.out)))); (case aL => have := LMc20.out; omega); intro v242 w22 ho hb hg hat; rw [← Ny241.out] at ho; have n0_ := zM (Kd.R_after (ok := (fun _ => True)) (by (with_reducible repeat (first | apply zA | apply zB | apply zC)); exact Kd.R_mono HO_17.out (fun _ hk => ⟨trivial, hk⟩)) hg hat); have n1_ := zM (blk_grown (g := gb231) (o := .cells #[.int .i64 a1_0, .int .i64 a1_1, .int .i64 a1_2] 28 (0, 0)) (by (with_reducible repeat (first | refine zJ ?_ _ | refine zK ?_ | refine zL ?_ _)); exact BK231.out) hg (Kd.R_ne HO_6.out BK231.out (by decide))); have n2_ := zM (hb); have n3_ := zM (ho); clear HO_17; clear BK231; clear HB; clear HO_6; have HO_17 := n0_; have BK231 := n1_; have HB := n2_; have HO243 := n3_; clear n0_ n1_ n2_ n3_; clear ho hb hg hat))
         go_roundg k1
         case measure => have := HK1.out; omega
         case rel => exact ⟨(y241), (wrap64 (x19_1 + 1)), (by first | rfl | (simp; done) | (simp [*]; done)), H', ⟨by have := HK1.out; omega⟩, ⟨by (with_reducible repeat (first | apply zA | apply zB | apply zC)); exact HO243.out⟩, ⟨by (with_reducible repeat (first | apply zA | apply zB | apply zC)); exact Kd.R_mono HO_17.out (fun _ hk => hk.2)⟩, ⟨by (with_reducible repeat (first | refine zJ ?_ _ | refine zK ?_ | refine zL ?_ _)); exact BK231.out⟩, ⟨by repeat (first | (with_reducible first | exact HB.out | apply zD | apply zE | apply zF | refine below_set ?_ GE231.out) | exact HB.out)⟩⟩
        ·rw [if_neg c20] at H
         exact absurd H (by simp)
      ·rw [if_neg c16] at H
       exact absurd H (by simp)
     ·rw [if_neg c15] at H
      exact absurd H (by simp)
    ·rw [if_neg c14] at H
     have c14b0 : decide (x19_1 < (t236.length : Int)) = false := decide_eq_false c14
     clear c14
     simp only [Option.some.injEq, Prod.mk.injEq] at H
     obtain ⟨rfl, rfl⟩ := H
     go_wp2
     go_ret2
     exact ⟨_, by first | rfl | (simp [errW_none, errW_some] <;> rfl) | (simp [*, errW_none, errW_some] <;> rfl), by (with_reducible repeat (first | apply zA | apply zB | apply zC)); exact Kd.R_mono HO_6.out (fun _ hk => trivial), by repeat (first | (with_reducible first | exact HB.out | apply zD | apply zE | apply zF | refine below_set ?_ GE231.out) | exact HB.out)⟩
 ·replace c4 := Bool.eq_false_iff.mpr c4
  subst c4
  have H1 : (some (([] : List Int), false)) = some (r1, r2) := by rw [if_neg (show ¬ (false = true) by decide)] at H; exact H
  clear H
  have H := H1
  clear H1
  simp only [Option.some.injEq, Prod.mk.injEq] at H
  obtain ⟨rfl, rfl⟩ := H
  go_enter Try.func20, Try.ntmps20
  go_wp2_with (first | ((with_reducible refine gate_dst (N := 3) rfl ?_); refine box_event ?hg (N := 3) ?hd (cs := #[.int .i64 a1_0, .int .i64 a1_1, .int .i64 a1_2]) (t := 28) ?hr ?_; (case hd => rfl); (case hg => rfl); (case hr => first | (go_simp; done) | (go_simp; rfl)); intro gb231 hg w23 hbox hb; have n0_ := zM (zQ (by repeat (first | (with_reducible first | exact HB.out | apply zD | apply zE | apply zF) | exact HB.out)) hb); have n1_ := zM (hbox); have n2_ := zM ((by rw [hg]; exact (zR (by repeat (first | (with_reducible first | exact HB.out | apply zD | apply zE | apply zF) | exact HB.out))) : w.heap.size ≤ gb231)); have n3_ := zM ((by rw [hg]; exact (zR (by repeat (first | (with_reducible first | exact HB.out | apply zD | apply zE | apply zF) | exact HB.out))) : w.heap.size ≤ gb231)); clear HB; have HB := n0_; have BK231 := n1_; have GW231 := n2_; have GE231 := n3_; clear n0_ n1_ n2_ n3_; clear hb hbox hg; have hcz24_0 : w23.cell? ⟨gb231, 0, none⟩ = some (.int .i64 a1_0) := (blk_cell BK231.out 0).trans rfl; have hcz24_1 : w23.cell? ⟨gb231, 1, none⟩ = some (.int .i64 a1_1) := (blk_cell BK231.out 1).trans rfl; have hcz24_2 : w23.cell? ⟨gb231, 2, none⟩ = some (.int .i64 a1_2) := (blk_cell BK231.out 2).trans rfl; have hfz24_0 := blk_frozen BK231.out 0; have hfz24_1 := blk_frozen BK231.out 1; have hfz24_2 := blk_frozen BK231.out 2) | ((with_reducible refine gate_callee (f := 47) rfl ?_); refine goesL_ (some 12) rfl rfl Try.func47 (by kernel_rfl) rfl #[.slice A0 l0.length c0, .agg #[.int .i64 a1_0, .int .i64 a1_1, .int .i64 a1_2]] rfl (by (try simp only [List.map_toArray, List.map_cons, List.map_nil]); first | done | rfl | (simp only [List.length_drop, List.length_take]; rfl)) ?_; (with_reducible refine (impl_isLashed.calls _ _ l0 a1_0 a1_1 a1_2 false _ ?side1 ?side2 A3.out).mono ?_); (case side1 => repeat (first | exact (zO HR0.out HB.out) | (with_reducible refine zG ?_ _) | (with_reducible refine zH ?_ _) | (with_reducible refine zI ?_))); (case side2 => exact HC0.out); rintro e w25 ⟨rfl, hb⟩; refine ⟨_, rfl, ?_⟩; have n0_ := zM (blk_below (g := gb231) (o := .cells #[.int .i64 a1_0, .int .i64 a1_1, .int .i64 a1_2] 28 (0, 0)) (by (with_reducible repeat (first | refine zJ ?_ _ | refine zK ?_ | refine zL ?_ _)); exact BK231.out) hb); have n1_ := zM (zQ (by repeat (first | (with_reducible first | exact HB.out | apply zD | apply zE | apply zF | refine below_set ?_ GE231.out) | exact HB.out)) hb); clear BK231; clear HB; have BK231 := n0_; have HB := n1_; clear n0_ n1_; (try clear hb); (try clear hb2); (try clear hk); (try clear hi)))
  go_ret2
  exact ⟨_, by first | rfl | (simp [errW_none, errW_some] <;> rfl) | (simp [*, errW_none, errW_some] <;> rfl), by first | exact Kd.R_nil _ _ _ _ _ | exact Kd.N_nil _ _ _ _ _ | exact Kd.V_nil _ _ _ _ _ | exact Kd.Q_nil _ _ _ _ _ | exact Kd.S_nil _ _ _ _ _, by repeat (first | (with_reducible first | exact HB.out | apply zD | apply zE | apply zF | refine below_set ?_ GE231.out) | exact HB.out)⟩

end Go.Proofs.Ytcgfedaoimhejaa.G

-- Written by wip/tools/gen.py out of the translation (the kit's printer, one namespace a seat). Lean checks it.
namespace Go.Proofs.Ytcgfedaoimhejaa.G
open Go.RowKit Go.Proofs.YtcgfedaoimhejaaW.PrintWords Go.Proofs.YtcgfedaoimhejaaW.PrintLast Go.Proofs.YtcgfedaoimhejaaW.PrintMore
attribute [local go_sem] max2_int min2_int max_two min_two max_three min_three max_four min_four   -- for this text's walks alone
set_option linter.unusedVariables false
set_option linter.unusedSimpArgs false

/-! ### spec_LashingsNeeded: function 19 -/
mutual
def spec_LashingsNeeded.j0 : Nat → List Int → List Int → Bool → Int → Int → Int → Option (List Int × Bool)
 | 0, _, _, _, _, _, _ => none
 | k + 1, x0, x6, x18, x216000, x216001, x216002 => if x18 = true then (some (x6, false)) else ((spec_l12Forces.f k x0 x216001).bind fun t221 => (spec_LashingsNeeded.l0 k x6 t221 0 x216000 x216001 x216002))
def spec_LashingsNeeded.l0 : Nat → List Int → List Int → Int → Int → Int → Int → Option (List Int × Bool)
 | 0, _, _, _, _, _, _ => none
 | k + 1, x6, x7, x8, x216000, x216001, x216002 => if x8 < (x7.length : Int) then (if 0 ≤ x8 then (if x216002 = 0 then (none) else (if (wrap64 (Int.tdiv (wrap64 ((wrap64 ((rd x7 x8) + x216002)) - 1)) x216002)) > 4 then (some ((([] : List Int)), false)) else (if x6.length < 17592186044416 then (spec_LashingsNeeded.l0 k (x6 ++ [wrap64 (Int.tdiv (wrap64 ((wrap64 ((rd x7 x8) + x216002)) - 1)) x216002)]) x7 (wrap64 (x8 + 1)) x216000 x216001 x216002) else (none)))) else (none)) else (some (x6, true))
end
def spec_LashingsNeeded.f (k : Nat) (l0 : List Int) (a1_0 : Int) (a1_1 : Int) (a1_2 : Int) : Option (List Int × Bool) := (some (([] : List Int) : List Int)).bind fun y216 => ((spec_l12Good.f k l0).bind fun t219 => (if t219 = true then ((spec_l12Rules.f a1_0 a1_1 a1_2).bind fun t220 => (spec_LashingsNeeded.j0 k l0 y216 (!t220) a1_0 a1_1 a1_2)) else (spec_LashingsNeeded.j0 k l0 y216 true a1_0 a1_1 a1_2)))
set_option maxHeartbeats 8000000 in
set_option maxRecDepth 100000 in
theorem spec_LashingsNeeded.calls (k : Nat) (A0 : Option Addr) (c0 : Nat) (l0 : List Int) (a1_0 : Int) (a1_1 : Int) (a1_2 : Int) (r1 : List Int) (r2 : Bool) (w : World) (hr0 : Kd.C (Kd.int .i64) w A0 l0.length l0) (hc0 : l0.length ≤ c0) (h : spec_LashingsNeeded.f k l0 a1_0 a1_1 a1_2 = some (r1, r2)) :
  Calls Try.prog 19 #[.slice A0 l0.length c0, .agg #[.int .i64 a1_0, .int .i64 a1_1, .int .i64 a1_2]] w fun e w' => ∃ v0_ : Value, e = .returned (.tuple #[v0_, .bool r2]) ∧ Kd.R (Kd.int .i64) 3 w' w.heap.size (fun _ => True) v0_ r1 ∧ Below w.heap.size w w' := by
 have hu28 := Try.underlying28
 have HR0 := zM hr0
 have HC0 := zM hc0
 clear hr0 hc0
 have HB := zM (Below.refl w.heap.size w)
 have H : ((some (([] : List Int) : List Int)).bind fun y216 => ((spec_l12Good.f k l0).bind fun t219 => (if t219 = true then ((spec_l12Rules.f a1_0 a1_1 a1_2).bind fun t220 => (spec_LashingsNeeded.j0 k l0 y216 (!t220) a1_0 a1_1 a1_2)) else (spec_LashingsNeeded.j0 k l0 y216 true a1_0 a1_1 a1_2)))) = some (r1, r2) := h
 clear h
 obtain ⟨y216, hy216⟩ : ∃ y_ : List Int, y_ = (([] : List Int)) := ⟨_, rfl⟩
 replace H : ((spec_l12Good.f k l0).bind fun t219 => (if t219 = true then ((spec_l12Rules.f a1_0 a1_1 a1_2).bind fun t220 => (spec_LashingsNeeded.j0 k l0 y216 (!t220) a1_0 a1_1 a1_2)) else (spec_LashingsNeeded.j0 k l0 y216 true a1_0 a1_1 a1_2))) = some (r1, r2) := by first | (rw [hy216]; with_reducible exact H) | (have H2_ := (Option.bind_some _ _).symm.trans H; rw [hy216]; with_reducible exact H2_) | (have H2_ := (Option.bind_some _ _).symm.trans H; with_reducible exact H2_) | with_reducible exact H | (rw [hy216]; exact H) | exact H
 have Ny216 := zM hy216
 clear hy216
 have HC3 := zM H
 clear H
 go_enter Try.func19, Try.ntmps19
 go_upto_region 2 with (first | ((with_reducible refine gate_dst (N := 3) rfl ?_); refine box_event ?hg (N := 3) ?hd (cs := #[.int .i64 a1_0, .int .i64 a1_1, .int .i64 a1_2]) (t := 28) ?hr ?_; (case hd => rfl); (case hg => rfl); (case hr => first | (go_simp; done) | (go_simp; rfl)); intro gb215 hg w4 hbox hb; have n0_ := zM (zQ (by repeat (first | (with_reducible first | exact HB.out | apply zD | apply zE | apply zF) | exact HB.out)) hb); have n1_ := zM (hbox); have n2_ := zM ((by rw [hg]; exact (zR (by repeat (first | (with_reducible first | exact HB.out | apply zD | apply zE | apply zF) | exact HB.out))) : w.heap.size ≤ gb215)); have n3_ := zM ((by rw [hg]; exact (zR (by repeat (first | (with_reducible first | exact HB.out | apply zD | apply zE | apply zF) | exact HB.out))) : w.heap.size ≤ gb215)); clear HB; have HB := n0_; have BK215 := n1_; have GW215 := n2_; have GE215 := n3_; clear n0_ n1_ n2_ n3_; clear hb hbox hg) | ((with_reducible refine gate_dst (N := 10) rfl ?_); refine Kd.R_lit (Kd.int .i64) _ 3 ?hg (N := 10) ?hd (xs := ([] : List Int)) (inner := []) (ok := fun _ => True) (okp := fun _ => True) ?hr ?hp (fun _ hk => hk) trivial (Below.refl _ _) (Nat.le_refl _) (by simp) ?_; (case hd => rfl); (case hg => rfl); (case hr => first | (go_simp; done) | (go_simp; rfl)); (case hp => exact (Reps.none _ _)); intro v217 w5 ho6 hb hg_ hnew_; clear hg_ hnew_; (first | rw [← Ny216.out] at ho6 | (simp only [Int.reduceToNat] at ho6; rw [← Ny216.out] at ho6)); have n0_ := zM (Kd.R_lower ho6 (zR (by repeat (first | (with_reducible first | exact HB.out | apply zD | apply zE | apply zF | refine below_set ?_ GE215.out) | exact HB.out)))); have n1_ := zM (blk_below (g := gb215) (o := .cells #[.int .i64 a1_0, .int .i64 a1_1, .int .i64 a1_2] 28 (0, 0)) (by (with_reducible repeat (first | refine zJ ?_ _ | refine zK ?_ | refine zL ?_ _)); exact BK215.out) hb); have n2_ := zM (zQ (by repeat (first | (with_reducible first | exact HB.out | apply zD | apply zE | apply zF | refine below_set ?_ GE215.out) | exact HB.out)) hb); clear BK215; clear HB; have HO218 := n0_; have BK215 := n1_; have HB := n2_; clear n0_ n1_ n2_; clear hb ho6))
 repeat (go_quiet (first | ((with_reducible refine gate_dst (N := 3) rfl ?_); refine box_event ?hg (N := 3) ?hd (cs := #[.int .i64 a1_0, .int .i64 a1_1, .int .i64 a1_2]) (t := 28) ?hr ?_; (case hd => rfl); (case hg => rfl); (case hr => first | (go_simp; done) | (go_simp; rfl)); intro gb215 hg w4 hbox hb; have n0_ := zM (zQ (by repeat (first | (with_reducible first | exact HB.out | apply zD | apply zE | apply zF) | exact HB.out)) hb); have n1_ := zM (hbox); have n2_ := zM ((by rw [hg]; exact (zR (by repeat (first | (with_reducible first | exact HB.out | apply zD | apply zE | apply zF) | exact HB.out))) : w.heap.size ≤ gb215)); have n3_ := zM ((by rw [hg]; exact (zR (by repeat (first | (with_reducible first | exact HB.out | apply zD | apply zE | apply zF) | exact HB.out))) : w.heap.size ≤ gb215)); clear HB; have HB := n0_; have BK215 := n1_; have GW215 := n2_; have GE215 := n3_; clear n0_ n1_ n2_ n3_; clear hb hbox hg) | ((with_reducible refine gate_dst (N := 10) rfl ?_); refine Kd.R_lit (Kd.int .i64) _ 3 ?hg (N := 10) ?hd (xs := ([] : List Int)) (inner := []) (ok := fun _ => True) (okp := fun _ => True) ?hr ?hp (fun _ hk => hk) trivial (Below.refl _ _) (Nat.le_refl _) (by simp) ?_; (case hd => rfl); (case hg => rfl); (case hr => first | (go_simp; done) | (go_simp; rfl)); (case hp => exact (Reps.none _ _)); intro v217 w5 ho6 hb hg_ hnew_; clear hg_ hnew_; (first | rw [← Ny216.out] at ho6 | (simp only [Int.reduceToNat] at ho6; rw [← Ny216.out] at ho6)); have n0_ := zM (Kd.R_lower ho6 (zR (by repeat (first | (with_reducible first | exact HB.out | apply zD | apply zE | apply zF | refine below_set ?_ GE215.out) | exact HB.out)))); have n1_ := zM (blk_below (g := gb215) (o := .cells #[.int .i64 a1_0, .int .i64 a1_1, .int .i64 a1_2] 28 (0, 0)) (by (with_reducible repeat (first | refine zJ ?_ _ | refine zK ?_ | refine zL ?_ _)); exact BK215.out) hb); have n2_ := zM (zQ (by repeat (first | (with_reducible first | exact HB.out | apply zD | apply zE | apply zF | refine below_set ?_ GE215.out) | exact HB.out)) hb); clear BK215; clear HB; have HO218 := n0_; have BK215 := n1_; have HB := n2_; clear n0_ n1_ n2_; clear hb ho6)); go_upto_region 2 with (first | ((with_reducible refine gate_dst (N := 3) rfl ?_); refine box_event ?hg (N := 3) ?hd (cs := #[.int .i64 a1_0, .int .i64 a1_1, .int .i64 a1_2]) (t := 28) ?hr ?_; (case hd => rfl); (case hg => rfl); (case hr => first | (go_simp; done) | (go_simp; rfl)); intro gb215 hg w4 hbox hb; have n0_ := zM (zQ (by repeat (first | (with_reducible first | exact HB.out | apply zD | apply zE | apply zF) | exact HB.out)) hb); have n1_ := zM (hbox); have n2_ := zM ((by rw [hg]; exact (zR (by repeat (first | (with_reducible first | exact HB.out | apply zD | apply zE | apply zF) | exact HB.out))) : w.heap.size ≤ gb215)); have n3_ := zM ((by rw [hg]; exact (zR (by repeat (first | (with_reducible first | exact HB.out | apply zD | apply zE | apply zF) | exact HB.out))) : w.heap.size ≤ gb215)); clear HB; have HB := n0_; have BK215 := n1_; have GW215 := n2_; have GE215 := n3_; clear n0_ n1_ n2_ n3_; clear hb hbox hg) | ((with_reducible refine gate_dst (N := 10) rfl ?_); refine Kd.R_lit (Kd.int .i64) _ 3 ?hg (N := 10) ?hd (xs := ([] : List Int)) (inner := []) (ok := fun _ => True) (okp := fun _ => True) ?hr ?hp (fun _ hk => hk) trivial (Below.refl _ _) (Nat.le_refl _) (by simp) ?_; (case hd => rfl); (case hg => rfl); (case hr => first | (go_simp; done) | (go_simp; rfl)); (case hp => exact (Reps.none _ _)); intro v217 w5 ho6 hb hg_ hnew_; clear hg_ hnew_; (first | rw [← Ny216.out] at ho6 | (simp only [Int.reduceToNat] at ho6; rw [← Ny216.out] at ho6)); have n0_ := zM (Kd.R_lower ho6 (zR (by repeat (first | (with_reducible first | exact HB.out | apply zD | apply zE | apply zF | refine below_set ?_ GE215.out) | exact HB.out)))); have n1_ := zM (blk_below (g := gb215) (o := .cells #[.int .i64 a1_0, .int .i64 a1_1, .int .i64 a1_2] 28 (0, 0)) (by (with_reducible repeat (first | refine zJ ?_ _ | refine zK ?_ | refine zL ?_ _)); exact BK215.out) hb); have n2_ := zM (zQ (by repeat (first | (with_reducible first | exact HB.out | apply zD | apply zE | apply zF | refine below_set ?_ GE215.out) | exact HB.out)) hb); clear BK215; clear HB; have HO218 := n0_; have BK215 := n1_; have HB := n2_; clear n0_ n1_ n2_; clear hb ho6)))
 (try simp only [Act.put, List.setIfInBounds_toArray, List.set_cons_zero, List.set_cons_succ])
 go_cut [18] (fun v18 wc => ∃ (kq : Nat) (x18_2 : Bool), v18 = .bool x18_2 ∧ Aside0 (spec_LashingsNeeded.j0 kq l0 y216 x18_2 a1_0 a1_1 a1_2 = some (r1, r2)) ∧ Aside0 (kq ≤ k) ∧ Aside0 (Kd.R (Kd.int .i64) 3 wc w.heap.size (fun _ => True) v217 y216) ∧ Aside0 (wc.heap[gb215]? = some (.cells #[.int .i64 a1_0, .int .i64 a1_1, .int .i64 a1_2] 28 (0, 0))) ∧ Aside0 (Below w.heap.size w wc))
 case first =>
  have H := HC3.out
  clear HC3
  replace H := Option.bind_eq_some_iff.mp H
  obtain ⟨t219, A70, H⟩ := H
  replace H : (if t219 = true then ((spec_l12Rules.f a1_0 a1_1 a1_2).bind fun t220 => (spec_LashingsNeeded.j0 k l0 y216 (!t220) a1_0 a1_1 a1_2)) else (spec_LashingsNeeded.j0 k l0 y216 true a1_0 a1_1 a1_2)) = some (r1, r2) := H
  have A7 := zM A70
  clear A70
  by_cases c8 : t219 = true
  ·subst c8
   have H1 : ((spec_l12Rules.f a1_0 a1_1 a1_2).bind fun t220 => (spec_LashingsNeeded.j0 k l0 y216 (!t220) a1_0 a1_1 a1_2)) = some (r1, r2) := by rw [if_pos rfl] at H; exact H
   clear H
   have H := H1
   clear H1
   replace H := Option.bind_eq_some_iff.mp H
   obtain ⟨t220, A90, H⟩ := H
   replace H : (spec_LashingsNeeded.j0 k l0 y216 (!t220) a1_0 a1_1 a1_2) = some (r1, r2) := H
   have A9 := zM A90
   clear A90
   have H' := zM H
   clear H
   go_wp2_with (first | (go_at_call 44; (with_reducible refine (spec_l12Good.calls k _ _ l0 true _ ?side1 ?side2 A7.out).mono ?_); (case side1 => repeat (first | exact (zO HR0.out HB.out) | (with_reducible refine zG ?_ _) | (with_reducible refine zH ?_ _) | (with_reducible refine zI ?_))); (case side2 => exact HC0.out); rintro e w' ⟨rfl, ⟨nd, rfl⟩⟩; (try first | exact ⟨rfl, _, World.drewN_drewN _ _ _⟩ | exact ⟨rfl, _, Eq.trans (World.drewN_drewN _ _ _) (congrArg (World.drewN _) (Nat.add_assoc _ _ _))⟩); have hcz10_0 : w5.cell? ⟨gb215, 0, none⟩ = some (.int .i64 a1_0) := (blk_cell BK215.out 0).trans rfl; have hcz10_1 : w5.cell? ⟨gb215, 1, none⟩ = some (.int .i64 a1_1) := (blk_cell BK215.out 1).trans rfl; have hcz10_2 : w5.cell? ⟨gb215, 2, none⟩ = some (.int .i64 a1_2) := (blk_cell BK215.out 2).trans rfl; have hfz10_0 := blk_frozen BK215.out 0; have hfz10_1 := blk_frozen BK215.out 1; have hfz10_2 := blk_frozen BK215.out 2) | (go_at_call 45; (with_reducible refine (spec_l12Rules.calls a1_0 a1_1 a1_2 t220 _ A9.out).mono ?_); rintro e w11 ⟨rfl, hb⟩; have n0_ := zM (zP (by (with_reducible repeat (first | apply zA | apply zB | apply zC)); exact HO218.out) hb); have n1_ := zM (blk_below (g := gb215) (o := .cells #[.int .i64 a1_0, .int .i64 a1_1, .int .i64 a1_2] 28 (0, 0)) (by (with_reducible repeat (first | refine zJ ?_ _ | refine zK ?_ | refine zL ?_ _)); exact BK215.out) hb); have n2_ := zM (zQ (by repeat (first | (with_reducible first | exact HB.out | apply zD | apply zE | apply zF | refine below_set ?_ GE215.out) | exact HB.out)) hb); clear HO218; clear BK215; clear HB; have HO218 := n0_; have BK215 := n1_; have HB := n2_; clear n0_ n1_ n2_; (try clear hb); (try clear hb2); (try clear hk); (try clear hi)))
   repeat (go_quiet (first | (go_at_call 44; (with_reducible refine (spec_l12Good.calls k _ _ l0 true _ ?side1 ?side2 A7.out).mono ?_); (case side1 => repeat (first | exact (zO HR0.out HB.out) | (with_reducible refine zG ?_ _) | (with_reducible refine zH ?_ _) | (with_reducible refine zI ?_))); (case side2 => exact HC0.out); rintro e w' ⟨rfl, ⟨nd, rfl⟩⟩; (try first | exact ⟨rfl, _, World.drewN_drewN _ _ _⟩ | exact ⟨rfl, _, Eq.trans (World.drewN_drewN _ _ _) (congrArg (World.drewN _) (Nat.add_assoc _ _ _))⟩); have hcz10_0 : w5.cell? ⟨gb215, 0, none⟩ = some (.int .i64 a1_0) := (blk_cell BK215.out 0).trans rfl; have hcz10_1 : w5.cell? ⟨gb215, 1, none⟩ = some (.int .i64 a1_1) := (blk_cell BK215.out 1).trans rfl; have hcz10_2 : w5.cell? ⟨gb215, 2, none⟩ = some (.int .i64 a1_2) := (blk_cell BK215.out 2).trans rfl; have hfz10_0 := blk_frozen BK215.out 0; have hfz10_1 := blk_frozen BK215.out 1; have hfz10_2 := blk_frozen BK215.out 2) | (go_at_call 45; (with_reducible refine (spec_l12Rules.calls a1_0 a1_1 a1_2 t220 _ A9.out).mono ?_); rintro e w11 ⟨rfl, hb⟩; have n0_ := zM (zP (by (with_reducible repeat (first | apply zA | apply zB | apply zC)); exact HO218.out) hb); have n1_ := zM (blk_below (g := gb215) (o := .cells #[.int .i64 a1_0, .int .i64 a1_1, .int .i64 a1_2] 28 (0, 0)) (by (with_reducible repeat (first | refine zJ ?_ _ | refine zK ?_ | refine zL ?_ _)); exact BK215.out) hb); have n2_ := zM (zQ (by repeat (first | (with_reducible first | exact HB.out | apply zD | apply zE | apply zF | refine below_set ?_ GE215.out) | exact HB.out)) hb); clear HO218; clear BK215; clear HB; have HO218 := n0_; have BK215 := n1_; have HB := n2_; clear n0_ n1_ n2_; (try clear hb); (try clear hb2); (try clear hk); (try clear hi))); try go_wp2_with (first | (go_at_call 44; (with_reducible refine (spec_l12Good.calls k _ _ l0 true _ ?side1 ?side2 A7.out).mono ?_); (case side1 => repeat (first | exact (zO HR0.out HB.out) | (with_reducible refine zG ?_ _) | (with_reducible refine zH ?_ _) | (with_reducible refine zI ?_))); (case side2 => exact HC0.out); rintro e w' ⟨rfl, ⟨nd, rfl⟩⟩; (try first | exact ⟨rfl, _, World.drewN_drewN _ _ _⟩ | exact ⟨rfl, _, Eq.trans (World.drewN_drewN _ _ _) (congrArg (World.drewN _) (Nat.add_assoc _ _ _))⟩); have hcz10_0 : w5.cell? ⟨gb215, 0, none⟩ = some (.int .i64 a1_0) := (blk_cell BK215.out 0).trans rfl; have hcz10_1 : w5.cell? ⟨gb215, 1, none⟩ = some (.int .i64 a1_1) := (blk_cell BK215.out 1).trans rfl; have hcz10_2 : w5.cell? ⟨gb215, 2, none⟩ = some (.int .i64 a1_2) := (blk_cell BK215.out 2).trans rfl; have hfz10_0 := blk_frozen BK215.out 0; have hfz10_1 := blk_frozen BK215.out 1; have hfz10_2 := blk_frozen BK215.out 2) | (go_at_call 45; (with_reducible refine (spec_l12Rules.calls a1_0 a1_1 a1_2 t220 _ A9.out).mono ?_); rintro e w11 ⟨rfl, hb⟩; have n0_ := zM (zP (by (with_reducible repeat (first | apply zA | apply zB | apply zC)); exact HO218.out) hb); have n1_ := zM (blk_below (g := gb215) (o := .cells #[.int .i64 a1_0, .int .i64 a1_1, .int .i64 a1_2] 28 (0, 0)) (by (with_reducible repeat (first | refine zJ ?_ _ | refine zK ?_ | refine zL ?_ _)); exact BK215.out) hb); have n2_ := zM (zQ (by repeat (first | (with_reducible first | exact HB.out | apply zD | apply zE | apply zF | refine below_set ?_ GE215.out) | exact HB.out)) hb); clear HO218; clear BK215; clear HB; have HO218 := n0_; have BK215 := n1_; have HB := n2_; clear n0_ n1_ n2_; (try clear hb); (try clear hb2); (try clear hk); (try clear hi))))
   go_meet
   case rel => exact ⟨_, (!t220), (by first | rfl | (simp; done) | (simp [*]; done)), H', ⟨by first | omega | exact Nat.le_refl _⟩, ⟨by (with_reducible repeat (first | apply zA | apply zB | apply zC)); exact HO218.out⟩, ⟨by (with_reducible repeat (first | refine zJ ?_ _ | refine zK ?_ | refine zL ?_ _)); exact BK215.out⟩, ⟨by repeat (first | (with_reducible first | exact HB.out | apply zD | apply zE | apply zF | refine below_set ?_ GE215.out) | exact HB.out)⟩⟩
  ·replace c8 := Bool.eq_false_iff.mpr c8
   subst c8
   have H1 : (spec_LashingsNeeded.j0 k l0 y216 true a1_0 a1_1 a1_2) = some (r1, r2) := by rw [if_neg (show ¬ (false = true) by decide)] at H; exact H
   clear H
   have H := H1
   clear H1
   have H' := zM H
   clear H
   go_wp2_with (first | (go_at_call 44; (with_reducible refine (spec_l12Good.calls k _ _ l0 false _ ?side1 ?side2 A7.out).mono ?_); (case side1 => repeat (first | exact (zO HR0.out HB.out) | (with_reducible refine zG ?_ _) | (with_reducible refine zH ?_ _) | (with_reducible refine zI ?_))); (case side2 => exact HC0.out); rintro e w' ⟨rfl, ⟨nd, rfl⟩⟩; (try first | exact ⟨rfl, _, World.drewN_drewN _ _ _⟩ | exact ⟨rfl, _, Eq.trans (World.drewN_drewN _ _ _) (congrArg (World.drewN _) (Nat.add_assoc _ _ _))⟩)))
   repeat (go_quiet (first | (go_at_call 44; (with_reducible refine (spec_l12Good.calls k _ _ l0 false _ ?side1 ?side2 A7.out).mono ?_); (case side1 => repeat (first | exact (zO HR0.out HB.out) | (with_reducible refine zG ?_ _) | (with_reducible refine zH ?_ _) | (with_reducible refine zI ?_))); (case side2 => exact HC0.out); rintro e w' ⟨rfl, ⟨nd, rfl⟩⟩; (try first | exact ⟨rfl, _, World.drewN_drewN _ _ _⟩ | exact ⟨rfl, _, Eq.trans (World.drewN_drewN _ _ _) (congrArg (World.drewN _) (Nat.add_assoc _ _ _))⟩))); try go_wp2_with (first | (go_at_call 44; (with_reducible refine (spec_l12Good.calls k _ _ l0 false _ ?side1 ?side2 A7.out).mono ?_); (case side1 => repeat (first | exact (zO HR0.out HB.out) | (with_reducible refine zG ?_ _) | (with_reducible refine zH ?_ _) | (with_reducible refine zI ?_))); (case side2 => exact HC0.out); rintro e w' ⟨rfl, ⟨nd, rfl⟩⟩; (try first | exact ⟨rfl, _, World.drewN_drewN _ _ _⟩ | exact ⟨rfl, _, Eq.trans (World.drewN_drewN _ _ _) (congrArg (World.drewN _) (Nat.add_assoc _ _ _))⟩))))
   go_meet
   case rel => exact ⟨_, (true), (by first | rfl | (simp; done) | (simp [*]; done)), H', ⟨by first | omega | exact Nat.le_refl _⟩, ⟨by (with_reducible repeat (first | apply zA | apply zB | apply zC)); exact HO218.out⟩, ⟨by (with_reducible repeat (first | refine zJ ?_ _ | refine zK ?_ | refine zL ?_ _)); exact BK215.out⟩, ⟨by repeat (first | (with_reducible first | exact HB.out | apply zD | apply zE | apply zF | refine below_set ?_ GE215.out) | exact HB.out)⟩⟩
 case rest =>
  clear HC3
  try clear c1
  try clear p2
  try clear c8
  try clear hcz10_0
  try clear hcz10_1
  try clear hcz10_2
  try clear hfz10_0
  try clear hfz10_1
  try clear hfz10_2
  obtain ⟨kq, x18_2, rfl, HA, HJ2, HO_6, BK215, HB⟩ := hcut
  cases kq with
  | zero => exact absurd HA.out (by simp [spec_LashingsNeeded.j0])
  | succ kj2 =>
   have H := HA.out
   clear HA
   simp only [spec_LashingsNeeded.j0] at H
   by_cases c12 : x18_2 = true
   ·subst c12
    have H1 : (some (y216, false)) = some (r1, r2) := by rw [if_pos rfl] at H; exact H
    clear H
    have H := H1
    clear H1
    simp only [Option.some.injEq, Prod.mk.injEq] at H
    obtain ⟨rfl, rfl⟩ := H
    go_wp2
    repeat (go_quiet (fail); try go_wp2)
    go_ret2
    exact ⟨_, by first | rfl | (simp [errW_none, errW_some] <;> rfl) | (simp [*, errW_none, errW_some] <;> rfl), by (with_reducible repeat (first | apply zA | apply zB | apply zC)); exact HO_6.out, by repeat (first | (with_reducible first | exact HB.out | apply zD | apply zE | apply zF | refine below_set ?_ GE215.out) | exact HB.out)⟩
   ·replace c12 := Bool.eq_false_iff.mpr c12
    subst c12
    have H1 : ((spec_l12Forces.f kj2 l0 a1_1).bind fun t221 => (spec_LashingsNeeded.l0 kj2 y216 t221 0 a1_0 a1_1 a1_2)) = some (r1, r2) := by rw [if_neg (show ¬ (false = true) by decide)] at H; exact H
    clear H
    have H := H1
    clear H1
    replace H := Option.bind_eq_some_iff.mp H
    obtain ⟨t221, A130, H⟩ := H
    replace H : (spec_LashingsNeeded.l0 kj2 y216 t221 0 a1_0 a1_1 a1_2) = some (r1, r2) := H
    have A13 := zM A130
    clear A130
    have H' := zM H
    clear H
    have hcz14_0 : wc.cell? ⟨gb215, 0, none⟩ = some (.int .i64 a1_0) := (blk_cell BK215.out 0).trans rfl
    have hcz14_1 : wc.cell? ⟨gb215, 1, none⟩ = some (.int .i64 a1_1) := (blk_cell BK215.out 1).trans rfl
    have hcz14_2 : wc.cell? ⟨gb215, 2, none⟩ = some (.int .i64 a1_2) := (blk_cell BK215.out 2).trans rfl
    have hfz14_0 := blk_frozen BK215.out 0
    have hfz14_1 := blk_frozen BK215.out 1
    have hfz14_2 := blk_frozen BK215.out 2
    go_wp2_with (first | (go_at_call 46; (with_reducible refine (spec_l12Forces.calls kj2 _ _ l0 a1_1 t221 _ ?side1 ?side2 A13.out).mono ?_); (case side1 => repeat (first | exact (zO HR0.out HB.out) | (with_reducible refine zG ?_ _) | (with_reducible refine zH ?_ _) | (with_reducible refine zI ?_))); (case side2 => exact HC0.out); rintro e w15 ⟨v222, rfl, ho0, hb⟩; have n0_ := zM (Kd.R_elder' (by (with_reducible repeat (first | apply zA | apply zB | apply zC)); exact HO_6.out) (Kd.R_base ho0) hb); have n1_ := zM (Kd.R_lower (Kd.R_new' ho0 (Kd.R_lt (by (with_reducible repeat (first | apply zA | apply zB | apply zC)); exact HO_6.out))) (zR (by repeat (first | (with_reducible first | exact HB.out | apply zD | apply zE | apply zF | refine below_set ?_ GE215.out) | exact HB.out)))); have n2_ := zM (blk_below (g := gb215) (o := .cells #[.int .i64 a1_0, .int .i64 a1_1, .int .i64 a1_2] 28 (0, 0)) (by (with_reducible repeat (first | refine zJ ?_ _ | refine zK ?_ | refine zL ?_ _)); exact BK215.out) hb); have n3_ := zM (zQ (by repeat (first | (with_reducible first | exact HB.out | apply zD | apply zE | apply zF | refine below_set ?_ GE215.out) | exact HB.out)) hb); clear HO_6; clear BK215; clear HB; have HO_6 := n0_; have HO223 := n1_; have BK215 := n2_; have HB := n3_; clear n0_ n1_ n2_ n3_; (try clear hb); (try clear hb2); (try clear hk); (try clear hi); (try clear ho0)))
    repeat (go_quiet (first | (go_at_call 46; (with_reducible refine (spec_l12Forces.calls kj2 _ _ l0 a1_1 t221 _ ?side1 ?side2 A13.out).mono ?_); (case side1 => repeat (first | exact (zO HR0.out HB.out) | (with_reducible refine zG ?_ _) | (with_reducible refine zH ?_ _) | (with_reducible refine zI ?_))); (case side2 => exact HC0.out); rintro e w15 ⟨v222, rfl, ho0, hb⟩; have n0_ := zM (Kd.R_elder' (by (with_reducible repeat (first | apply zA | apply zB | apply zC)); exact HO_6.out) (Kd.R_base ho0) hb); have n1_ := zM (Kd.R_lower (Kd.R_new' ho0 (Kd.R_lt (by (with_reducible repeat (first | apply zA | apply zB | apply zC)); exact HO_6.out))) (zR (by repeat (first | (with_reducible first | exact HB.out | apply zD | apply zE | apply zF | refine below_set ?_ GE215.out) | exact HB.out)))); have n2_ := zM (blk_below (g := gb215) (o := .cells #[.int .i64 a1_0, .int .i64 a1_1, .int .i64 a1_2] 28 (0, 0)) (by (with_reducible repeat (first | refine zJ ?_ _ | refine zK ?_ | refine zL ?_ _)); exact BK215.out) hb); have n3_ := zM (zQ (by repeat (first | (with_reducible first | exact HB.out | apply zD | apply zE | apply zF | refine below_set ?_ GE215.out) | exact HB.out)) hb); clear HO_6; clear BK215; clear HB; have HO_6 := n0_; have HO223 := n1_; have BK215 := n2_; have HB := n3_; clear n0_ n1_ n2_ n3_; (try clear hb); (try clear hb2); (try clear hk); (try clear hi); (try clear ho0))); try go_wp2_with (first | (go_at_call 46; (with_reducible refine (spec_l12Forces.calls kj2 _ _ l0 a1_1 t221 _ ?side1 ?side2 A13.out).mono ?_); (case side1 => repeat (first | exact (zO HR0.out HB.out) | (with_reducible refine zG ?_ _) | (with_reducible refine zH ?_ _) | (with_reducible refine zI ?_))); (case side2 => exact HC0.out); rintro e w15 ⟨v222, rfl, ho0, hb⟩; have n0_ := zM (Kd.R_elder' (by (with_reducible repeat (first | apply zA | apply zB | apply zC)); exact HO_6.out) (Kd.R_base ho0) hb); have n1_ := zM (Kd.R_lower (Kd.R_new' ho0 (Kd.R_lt (by (with_reducible repeat (first | apply zA | apply zB | apply zC)); exact HO_6.out))) (zR (by repeat (first | (with_reducible first | exact HB.out | apply zD | apply zE | apply zF | refine below_set ?_ GE215.out) | exact HB.out)))); have n2_ := zM (blk_below (g := gb215) (o := .cells #[.int .i64 a1_0, .int .i64 a1_1, .int .i64 a1_2] 28 (0, 0)) (by (with_reducible repeat (first | refine zJ ?_ _ | refine zK ?_ | refine zL ?_ _)); exact BK215.out) hb); have n3_ := zM (zQ (by repeat (first | (with_reducible first | exact HB.out | apply zD | apply zE | apply zF | refine below_set ?_ GE215.out) | exact HB.out)) hb); clear HO_6; clear BK215; clear HB; have HO_6 := n0_; have HO223 := n1_; have BK215 := n2_; have HB := n3_; clear n0_ n1_ n2_ n3_; (try clear hb); (try clear hb2); (try clear hk); (try clear hi); (try clear ho0))))
    go_loopg [6, 8] kj2 (fun kq v6 v8 w' => ∃ (x6_2 : List Int) (x8_2 : Int), v8 = .int .i64 x8_2 ∧ Aside0 (spec_LashingsNeeded.l0 kq x6_2 t221 x8_2 a1_0 a1_1 a1_2 = some (r1, r2)) ∧ Aside0 (kq ≤ kj2) ∧ Aside0 (Kd.R (Kd.int .i64) 3 w' w.heap.size (fun k_ => some k_ ≠ (v222 : Value).ownBlock) v6 x6_2) ∧ Aside0 (Kd.R (Kd.int .i64) 3 w' w.heap.size (fun k_ => some k_ ≠ (v6 : Value).ownBlock) v222 t221) ∧ Aside0 (w'.heap[gb215]? = some (.cells #[.int .i64 a1_0, .int .i64 a1_1, .int .i64 a1_2] 28 (0, 0))) ∧ Aside0 (Below w.heap.size w w'))
    case atStart => exact ⟨(y216), (0), (by first | rfl | (simp; done) | (simp [*]; done)), H', ⟨Nat.le_refl _⟩, ⟨by (with_reducible repeat (first | apply zA | apply zB | apply zC)); exact Kd.R_mono HO_6.out (fun _ hk => hk.2)⟩, ⟨by (with_reducible repeat (first | apply zA | apply zB | apply zC)); exact Kd.R_mono HO223.out (fun _ hk => hk.2)⟩, ⟨by (with_reducible repeat (first | refine zJ ?_ _ | refine zK ?_ | refine zL ?_ _)); exact BK215.out⟩, ⟨by repeat (first | (with_reducible first | exact HB.out | apply zD | apply zE | apply zF | refine below_set ?_ GE215.out) | exact HB.out)⟩⟩
    case round =>
     clear H'
     try clear c1
     try clear p2
     try clear c8
     try clear c12
     try clear hcz10_0
     try clear hcz10_1
     try clear hcz10_2
     try clear hcz14_0
     try clear hcz14_1
     try clear hcz14_2
     try clear hfz10_0
     try clear hfz10_1
     try clear hfz10_2
     try clear hfz14_0
     try clear hfz14_1
     try clear hfz14_2
     try clear p2
     obtain ⟨x6_2, x8_2, rfl, HA, HK2, HO_6, HO_7, BK215, HB⟩ := hrel
     cases gk with
     | zero => exact absurd HA.out (by simp [spec_LashingsNeeded.l0])
     | succ k2 =>
      have H := HA.out
      clear HA
      simp only [spec_LashingsNeeded.l0] at H
      by_cases c16 : x8_2 < (t221.length : Int)
      ·rw [if_pos c16] at H
       have c16b0 : decide (x8_2 < (t221.length : Int)) = true := decide_eq_true c16
       clear c16
       by_cases c17 : 0 ≤ x8_2
       ·rw [if_pos c17] at H
        have c17b0 : decide (0 ≤ x8_2) = true := decide_eq_true c17
        clear c17
        by_cases c18 : a1_2 = 0
        ·rw [if_pos c18] at H
         exact absurd H (by simp)
        ·rw [if_neg c18] at H
         have c18b0 : (a1_2 == 0) = false := beq_eq_false_iff_ne.mpr c18
         have c18b1 : (a1_2 != 0) = true := bne_iff_ne.mpr c18
         by_cases c19 : (wrap64 (Int.tdiv (wrap64 ((wrap64 ((rd t221 x8_2) + a1_2)) - 1)) a1_2)) > 4
         ·rw [if_pos c19] at H
          have c19b0 : decide (4 < (wrap64 (Int.tdiv (wrap64 ((wrap64 ((rd t221 x8_2) + a1_2)) - 1)) a1_2))) = true := decide_eq_true c19
          clear c19
          obtain ⟨y225, hy225⟩ : ∃ y_ : List Int, y_ = (([] : List Int)) := ⟨_, rfl⟩
          replace H : (some (y225, false)) = some (r1, r2) := by first | (rw [hy225]; with_reducible exact H) | (have H2_ := (Option.bind_some _ _).symm.trans H; rw [hy225]; with_reducible exact H2_) | (have H2_ := (Option.bind_some _ _).symm.trans H; with_reducible exact H2_) | with_reducible exact H | (rw [hy225]; exact H) | exact H
          have Ny225 := zM hy225
          clear hy225
          simp only [Option.some.injEq, Prod.mk.injEq] at H
          obtain ⟨rfl, rfl⟩ := H
          obtain ⟨Ao20, co20, eo20⟩ := Kd.R_slice HO_7.out
          subst eo20
          have p224 : 0 ≤ (x8_2 : Int) := of_decide_eq_true (by first | (with_reducible assumption) | assumption)
          have q224 : x8_2 < (t221.length : Int) := of_decide_eq_true (by first | (with_reducible assumption) | assumption)
          obtain ⟨ad224, e224, hx224_0⟩ := Kd.at_int (zN HO_7.out).2.2 x8_2 p224 q224
          cases e224
          replace p224 := eq_true p224
          replace q224 := eq_true q224
          have hcz21_0 : wr.cell? ⟨gb215, 0, none⟩ = some (.int .i64 a1_0) := (blk_cell BK215.out 0).trans rfl
          have hcz21_1 : wr.cell? ⟨gb215, 1, none⟩ = some (.int .i64 a1_1) := (blk_cell BK215.out 1).trans rfl
          have hcz21_2 : wr.cell? ⟨gb215, 2, none⟩ = some (.int .i64 a1_2) := (blk_cell BK215.out 2).trans rfl
          have hfz21_0 := blk_frozen BK215.out 0
          have hfz21_1 := blk_frozen BK215.out 1
          have hfz21_2 := blk_frozen BK215.out 2
          go_wp2_with (first | ((with_reducible refine gate_dst (N := 43) rfl ?_); refine Kd.R_lit (Kd.int .i64) _ 3 ?hg (N := 43) ?hd (xs := ([] : List Int)) (inner := []) (ok := fun _ => True) (okp := fun _ => True) ?hr ?hp (fun _ hk => hk) trivial (Below.refl _ _) (Nat.le_refl _) (by simp) ?_; (case hd => rfl); (case hg => rfl); (case hr => first | (go_simp; done) | (go_simp; rfl)); (case hp => exact (Reps.none _ _)); intro v226 w22 ho23 hb hg_ hnew_; clear hg_ hnew_; (first | rw [← Ny225.out] at ho23 | (simp only [Int.reduceToNat] at ho23; rw [← Ny225.out] at ho23)); have n0_ := zM (Kd.R_elder' (by (with_reducible repeat (first | apply zA | apply zB | apply zC)); exact HO_6.out) (Kd.R_base ho23) hb); have n1_ := zM (Kd.R_elder' (by (with_reducible repeat (first | apply zA | apply zB | apply zC)); exact HO_7.out) (Kd.R_base ho23) hb); have n2_ := zM (Kd.R_lower (Kd.R_new' (Kd.R_new' ho23 (Kd.R_lt (by (with_reducible repeat (first | apply zA | apply zB | apply zC)); exact HO_6.out))) (Kd.R_lt (by (with_reducible repeat (first | apply zA | apply zB | apply zC)); exact HO_7.out))) (zR (by repeat (first | (with_reducible first | exact HB.out | apply zD | apply zE | apply zF | refine below_set ?_ GE215.out) | exact HB.out)))); have n3_ := zM (blk_below (g := gb215) (o := .cells #[.int .i64 a1_0, .int .i64 a1_1, .int .i64 a1_2] 28 (0, 0)) (by (with_reducible repeat (first | refine zJ ?_ _ | refine zK ?_ | refine zL ?_ _)); exact BK215.out) hb); have n4_ := zM (zQ (by repeat (first | (with_reducible first | exact HB.out | apply zD | apply zE | apply zF | refine below_set ?_ GE215.out) | exact HB.out)) hb); clear HO_6; clear HO_7; clear BK215; clear HB; have HO_6 := n0_; have HO_7 := n1_; have HO227 := n2_; have BK215 := n3_; have HB := n4_; clear n0_ n1_ n2_ n3_ n4_; clear hb ho23))
          repeat (go_quiet (first | ((with_reducible refine gate_dst (N := 43) rfl ?_); refine Kd.R_lit (Kd.int .i64) _ 3 ?hg (N := 43) ?hd (xs := ([] : List Int)) (inner := []) (ok := fun _ => True) (okp := fun _ => True) ?hr ?hp (fun _ hk => hk) trivial (Below.refl _ _) (Nat.le_refl _) (by simp) ?_; (case hd => rfl); (case hg => rfl); (case hr => first | (go_simp; done) | (go_simp; rfl)); (case hp => exact (Reps.none _ _)); intro v226 w22 ho23 hb hg_ hnew_; clear hg_ hnew_; (first | rw [← Ny225.out] at ho23 | (simp only [Int.reduceToNat] at ho23; rw [← Ny225.out] at ho23)); have n0_ := zM (Kd.R_elder' (by (with_reducible repeat (first | apply zA | apply zB | apply zC)); exact HO_6.out) (Kd.R_base ho23) hb); have n1_ := zM (Kd.R_elder' (by (with_reducible repeat (first | apply zA | apply zB | apply zC)); exact HO_7.out) (Kd.R_base ho23) hb); have n2_ := zM (Kd.R_lower (Kd.R_new' (Kd.R_new' ho23 (Kd.R_lt (by (with_reducible repeat (first | apply zA | apply zB | apply zC)); exact HO_6.out))) (Kd.R_lt (by (with_reducible repeat (first | apply zA | apply zB | apply zC)); exact HO_7.out))) (zR (by repeat (first | (with_reducible first | exact HB.out | apply zD | apply zE | apply zF | refine below_set ?_ GE215.out) | exact HB.out)))); have n3_ := zM (blk_below (g := gb215) (o := .cells #[.int .i64 a1_0, .int .i64 a1_1, .int .i64 a1_2] 28 (0, 0)) (by (with_reducible repeat (first | refine zJ ?_ _ | refine zK ?_ | refine zL ?_ _)); exact BK215.out) hb); have n4_ := zM (zQ (by repeat (first | (with_reducible first | exact HB.out | apply zD | apply zE | apply zF | refine below_set ?_ GE215.out) | exact HB.out)) hb); clear HO_6; clear HO_7; clear BK215; clear HB; have HO_6 := n0_; have HO_7 := n1_; have HO227 := n2_; have BK215 := n3_; have HB := n4_; clear n0_ n1_ n2_ n3_ n4_; clear hb ho23)); try go_wp2_with (first | ((with_reducible refine gate_dst (N := 43) rfl ?_); refine Kd.R_lit (Kd.int .i64) _ 3 ?hg (N := 43) ?hd (xs := ([] : List Int)) (inner := []) (ok := fun _ => True) (okp := fun _ => True) ?hr ?hp (fun _ hk => hk) trivial (Below.refl _ _) (Nat.le_refl _) (by simp) ?_; (case hd => rfl); (case hg => rfl); (case hr => first | (go_simp; done) | (go_simp; rfl)); (case hp => exact (Reps.none _ _)); intro v226 w22 ho23 hb hg_ hnew_; clear hg_ hnew_; (first | rw [← Ny225.out] at ho23 | (simp only [Int.reduceToNat] at ho23; rw [← Ny225.out] at ho23)); have n0_ := zM (Kd.R_elder' (by (with_reducible repeat (first | apply zA | apply zB | apply zC)); exact HO_6.out) (Kd.R_base ho23) hb); have n1_ := zM (Kd.R_elder' (by (with_reducible repeat (first | apply zA | apply zB | apply zC)); exact HO_7.out) (Kd.R_base ho23) hb); have n2_ := zM (Kd.R_lower (Kd.R_new' (Kd.R_new' ho23 (Kd.R_lt (by (with_reducible repeat (first | apply zA | apply zB | apply zC)); exact HO_6.out))) (Kd.R_lt (by (with_reducible repeat (first | apply zA | apply zB | apply zC)); exact HO_7.out))) (zR (by repeat (first | (with_reducible first | exact HB.out | apply zD | apply zE | apply zF | refine below_set ?_ GE215.out) | exact HB.out)))); have n3_ := zM (blk_below (g := gb215) (o := .cells #[.int .i64 a1_0, .int .i64 a1_1, .int .i64 a1_2] 28 (0, 0)) (by (with_reducible repeat (first | refine zJ ?_ _ | refine zK ?_ | refine zL ?_ _)); exact BK215.out) hb); have n4_ := zM (zQ (by repeat (first | (with_reducible first | exact HB.out | apply zD | apply zE | apply zF | refine below_set ?_ GE215.out) | exact HB.out)) hb); clear HO_6; clear HO_7; clear BK215; clear HB; have HO_6 := n0_; have HO_7 := n1_; have HO227 := n2_; have BK215 := n3_; have HB := n4_; clear n0_ n1_ n2_ n3_ n4_; clear hb ho23)))
          go_ret2
          exact ⟨_, by first | rfl | (simp [errW_none, errW_some] <;> rfl) | (simp [*, errW_none, errW_some] <;> rfl), by (with_reducible repeat (first | apply zA | apply zB | apply zC)); exact Kd.R_mono HO227.out (fun _ hk => trivial), by repeat (first | (with_reducible first | exact HB.out | apply zD | apply zE | apply zF | refine below_set ?_ GE215.out) | exact HB.out)⟩
         ·rw [if_neg c19] at H
          have c19b0 : decide (4 < (wrap64 (Int.tdiv (wrap64 ((wrap64 ((rd t221 x8_2) + a1_2)) - 1)) a1_2))) = false := decide_eq_false c19
          clear c19
          by_cases c24 : x6_2.length < 17592186044416
          ·rw [if_pos c24] at H
           have LMc24 := zM c24
           clear c24
           obtain ⟨y228, hy228⟩ : ∃ y_ : List Int, y_ = (x6_2 ++ [wrap64 (Int.tdiv (wrap64 ((wrap64 ((rd t221 x8_2) + a1_2)) - 1)) a1_2)]) := ⟨_, rfl⟩
           replace H : (spec_LashingsNeeded.l0 k2 y228 t221 (wrap64 (x8_2 + 1)) a1_0 a1_1 a1_2) = some (r1, r2) := by first | (rw [hy228]; with_reducible exact H) | (have H2_ := (Option.bind_some _ _).symm.trans H; rw [hy228]; with_reducible exact H2_) | (have H2_ := (Option.bind_some _ _).symm.trans H; with_reducible exact H2_) | with_reducible exact H | (rw [hy228]; exact H) | exact H
           have Ny228 := zM hy228
           clear hy228
           have H' := zM H
           clear H
           obtain ⟨Ao25, co25, eo25⟩ := Kd.R_slice HO_7.out
           subst eo25
           have p224 : 0 ≤ (x8_2 : Int) := of_decide_eq_true (by first | (with_reducible assumption) | assumption)
           have q224 : x8_2 < (t221.length : Int) := of_decide_eq_true (by first | (with_reducible assumption) | assumption)
           obtain ⟨ad224, e224, hx224_0⟩ := Kd.at_int (zN HO_7.out).2.2 x8_2 p224 q224
           cases e224
           replace p224 := eq_true p224
           replace q224 := eq_true q224
           have hcz26_0 : wr.cell? ⟨gb215, 0, none⟩ = some (.int .i64 a1_0) := (blk_cell BK215.out 0).trans rfl
           have hcz26_1 : wr.cell? ⟨gb215, 1, none⟩ = some (.int .i64 a1_1) := (blk_cell BK215.out 1).trans rfl
           have hcz26_2 : wr.cell? ⟨gb215, 2, none⟩ = some (.int .i64 a1_2) := (blk_cell BK215.out 2).trans rfl
           have hfz26_0 := blk_frozen BK215.out 0
           have hfz26_1 := blk_frozen BK215.out 1
           have hfz26_2 := blk_frozen BK215.out 2
           go_wp2_with (first | ((with_reducible refine gate_builtin (b := .append) (xs := #[.tmp 44, .tmp 46]) rfl ?_); at_builtin; refine Kd.R_append (Kd.int .i64) (w0 := w) w.heap.size rfl (.tmp 44) (.tmp 46) 22 3 (.int .i64 0) 8 rfl Try.underlying22 info3 rfl (by decide) (by omega) u6 x6_2 (wrap64 (Int.tdiv (wrap64 ((wrap64 ((rd t221 x8_2) + a1_2)) - 1)) a1_2)) [.int .i64 (wrap64 (Int.tdiv (wrap64 ((wrap64 ((rd t221 x8_2) + a1_2)) - 1)) a1_2))] (fun k_ => some k_ ≠ (.slice (some ad224) t221.length co25 : Value).ownBlock) (fun _ => False) rfl rfl ?aP (fun _ hk => hk.elim) ?aF ?aO ?aB ?aS ?aL ?_; (case aP => exact rfl); (case aB => exact (by repeat (first | (with_reducible first | exact HB.out | apply zD | apply zE | apply zF | refine below_set ?_ GE215.out) | exact HB.out))); (case aF => exact (fun k_ hk => Kd.fresh' (Kd.R_lt (by (with_reducible repeat (first | apply zA | apply zB | apply zC)); exact HO_7.out)) k_ hk)); (case aO => exact (by (with_reducible repeat (first | apply zA | apply zB | apply zC)); exact HO_6.out)); (case aS => exact (zR (by repeat (first | (with_reducible first | exact HB.out | apply zD | apply zE | apply zF | refine below_set ?_ GE215.out) | exact HB.out)))); (case aL => have := LMc24.out; omega); intro v229 w27 ho hb hg hat; rw [← Ny228.out] at ho; have n0_ := zM (Kd.R_after (ok := (fun _ => True)) (by (with_reducible repeat (first | apply zA | apply zB | apply zC)); exact Kd.R_mono HO_7.out (fun _ hk => ⟨trivial, hk⟩)) hg hat); have n1_ := zM (blk_grown (g := gb215) (o := .cells #[.int .i64 a1_0, .int .i64 a1_1, .int .i64 a1_2] 28 (0, 0)) (by (with_reducible repeat (first | refine zJ ?_ _ | refine zK ?_ | refine zL ?_ _)); exact BK215.out) hg (Kd.R_ne HO_6.out BK215.out (by decide))); have n2_ := zM (hb); have n3_ := zM (ho); clear HO_7; clear BK215; clear HB; clear HO_6; have HO_7 := n0_; have BK215 := n1_; have HB := n2_; have HO230 := n3_; clear n0_ n1_ n2_ n3_; clear ho hb hg hat))
           repeat (go_quiet (first | ((with_reducible refine gate_builtin (b := .append) (xs := #[.tmp 44, .tmp 46]) rfl ?_); at_builtin; refine Kd.R_append (Kd.int .i64) (w0 := w) w.heap.size rfl (.tmp 44) (.tmp 46) 22 3 (.int .i64 0) 8 rfl Try.underlying22 info3 rfl (by decide) (by omega) u6 x6_2 (wrap64 (Int.tdiv (wrap64 ((wrap64 ((rd t221 x8_2) + a1_2)) - 1)) a1_2)) [.int .i64 (wrap64 (Int.tdiv (wrap64 ((wrap64 ((rd t221 x8_2) + a1_2)) - 1)) a1_2))] (fun k_ => some k_ ≠ (.slice (some ad224) t221.length co25 : Value).ownBlock) (fun _ => False) rfl rfl ?aP (fun _ hk => hk.elim) ?aF ?aO ?aB ?aS ?aL ?_; (case aP => exact rfl); (case aB => exact (by repeat (first | (with_reducible first | exact HB.out | apply zD | apply zE | apply zF | refine below_set ?_ GE215.out) | exact HB.out))); (case aF => exact (fun k_ hk => Kd.fresh' (Kd.R_lt (by (with_reducible repeat (first | apply zA | apply zB | apply zC)); exact HO_7.out)) k_ hk)); (case aO => exact (by (with_reducible repeat (first | apply zA | apply zB | apply zC)); exact HO_6.out)); (case aS => exact (zR (by repeat (first | (with_reducible first | exact HB.out | apply zD | apply zE | apply zF | refine below_set ?_ GE215.out) | exact HB.out)))); (case aL => have := LMc24.out; omega); intro v229 w27 ho hb hg hat; rw [← Ny228.out] at ho; have n0_ := zM (Kd.R_after (ok := (fun _ => True)) (by (with_reducible repeat (first | apply zA | apply zB | apply zC)); exact Kd.R_mono HO_7.out (fun _ hk => ⟨trivial, hk⟩)) hg hat); have n1_ := zM (blk_grown (g := gb215) (o := .cells #[.int .i64 a1_0, .int .i64 a1_1, .int .i64 a1_2] 28 (0, 0)) (by (with_reducible repeat (first | refine zJ ?_ _ | refine zK ?_ | refine zL ?_ _)); exact BK215.out) hg (Kd.R_ne HO_6.out BK215.out (by decide))); have n2_ := zM (hb); have n3_ := zM (ho); clear HO_7; clear BK215; clear HB; clear HO_6; have HO_7 := n0_; have BK215 := n1_; have HB := n2_; have HO230 := n3_; clear n0_ n1_ n2_ n3_; clear ho hb hg hat)); try go_wp2_with (first | ((with_reducible refine gate_builtin (b := .append) (xs := #[.tmp 44, .tmp 46]) rfl ?_); at_builtin; refine Kd.R_append (Kd.int .i64) (w0 := w) w.heap.size rfl (.tmp 44) (.tmp 46) 22 3 (.int .i64 0) 8 rfl Try.underlying22 info3 rfl (by decide) (by omega) u6 x6_2 (wrap64 (Int.tdiv (wrap64 ((wrap64 ((rd t221 x8_2) + a1_2)) - 1)) a1_2)) [.int .i64 (wrap64 (Int.tdiv (wrap64 ((wrap64 ((rd t221 x8_2) + a1_2)) - 1)) a1_2))] (fun k_ => some k_ ≠ (.slice (some ad224) t221.length co25 : Value).ownBlock) (fun _ => False) rfl rfl ?aP (fun _ hk => hk.elim) ?aF ?aO ?aB ?aS ?aL ?_; (case aP => exact rfl); (case aB => exact (by repeat (first | (with_reducible first | exact HB.out | apply zD | apply zE | apply zF | refine below_set ?_ GE215.out) | exact HB.out))); (case aF => exact (fun k_ hk => Kd.fresh' (Kd.R_lt (by (with_reducible repeat (first | apply zA | apply zB | apply zC)); exact HO_7.out)) k_ hk)); (case aO => exact (by (with_reducible repeat (first | apply zA | apply zB | apply zC)); exact HO_6.out)); (case aS => exact (zR (by repeat (first | (with_reducible first | exact HB.out | apply zD | apply zE | apply zF | refine below_set ?_ GE215.out) | exact HB.out)))); (case aL => have := LMc24.out; omega); intro v229 w27 ho hb hg hat; rw [← Ny228.out] at ho; have n0_ := zM (Kd.R_after (ok := (fun _ => True)) (by (with_reducible repeat (first | apply zA | apply zB | apply zC)); exact Kd.R_mono HO_7.out (fun _ hk => ⟨trivial, hk⟩)) hg hat); have n1_ := zM (blk_grown (g := gb215) (o := .cells #[.int .i64 a1_0, .int .i64 a1_1, .int .i64 a1_2] 28 (0, 0)) (by (with_reducible repeat (first | refine zJ ?_ _ | refine zK ?_ | refine zL ?_ _)); exact BK215.out) hg (Kd.R_ne HO_6.out BK215.out (by decide))); have n2_ := zM (hb); have n3_ := zM (ho); clear HO_7; clear BK215; clear HB; clear HO_6; have HO_7 := n0_; have BK215 := n1_; have HB := n2_; have HO230 := n3_; clear n0_ n1_ n2_ n3_; clear ho hb hg hat)))
           go_roundg k2
           case measure => have := HJ2.out; have := HK2.out; omega
           case rel => exact ⟨(y228), (wrap64 (x8_2 + 1)), (by first | rfl | (simp; done) | (simp [*]; done)), H', ⟨by have := HJ2.out; have := HK2.out; omega⟩, ⟨by (with_reducible repeat (first | apply zA | apply zB | apply zC)); exact HO230.out⟩, ⟨by (with_reducible repeat (first | apply zA | apply zB | apply zC)); exact Kd.R_mono HO_7.out (fun _ hk => hk.2)⟩, ⟨by (with_reducible repeat (first | refine zJ ?_ _ | refine zK ?_ | refine zL ?_ _)); exact BK215.out⟩, ⟨by repeat (first | (with_reducible first | exact HB.out | apply zD | apply zE | apply zF | refine below_set ?_ GE215.out) | exact HB.out)⟩⟩
          ·rw [if_neg c24] at H
           exact absurd H (by simp)
       ·rw [if_neg c17] at H
        exact absurd H (by simp)
      ·rw [if_neg c16] at H
       have c16b0 : decide (x8_2 < (t221.length : Int)) = false := decide_eq_false c16
       clear c16
       simp only [Option.some.injEq, Prod.mk.injEq] at H
       obtain ⟨rfl, rfl⟩ := H
       obtain ⟨Ao28, co28, eo28⟩ := Kd.R_slice HO_7.out
       subst eo28
       go_wp2
       repeat (go_quiet (fail); try go_wp2)
       go_ret2
       exact ⟨_, by first | rfl | (simp [errW_none, errW_some] <;> rfl) | (simp [*, errW_none, errW_some] <;> rfl), by (with_reducible repeat (first | apply zA | apply zB | apply zC)); exact Kd.R_mono HO_6.out (fun _ hk => trivial), by repeat (first | (with_reducible first | exact HB.out | apply zD | apply zE | apply zF | refine below_set ?_ GE215.out) | exact HB.out)⟩

end Go.Proofs.Ytcgfedaoimhejaa.G

namespace Go.Proofs.Ytcgfedaoimhejaa.G
open Go.RowKit Go.Proofs.YtcgfedaoimhejaaW.PrintWords Go.Proofs.YtcgfedaoimhejaaW.PrintLast
set_option linter.unusedVariables false
set_option linter.unusedSimpArgs false
def okW (l : List Int) (i : Int) : Prop := 1 ≤ rd l i ∧ rd l i ≤ 32000
def Col (l : List Int) : Prop := (l.length : Int) ≤ 4 ∧ All (okW l) 0 (l.length : Int)
def Rules (L T S : Int) : Prop := (1 ≤ L ∧ L ≤ 200000) ∧ (0 ≤ T ∧ T ≤ 100) ∧ (1 ≤ S ∧ S ≤ 100000)
def Lashed (l : List Int) (L T S : Int) : Prop := Col l ∧ Rules L T S
theorem cont76_eq (l : List Int) : slices_ContainsFunc_int_int_76.f l = some (chk (All (okW l) 0 (l.length : Int)) false true) := by
  unfold slices_ContainsFunc_int_int_76.f
  congr 1
  have hb : (bad76 l l.length 0 ≥ 0) ↔ ¬ All (okW l) 0 (l.length : Int) := by
    rw [bad76_iff]
    constructor
    · intro h a
      refine h fun j _ hj => ?_
      have := a (j : Int) (by omega) (by omega)
      unfold okW at this
      unfold good76; exact decide_eq_true this
    · intro h a
      refine h fun j h0 hj => ?_
      have := a j.toNat (by omega) (by omega)
      rw [show ((j.toNat : Nat) : Int) = j from by omega] at this
      unfold good76 at this
      have h' := of_decide_eq_true this
      exact h'
  by_cases ha : All (okW l) 0 (l.length : Int)
  · rw [chk_pos ha]; exact decide_eq_false (fun x => hb.1 x ha)
  · rw [chk_neg ha]; exact decide_eq_true (hb.2 ha)
theorem impl_col (l : List Int) : impl_IsValidColumn.f l = some (chk (Col l) true false) := by
  unfold impl_IsValidColumn.f
  simp only [cont76_eq, Option.bind_some]
  by_cases h1 : (l.length : Int) ≤ 4
  · rw [if_pos h1]
    by_cases h2 : All (okW l) 0 (l.length : Int)
    · rw [chk_pos h2, chk_pos (show Col l from ⟨h1, h2⟩)]; rfl
    · rw [chk_neg h2, chk_neg (fun m : Col l => h2 m.2)]; rfl
  · rw [if_neg h1, chk_neg (fun m : Col l => h1 m.1)]
theorem impl_lashed (l : List Int) (L T S : Int) : impl_isLashed.f l L T S = some (chk (Lashed l L T S) true false) := by
  unfold impl_isLashed.f
  simp only [impl_col, impl_within_eq, Option.bind_some, decide_eq_true_eq]
  by_cases h1 : Col l
  · rw [chk_pos h1]
    simp only [if_true]
    by_cases h2 : 1 ≤ L ∧ L ≤ 200000
    · rw [if_pos h2]
      by_cases h3 : 0 ≤ T ∧ T ≤ 100
      · rw [if_pos h3]
        by_cases h4 : 1 ≤ S ∧ S ≤ 100000
        · rw [decide_eq_true h4, chk_pos (show Lashed l L T S from ⟨h1, h2, h3, h4⟩)]
        · rw [decide_eq_false h4, chk_neg (fun m : Lashed l L T S => h4 m.2.2.2)]
      · rw [if_neg h3, chk_neg (fun m : Lashed l L T S => h3 m.2.2.1)]
    · rw [if_neg h2, chk_neg (fun m : Lashed l L T S => h2 m.2.1)]
  · rw [chk_neg h1, chk_neg (fun m : Lashed l L T S => h1 m.1)]
    rfl
theorem spec_col (l : List Int) (hl : (l.length : Int) ≤ 1099511627776) : Ev (fun k => spec_l12Good.f k l) (chk (Col l) true false) := by
  unfold spec_l12Good.f spec_l12Weights.f
  have h := Ev.check (fun k i => spec_l12Weights.l0 k l 4 i) (l.length : Int) (okW l) (decide ((l.length : Int) ≤ 4)) false 0 (by
    refine Ev.step (fun k => by rw [spec_l12Weights.l0]) ?_
    simp only [Int.lt_irrefl, if_false]
    exact Ev.now _) (by
    intro i h0 hlt r hr
    refine Ev.step (fun k => by rw [spec_l12Weights.l0]) ?_
    simp (disch := omega) only [if_pos, wrap64_id, spec_l1In_eq, Option.bind_some, decide_eq_true_eq]
    refine Ev.ite (fun g => ?_) (fun g => ?_)
    · rw [chk_pos (show okW l i from g)]; exact hr
    · rw [chk_neg (show ¬ okW l i from g)]; exact Ev.now _) 0 (by omega) (by omega)
  refine Ev.bind h ?_
  refine Ev.val ?_
  by_cases ha : All (okW l) 0 (l.length : Int)
  · rw [chk_pos ha]
    by_cases h4 : (l.length : Int) ≤ 4
    · rw [decide_eq_true h4, chk_pos (show Col l from ⟨h4, ha⟩)]
    · rw [decide_eq_false h4, chk_neg (fun m : Col l => h4 m.1)]
  · rw [chk_neg ha, chk_neg (fun m : Col l => ha m.2)]
theorem spec_rules (L T S : Int) : spec_l12Rules.f L T S = some (chk (Rules L T S) true false) := by
  unfold spec_l12Rules.f
  simp only [spec_l1In_eq, Option.bind_some, decide_eq_true_eq]
  by_cases h2 : 1 ≤ L ∧ L ≤ 200000
  · rw [if_pos h2]
    by_cases h3 : 0 ≤ T ∧ T ≤ 100
    · rw [if_pos h3]
      by_cases h4 : 1 ≤ S ∧ S ≤ 100000
      · rw [decide_eq_true h4, chk_pos (show Rules L T S from ⟨h2, h3, h4⟩)]
      · rw [decide_eq_false h4, chk_neg (fun m : Rules L T S => h4 m.2.2)]
    · rw [if_neg h3, chk_neg (fun m : Rules L T S => h3 m.2.1)]
  · rw [if_neg h2, chk_neg (fun m : Rules L T S => h2 m.1)]
/-- The sum of d weights from i on. -/
def tot (l : List Int) (i : Int) : Nat → Int
  | 0 => 0
  | d + 1 => tot l i d + rd l (i + d)
theorem tot_succ (l : List Int) (i : Int) (d : Nat) : tot l i (d + 1) = tot l i d + rd l (i + d) := rfl
theorem tot_bd {l : List Int} (h : Col l) (i : Int) (h0 : 0 ≤ i) : ∀ d : Nat, i + d ≤ (l.length : Int) → 0 ≤ tot l i d ∧ tot l i d ≤ 32000 * d := by
  intro d
  induction d with
  | zero => intro _; simp [tot]
  | succ d ih =>
    intro hd
    have := ih (by omega)
    have o := h.2 (i + d) (by omega) (by omega)
    unfold okW at o
    rw [tot_succ]
    omega
/-- The force at the foot of container i. -/
def fr (l : List Int) (T i : Int) : Int := Int.tdiv (T * tot l i (l.length - i.toNat) + 99) 100
theorem rd_drop (l : List Int) (i j : Int) (h0 : 0 ≤ i) (j0 : 0 ≤ j) : rd (l.drop i.toNat) j = rd l (i + j) := by
  unfold rd
  rw [List.getD_eq_getElem?_getD, List.getD_eq_getElem?_getD, List.getElem?_drop, show i.toNat + j.toNat = (i + j).toNat from by omega]
theorem impl_sum {l : List Int} (h : Col l) (i : Int) (h0 : 0 ≤ i) (h1 : i ≤ (l.length : Int)) : Ev (fun k => impl_sumOf.f k (l.drop i.toNat)) (tot l i (l.length - i.toNat)) := by
  have h4 := h.1
  have hd : (((l.drop i.toNat)).length : Int) = (l.length : Int) - i := by rw [List.length_drop]; omega
  unfold impl_sumOf.f
  rw [hd]
  refine Ev.up (fun k (s : Int) j => impl_sumOf.l0 k s (l.drop i.toNat) ((l.length : Int) - i) j) (fun _ _ => tot l i (l.length - i.toNat)) (fun s j => 0 ≤ j ∧ s = tot l i j.toNat) ((l.length : Int) - i) ?_ ?_ 0 0 ⟨by omega, rfl⟩ (by omega)
  · rintro s ⟨_, rfl⟩
    refine Ev.step (fun k => by rw [impl_sumOf.l0]) ?_
    simp only [Int.lt_irrefl, if_false]
    rw [show ((l.length : Int) - i).toNat = l.length - i.toNat from by omega]
    exact Ev.now _
  · rintro s j ⟨j0, rfl⟩ jlt ih
    have b := tot_bd h i h0 j.toNat (by omega)
    have o := h.2 (i + j) (by omega) (by omega)
    unfold okW at o
    refine Ev.step (fun k => by rw [impl_sumOf.l0]) ?_
    simp (disch := omega) only [if_pos, wrap64_id, rd_drop]
    refine ih _ ⟨by omega, ?_⟩
    rw [show (j + 1).toNat = j.toNat + 1 from by omega, tot_succ, show ((j.toNat : Nat) : Int) = j from by omega]
theorem spec_sum {l : List Int} (h : Col l) (i : Int) (h0 : 0 ≤ i) (h1 : i ≤ (l.length : Int)) : Ev (fun k => spec_l12Sum.f k l i) (tot l i (l.length - i.toNat)) := by
  have h4 := h.1
  unfold spec_l12Sum.f
  refine Ev.up (fun k (s : Int) j => spec_l12Sum.l0 k l s j) (fun _ _ => tot l i (l.length - i.toNat)) (fun s j => i ≤ j ∧ s = tot l i (j - i).toNat) (l.length : Int) ?_ ?_ 0 i ⟨by omega, by rw [show (i - i).toNat = 0 from by omega]; rfl⟩ (by omega)
  · rintro s ⟨_, rfl⟩
    refine Ev.step (fun k => by rw [spec_l12Sum.l0]) ?_
    simp only [Int.lt_irrefl, if_false]
    rw [show ((l.length : Int) - i).toNat = l.length - i.toNat from by omega]
    exact Ev.now _
  · rintro s j ⟨j0, rfl⟩ jlt ih
    have b := tot_bd h i h0 (j - i).toNat (by omega)
    have o := h.2 j (by omega) (by omega)
    unfold okW at o
    refine Ev.step (fun k => by rw [spec_l12Sum.l0]) ?_
    simp (disch := omega) only [if_pos, wrap64_id]
    refine ih _ ⟨by omega, ?_⟩
    rw [show (j + 1 - i).toNat = (j - i).toNat + 1 from by omega, tot_succ, show i + (((j - i).toNat : Nat) : Int) = j from by omega]
def forcesTo (l : List Int) (T : Int) : Nat → List Int
  | 0 => []
  | d + 1 => forcesTo l T d ++ [fr l T d]
theorem forcesTo_succ (l : List Int) (T : Int) (d : Nat) : forcesTo l T (d + 1) = forcesTo l T d ++ [fr l T d] := rfl
theorem forces_len (l : List Int) (T : Int) : ∀ d : Nat, (forcesTo l T d).length = d := by
  intro d
  induction d with
  | zero => rfl
  | succ d ih => rw [forcesTo_succ, List.length_append, ih]; rfl
theorem prod_bd {l : List Int} (h : Col l) (T : Int) (hT : 0 ≤ T ∧ T ≤ 100) (i : Int) (h0 : 0 ≤ i) (h1 : i ≤ (l.length : Int)) : 0 ≤ T * tot l i (l.length - i.toNat) ∧ T * tot l i (l.length - i.toNat) ≤ 12800000 := by
  have h4 := h.1
  have b := tot_bd h i h0 (l.length - i.toNat) (by omega)
  have m := mul_bd (x := T) (y := tot l i (l.length - i.toNat)) (A := 100) (B := 128000) (by omega) (by omega) (by omega) (by omega) (by omega) (by omega)
  exact ⟨Int.mul_nonneg hT.1 b.1, by omega⟩
theorem fr_bd {l : List Int} (h : Col l) (T : Int) (hT : 0 ≤ T ∧ T ≤ 100) (i : Int) (h0 : 0 ≤ i) (h1 : i ≤ (l.length : Int)) : 0 ≤ fr l T i ∧ fr l T i ≤ 200000 := by
  have p := prod_bd h T hT i h0 h1
  unfold fr
  rw [Int.tdiv_eq_ediv_of_nonneg (by omega)]
  omega
theorem forces_mem {l : List Int} (h : Col l) (T : Int) (hT : 0 ≤ T ∧ T ≤ 100) : ∀ d : Nat, d ≤ l.length → ∀ x ∈ forcesTo l T d, 0 ≤ x ∧ x ≤ 200000 := by
  intro d
  induction d with
  | zero => intro _ x hx; cases hx
  | succ d ih =>
    intro hd x hx
    rw [forcesTo_succ, List.mem_append] at hx
    rcases hx with hx | hx
    · exact ih (by omega) x hx
    · rw [List.mem_singleton] at hx
      rw [hx]
      exact fr_bd h T hT d (by omega) (by omega)
theorem rd_mem (xs : List Int) (i : Int) (h0 : 0 ≤ i) (h1 : i < (xs.length : Int)) : rd xs i ∈ xs := by
  unfold rd
  rw [List.getD_eq_getElem?_getD, List.getElem?_eq_getElem (show i.toNat < xs.length by omega)]
  exact List.getElem_mem _
theorem impl_forces {l : List Int} (L T S : Int) (h : Col l) (hT : 0 ≤ T ∧ T ≤ 100) : Ev (fun k => impl_forcesOf.f k l L T S) (forcesTo l T l.length) := by
  have h4 := h.1
  unfold impl_forcesOf.f
  refine Ev.up (fun k (s : List Int) j => impl_forcesOf.l0 k l s (l.length : Int) j L T S) (fun _ _ => forcesTo l T l.length) (fun s j => 0 ≤ j ∧ s = forcesTo l T j.toNat) (l.length : Int) ?_ ?_ [] 0 ⟨by omega, rfl⟩ (by omega)
  · rintro s ⟨_, rfl⟩
    refine Ev.step (fun k => by rw [impl_forcesOf.l0]) ?_
    simp only [Int.lt_irrefl, if_false, Int.toNat_natCast]
    exact Ev.now _
  · rintro s j ⟨j0, rfl⟩ jlt ih
    have p := prod_bd h T hT j j0 (by omega)
    have fl := forces_len l T j.toNat
    refine Ev.step (fun k => by rw [impl_forcesOf.l0]) ?_
    simp (disch := omega) only [if_pos]
    refine Ev.bind (impl_sum h j j0 (by omega)) ?_
    have e : impl_ceiling.f (wrap64 (T * tot l j (l.length - j.toNat))) 100 = some (fr l T j) := by
      unfold impl_ceiling.f fr
      rw [if_neg (by decide), wrap64_id (x := T * tot l j (l.length - j.toNat)) (by omega) (by omega), wrap64_id (x := T * tot l j (l.length - j.toNat) + 100) (by omega) (by omega), wrap64_id (x := T * tot l j (l.length - j.toNat) + 100 - 1) (by omega) (by omega), show T * tot l j (l.length - j.toNat) + 100 - 1 = T * tot l j (l.length - j.toNat) + 99 from by omega]
      rw [wrap64_id]
      · rw [Int.tdiv_eq_ediv_of_nonneg (by omega)]; omega
      · rw [Int.tdiv_eq_ediv_of_nonneg (by omega)]; omega
    rw [e]
    simp (disch := omega) only [if_pos, Option.bind_some, wrap64_id]
    refine ih _ ⟨by omega, ?_⟩
    rw [show (j + 1).toNat = j.toNat + 1 from by omega, forcesTo_succ, show ((j.toNat : Nat) : Int) = j from by omega]
theorem spec_forces {l : List Int} (T : Int) (h : Col l) (hT : 0 ≤ T ∧ T ≤ 100) : Ev (fun k => spec_l12Forces.f k l T) (forcesTo l T l.length) := by
  have h4 := h.1
  unfold spec_l12Forces.f
  refine Ev.up (fun k (s : List Int) j => spec_l12Forces.l0 k l T s j) (fun _ _ => forcesTo l T l.length) (fun s j => 0 ≤ j ∧ s = forcesTo l T j.toNat) (l.length : Int) ?_ ?_ [] 0 ⟨by omega, rfl⟩ (by omega)
  · rintro s ⟨_, rfl⟩
    refine Ev.step (fun k => by rw [spec_l12Forces.l0]) ?_
    simp only [Int.lt_irrefl, if_false, Int.toNat_natCast]
    exact Ev.now _
  · rintro s j ⟨j0, rfl⟩ jlt ih
    have p := prod_bd h T hT j j0 (by omega)
    have fl := forces_len l T j.toNat
    refine Ev.step (fun k => by rw [spec_l12Forces.l0]) ?_
    simp (disch := omega) only [if_pos]
    refine Ev.bind (spec_sum h j j0 (by omega)) ?_
    have e : wrap64 (Int.tdiv (wrap64 ((wrap64 (tot l j (l.length - j.toNat) * T)) + 99)) 100) = fr l T j := by
      unfold fr
      rw [Int.mul_comm (tot l j (l.length - j.toNat)) T, wrap64_id (x := T * tot l j (l.length - j.toNat)) (by omega) (by omega), wrap64_id (x := T * tot l j (l.length - j.toNat) + 99) (by omega) (by omega)]
      rw [wrap64_id]
      · rw [Int.tdiv_eq_ediv_of_nonneg (by omega)]; omega
      · rw [Int.tdiv_eq_ediv_of_nonneg (by omega)]; omega
    rw [e]
    simp (disch := omega) only [if_pos, wrap64_id]
    refine ih _ ⟨by omega, ?_⟩
    rw [show (j + 1).toNat = j.toNat + 1 from by omega, forcesTo_succ, show ((j.toNat : Nat) : Int) = j from by omega]
noncomputable def forcesR (l : List Int) (L T S : Int) : List Int × Bool := chk (Lashed l L T S) (forcesTo l T l.length, true) ([], false)
/-- The lashings for forces, from index i on. -/
def need (F : List Int) (S : Int) : Nat → Int → List Int → List Int × Bool
  | 0, _, a => (a, true)
  | d + 1, i, a => if Int.tdiv (rd F i + S - 1) S > 4 then ([], false) else need F S d (i + 1) (a ++ [Int.tdiv (rd F i + S - 1) S])
noncomputable def needR (l : List Int) (L T S : Int) : List Int × Bool := chk (Lashed l L T S) (need (forcesTo l T l.length) S l.length 0 []) ([], false)
end Go.Proofs.Ytcgfedaoimhejaa.G

-- Written by wip/tools/gen.py out of the translation (the kit's printer, one namespace a seat). Lean checks it.
namespace Go.Proofs.Ytcgfedaoimhejaa.G
open Go.RowKit Go.Proofs.YtcgfedaoimhejaaW.PrintWords Go.Proofs.YtcgfedaoimhejaaW.PrintLast Go.Proofs.YtcgfedaoimhejaaW.PrintMore
attribute [local go_sem] max2_int min2_int max_two min_two max_three min_three max_four min_four   -- for this text's walks alone
set_option linter.unusedVariables false
set_option linter.unusedSimpArgs false

/-! ### cmp_isNaN_int: function 88 -/
def cmp_isNaN_int.f (a0 : Int) : Option (Bool) := some (a0 != a0)
set_option maxHeartbeats 8000000 in
set_option maxRecDepth 100000 in
theorem cmp_isNaN_int.calls (a0 : Int) (r : Bool) (w : World) (h : cmp_isNaN_int.f a0 = some r) :
  Calls Try.prog 88 #[.int .i64 a0] w fun e w' => e = .returned (.bool r) ∧ Drawn0 w w' := by
 have H : (some (a0 != a0)) = some r := h
 clear h
 obtain rfl := Option.some.inj H
 go_enter Try.func88, Try.ntmps88
 go_wp2
 go_ret
 exact ⟨by first | rfl | (simp; done) | (simp [*]; done), by repeat (first | exact Drawn0.refl _ | apply Drawn0.step)⟩

end Go.Proofs.Ytcgfedaoimhejaa.G

-- Written by wip/tools/gen.py out of the translation (the kit's printer, one namespace a seat). Lean checks it.
namespace Go.Proofs.Ytcgfedaoimhejaa.G
open Go.RowKit Go.Proofs.YtcgfedaoimhejaaW.PrintWords Go.Proofs.YtcgfedaoimhejaaW.PrintLast Go.Proofs.YtcgfedaoimhejaaW.PrintMore
attribute [local go_sem] max2_int min2_int max_two min_two max_three min_three max_four min_four   -- for this text's walks alone
set_option linter.unusedVariables false
set_option linter.unusedSimpArgs false

/-! ### cmp_Compare_int: function 82 -/
def cmp_Compare_int.f (a0 : Int) (a1 : Int) : Option (Int) := (cmp_isNaN_int.f a0).bind fun t105 => ((cmp_isNaN_int.f a1).bind fun t106 => (if t105 = true then (if t106 = true then (some 0) else (some (-1))) else (if t106 = true then (some 1) else (if a0 < a1 then (some (-1)) else (if a0 > a1 then (some 1) else (some 0))))))
set_option maxHeartbeats 8000000 in
set_option maxRecDepth 100000 in
theorem cmp_Compare_int.calls (a0 : Int) (a1 : Int) (r : Int) (w : World) (h : cmp_Compare_int.f a0 a1 = some r) :
  Calls Try.prog 82 #[.int .i64 a0, .int .i64 a1] w fun e w' => e = .returned (.int .i64 r) ∧ Drawn0 w w' := by
 have H : ((cmp_isNaN_int.f a0).bind fun t105 => ((cmp_isNaN_int.f a1).bind fun t106 => (if t105 = true then (if t106 = true then (some 0) else (some (-1))) else (if t106 = true then (some 1) else (if a0 < a1 then (some (-1)) else (if a0 > a1 then (some 1) else (some 0))))))) = some r := h
 clear h
 replace H := Option.bind_eq_some_iff.mp H
 obtain ⟨t105, A30, H⟩ := H
 replace H : ((cmp_isNaN_int.f a1).bind fun t106 => (if t105 = true then (if t106 = true then (some 0) else (some (-1))) else (if t106 = true then (some 1) else (if a0 < a1 then (some (-1)) else (if a0 > a1 then (some 1) else (some 0)))))) = some r := H
 have A3 := zM A30
 clear A30
 replace H := Option.bind_eq_some_iff.mp H
 obtain ⟨t106, A40, H⟩ := H
 replace H : (if t105 = true then (if t106 = true then (some 0) else (some (-1))) else (if t106 = true then (some 1) else (if a0 < a1 then (some (-1)) else (if a0 > a1 then (some 1) else (some 0))))) = some r := H
 have A4 := zM A40
 clear A40
 by_cases c5 : t105 = true
 ·subst c5
  have H1 : (if t106 = true then (some 0) else (some (-1))) = some r := by rw [if_pos rfl] at H; exact H
  clear H
  have H := H1
  clear H1
  by_cases c6 : t106 = true
  ·subst c6
   have H1 : (some 0) = some r := by rw [if_pos rfl] at H; exact H
   clear H
   have H := H1
   clear H1
   obtain rfl := Option.some.inj H
   go_enter Try.func82, Try.ntmps82
   go_wp2_with (first | ((with_reducible refine gate_callee (f := 88) rfl ?_); refine goesL_ (some 8) rfl rfl Try.func88 (by kernel_rfl) rfl #[.int .i64 a0] rfl (by (try simp only [List.map_toArray, List.map_cons, List.map_nil]); first | done | rfl | (simp only [List.length_drop, List.length_take]; rfl)) ?_; (with_reducible refine (cmp_isNaN_int.calls a0 true _ A3.out).mono ?_); rintro e w' ⟨rfl, ⟨nd, rfl⟩⟩; refine ⟨_, rfl, ?_⟩) | ((with_reducible refine gate_callee (f := 88) rfl ?_); refine goesL_ (some 10) rfl rfl Try.func88 (by kernel_rfl) rfl #[.int .i64 a1] rfl (by (try simp only [List.map_toArray, List.map_cons, List.map_nil]); first | done | rfl | (simp only [List.length_drop, List.length_take]; rfl)) ?_; (with_reducible refine (cmp_isNaN_int.calls a1 true _ A4.out).mono ?_); rintro e w' ⟨rfl, ⟨nd, rfl⟩⟩; refine ⟨_, rfl, ?_⟩))
   go_ret
   exact ⟨by first | rfl | (simp; done) | (simp [*]; done), by repeat (first | exact Drawn0.refl _ | apply Drawn0.step)⟩
  ·replace c6 := Bool.eq_false_iff.mpr c6
   subst c6
   have H1 : (some (-1)) = some r := by rw [if_neg (show ¬ (false = true) by decide)] at H; exact H
   clear H
   have H := H1
   clear H1
   obtain rfl := Option.some.inj H
   go_enter Try.func82, Try.ntmps82
   go_wp2_with (first | ((with_reducible refine gate_callee (f := 88) rfl ?_); refine goesL_ (some 8) rfl rfl Try.func88 (by kernel_rfl) rfl #[.int .i64 a0] rfl (by (try simp only [List.map_toArray, List.map_cons, List.map_nil]); first | done | rfl | (simp only [List.length_drop, List.length_take]; rfl)) ?_; (with_reducible refine (cmp_isNaN_int.calls a0 true _ A3.out).mono ?_); rintro e w' ⟨rfl, ⟨nd, rfl⟩⟩; refine ⟨_, rfl, ?_⟩) | ((with_reducible refine gate_callee (f := 88) rfl ?_); refine goesL_ (some 10) rfl rfl Try.func88 (by kernel_rfl) rfl #[.int .i64 a1] rfl (by (try simp only [List.map_toArray, List.map_cons, List.map_nil]); first | done | rfl | (simp only [List.length_drop, List.length_take]; rfl)) ?_; (with_reducible refine (cmp_isNaN_int.calls a1 false _ A4.out).mono ?_); rintro e w' ⟨rfl, ⟨nd, rfl⟩⟩; refine ⟨_, rfl, ?_⟩))
   go_ret
   exact ⟨by first | rfl | (simp; done) | (simp [*]; done), by repeat (first | exact Drawn0.refl _ | apply Drawn0.step)⟩
 ·replace c5 := Bool.eq_false_iff.mpr c5
  subst c5
  have H1 : (if t106 = true then (some 1) else (if a0 < a1 then (some (-1)) else (if a0 > a1 then (some 1) else (some 0)))) = some r := by rw [if_neg (show ¬ (false = true) by decide)] at H; exact H
  clear H
  have H := H1
  clear H1
  by_cases c7 : t106 = true
  ·subst c7
   have H1 : (some 1) = some r := by rw [if_pos rfl] at H; exact H
   clear H
   have H := H1
   clear H1
   obtain rfl := Option.some.inj H
   go_enter Try.func82, Try.ntmps82
   go_wp2_with (first | ((with_reducible refine gate_callee (f := 88) rfl ?_); refine goesL_ (some 8) rfl rfl Try.func88 (by kernel_rfl) rfl #[.int .i64 a0] rfl (by (try simp only [List.map_toArray, List.map_cons, List.map_nil]); first | done | rfl | (simp only [List.length_drop, List.length_take]; rfl)) ?_; (with_reducible refine (cmp_isNaN_int.calls a0 false _ A3.out).mono ?_); rintro e w' ⟨rfl, ⟨nd, rfl⟩⟩; refine ⟨_, rfl, ?_⟩) | ((with_reducible refine gate_callee (f := 88) rfl ?_); refine goesL_ (some 10) rfl rfl Try.func88 (by kernel_rfl) rfl #[.int .i64 a1] rfl (by (try simp only [List.map_toArray, List.map_cons, List.map_nil]); first | done | rfl | (simp only [List.length_drop, List.length_take]; rfl)) ?_; (with_reducible refine (cmp_isNaN_int.calls a1 true _ A4.out).mono ?_); rintro e w' ⟨rfl, ⟨nd, rfl⟩⟩; refine ⟨_, rfl, ?_⟩))
   go_ret
   exact ⟨by first | rfl | (simp; done) | (simp [*]; done), by repeat (first | exact Drawn0.refl _ | apply Drawn0.step)⟩
  ·replace c7 := Bool.eq_false_iff.mpr c7
   subst c7
   have H1 : (if a0 < a1 then (some (-1)) else (if a0 > a1 then (some 1) else (some 0))) = some r := by rw [if_neg (show ¬ (false = true) by decide)] at H; exact H
   clear H
   have H := H1
   clear H1
   by_cases c8 : a0 < a1
   ·rw [if_pos c8] at H
    have c8b0 : decide (a0 < a1) = true := decide_eq_true c8
    clear c8
    obtain rfl := Option.some.inj H
    go_enter Try.func82, Try.ntmps82
    go_wp2_with (first | ((with_reducible refine gate_callee (f := 88) rfl ?_); refine goesL_ (some 8) rfl rfl Try.func88 (by kernel_rfl) rfl #[.int .i64 a0] rfl (by (try simp only [List.map_toArray, List.map_cons, List.map_nil]); first | done | rfl | (simp only [List.length_drop, List.length_take]; rfl)) ?_; (with_reducible refine (cmp_isNaN_int.calls a0 false _ A3.out).mono ?_); rintro e w' ⟨rfl, ⟨nd, rfl⟩⟩; refine ⟨_, rfl, ?_⟩) | ((with_reducible refine gate_callee (f := 88) rfl ?_); refine goesL_ (some 10) rfl rfl Try.func88 (by kernel_rfl) rfl #[.int .i64 a1] rfl (by (try simp only [List.map_toArray, List.map_cons, List.map_nil]); first | done | rfl | (simp only [List.length_drop, List.length_take]; rfl)) ?_; (with_reducible refine (cmp_isNaN_int.calls a1 false _ A4.out).mono ?_); rintro e w' ⟨rfl, ⟨nd, rfl⟩⟩; refine ⟨_, rfl, ?_⟩))
    go_ret
    exact ⟨by first | rfl | (simp; done) | (simp [*]; done), by repeat (first | exact Drawn0.refl _ | apply Drawn0.step)⟩
   ·rw [if_neg c8] at H
    have c8b0 : decide (a0 < a1) = false := decide_eq_false c8
    clear c8
    by_cases c9 : a0 > a1
    ·rw [if_pos c9] at H
     have c9b0 : decide (a1 < a0) = true := decide_eq_true c9
     clear c9
     obtain rfl := Option.some.inj H
     go_enter Try.func82, Try.ntmps82
     go_wp2_with (first | ((with_reducible refine gate_callee (f := 88) rfl ?_); refine goesL_ (some 8) rfl rfl Try.func88 (by kernel_rfl) rfl #[.int .i64 a0] rfl (by (try simp only [List.map_toArray, List.map_cons, List.map_nil]); first | done | rfl | (simp only [List.length_drop, List.length_take]; rfl)) ?_; (with_reducible refine (cmp_isNaN_int.calls a0 false _ A3.out).mono ?_); rintro e w' ⟨rfl, ⟨nd, rfl⟩⟩; refine ⟨_, rfl, ?_⟩) | ((with_reducible refine gate_callee (f := 88) rfl ?_); refine goesL_ (some 10) rfl rfl Try.func88 (by kernel_rfl) rfl #[.int .i64 a1] rfl (by (try simp only [List.map_toArray, List.map_cons, List.map_nil]); first | done | rfl | (simp only [List.length_drop, List.length_take]; rfl)) ?_; (with_reducible refine (cmp_isNaN_int.calls a1 false _ A4.out).mono ?_); rintro e w' ⟨rfl, ⟨nd, rfl⟩⟩; refine ⟨_, rfl, ?_⟩))
     go_ret
     exact ⟨by first | rfl | (simp; done) | (simp [*]; done), by repeat (first | exact Drawn0.refl _ | apply Drawn0.step)⟩
    ·rw [if_neg c9] at H
     have c9b0 : decide (a1 < a0) = false := decide_eq_false c9
     clear c9
     obtain rfl := Option.some.inj H
     go_enter Try.func82, Try.ntmps82
     go_wp2_with (first | ((with_reducible refine gate_callee (f := 88) rfl ?_); refine goesL_ (some 8) rfl rfl Try.func88 (by kernel_rfl) rfl #[.int .i64 a0] rfl (by (try simp only [List.map_toArray, List.map_cons, List.map_nil]); first | done | rfl | (simp only [List.length_drop, List.length_take]; rfl)) ?_; (with_reducible refine (cmp_isNaN_int.calls a0 false _ A3.out).mono ?_); rintro e w' ⟨rfl, ⟨nd, rfl⟩⟩; refine ⟨_, rfl, ?_⟩) | ((with_reducible refine gate_callee (f := 88) rfl ?_); refine goesL_ (some 10) rfl rfl Try.func88 (by kernel_rfl) rfl #[.int .i64 a1] rfl (by (try simp only [List.map_toArray, List.map_cons, List.map_nil]); first | done | rfl | (simp only [List.length_drop, List.length_take]; rfl)) ?_; (with_reducible refine (cmp_isNaN_int.calls a1 false _ A4.out).mono ?_); rintro e w' ⟨rfl, ⟨nd, rfl⟩⟩; refine ⟨_, rfl, ?_⟩))
     go_ret
     exact ⟨by first | rfl | (simp; done) | (simp [*]; done), by repeat (first | exact Drawn0.refl _ | apply Drawn0.step)⟩

end Go.Proofs.Ytcgfedaoimhejaa.G

-- Written by wip/tools/gen.py out of the translation (the kit's printer, one namespace a seat). Lean checks it.
namespace Go.Proofs.Ytcgfedaoimhejaa.G
open Go.RowKit Go.Proofs.YtcgfedaoimhejaaW.PrintWords Go.Proofs.YtcgfedaoimhejaaW.PrintLast Go.Proofs.YtcgfedaoimhejaaW.PrintMore
attribute [local go_sem] max2_int min2_int max_two min_two max_three min_three max_four min_four   -- for this text's walks alone
set_option linter.unusedVariables false
set_option linter.unusedSimpArgs false

/-! ### slices_Compare_int_int: function 67 -/
def slices_Compare_int_int.l0 : Nat → List Int → List Int → List Int → Int → Int → Option (Int)
 | 0, _, _, _, _, _ => none
 | k + 1, x0, x1, x9, x10, x11 => if x11 < x10 then (if 0 ≤ x11 then (if x11 < (x9.length : Int) then (if x11 ≥ (x1.length : Int) then (some 1) else (if x11 < (x1.length : Int) then ((cmp_Compare_int.f (rd x9 x11) (rd x1 x11)).bind fun t109 => (if t109 = 0 then (slices_Compare_int_int.l0 k x0 x1 x9 x10 (wrap64 (x11 + 1))) else (some t109))) else (none))) else (none)) else (none)) else (if (x0.length : Int) < (x1.length : Int) then (some (-1)) else (some 0))
def slices_Compare_int_int.f (k : Nat) (l0 : List Int) (l1 : List Int) : Option (Int) := slices_Compare_int_int.l0 k l0 l1 l0 (l0.length : Int) 0
set_option maxHeartbeats 8000000 in
set_option maxRecDepth 100000 in
theorem slices_Compare_int_int.calls (k : Nat) (A0 : Option Addr) (c0 : Nat) (l0 : List Int) (A1 : Option Addr) (c1 : Nat) (l1 : List Int) (r : Int) (w : World) (hr0 : Kd.C (Kd.int .i64) w A0 l0.length l0) (hc0 : l0.length ≤ c0) (hr1 : Kd.C (Kd.int .i64) w A1 l1.length l1) (hc1 : l1.length ≤ c1) (h : slices_Compare_int_int.f k l0 l1 = some r) :
  Calls Try.prog 67 #[.slice A0 l0.length c0, .slice A1 l1.length c1] w fun e w' => e = .returned (.int .i64 r) ∧ Drawn0 w w' := by
 have HR0 := zM hr0
 have HC0 := zM hc0
 clear hr0 hc0
 have HR1 := zM hr1
 have HC1 := zM hc1
 clear hr1 hc1
 have H : (slices_Compare_int_int.l0 k l0 l1 l0 (l0.length : Int) 0) = some r := h
 clear h
 have H' := zM H
 clear H
 go_enter Try.func67, Try.ntmps67
 go_wp2
 go_loopg [11] k (fun kq v11 w' => ∃ (x11_1 : Int), v11 = .int .i64 x11_1 ∧ Aside0 (slices_Compare_int_int.l0 kq l0 l1 l0 (l0.length : Int) x11_1 = some r) ∧ Aside0 (kq ≤ k) ∧ Drawn0 w w')
 case atStart => exact ⟨(0), (by first | rfl | (simp; done) | (simp [*]; done)), H', ⟨Nat.le_refl _⟩, by repeat (first | exact Drawn0.refl _ | apply Drawn0.step)⟩
 case round =>
  clear H'
  try clear c1
  try clear p2
  obtain ⟨x11_1, rfl, HA, HK1, ⟨m1, rfl⟩⟩ := hrel
  cases gk with
  | zero => exact absurd HA.out (by simp [slices_Compare_int_int.l0])
  | succ k1 =>
   have H := HA.out
   clear HA
   simp only [slices_Compare_int_int.l0] at H
   by_cases c3 : x11_1 < (l0.length : Int)
   ·rw [if_pos c3] at H
    have c3b0 : decide (x11_1 < (l0.length : Int)) = true := decide_eq_true c3
    clear c3
    by_cases c4 : 0 ≤ x11_1
    ·rw [if_pos c4] at H
     have c4b0 : decide (0 ≤ x11_1) = true := decide_eq_true c4
     clear c4
     by_cases c5 : x11_1 < (l0.length : Int)
     ·rw [if_pos c5] at H
      have c5b0 : decide (x11_1 < (l0.length : Int)) = true := decide_eq_true c5
      clear c5
      by_cases c6 : x11_1 ≥ (l1.length : Int)
      ·rw [if_pos c6] at H
       have c6b0 : decide ((l1.length : Int) ≤ x11_1) = true := decide_eq_true c6
       clear c6
       obtain rfl := Option.some.inj H
       have p107 : 0 ≤ (x11_1 : Int) := of_decide_eq_true (by first | (with_reducible assumption) | assumption)
       have q107 : x11_1 < (l0.length : Int) := of_decide_eq_true (by first | (with_reducible assumption) | assumption)
       obtain ⟨ad107, e107, hx107_0⟩ := Kd.at_int HR0.out x11_1 p107 q107
       cases e107
       replace p107 := eq_true p107
       replace q107 := eq_true q107
       go_wp2
       go_ret
       exact ⟨by first | rfl | (simp; done) | (simp [*]; done), by repeat (first | exact Drawn0.refl _ | apply Drawn0.step)⟩
      ·rw [if_neg c6] at H
       have c6b0 : decide ((l1.length : Int) ≤ x11_1) = false := decide_eq_false c6
       clear c6
       by_cases c7 : x11_1 < (l1.length : Int)
       ·rw [if_pos c7] at H
        have c7b0 : decide (x11_1 < (l1.length : Int)) = true := decide_eq_true c7
        clear c7
        replace H := Option.bind_eq_some_iff.mp H
        obtain ⟨t109, A80, H⟩ := H
        replace H : (if t109 = 0 then (slices_Compare_int_int.l0 k1 l0 l1 l0 (l0.length : Int) (wrap64 (x11_1 + 1))) else (some t109)) = some r := H
        have A8 := zM A80
        clear A80
        by_cases c9 : t109 = 0
        ·rw [if_pos c9] at H
         have c9b0 : (t109 == 0) = true := beq_iff_eq.mpr c9
         have c9b1 : (t109 != 0) = false := bne_eq_false_iff_eq.mpr c9
         clear c9
         have H' := zM H
         clear H
         have p107 : 0 ≤ (x11_1 : Int) := of_decide_eq_true (by first | (with_reducible assumption) | assumption)
         have q107 : x11_1 < (l0.length : Int) := of_decide_eq_true (by first | (with_reducible assumption) | assumption)
         obtain ⟨ad107, e107, hx107_0⟩ := Kd.at_int HR0.out x11_1 p107 q107
         cases e107
         replace p107 := eq_true p107
         replace q107 := eq_true q107
         have p108 : 0 ≤ (x11_1 : Int) := of_decide_eq_true (by first | (with_reducible assumption) | assumption)
         have q108 : x11_1 < (l1.length : Int) := of_decide_eq_true (by first | (with_reducible assumption) | assumption)
         obtain ⟨ad108, e108, hx108_0⟩ := Kd.at_int HR1.out x11_1 p108 q108
         cases e108
         replace p108 := eq_true p108
         replace q108 := eq_true q108
         go_wp2_with (first | ((with_reducible refine gate_callee (f := 82) rfl ?_); refine goesL_ (some 26) rfl rfl Try.func82 (by kernel_rfl) rfl #[.int .i64 (rd l0 x11_1), .int .i64 (rd l1 x11_1)] rfl (by (try simp only [List.map_toArray, List.map_cons, List.map_nil]); first | done | rfl | (simp only [List.length_drop, List.length_take]; rfl)) ?_; (with_reducible refine (cmp_Compare_int.calls (rd l0 x11_1) (rd l1 x11_1) t109 _ A8.out).mono ?_); rintro e w' ⟨rfl, ⟨nd, rfl⟩⟩; refine ⟨_, rfl, ?_⟩))
         go_roundg k1
         case measure => have := HK1.out; omega
         case rel => exact ⟨(wrap64 (x11_1 + 1)), (by first | rfl | (simp; done) | (simp [*]; done)), H', ⟨by have := HK1.out; omega⟩, by repeat (first | exact Drawn0.refl _ | apply Drawn0.step)⟩
        ·rw [if_neg c9] at H
         have c9b0 : (t109 == 0) = false := beq_eq_false_iff_ne.mpr c9
         have c9b1 : (t109 != 0) = true := bne_iff_ne.mpr c9
         obtain rfl := Option.some.inj H
         have p107 : 0 ≤ (x11_1 : Int) := of_decide_eq_true (by first | (with_reducible assumption) | assumption)
         have q107 : x11_1 < (l0.length : Int) := of_decide_eq_true (by first | (with_reducible assumption) | assumption)
         obtain ⟨ad107, e107, hx107_0⟩ := Kd.at_int HR0.out x11_1 p107 q107
         cases e107
         replace p107 := eq_true p107
         replace q107 := eq_true q107
         have p108 : 0 ≤ (x11_1 : Int) := of_decide_eq_true (by first | (with_reducible assumption) | assumption)
         have q108 : x11_1 < (l1.length : Int) := of_decide_eq_true (by first | (with_reducible assumption) | assumption)
         obtain ⟨ad108, e108, hx108_0⟩ := Kd.at_int HR1.out x11_1 p108 q108
         cases e108
         replace p108 := eq_true p108
         replace q108 := eq_true q108
         go_wp2_with (first | ((with_reducible refine gate_callee (f := 82) rfl ?_); refine goesL_ (some 26) rfl rfl Try.func82 (by kernel_rfl) rfl #[.int .i64 (rd l0 x11_1), .int .i64 (rd l1 x11_1)] rfl (by (try simp only [List.map_toArray, List.map_cons, List.map_nil]); first | done | rfl | (simp only [List.length_drop, List.length_take]; rfl)) ?_; (with_reducible refine (cmp_Compare_int.calls (rd l0 x11_1) (rd l1 x11_1) t109 _ A8.out).mono ?_); rintro e w' ⟨rfl, ⟨nd, rfl⟩⟩; refine ⟨_, rfl, ?_⟩))
         go_ret
         exact ⟨by first | rfl | (simp; done) | (simp [*]; done), by repeat (first | exact Drawn0.refl _ | apply Drawn0.step)⟩
       ·rw [if_neg c7] at H
        exact absurd H (by simp)
     ·rw [if_neg c5] at H
      exact absurd H (by simp)
    ·rw [if_neg c4] at H
     exact absurd H (by simp)
   ·rw [if_neg c3] at H
    have c3b0 : decide (x11_1 < (l0.length : Int)) = false := decide_eq_false c3
    clear c3
    by_cases c10 : (l0.length : Int) < (l1.length : Int)
    ·rw [if_pos c10] at H
     have c10b0 : decide ((l0.length : Int) < (l1.length : Int)) = true := decide_eq_true c10
     have c10b1 : decide (l0.length < l1.length) = true := decide_eq_true (Int.ofNat_lt.mp c10)
     clear c10
     obtain rfl := Option.some.inj H
     go_wp2
     go_ret
     exact ⟨by first | rfl | (simp; done) | (simp [*]; done), by repeat (first | exact Drawn0.refl _ | apply Drawn0.step)⟩
    ·rw [if_neg c10] at H
     have c10b0 : decide ((l0.length : Int) < (l1.length : Int)) = false := decide_eq_false c10
     have c10b1 : decide (l0.length < l1.length) = false := decide_eq_false (fun h => c10 (Int.ofNat_lt.mpr h))
     clear c10
     obtain rfl := Option.some.inj H
     go_wp2
     go_ret
     exact ⟨by first | rfl | (simp; done) | (simp [*]; done), by repeat (first | exact Drawn0.refl _ | apply Drawn0.step)⟩

end Go.Proofs.Ytcgfedaoimhejaa.G

namespace Go.Proofs.Ytcgfedaoimhejaa.G
open Go.RowKit Go.Proofs.YtcgfedaoimhejaaW.PrintWords Go.Proofs.YtcgfedaoimhejaaW.PrintLast
set_option linter.unusedVariables false
set_option linter.unusedSimpArgs false
/-! The orders of a column: what they are, their forces, and how two lists are held against each other. -/
theorem has_iff (l : List Int) (x : Int) : Has l x ↔ ∃ j, 0 ≤ j ∧ j < (l.length : Int) ∧ rd l j = x := by
  unfold Has All
  constructor
  · intro h
    refine Classical.byContradiction fun hn => h fun j a b e => hn ⟨j, a, b, e⟩
  · rintro ⟨j, a, b, e⟩ h
    exact h j a b e
theorem has_mem (l : List Int) (x : Int) : Has l x ↔ x ∈ l := by
  rw [has_iff]
  constructor
  · rintro ⟨j, a, b, e⟩
    rw [← e]
    exact rd_mem l j a b
  · intro h
    obtain ⟨i, hi, e⟩ := List.getElem_of_mem h
    refine ⟨(i : Int), by omega, by omega, ?_⟩
    unfold rd
    rw [List.getD_eq_getElem?_getD, Int.toNat_natCast, List.getElem?_eq_getElem hi]
    exact e
theorem ordIn_mem (f : List Int → List (List Int)) (jobs l : List Int) : ∀ (r : Nat) (i : Int), l ∈ ordIn f jobs r i ↔ ∃ k : Int, i ≤ k ∧ k < i + r ∧ ¬ Has jobs k ∧ l ∈ f (jobs ++ [k]) := by
  intro r
  induction r with
  | zero =>
    intro i
    unfold ordIn
    constructor
    · intro h; cases h
    · rintro ⟨k, a, b, _⟩; omega
  | succ r ih =>
    intro i
    unfold ordIn
    rw [List.mem_append, ih (i + 1)]
    constructor
    · rintro (h | ⟨k, a, b, c⟩)
      · by_cases hh : Has jobs i
        · rw [chk_pos hh] at h; cases h
        · rw [chk_neg hh] at h; exact ⟨i, by omega, by omega, hh, h⟩
      · exact ⟨k, by omega, by omega, c⟩
    · rintro ⟨k, a, b, c, h⟩
      by_cases e : k = i
      · subst e; rw [chk_neg c]; exact .inl h
      · exact .inr ⟨k, by omega, by omega, c, h⟩
/-- An order of the numbers from 0 up to, and without, n. -/
def OrdOk (l : List Int) (n : Nat) : Prop := l.length = n ∧ l.Nodup ∧ ∀ y ∈ l, 0 ≤ y ∧ y < (n : Int)
theorem ords_mem {n : Nat} (l : List Int) : ∀ (d : Nat) (jobs : List Int), jobs.length + d = n → jobs.Nodup → (∀ y ∈ jobs, 0 ≤ y ∧ y < (n : Int)) → (l ∈ ords n d jobs ↔ ∃ t, l = jobs ++ t ∧ OrdOk l n) := by
  intro d
  induction d with
  | zero =>
    intro jobs hd hn hp
    unfold ords
    rw [List.mem_singleton]
    constructor
    · rintro rfl; exact ⟨[], by simp, by omega, hn, hp⟩
    · rintro ⟨t, e, h⟩
      have h1 := h.1
      rw [e, List.length_append] at h1
      rw [e, List.eq_nil_of_length_eq_zero (show t.length = 0 by omega), List.append_nil]
  | succ d ih =>
    intro jobs hd hn hp
    unfold ords
    rw [ordIn_mem]
    have nod : ∀ k : Int, k ∉ jobs → (jobs ++ [k]).Nodup := fun k hk => by
      rw [List.nodup_append]
      exact ⟨hn, by simp, fun a ha b hb e => by rw [List.mem_singleton] at hb; subst hb; subst e; exact hk ha⟩
    have rng : ∀ k : Int, 0 ≤ k → k < (n : Int) → ∀ y ∈ jobs ++ [k], 0 ≤ y ∧ y < (n : Int) := fun k a b y hy => by
      rcases List.mem_append.1 hy with h | h
      · exact hp y h
      · rw [List.mem_singleton] at h; subst h; exact ⟨a, b⟩
    constructor
    · rintro ⟨k, k0, k1, hh, h⟩
      rw [has_mem] at hh
      obtain ⟨t, e, hP⟩ := (ih (jobs ++ [k]) (by simp; omega) (nod k hh) (rng k k0 (by omega))).1 h
      exact ⟨k :: t, by rw [e]; simp, hP⟩
    · rintro ⟨t, e, hP⟩
      cases t with
      | nil =>
        have := hP.1
        rw [e, List.append_nil] at this
        omega
      | cons k t =>
        have hk := hP.2.2 k (by rw [e]; simp)
        have hnd := hP.2.1
        rw [e, List.nodup_append] at hnd
        have hk2 : k ∉ jobs := fun m => hnd.2.2 k m k (by simp) rfl
        refine ⟨k, hk.1, by omega, by rw [has_mem]; exact hk2, (ih (jobs ++ [k]) (by simp; omega) (nod k hk2) (rng k hk.1 hk.2)).2 ⟨t, by rw [e]; simp, hP⟩⟩
theorem ords_all {n : Nat} (l : List Int) : l ∈ ords n n [] ↔ OrdOk l n := by
  rw [ords_mem l n [] (by simp) List.nodup_nil (fun y hy => by cases hy)]
  exact ⟨fun ⟨_, _, h⟩ => h, fun h => ⟨l, rfl, h⟩⟩
theorem rd_map (xs : List Int) (o : List Int) (i : Int) (h0 : 0 ≤ i) (h1 : i < (o.length : Int)) : rd (o.map (rd xs)) i = rd xs (rd o i) := by
  unfold rd
  rw [List.getD_eq_getElem?_getD, List.getElem?_map, List.getElem?_eq_getElem (show i.toNat < o.length by omega), List.getD_eq_getElem?_getD (l := o), List.getElem?_eq_getElem (show i.toNat < o.length by omega)]
  rfl
theorem ord_col {xs o : List Int} (hc : Col xs) (ho : OrdOk o xs.length) : Col (o.map (rd xs)) := by
  refine ⟨by rw [List.length_map, ho.1]; exact hc.1, ?_⟩
  rw [List.length_map]
  intro i i0 i1
  show okW (o.map (rd xs)) i
  unfold okW
  rw [rd_map xs o i i0 i1]
  have := ho.2.2 _ (rd_mem o i i0 i1)
  exact hc.2 _ this.1 this.2
theorem tot_bnd {l : List Int} (hb : ∀ x ∈ l, 0 ≤ x ∧ x ≤ 1000000) : ∀ d : Nat, d ≤ l.length → 0 ≤ tot l 0 d ∧ tot l 0 d ≤ 1000000 * d := by
  intro d
  induction d with
  | zero => intro _; exact ⟨Int.le_refl _, by simp [tot]⟩
  | succ d ih =>
    intro h
    have h1 := ih (by omega)
    have h2 := hb _ (rd_mem l (d : Int) (by omega) (by omega))
    rw [tot_succ, show (0 : Int) + (d : Int) = (d : Int) from by omega]
    omega
theorem impl_sumB {l : List Int} (h8 : l.length ≤ 8) (hb : ∀ x ∈ l, 0 ≤ x ∧ x ≤ 1000000) : Ev (fun k => impl_sumOf.f k l) (tot l 0 l.length) := by
  unfold impl_sumOf.f
  refine Ev.up (fun k (s : Int) i => impl_sumOf.l0 k s l (l.length : Int) i) (fun _ _ => tot l 0 l.length) (fun s i => 0 ≤ i ∧ s = tot l 0 i.toNat) (l.length : Int) ?_ ?_ 0 0 ⟨by omega, rfl⟩ (by omega)
  · rintro s ⟨_, rfl⟩
    refine Ev.step (fun k => by rw [impl_sumOf.l0]) ?_
    simp only [Int.lt_irrefl, if_false, Int.toNat_natCast]
    exact Ev.now _
  · rintro s i ⟨i0, rfl⟩ hlt ih
    have b1 := tot_bnd hb i.toNat (by omega)
    have b2 := hb _ (rd_mem l i i0 hlt)
    refine Ev.step (fun k => by rw [impl_sumOf.l0]) ?_
    simp (disch := omega) only [if_pos, wrap64_id]
    refine ih _ ⟨by omega, ?_⟩
    rw [show (i + 1).toNat = i.toNat + 1 from by omega, tot_succ, show (0 : Int) + ((i.toNat : Nat) : Int) = i from by omega]
theorem spec_sumB {l : List Int} (h8 : l.length ≤ 8) (hb : ∀ x ∈ l, 0 ≤ x ∧ x ≤ 1000000) : Ev (fun k => spec_l12Sum.f k l 0) (tot l 0 l.length) := by
  unfold spec_l12Sum.f
  refine Ev.up (fun k (s : Int) i => spec_l12Sum.l0 k l s i) (fun _ _ => tot l 0 l.length) (fun s i => 0 ≤ i ∧ s = tot l 0 i.toNat) (l.length : Int) ?_ ?_ 0 0 ⟨by omega, rfl⟩ (by omega)
  · rintro s ⟨_, rfl⟩
    refine Ev.step (fun k => by rw [spec_l12Sum.l0]) ?_
    simp only [Int.lt_irrefl, if_false, Int.toNat_natCast]
    exact Ev.now _
  · rintro s i ⟨i0, rfl⟩ hlt ih
    have b1 := tot_bnd hb i.toNat (by omega)
    have b2 := hb _ (rd_mem l i i0 hlt)
    refine Ev.step (fun k => by rw [spec_l12Sum.l0]) ?_
    simp (disch := omega) only [if_pos, wrap64_id]
    refine ih _ ⟨by omega, ?_⟩
    rw [show (i + 1).toNat = i.toNat + 1 from by omega, tot_succ, show (0 : Int) + ((i.toNat : Nat) : Int) = i from by omega]
/-- The sum of the forces of a list. -/
def forceSum (l : List Int) (T : Int) : Int := tot (forcesTo l T l.length) 0 l.length
theorem force_mem {l : List Int} (h : Col l) {T : Int} (hT : 0 ≤ T ∧ T ≤ 100) : ∀ x ∈ forcesTo l T l.length, 0 ≤ x ∧ x ≤ 1000000 := fun x hx => by
  have := forces_mem h T hT l.length (Nat.le_refl _) x hx
  omega
theorem impl_forceSum {l : List Int} (h : Col l) {T : Int} (hT : 0 ≤ T ∧ T ≤ 100) : Ev (fun k => impl_sumOf.f k (forcesTo l T l.length)) (forceSum l T) := by
  have e := forces_len l T l.length
  have := impl_sumB (l := forcesTo l T l.length) (by rw [e]; have := h.1; omega) (force_mem h hT)
  rw [e] at this
  exact this
theorem spec_forceSum {l : List Int} (h : Col l) {T : Int} (hT : 0 ≤ T ∧ T ≤ 100) : Ev (fun k => spec_l12Sum.f k (forcesTo l T l.length) 0) (forceSum l T) := by
  have e := forces_len l T l.length
  have := spec_sumB (l := forcesTo l T l.length) (by rw [e]; have := h.1; omega) (force_mem h hT)
  rw [e] at this
  exact this
theorem forceSum_nonneg {l : List Int} (h : Col l) {T : Int} (hT : 0 ≤ T ∧ T ≤ 100) : 0 ≤ forceSum l T := by
  have e := forces_len l T l.length
  have := tot_bnd (force_mem h hT) l.length (by rw [e]; exact Nat.le_refl _)
  exact this.1
theorem cmp_some (a b : Int) : cmp_Compare_int.f a b = some (if a < b then -1 else if a > b then 1 else 0) := by
  unfold cmp_Compare_int.f cmp_isNaN_int.f
  simp only [bne_self_eq_false, Option.bind_some, Bool.false_eq_true, if_false]
  split
  · rfl
  · split <;> rfl
theorem cmp_both (l b : List Int) (hl : (l.length : Int) ≤ 1099511627776) : ∃ r, Ev (fun k => slices_Compare_int_int.f k l b) r ∧ (l.length = b.length → ∃ t, Ev (fun k => spec_l12Before.f k l b) t ∧ (r < 0 ↔ t = true)) := by
  unfold slices_Compare_int_int.f spec_l12Before.f
  have main : ∀ (d : Nat) (i : Int), 0 ≤ i → i + d = (l.length : Int) → ∃ r, Ev (fun k => slices_Compare_int_int.l0 k l b l (l.length : Int) i) r ∧ (l.length = b.length → ∃ t, Ev (fun k => spec_l12Before.l0 k l b i) t ∧ (r < 0 ↔ t = true)) := by
    intro d
    induction d with
    | zero =>
      intro i i0 hd
      by_cases g : (l.length : Int) < (b.length : Int)
      · refine ⟨-1, ?_, fun e => by omega⟩
        refine Ev.step (fun k => by rw [slices_Compare_int_int.l0]) ?_
        simp (disch := omega) only [if_neg, if_pos g]
        exact Ev.now _
      · refine ⟨0, ?_, fun e => ⟨false, ?_, by decide⟩⟩
        · refine Ev.step (fun k => by rw [slices_Compare_int_int.l0]) ?_
          simp (disch := omega) only [if_neg]
          exact Ev.now _
        · refine Ev.step (fun k => by rw [spec_l12Before.l0]) ?_
          simp (disch := omega) only [if_neg]
          exact Ev.now _
    | succ d ih =>
      intro i i0 hd
      by_cases g : i ≥ (b.length : Int)
      · refine ⟨1, ?_, fun e => by omega⟩
        refine Ev.step (fun k => by rw [slices_Compare_int_int.l0]) ?_
        simp (disch := omega) only [if_pos]
        exact Ev.now _
      · obtain ⟨r, hr, hs⟩ := ih (i + 1) (by omega) (by omega)
        by_cases e : rd l i = rd b i
        · refine ⟨r, ?_, fun el => ?_⟩
          · refine Ev.step (fun k => by rw [slices_Compare_int_int.l0]) ?_
            simp (disch := omega) only [if_pos, if_neg, wrap64_id, cmp_some, Option.bind_some]
            simp only [if_true]
            exact hr
          · obtain ⟨t, ht, hi⟩ := hs el
            refine ⟨t, ?_, hi⟩
            refine Ev.step (fun k => by rw [spec_l12Before.l0]) ?_
            simp (disch := omega) only [if_pos, wrap64_id]
            exact ht
        · by_cases lt : rd l i < rd b i
          · refine ⟨-1, ?_, fun el => ⟨true, ?_, by decide⟩⟩
            · refine Ev.step (fun k => by rw [slices_Compare_int_int.l0]) ?_
              simp (disch := omega) only [if_pos, if_neg, cmp_some, Option.bind_some]
              exact Ev.now _
            · refine Ev.step (fun k => by rw [spec_l12Before.l0]) ?_
              simp (disch := omega) only [if_pos, if_neg]
              simp only [decide_eq_true lt]
              exact Ev.now _
          · refine ⟨1, ?_, fun el => ⟨false, ?_, by decide⟩⟩
            · refine Ev.step (fun k => by rw [slices_Compare_int_int.l0]) ?_
              simp (disch := omega) only [if_pos, if_neg, cmp_some, Option.bind_some]
              exact Ev.now _
            · refine Ev.step (fun k => by rw [spec_l12Before.l0]) ?_
              simp (disch := omega) only [if_pos, if_neg]
              simp only [decide_eq_false lt]
              exact Ev.now _
  exact main l.length 0 (by omega) (by omega)
/-- What slices.Compare tells of two lists. -/
noncomputable def cmpR (l b : List Int) : Int := by
  classical exact if h : (l.length : Int) ≤ 1099511627776 then Classical.choose (cmp_both l b h) else 0
theorem cmpR_ok (l b : List Int) (hl : (l.length : Int) ≤ 1099511627776) : Ev (fun k => slices_Compare_int_int.f k l b) (cmpR l b) ∧ (l.length = b.length → ∃ t, Ev (fun k => spec_l12Before.f k l b) t ∧ (cmpR l b < 0 ↔ t = true)) := by
  have e : cmpR l b = Classical.choose (cmp_both l b hl) := by
    unfold cmpR
    exact dif_pos hl
  rw [e]
  exact Classical.choose_spec (cmp_both l b hl)
/-- One order more: the lightest so far. -/
noncomputable def stepL (T : Int) (s : List Int × Int) (l : List Int) : List Int × Int := if s.2 < 0 ∨ forceSum l T < s.2 ∨ (forceSum l T = s.2 ∧ cmpR l s.1 < 0) then (l, forceSum l T) else s
noncomputable def foldL (xs : List Int) (T : Int) : List Int × Int := (ords xs.length xs.length []).foldl (fun s o => stepL T s (o.map (rd xs))) ([], -1)
end Go.Proofs.Ytcgfedaoimhejaa.G

/- The contract of LightestForce: of a valid column and rules, the first lightest order of the weights, by its forces' sum and then by the list. -/
namespace Go.Proofs.Ytcgfedaoimhejaa.G
open Go.RowKit Go.Proofs.YtcgfedaoimhejaaW.PrintWords Go.Proofs.YtcgfedaoimhejaaW.PrintLast
set_option linter.unusedVariables false
set_option linter.unusedSimpArgs false
theorem keeps_mono {S S' : Nat → Prop} {w w' : World} (h : Keeps S w w') (hs : ∀ k, S k → S' k) : Keeps S' w w' := ⟨h.os, h.tape, h.output, h.size, fun k hk hn => h.block k hk (fun m => hn (hs k m))⟩
theorem Keeps.of_set (w : World) (g i : Nat) (u : Value) : Keeps (fun k => k = g) w (w.setCell ⟨g, i, none⟩ u) := ⟨rfl, rfl, rfl, by simp [World.setCell], fun k hk hn => Below.heap_setCell w ⟨g, i, none⟩ u k hn⟩
theorem below_cell {B j : Nat} {w w' : World} (hb : Below w.heap.size w w') {v : Value} (h : w.cell? ⟨B, j, none⟩ = some v) : w'.cell? ⟨B, j, none⟩ = some v := (Keeps.of_below (S := fun _ => False) hb).cell h (fun h => h)
/-- The boxes of the best list and its sum. -/
def BoxL (Bl Bb : Nat) (k : Nat) : Prop := k = Bl ∨ k = Bb
structure LightI (wc : World) (xs : List Int) (L T S : Int) (Aw : Option Addr) (cw Bc Bx Bl Bb : Nat) (w : World) (s : List Int × Int) : Prop where
  old : Below wc.heap.size wc w
  cw_ : w.cell? ⟨Bc, 0, none⟩ = some (.slice Aw xs.length cw)
  cx : w.heap[Bx]? = some (.cells #[.int .i64 L, .int .i64 T, .int .i64 S] 28 (0, 0))
  bl : w.heap[Bl]? = some (.cells #[.int .i64 s.2] 3 (0, 0))
  bb : ∃ v, w.heap[Bb]? = some (.cells #[v] 22 (0, 0)) ∧ Kd.R (Kd.int .i64) 3 w wc.heap.size (fun k => ¬ BoxL Bl Bb k) v s.1
structure PlacesL (wc : World) (Bc Bx Bl Bb : Nat) : Prop where
  l : wc.heap.size ≤ Bl
  b : wc.heap.size ≤ Bb
  n1 : Bl ≠ Bb
  nc : ¬ BoxL Bl Bb Bc
  nx : ¬ BoxL Bl Bb Bx
theorem LightI.stay {wc : World} {xs : List Int} {L T S : Int} {Aw : Option Addr} {cw Bc Bx Bl Bb : Nat} {w w' : World} {s : List Int × Int} (h : LightI wc xs L T S Aw cw Bc Bx Bl Bb w s) (hb : Below w.heap.size w w') : LightI wc xs L T S Aw cw Bc Bx Bl Bb w' s := by
  obtain ⟨v, hv, hr⟩ := h.bb
  exact ⟨below_step h.old hb, below_cell hb h.cw_, blk_below h.cx hb, blk_below h.bl hb, ⟨v, blk_below hv hb, Kd.R_below hr hb⟩⟩
theorem LightI.put {wc : World} {xs : List Int} {L T S : Int} {Aw : Option Addr} {cw Bc Bx Bl Bb : Nat} (hp : PlacesL wc Bc Bx Bl Bb) {w : World} {s : List Int × Int} (h : LightI wc xs L T S Aw cw Bc Bx Bl Bb w s) {v : Value} {o : List Int}
    (hR : Kd.R (Kd.int .i64) 3 w wc.heap.size (fun k => ¬ BoxL Bl Bb k) v o) (m : Int) :
    LightI wc xs L T S Aw cw Bc Bx Bl Bb ((w.setCell ⟨Bb, 0, none⟩ v).setCell ⟨Bl, 0, none⟩ (.int .i64 m)) (o, m) ∧ Keeps (BoxL Bl Bb) w ((w.setCell ⟨Bb, 0, none⟩ v).setCell ⟨Bl, 0, none⟩ (.int .i64 m)) := by
  obtain ⟨p1, p2, n1, nc, nx⟩ := hp
  have k : Keeps (BoxL Bl Bb) w ((w.setCell ⟨Bb, 0, none⟩ v).setCell ⟨Bl, 0, none⟩ (.int .i64 m)) :=
    (keeps_mono (Keeps.of_set w Bb 0 v) (fun _ e => .inr e)).trans (keeps_mono (Keeps.of_set _ Bl 0 _) (fun _ e => .inl e))
  obtain ⟨v0, hv, hr⟩ := h.bb
  refine ⟨⟨⟨k.os.trans h.old.os, k.tape.trans h.old.tape, k.output.trans h.old.output, Nat.le_trans h.old.size k.size, fun i hi => (k.block i (Nat.lt_of_lt_of_le hi h.old.size) (fun e => by unfold BoxL at e; omega)).trans (h.old.block i hi)⟩,
    k.cell h.cw_ nc, (k.block _ (blk_lt h.cx) nx).trans h.cx, ?_, ⟨v, ?_, Kd.R_step hR (fun b hb hl => k.block b hl hb)⟩⟩, k⟩
  · exact blk_set ((Below.heap_setCell w ⟨Bb, 0, none⟩ v Bl n1).trans h.bl) 0 _
  · exact (Below.heap_setCell _ ⟨Bl, 0, none⟩ _ Bb (fun e => n1 e.symm)).trans (blk_set hv 0 v)
/-- The cells that the walk reads and writes ahead of the stores. -/
structure Ready (w : World) (Bl Bb : Nat) (m : Int) (u v : Value) : Prop where
  l : w.cell? ⟨Bl, 0, none⟩ = some (.int .i64 m)
  lf : w.frozen? ⟨Bl, 0, none⟩ = false
  b : w.cell? ⟨Bb, 0, none⟩ = some u
  bf : w.frozen? ⟨Bb, 0, none⟩ = false
  l2 : (w.setCell ⟨Bb, 0, none⟩ v).cell? ⟨Bl, 0, none⟩ = some (.int .i64 m)
  l2f : (w.setCell ⟨Bb, 0, none⟩ v).frozen? ⟨Bl, 0, none⟩ = false
theorem LightI.ready {wc : World} {xs : List Int} {L T S : Int} {Aw : Option Addr} {cw Bc Bx Bl Bb : Nat} (hp : PlacesL wc Bc Bx Bl Bb) {w : World} {s : List Int × Int} (h : LightI wc xs L T S Aw cw Bc Bx Bl Bb w s) (v : Value) :
    ∃ Ab cb, Kd.R (Kd.int .i64) 3 w wc.heap.size (fun k => ¬ BoxL Bl Bb k) (.slice Ab s.1.length cb) s.1 ∧ Ready w Bl Bb s.2 (.slice Ab s.1.length cb) v := by
  obtain ⟨v0, hv, hr⟩ := h.bb
  obtain ⟨Ab, cb, rfl⟩ := Kd.R_slice hr
  have hl := (Below.heap_setCell w ⟨Bb, 0, none⟩ v Bl hp.n1).trans h.bl
  exact ⟨Ab, cb, hr, ⟨(blk_cell h.bl 0).trans rfl, blk_frozen h.bl 0, (blk_cell hv 0).trans rfl, blk_frozen hv 0, (blk_cell hl 0).trans rfl, blk_frozen hl 0⟩⟩
set_option maxHeartbeats 4000000 in
set_option maxRecDepth 100000 in
theorem light_call {wc : World} {xs : List Int} {L T S : Int} (hc : Col xs) (hT : 0 ≤ T ∧ T ≤ 100) {Aw : Option Addr} {cw Bc Bx Bl Bb : Nat} (hp : PlacesL wc Bc Bx Bl Bb) (hCw : Kd.C (Kd.int .i64) wc Aw xs.length xs) (hcw : xs.length ≤ cw) (w : World) (s : List Int × Int) (v : Value) (o : List Int) (hI : LightI wc xs L T S Aw cw Bc Bx Bl Bb w s) (hP : OrdOk o xs.length) (hR : Kd.R (Kd.int .i64) 3 w wc.heap.size (fun k => ¬ BoxL Bl Bb k) v o) :
    Calls Try.prog 66 (#[v] ++ #[.pointer (some ⟨Bc, 0, none⟩), .pointer (some ⟨Bx, 0, none⟩), .pointer (some ⟨Bl, 0, none⟩), .pointer (some ⟨Bb, 0, none⟩)]) w fun e w' => e = .returned (.tuple #[]) ∧ LightI wc xs L T S Aw cw Bc Bx Bl Bb w' (stepL T s (o.map (rd xs))) ∧ Keeps (BoxL Bl Bb) w w' := by
  obtain ⟨A, c1, rfl⟩ := Kd.R_slice hR
  obtain ⟨best, least⟩ := s
  have hcl := ord_col hc hP
  have hn := hP.1
  have h4 : xs.length ≤ 4 := by have := hc.1; omega
  have hrg : ∀ i : Int, 0 ≤ i → i < (o.length : Int) → 0 ≤ rd o i ∧ rd o i < (xs.length : Int) := fun i a b => hP.2.2 _ (rd_mem o i a b)
  have ho4 : o.length ≤ 4 := by omega
  have hll : (o.map (rd xs)).length = o.length := List.length_map _
  obtain ⟨l, hld⟩ : ∃ l, o.map (rd xs) = l := ⟨_, rfl⟩
  rw [hld] at hcl hll ⊢
  have HLD := Aside0.mk hld
  have HLN := Aside0.mk hll
  clear hld
  obtain ⟨kf, hkf⟩ := Ev.rounds (impl_forces L T S hcl hT)
  obtain ⟨ks, hks⟩ := Ev.rounds (impl_forceSum hcl hT)
  obtain ⟨kc, hkc⟩ := Ev.rounds (cmpR_ok l best (by omega)).1
  have hst : stepL T (best, least) l = if least < 0 ∨ forceSum l T < least ∨ (forceSum l T = least ∧ cmpR l best < 0) then (l, forceSum l T) else (best, least) := rfl
  obtain ⟨m, hm⟩ : ∃ m, forceSum l T = m := ⟨_, rfl⟩
  obtain ⟨rc, hrc⟩ : ∃ rc, cmpR l best = rc := ⟨_, rfl⟩
  obtain ⟨F, hF⟩ : ∃ F, forcesTo l T l.length = F := ⟨_, rfl⟩
  rw [hm, hrc] at hst
  rw [hm, hF] at hks
  rw [hrc] at hkc
  rw [hF] at hkf
  have HKF := Aside0.mk hkf
  have HKS := Aside0.mk hks
  have HKC := Aside0.mk hkc
  have HST := Aside0.mk hst
  have HRG := Aside0.mk hrg
  have hw := hI.cw_
  have HI := Aside0.mk hI
  have HR := Aside0.mk hR
  have HP := Aside0.mk hp
  have HCW := Aside0.mk (Kd.C_below hCw hI.old)
  have HN := Aside0.mk hn
  clear hI hR hp hCw hkf hks hkc hst hrg hP hcl hc hm hrc hF hn hT hll
  show Calls Try.prog 66 #[.slice A o.length c1, .pointer (some ⟨Bc, 0, none⟩), .pointer (some ⟨Bx, 0, none⟩), .pointer (some ⟨Bl, 0, none⟩), .pointer (some ⟨Bb, 0, none⟩)] w _
  go_enter Try.func66, Try.ntmps66
  go_wp2_with ((with_reducible refine gate_dst (N := 10) rfl ?_); refine Kd.R_lit (Kd.int .i64) _ 3 ?hg (N := 10) ?hd (xs := ([] : List Int)) (inner := []) (ok := fun _ => True) (okp := fun _ => True) ?hr ?hp (fun _ hk => hk) trivial (Below.refl _ _) (Nat.le_refl _) (by simp) ?_; (case hd => rfl); (case hg => rfl); (case hr => first | (go_simp; done) | (go_simp; rfl)); (case hp => exact (Reps.none _ _)); intro v0 w1 ho1 hb1 hg_ hnew_; clear hg_ hnew_; have HO := Aside0.mk ho1; have HB := Aside0.mk hb1; clear ho1 hb1)
  go_loopw [6, 13] (fun v6 v13 w' => ∃ k : Nat, k ≤ o.length ∧ v13 = .int .i64 k ∧ Aside0 (Kd.R (Kd.int .i64) 3 w' w.heap.size (fun _ => True) v6 ((o.take k).map (rd xs))) ∧ Aside0 (Below w.heap.size w w')) (fun _ v13 _ => o.length - (intOf v13).toNat)
  case atStart => exact ⟨0, Nat.zero_le _, rfl, ⟨HO.out⟩, HB⟩
  case round =>
    obtain ⟨k, hk, rfl, ho, hb⟩ := hrel
    have hwr := below_cell hb.out hw
    by_cases hlt : k < o.length
    · have hg := HRG.out (k : Int) (by omega) (by omega)
      obtain ⟨ad, e1, hx⟩ := Kd.at_int (Kd.C_below (Kd.R_reads' HR.out).2.2 hb.out) (k : Int) (by omega) (by omega)
      obtain ⟨ad2, e2, hx2⟩ := Kd.at_int (Kd.C_below HCW.out hb.out) (rd o k) hg.1 hg.2
      cases e1
      cases e2
      rw [Int.toNat_natCast] at hx
      have g1 := eq_true hg.1
      have g2 := eq_true hg.2
      have HL : Aside0 ((o.take (k + 1)).map (rd xs) = (o.take k).map (rd xs) ++ [rd xs (rd o k)]) := Aside0.mk (by
        rw [List.take_succ_eq_append_getElem hlt, List.map_append]
        unfold rd
        rw [List.getD_eq_getElem?_getD (l := o), Int.toNat_natCast, List.getElem?_eq_getElem hlt]
        rfl)
      have HLen : Aside0 (((o.take k).map (rd xs)).length ≤ 10) := Aside0.mk (by rw [List.length_map, List.length_take]; have := HN.out; omega)
      clear hg
      go_wp2_with ((with_reducible refine gate_builtin (b := .append) (xs := #[.tmp 17, .tmp 22]) rfl ?_); at_builtin; refine Kd.R_append (Kd.int .i64) (w0 := w) w.heap.size rfl (.tmp 17) (.tmp 22) 22 3 (.int .i64 0) 8 rfl Try.underlying22 info3 rfl (by decide) (by omega) u6 ((o.take k).map (rd xs)) (rd xs (rd o k)) [.int .i64 (rd xs (rd o k))] (fun _ => True) (fun _ => False) rfl rfl ?aP (fun _ hk => hk.elim) ?aF ?aO ?aB ?aS ?aL ?_; (case aP => exact rfl); (case aB => exact (by repeat (first | (with_reducible first | exact hb.out | apply below_alloc | apply pw_below_drewN | apply below_drew1) | exact hb.out))); (case aF => exact (fun _ _ => trivial)); (case aO => exact (by (with_reducible repeat (first | apply Kd.R_alloc | apply Kd.R_drewN | apply Kd.R_drew)); exact ho.out)); (case aS => exact (below_size (by repeat (first | (with_reducible first | exact hb.out | apply below_alloc | apply pw_below_drewN | apply below_drew1) | exact hb.out)))); (case aL => have := HLen.out; omega); intro v8 w8 ho8 hb8 hg_ hat_; rw [← HL.out] at ho8; have HO8 := Aside0.mk ho8; have HB8 := Aside0.mk hb8; clear ho8 hb8 hg_ hat_)
      go_roundw
      case rel => exact ⟨k + 1, by omega, by go_num, HO8, HB8⟩
      case measure => simp [intOf]; omega
    · have HO := ho
      have HB := hb
      have HO2 : Aside0 (Kd.R (Kd.int .i64) 3 wr w.heap.size (fun _ => True) u6 l) := Aside0.mk (by
        have := ho.out
        rw [List.take_of_length_le (show o.length ≤ k by omega), HLD.out] at this
        exact this)
      have HI2 := Aside0.mk (HI.out.stay hb.out)
      clear ho hb HO
      obtain ⟨Al, cl, el⟩ := Kd.R_slice HO2.out
      subst el
      have hxr := HI2.out.cx
      have hy0 : wr.cell? ⟨Bx, 0, none⟩ = some (.int .i64 L) := (blk_cell hxr 0).trans rfl
      have hy1 : wr.cell? ⟨Bx, 1, none⟩ = some (.int .i64 T) := (blk_cell hxr 1).trans rfl
      have hy2 : wr.cell? ⟨Bx, 2, none⟩ = some (.int .i64 S) := (blk_cell hxr 2).trans rfl
      have hu28 := Try.underlying28
      clear hxr
      have fin : ∀ {w2 : World}, Below wr.heap.size wr w2 → Kd.R (Kd.int .i64) 3 w2 wc.heap.size (fun k => ¬ BoxL Bl Bb k) (.slice Al l.length cl) l := fun {w2} hb2 =>
        Kd.R_lower (Kd.R_mono (Kd.R_bound (Kd.R_below HO2.out hb2)) (fun b hb e => by have := hb.2.1; have h1 := blk_lt HI.out.bl; obtain ⟨_, h2, _⟩ := HI.out.bb; have h2 := blk_lt h2; unfold BoxL at e; omega)) HI.out.old.size
      have FIN := Aside0.mk @fin
      clear fin
      by_cases h0 : least < 0
      · have HS : Aside0 (stepL T (best, least) l = (l, m)) := Aside0.mk (by rw [HST.out]; exact if_pos (.inl h0))
        go_wp2_with (first | (go_at_call 48; refine (impl_forcesOf.calls kf Al cl l L T S F _ (Kd.R_reads' HO2.out).2.2 (Kd.R_reads' HO2.out).2.1 HKF.out).mono ?_; rintro e w2 ⟨vf, rfl, hRf, hd2⟩; obtain ⟨Af, cf, rfl⟩ := Kd.R_slice hRf; have HRF := Aside0.mk hRf; have HB2 := Aside0.mk hd2; clear hd2 hRf) | (go_at_call 53; refine (impl_sumOf.calls ks Af cf F m _ (Kd.R_reads' HRF.out).2.2 (Kd.R_reads' HRF.out).2.1 HKS.out).mono ?_; rintro e w3 ⟨rfl, hd3⟩; have HB3 := Aside0.mk (below_step HB2.out hd3.below); have HI3 := Aside0.mk (HI2.out.stay HB3.out); obtain ⟨Ab, cb, hRb, hz⟩ := HI3.out.ready HP.out (.slice Al l.length cl); have z1 := hz.l; have z2 := hz.lf; have z3 := hz.b; have z4 := hz.bf; have z5 := hz.l2; have z6 := hz.l2f; clear hz hd3 hRb))
        go_end0
        have r := HI3.out.put HP.out (FIN.out HB3.out) m
        rw [HS.out]
        exact ⟨rfl, r.1, (Keeps.of_below (below_step HB.out HB3.out)).trans r.2⟩
      · have h0' : 0 ≤ least := by omega
        by_cases h1 : m < least
        · have HS : Aside0 (stepL T (best, least) l = (l, m)) := Aside0.mk (by rw [HST.out]; exact if_pos (.inr (.inl h1)))
          go_wp2_with (first | (go_at_call 48; refine (impl_forcesOf.calls kf Al cl l L T S F _ (Kd.R_reads' HO2.out).2.2 (Kd.R_reads' HO2.out).2.1 HKF.out).mono ?_; rintro e w2 ⟨vf, rfl, hRf, hd2⟩; obtain ⟨Af, cf, rfl⟩ := Kd.R_slice hRf; have HRF := Aside0.mk hRf; have HB2 := Aside0.mk hd2; clear hd2 hRf) | (go_at_call 53; refine (impl_sumOf.calls ks Af cf F m _ (Kd.R_reads' HRF.out).2.2 (Kd.R_reads' HRF.out).2.1 HKS.out).mono ?_; rintro e w3 ⟨rfl, hd3⟩; have HB3 := Aside0.mk (below_step HB2.out hd3.below); have HI3 := Aside0.mk (HI2.out.stay HB3.out); obtain ⟨Ab, cb, hRb, hz⟩ := HI3.out.ready HP.out (.slice Al l.length cl); have z1 := hz.l; have z2 := hz.lf; have z3 := hz.b; have z4 := hz.bf; have z5 := hz.l2; have z6 := hz.l2f; clear hz hd3 hRb))
          go_end0
          have r := HI3.out.put HP.out (FIN.out HB3.out) m
          rw [HS.out]
          exact ⟨rfl, r.1, (Keeps.of_below (below_step HB.out HB3.out)).trans r.2⟩
        · have h1' : least ≤ m := by omega
          by_cases h2 : m = least
          · have heq : (m == least) = true := beq_iff_eq.2 h2
            by_cases h3 : rc < 0
            · have HS : Aside0 (stepL T (best, least) l = (l, m)) := Aside0.mk (by rw [HST.out]; exact if_pos (.inr (.inr ⟨h2, h3⟩)))
              clear h2
              go_wp2_with (first | (go_at_call 48; refine (impl_forcesOf.calls kf Al cl l L T S F _ (Kd.R_reads' HO2.out).2.2 (Kd.R_reads' HO2.out).2.1 HKF.out).mono ?_; rintro e w2 ⟨vf, rfl, hRf, hd2⟩; obtain ⟨Af, cf, rfl⟩ := Kd.R_slice hRf; have HRF := Aside0.mk hRf; have HB2 := Aside0.mk hd2; clear hd2 hRf) | (go_at_call 53; refine (impl_sumOf.calls ks Af cf F m _ (Kd.R_reads' HRF.out).2.2 (Kd.R_reads' HRF.out).2.1 HKS.out).mono ?_; rintro e w3 ⟨rfl, hd3⟩; have HB3 := Aside0.mk (below_step HB2.out hd3.below); have HI3 := Aside0.mk (HI2.out.stay HB3.out); obtain ⟨Ab, cb, hRb, hz⟩ := HI3.out.ready HP.out (.slice Al l.length cl); have HRB := Aside0.mk hRb; have z1 := hz.l; have z3 := hz.b; clear hz hd3 hRb) | (go_at_call 67; refine (slices_Compare_int_int.calls kc Al cl l Ab cb best rc _ (Kd.R_reads' (FIN.out HB3.out)).2.2 (Kd.R_reads' (FIN.out HB3.out)).2.1 (Kd.R_reads' HRB.out).2.2 (Kd.R_reads' HRB.out).2.1 HKC.out).mono ?_; rintro e w4 ⟨rfl, hd4⟩; have HB4 := Aside0.mk (below_step HB3.out hd4.below); have HI4 := Aside0.mk (HI2.out.stay HB4.out); obtain ⟨Ab4, cb4, hRb4, hz⟩ := HI4.out.ready HP.out (.slice Al l.length cl); have y1 := hz.l; have y2 := hz.lf; have y3 := hz.b; have y4 := hz.bf; have y5 := hz.l2; have y6 := hz.l2f; clear hz hd4 hRb4))
              go_end0
              have r := HI4.out.put HP.out (FIN.out HB4.out) m
              rw [HS.out]
              exact ⟨rfl, r.1, (Keeps.of_below (below_step HB.out HB4.out)).trans r.2⟩
            · have h3' : 0 ≤ rc := by omega
              have HS : Aside0 (stepL T (best, least) l = (best, least)) := Aside0.mk (by rw [HST.out]; exact if_neg (fun h => by omega))
              clear h2
              go_wp2_with (first | (go_at_call 48; refine (impl_forcesOf.calls kf Al cl l L T S F _ (Kd.R_reads' HO2.out).2.2 (Kd.R_reads' HO2.out).2.1 HKF.out).mono ?_; rintro e w2 ⟨vf, rfl, hRf, hd2⟩; obtain ⟨Af, cf, rfl⟩ := Kd.R_slice hRf; have HRF := Aside0.mk hRf; have HB2 := Aside0.mk hd2; clear hd2 hRf) | (go_at_call 53; refine (impl_sumOf.calls ks Af cf F m _ (Kd.R_reads' HRF.out).2.2 (Kd.R_reads' HRF.out).2.1 HKS.out).mono ?_; rintro e w3 ⟨rfl, hd3⟩; have HB3 := Aside0.mk (below_step HB2.out hd3.below); have HI3 := Aside0.mk (HI2.out.stay HB3.out); obtain ⟨Ab, cb, hRb, hz⟩ := HI3.out.ready HP.out (.slice Al l.length cl); have HRB := Aside0.mk hRb; have z1 := hz.l; have z3 := hz.b; clear hz hd3 hRb) | (go_at_call 67; refine (slices_Compare_int_int.calls kc Al cl l Ab cb best rc _ (Kd.R_reads' (FIN.out HB3.out)).2.2 (Kd.R_reads' (FIN.out HB3.out)).2.1 (Kd.R_reads' HRB.out).2.2 (Kd.R_reads' HRB.out).2.1 HKC.out).mono ?_; rintro e w4 ⟨rfl, hd4⟩; have HB4 := Aside0.mk (below_step HB3.out hd4.below); have HI4 := Aside0.mk (HI2.out.stay HB4.out); clear hd4))
              go_end0
              rw [HS.out]
              exact ⟨rfl, HI4.out, Keeps.of_below (below_step HB.out HB4.out)⟩
          · have heq : (m == least) = false := beq_eq_false_iff_ne.2 h2
            have HS : Aside0 (stepL T (best, least) l = (best, least)) := Aside0.mk (by rw [HST.out]; exact if_neg (fun h => by omega))
            clear h2
            go_wp2_with (first | (go_at_call 48; refine (impl_forcesOf.calls kf Al cl l L T S F _ (Kd.R_reads' HO2.out).2.2 (Kd.R_reads' HO2.out).2.1 HKF.out).mono ?_; rintro e w2 ⟨vf, rfl, hRf, hd2⟩; obtain ⟨Af, cf, rfl⟩ := Kd.R_slice hRf; have HRF := Aside0.mk hRf; have HB2 := Aside0.mk hd2; clear hd2 hRf) | (go_at_call 53; refine (impl_sumOf.calls ks Af cf F m _ (Kd.R_reads' HRF.out).2.2 (Kd.R_reads' HRF.out).2.1 HKS.out).mono ?_; rintro e w3 ⟨rfl, hd3⟩; have HB3 := Aside0.mk (below_step HB2.out hd3.below); have HI3 := Aside0.mk (HI2.out.stay HB3.out); obtain ⟨Ab, cb, hRb, hz⟩ := HI3.out.ready HP.out (.slice Al l.length cl); have z1 := hz.l; clear hz hd3 hRb))
            go_end0
            rw [HS.out]
            exact ⟨rfl, HI3.out, Keeps.of_below (below_step HB.out HB3.out)⟩
theorem light_back {wc : World} {xs : List Int} {L T S : Int} (hc : Col xs) (hT : 0 ≤ T ∧ T ≤ 100) {Aw : Option Addr} {cw Bc Bx Bl Bb : Nat} (hp : PlacesL wc Bc Bx Bl Bb) (hCw : Kd.C (Kd.int .i64) wc Aw xs.length xs) (hcw : xs.length ≤ cw) :
    Back (σ := List Int × Int) 66 #[.pointer (some ⟨Bc, 0, none⟩), .pointer (some ⟨Bx, 0, none⟩), .pointer (some ⟨Bl, 0, none⟩), .pointer (some ⟨Bb, 0, none⟩)] (BoxL Bl Bb) wc.heap.size (LightI wc xs L T S Aw cw Bc Bx Bl Bb) (fun o => OrdOk o xs.length) (fun s o => stepL T s (o.map (rd xs))) where
  enters := fun args w => enters_ Try.func66 (by kernel_rfl) rfl args w
  call := fun w s v o hI hP hR => light_call hc hT hp hCw hcw w s v o hI hP hR
  stay := fun w w' s hI hb => hI.stay hb
  low := fun w s hI k hk => by
    obtain ⟨v, hv, _⟩ := hI.bb
    rcases hk with rfl | rfl
    · exact blk_lt hI.bl
    · exact blk_lt hv
end Go.Proofs.Ytcgfedaoimhejaa.G
