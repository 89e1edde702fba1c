/- Texts of the proof of FnAssignments, joined in build order. -/
import Derived.Test.YtfgbohochpjkfaaProg
import Derived.Below
import Derived.Deep.Draws
import Derived.Deep.AppendLies
import Derived.Maps.AppendAt
import Derived.OwnWalk
import Derived.Laws.BytesArg
import Derived.Laws.MakeOwn
import Derived.Laws.OwnMore
import Derived.Deep.OwnRows
import Derived.Tactics
import Derived.Lib.ConvBytes
import Derived.Laws.Slices
import Derived.WalkKit
import Derived.KernelRfl
import Derived.RowKit3
import Derived.Deep.LoopGhost
import Derived.Deep.QuietTactic
import Derived.BigQuiet
import Derived.WideLaws
import Derived.Deep.DeepCutAuto
import Derived.Deep.CutBlock
import Derived.Deep.RegionHeld3
import Derived.Laws.Rows
import Derived.Lib.AppendStr
import Derived.ArgAppend
import Derived.Laws.IdiomCopy
import Derived.OrdersHeld
import Derived.Laws.BitsLemmas
import Derived.RowKit
import Derived.Test.YtfgbohochpjkfaaMgFnAssignments0
import Derived.IntWalk
import Derived.WalkSpells
-- Written by wip/tools/gen.py out of the translation (the kit's printer, one namespace a seat). Lean checks it.
namespace Go.Proofs.Ytfgbohochpjkfaa.G
open Go.RowKit Go.Proofs.YtfgbohochpjkfaaW.PrintWords Go.Proofs.YtfgbohochpjkfaaW.PrintLast Go.Proofs.YtfgbohochpjkfaaW.PrintMore
attribute [local go_sem] max2_int min2_int max_two min_two max_three min_three max_four min_four   -- for this text's walks alone
set_option linter.unusedVariables false
set_option linter.unusedSimpArgs false



def errW : Option Int → Value
 | none => .nilIface
 | some c => .iface 0 (.int .i64 c)
theorem errW_none : errW none = .nilIface := rfl
theorem errW_some (c : Int) : errW (some c) = .iface 0 (.int .i64 c) := rfl

theorem info3 : (Try.prog.info? 3).map (fun i => (i.zero, i.size, i.bytes)) = some (some (.int .i64 0), 1, 8) := by kernel_rfl
theorem info27 : (Try.prog.info? 27).map (fun i => (i.zero, i.size, i.bytes)) = some (some (.slice none 0 0), 1, 24) := by kernel_rfl
-- the values' own types
def rd_L1 (xs : List (List Int)) (i : Int) : (List Int) := xs.getD i.toNat ([] : List Int)
theorem at_L1 {w : World} {A : Option Addr} {n : Nat} {xs : List (List Int)} (h : Kd.C (Kd.slice 3 (Kd.int .i64)) w A n xs) (i : Int) (h0 : 0 ≤ i) (h1 : i < n) : ∃ ad A0 c0, A = some ad ∧ w.cell? (ad.add i.toNat) = some (.slice A0 (rd_L1 xs i).length c0) ∧ (rd_L1 xs i).length ≤ c0 ∧ (Kd.int .i64).C w A0 (rd_L1 xs i).length (rd_L1 xs i) := by
 obtain ⟨ad, c, e, _, hK, hc0⟩ := Kd.C_get h ([] : List Int) i h0 h1
 have hc : ∀ j u, c[j]? = some u → w.cell? (ad.add (i.toNat * 1 + j)) = some u := hc0
 obtain ⟨A0, c0, rfl, l0, g0⟩ := hK
 exact ⟨ad, A0, c0, e, by have hq := hc 0 _ rfl; rwa [Nat.mul_one, Nat.add_zero] at hq, l0, g0⟩

def rd_L3 (xs : List (List (List Int))) (i : Int) : (List (List Int)) := xs.getD i.toNat ([] : List (List Int))
def rd_L5 (xs : List (List Int)) (i : Int) : (List Int) := xs.getD i.toNat ([] : List Int)
end Go.Proofs.Ytfgbohochpjkfaa.G

namespace Go.Proofs.Ytfgbohochpjkfaa.G
open Go.RowKit Go.Proofs.YtfgbohochpjkfaaW.PrintWords Go.Proofs.YtfgbohochpjkfaaW.PrintLast
set_option linter.unusedVariables false
set_option linter.unusedSimpArgs false
/-! Plain laws on printed functions: what holds from some number of rounds on, case by case and loop by loop. -/
theorem Ev.ite {α : Type} {c : Prop} [Decidable c] {A B : Nat → Option α} {r : α} (h1 : c → Ev A r) (h2 : ¬ c → Ev B r) : Ev (fun k => if c then A k else B k) r := by
  by_cases h : c
  · simpa only [if_pos h] using h1 h
  · simpa only [if_neg h] using h2 h
theorem Ev.val {α : Type} {v r : α} (h : v = r) : Ev (fun _ => some v) r := by rw [h]; exact Ev.now r
theorem Ev.eq {α : Type} {g : Nat → Option α} {r r' : α} (h : Ev g r) (e : r = r') : Ev g r' := e ▸ h
theorem Ev.same {α : Type} {g : Nat → Option α} {r r' : α} (h : Ev g r) (h' : Ev g r') : r = r' := by
  obtain ⟨K, h⟩ := h
  obtain ⟨K', h'⟩ := h'
  have h1 := h (max K K') (by omega)
  rw [h' (max K K') (by omega)] at h1
  exact (Option.some.inj h1).symm
theorem wrap64_id {x : Int} (h1 : -9223372036854775808 ≤ x) (h2 : x ≤ 9223372036854775807) : wrap64 x = x := IntWalk.wrap64_in x ⟨h1, h2⟩
/-- What holds of all indices from i up to, and without, n. -/
def All (P : Int → Prop) (i n : Int) : Prop := ∀ j, i ≤ j → j < n → P j
theorem All.end_ (P : Int → Prop) (n : Int) : All P n n := fun j h1 h2 => by omega
theorem All.step {P : Int → Prop} {i n : Int} (h : i < n) : All P i n ↔ P i ∧ All P (i + 1) n := by
  constructor
  · intro a
    exact ⟨a i (Int.le_refl _) h, fun j h1 h2 => a j (by omega) h2⟩
  · rintro ⟨p, a⟩ j h1 h2
    by_cases e : j = i
    · rw [e]; exact p
    · exact a j (by omega) h2
/-- One of two values, by a statement. -/
noncomputable def chk {β : Type} (p : Prop) (a b : β) : β := @ite β p (Classical.propDecidable p) a b
theorem chk_pos {β : Type} {p : Prop} (h : p) (a b : β) : chk p a b = a := by unfold chk; exact if_pos h
theorem chk_neg {β : Type} {p : Prop} (h : ¬ p) (a b : β) : chk p a b = b := by unfold chk; exact if_neg h
theorem chk_congr {β : Type} {p q : Prop} (h : p ↔ q) (a b : β) : chk p a b = chk q a b := by rw [propext h]
theorem chk_true {p : Prop} : chk p true false = true ↔ p := by
  by_cases h : p
  · rw [chk_pos h]; exact ⟨fun _ => h, fun _ => rfl⟩
  · rw [chk_neg h]; exact ⟨(fun e => by cases e), (fun e => absurd e h)⟩
theorem chk_and {β : Type} {p q : Prop} (a b : β) : chk p (chk q a b) b = chk (p ∧ q) a b := by
  by_cases h : p
  · rw [chk_pos h]
    exact chk_congr ⟨fun x => ⟨h, x⟩, fun x => x.2⟩ _ _
  · rw [chk_neg h, chk_neg (fun x => h x.1)]
/-- A loop that goes up, any state. -/
theorem Ev.up {σ β : Type} (g : Nat → σ → Int → Option β) (R : σ → Int → β) (I : σ → Int → Prop) (n : Int)
    (hend : ∀ s, I s n → Ev (fun k => g k s n) (R s n))
    (hstep : ∀ s i, I s i → i < n → (∀ s', I s' (i + 1) → Ev (fun k => g k s' (i + 1)) (R s' (i + 1))) → Ev (fun k => g k s i) (R s i)) :
    ∀ s i, I s i → i ≤ n → Ev (fun k => g k s i) (R s i) := by
  have main : ∀ (d : Nat) s i, I s i → i + d = n → Ev (fun k => g k s i) (R s i) := by
    intro d
    induction d with
    | zero =>
      intro s i hI hd
      obtain rfl : i = n := by omega
      exact hend s hI
    | succ d ih => intro s i hI hd; exact hstep s i hI (by omega) (fun s' hI' => ih s' (i + 1) hI' (by omega))
  intro s i hI hi
  exact main (n - i).toNat s i hI (by omega)
/-- A loop that tests each index. -/
theorem Ev.check {β : Type} (g : Nat → Int → Option β) (n : Int) (P : Int → Prop) (r0 r1 : β) (i0 : Int)
    (hend : Ev (fun k => g k n) r0)
    (hstep : ∀ i, i0 ≤ i → i < n → ∀ r, Ev (fun k => g k (i + 1)) r → Ev (fun k => g k i) (chk (P i) r r1)) :
    ∀ i, i0 ≤ i → i ≤ n → Ev (fun k => g k i) (chk (All P i n) r0 r1) := by
  intro i h0 hi
  refine Ev.up (fun k (_ : Unit) i => g k i) (fun _ i => chk (All P i n) r0 r1) (fun _ i => i0 ≤ i) n (fun _ _ => ?_) (fun _ i h0 hlt ih => ?_) () i h0 hi
  · rw [chk_pos (All.end_ P n)]; exact hend
  · have := hstep i h0 hlt _ (ih () (by omega))
    rw [chk_and, chk_congr (All.step hlt).symm] at this
    exact this
theorem Ev.upc {β : Type} (g : Nat → Int → Option β) (r : β) (n i0 : Int) (hend : Ev (fun k => g k n) r) (hstep : ∀ i, i0 ≤ i → i < n → Ev (fun k => g k (i + 1)) r → Ev (fun k => g k i) r) :
    ∀ i, i0 ≤ i → i ≤ n → Ev (fun k => g k i) r := by
  intro i h0 hi
  exact Ev.up (fun k (_ : Unit) i => g k i) (fun _ _ => r) (fun _ i => i0 ≤ i) n (fun _ _ => hend) (fun _ i h0 hlt ih => hstep i h0 hlt (ih () (by omega))) () i h0 hi
/-- out grows by one element a round. -/
theorem Ev.build {α β γ : Type} (g : Nat → List β → Int → Option γ) (xs : List α) (f : α → β) (z : α) (r : γ) (hend : Ev (fun k => g k (xs.map f) (xs.length : Int)) r)
    (hstep : ∀ out i, 0 ≤ i → i < (xs.length : Int) → (out.length : Int) = i → ∀ r, Ev (fun k => g k (out ++ [f (xs.getD i.toNat z)]) (i + 1)) r → Ev (fun k => g k out i) r) : Ev (fun k => g k [] 0) r := by
  refine Ev.up g (fun _ _ => r) (fun out i => 0 ≤ i ∧ i ≤ (xs.length : Int) ∧ out = (xs.take i.toNat).map f) (xs.length : Int) ?_ ?_ [] 0 ⟨by omega, by omega, by simp⟩ (by omega)
  · rintro out ⟨_, _, rfl⟩
    have e : xs.take (xs.length : Int).toNat = xs := by simp
    rw [e]; exact hend
  · rintro out i ⟨h0, h1, rfl⟩ hlt ih
    refine hstep _ i h0 hlt (by simp; omega) _ (ih _ ⟨by omega, by omega, ?_⟩)
    have e : (i + 1).toNat = i.toNat + 1 := by omega
    rw [e, List.take_succ_eq_append_getElem (show i.toNat < xs.length by omega), List.map_append, List.getD_eq_getElem?_getD, List.getElem?_eq_getElem (show i.toNat < xs.length by omega)]
    rfl
end Go.Proofs.Ytfgbohochpjkfaa.G

-- Written by wip/tools/gen.py out of the translation (the kit's printer, one namespace a seat). Lean checks it.
namespace Go.Proofs.Ytfgbohochpjkfaa.G
open Go.RowKit Go.Proofs.YtfgbohochpjkfaaW.PrintWords Go.Proofs.YtfgbohochpjkfaaW.PrintLast Go.Proofs.YtfgbohochpjkfaaW.PrintMore
attribute [local go_sem] max2_int min2_int max_two min_two max_three min_three max_four min_four   -- for this text's walks alone
set_option linter.unusedVariables false
set_option linter.unusedSimpArgs false

/-- A state of type 67 at block g of W; what its slices lead to came in by w0. -/
def IsS67 (w0 W : World) (g : Nat) (f0 : List Int) (f1 : Int) (f2 : Int) : Prop := ∃ A0 c0, W.heap[g]? = some (.cells #[.slice A0 f0.length c0, .int .i64 f1, .int .u64 f2] 67 (0, 0)) ∧ w0.heap.size ≤ g ∧ Kd.C (Kd.int .u8) w0 A0 f0.length f0
theorem IsS67.grown {w0 W : World} {g : Nat} {f0 : List Int} {f1 : Int} {f2 : Int} {W1 : World} {row : Option Nat} (h : IsS67 w0 W g f0 f1 f2) (hw : W.grownBy W1 row) (hne : some g ≠ row) : IsS67 w0 W1 g f0 f1 f2 := by
 obtain ⟨A0, c0, hb, hg, hr0⟩ := h
 exact ⟨A0, c0, blk_grown hb hw hne, hg, hr0⟩
theorem IsS67.below {w0 W : World} {g : Nat} {f0 : List Int} {f1 : Int} {f2 : Int} {W1 : World} (h : IsS67 w0 W g f0 f1 f2) (hw : Below W.heap.size W W1) : IsS67 w0 W1 g f0 f1 f2 := h.grown (grown_of_below hw none) (by simp)
theorem IsS67.alloc {w0 W : World} {g : Nat} {f0 : List Int} {f1 : Int} {f2 : Int} (h : IsS67 w0 W g f0 f1 f2) (o : Obj) : IsS67 w0 (W.alloc o) g f0 f1 f2 := h.below (below_alloc (Below.refl _ _) o)
theorem IsS67.drewN {w0 W : World} {g : Nat} {f0 : List Int} {f1 : Int} {f2 : Int} (h : IsS67 w0 W g f0 f1 f2) (m : Nat) : IsS67 w0 (W.drewN m) g f0 f1 f2 := h
theorem IsS67.drew {w0 W : World} {g : Nat} {f0 : List Int} {f1 : Int} {f2 : Int} (h : IsS67 w0 W g f0 f1 f2) : IsS67 w0 W.drew g f0 f1 f2 := h
theorem IsS67.lt {w0 W : World} {g : Nat} {f0 : List Int} {f1 : Int} {f2 : Int} (h : IsS67 w0 W g f0 f1 f2) : g < W.heap.size := by
 obtain ⟨A0, c0, hb, hg, hr0⟩ := h
 exact blk_lt hb
theorem IsS67.ge {w0 W : World} {g : Nat} {f0 : List Int} {f1 : Int} {f2 : Int} (h : IsS67 w0 W g f0 f1 f2) : w0.heap.size ≤ g := by
 obtain ⟨A0, c0, hb, hg, hr0⟩ := h
 exact hg
theorem IsS67.far {w0 W : World} {g : Nat} {f0 : List Int} {f1 : Int} {f2 : Int} {p : Addr} (h : IsS67 w0 W g f0 f1 f2) (hne : g ≠ p.block) (u : Value) : IsS67 w0 (W.setCell p u) g f0 f1 f2 := by
 obtain ⟨A0, c0, hb, hg, hr0⟩ := h
 exact ⟨A0, c0, blk_far hb hne u, hg, hr0⟩
theorem cellS67_0 {W : World} {g : Nat} {A0 : Option Addr} {c0 : Nat} {f0 : List Int} {f1 : Int} {f2 : Int} (h : W.heap[g]? = some (.cells #[.slice A0 f0.length c0, .int .i64 f1, .int .u64 f2] 67 (0, 0))) : W.cell? ⟨g, 0, none⟩ = some (.slice A0 f0.length c0) := (blk_cell h 0).trans rfl
theorem cellS67_1 {W : World} {g : Nat} {A0 : Option Addr} {c0 : Nat} {f0 : List Int} {f1 : Int} {f2 : Int} (h : W.heap[g]? = some (.cells #[.slice A0 f0.length c0, .int .i64 f1, .int .u64 f2] 67 (0, 0))) : W.cell? ⟨g, 1, none⟩ = some (.int .i64 f1) := (blk_cell h 1).trans rfl
theorem IsS67.set_1 {w0 W : World} {g : Nat} {f0 : List Int} {f1 : Int} {f2 : Int} (h : IsS67 w0 W g f0 f1 f2) (x : Int) : IsS67 w0 (W.setCell ⟨g, 1, none⟩ (.int .i64 x)) g f0 x f2 := by
 obtain ⟨A0, c0, hb, hg, hr0⟩ := h
 exact ⟨A0, c0, by simpa using blk_set hb 1 (.int .i64 x), hg, hr0⟩
theorem cellS67_2 {W : World} {g : Nat} {A0 : Option Addr} {c0 : Nat} {f0 : List Int} {f1 : Int} {f2 : Int} (h : W.heap[g]? = some (.cells #[.slice A0 f0.length c0, .int .i64 f1, .int .u64 f2] 67 (0, 0))) : W.cell? ⟨g, 2, none⟩ = some (.int .u64 f2) := (blk_cell h 2).trans rfl
theorem IsS67.set_2 {w0 W : World} {g : Nat} {f0 : List Int} {f1 : Int} {f2 : Int} (h : IsS67 w0 W g f0 f1 f2) (x : Int) : IsS67 w0 (W.setCell ⟨g, 2, none⟩ (.int .u64 x)) g f0 f1 x := by
 obtain ⟨A0, c0, hb, hg, hr0⟩ := h
 exact ⟨A0, c0, by simpa using blk_set hb 2 (.int .u64 x), hg, hr0⟩
/-! ### spec_l1Cur_next: function 84 -/
def spec_l1Cur_next.f (s0_0 : List Int) (s0_1 : Int) (s0_2 : Int) : Option (Int × Int × Int) := if s0_1 < (s0_0.length : Int) then (if 0 ≤ s0_1 then (if (wrap64 (s0_1 + 1)) ≤ (s0_0.length : Int) then (some (wrap64 (rd s0_0 s0_1), wrap64 (s0_1 + 1), IntKind.u64.wrap ((IntKind.u64.wrap ((IntKind.u64.wrap (s0_2 * 6364136223846793005)) + (IntKind.u64.wrap (wrap64 (rd s0_0 s0_1))))) + 906906))) else (some (wrap64 (Go.bits .and .u64 ((IntKind.u64.wrap ((IntKind.u64.wrap ((IntKind.u64.wrap (s0_2 * 6364136223846793005)) + (IntKind.u64.wrap (wrap64 (rd s0_0 s0_1))))) + 906906)) / 1099511627776) 255), wrap64 (s0_1 + 1), IntKind.u64.wrap ((IntKind.u64.wrap ((IntKind.u64.wrap (s0_2 * 6364136223846793005)) + (IntKind.u64.wrap (wrap64 (rd s0_0 s0_1))))) + 906906)))) else (none)) else (if (wrap64 (s0_1 + 1)) ≤ (s0_0.length : Int) then (some (0, wrap64 (s0_1 + 1), IntKind.u64.wrap ((IntKind.u64.wrap (IntKind.u64.wrap (s0_2 * 6364136223846793005))) + 906906))) else (some (wrap64 (Go.bits .and .u64 ((IntKind.u64.wrap ((IntKind.u64.wrap (IntKind.u64.wrap (s0_2 * 6364136223846793005))) + 906906)) / 1099511627776) 255), wrap64 (s0_1 + 1), IntKind.u64.wrap ((IntKind.u64.wrap (IntKind.u64.wrap (s0_2 * 6364136223846793005))) + 906906))))
set_option maxHeartbeats 8000000 in
set_option maxRecDepth 100000 in
theorem spec_l1Cur_next.calls (g : Nat) (s0_0 : List Int) (s0_1 : Int) (s0_2 : Int) (r1 : Int) (r2 : Int) (r3 : Int) (w0 w : World) (hI : IsS67 w0 w g s0_0 s0_1 s0_2) (hB : Below w0.heap.size w0 w) (h : spec_l1Cur_next.f s0_0 s0_1 s0_2 = some (r1, r2, r3)) :
  Calls Try.prog 84 #[.pointer (some ⟨g, 0, none⟩)] w fun e w' => e = .returned (.int .i64 r1) ∧ IsS67 w0 w' g s0_0 r2 r3 ∧ Below w0.heap.size w0 w' ∧ KeepBut w w' g none := by
 have HI0 := Aside0.mk hI
 have HK := Aside0.mk (KeepBut.refl w g none)
 have HL := Aside0.mk hB.size
 clear hI
 have HW0 := Aside0.mk hB.size
 have HB := Aside0.mk hB
 clear hB
 have H : (if s0_1 < (s0_0.length : Int) then (if 0 ≤ s0_1 then (if (wrap64 (s0_1 + 1)) ≤ (s0_0.length : Int) then (some (wrap64 (rd s0_0 s0_1), wrap64 (s0_1 + 1), IntKind.u64.wrap ((IntKind.u64.wrap ((IntKind.u64.wrap (s0_2 * 6364136223846793005)) + (IntKind.u64.wrap (wrap64 (rd s0_0 s0_1))))) + 906906))) else (some (wrap64 (Go.bits .and .u64 ((IntKind.u64.wrap ((IntKind.u64.wrap ((IntKind.u64.wrap (s0_2 * 6364136223846793005)) + (IntKind.u64.wrap (wrap64 (rd s0_0 s0_1))))) + 906906)) / 1099511627776) 255), wrap64 (s0_1 + 1), IntKind.u64.wrap ((IntKind.u64.wrap ((IntKind.u64.wrap (s0_2 * 6364136223846793005)) + (IntKind.u64.wrap (wrap64 (rd s0_0 s0_1))))) + 906906)))) else (none)) else (if (wrap64 (s0_1 + 1)) ≤ (s0_0.length : Int) then (some (0, wrap64 (s0_1 + 1), IntKind.u64.wrap ((IntKind.u64.wrap (IntKind.u64.wrap (s0_2 * 6364136223846793005))) + 906906))) else (some (wrap64 (Go.bits .and .u64 ((IntKind.u64.wrap ((IntKind.u64.wrap (IntKind.u64.wrap (s0_2 * 6364136223846793005))) + 906906)) / 1099511627776) 255), wrap64 (s0_1 + 1), IntKind.u64.wrap ((IntKind.u64.wrap (IntKind.u64.wrap (s0_2 * 6364136223846793005))) + 906906))))) = some (r1, r2, r3) := h
 clear h
 by_cases c2 : s0_1 < (s0_0.length : Int)
 ·rw [if_pos c2] at H
  have c2b0 : decide (s0_1 < (s0_0.length : Int)) = true := decide_eq_true c2
  clear c2
  by_cases c3 : 0 ≤ s0_1
  ·rw [if_pos c3] at H
   have c3b0 : decide (0 ≤ s0_1) = true := decide_eq_true c3
   clear c3
   by_cases c4 : (wrap64 (s0_1 + 1)) ≤ (s0_0.length : Int)
   ·rw [if_pos c4] at H
    have c4b0 : decide ((wrap64 (s0_1 + 1)) ≤ (s0_0.length : Int)) = true := decide_eq_true c4
    clear c4
    simp only [Option.some.injEq, Prod.mk.injEq] at H
    obtain ⟨rfl, rfl, rfl⟩ := H
    obtain ⟨ASz5_0, cSz5_0, HGz5, hgz5, HSz5_0⟩ := HI0.out
    have hcz5_0 := cellS67_0 HGz5
    have hcz5_1 := cellS67_1 HGz5
    have hcz5_2 := cellS67_2 HGz5
    have hfz5_1 := blk_frozen HGz5 1
    have hfz5_2 := blk_frozen HGz5 2
    clear HGz5 hgz5
    have p511 : 0 ≤ (s0_1 : Int) := of_decide_eq_true (by first | (with_reducible assumption) | assumption)
    have q511 : s0_1 < (s0_0.length : Int) := of_decide_eq_true (by first | (with_reducible assumption) | assumption)
    obtain ⟨ad511, e511, hx511_0⟩ := Kd.at_int HSz5_0 s0_1 p511 q511
    cases e511
    replace hx511_0 := pw_cell_below HB.out hx511_0
    replace p511 := eq_true p511
    replace q511 := eq_true q511
    go_enter Try.func84, Try.ntmps84
    go_wp2
    repeat (go_quiet (fail); try go_wp2)
    go_ret
    exact ⟨by first | rfl | (simp [errW_none, errW_some] <;> rfl) | (simp [*, errW_none, errW_some] <;> rfl), by repeat (first | (with_reducible first | exact HI0.out | apply IsS67.alloc | apply IsS67.drewN | apply IsS67.drew | apply IsS67.set_1 | apply IsS67.set_2) | exact HI0.out), by repeat (first | (with_reducible first | exact HB.out | apply below_alloc | apply pw_below_drewN | apply below_drew1 | refine below_set ?_ (IsS67.ge HI0.out)) | exact HB.out), by repeat (first | (with_reducible first | exact HK.out | apply KeepBut.set_ | apply keep_drewN | apply keep_drew | apply keep_alloc) | exact HK.out)⟩
   ·rw [if_neg c4] at H
    have c4b0 : decide ((wrap64 (s0_1 + 1)) ≤ (s0_0.length : Int)) = false := decide_eq_false c4
    clear c4
    simp only [Option.some.injEq, Prod.mk.injEq] at H
    obtain ⟨rfl, rfl, rfl⟩ := H
    obtain ⟨ASz6_0, cSz6_0, HGz6, hgz6, HSz6_0⟩ := HI0.out
    have hcz6_0 := cellS67_0 HGz6
    have hcz6_1 := cellS67_1 HGz6
    have hcz6_2 := cellS67_2 HGz6
    have hfz6_1 := blk_frozen HGz6 1
    have hfz6_2 := blk_frozen HGz6 2
    clear HGz6 hgz6
    have p511 : 0 ≤ (s0_1 : Int) := of_decide_eq_true (by first | (with_reducible assumption) | assumption)
    have q511 : s0_1 < (s0_0.length : Int) := of_decide_eq_true (by first | (with_reducible assumption) | assumption)
    obtain ⟨ad511, e511, hx511_0⟩ := Kd.at_int HSz6_0 s0_1 p511 q511
    cases e511
    replace hx511_0 := pw_cell_below HB.out hx511_0
    replace p511 := eq_true p511
    replace q511 := eq_true q511
    go_enter Try.func84, Try.ntmps84
    go_wp2
    repeat (go_quiet (fail); try go_wp2)
    go_ret
    exact ⟨by first | rfl | (simp [errW_none, errW_some] <;> rfl) | (simp [*, errW_none, errW_some] <;> rfl), by repeat (first | (with_reducible first | exact HI0.out | apply IsS67.alloc | apply IsS67.drewN | apply IsS67.drew | apply IsS67.set_1 | apply IsS67.set_2) | exact HI0.out), by repeat (first | (with_reducible first | exact HB.out | apply below_alloc | apply pw_below_drewN | apply below_drew1 | refine below_set ?_ (IsS67.ge HI0.out)) | exact HB.out), by repeat (first | (with_reducible first | exact HK.out | apply KeepBut.set_ | apply keep_drewN | apply keep_drew | apply keep_alloc) | exact HK.out)⟩
  ·rw [if_neg c3] at H
   exact absurd H (by simp)
 ·rw [if_neg c2] at H
  have c2b0 : decide (s0_1 < (s0_0.length : Int)) = false := decide_eq_false c2
  clear c2
  by_cases c7 : (wrap64 (s0_1 + 1)) ≤ (s0_0.length : Int)
  ·rw [if_pos c7] at H
   have c7b0 : decide ((wrap64 (s0_1 + 1)) ≤ (s0_0.length : Int)) = true := decide_eq_true c7
   clear c7
   simp only [Option.some.injEq, Prod.mk.injEq] at H
   obtain ⟨rfl, rfl, rfl⟩ := H
   obtain ⟨ASz8_0, cSz8_0, HGz8, hgz8, HSz8_0⟩ := HI0.out
   have hcz8_0 := cellS67_0 HGz8
   have hcz8_1 := cellS67_1 HGz8
   have hcz8_2 := cellS67_2 HGz8
   have hfz8_1 := blk_frozen HGz8 1
   have hfz8_2 := blk_frozen HGz8 2
   clear HGz8 hgz8
   go_enter Try.func84, Try.ntmps84
   go_wp2
   repeat (go_quiet (fail); try go_wp2)
   go_ret
   exact ⟨by first | rfl | (simp [errW_none, errW_some] <;> rfl) | (simp [*, errW_none, errW_some] <;> rfl), by repeat (first | (with_reducible first | exact HI0.out | apply IsS67.alloc | apply IsS67.drewN | apply IsS67.drew | apply IsS67.set_1 | apply IsS67.set_2) | exact HI0.out), by repeat (first | (with_reducible first | exact HB.out | apply below_alloc | apply pw_below_drewN | apply below_drew1 | refine below_set ?_ (IsS67.ge HI0.out)) | exact HB.out), by repeat (first | (with_reducible first | exact HK.out | apply KeepBut.set_ | apply keep_drewN | apply keep_drew | apply keep_alloc) | exact HK.out)⟩
  ·rw [if_neg c7] at H
   have c7b0 : decide ((wrap64 (s0_1 + 1)) ≤ (s0_0.length : Int)) = false := decide_eq_false c7
   clear c7
   simp only [Option.some.injEq, Prod.mk.injEq] at H
   obtain ⟨rfl, rfl, rfl⟩ := H
   obtain ⟨ASz9_0, cSz9_0, HGz9, hgz9, HSz9_0⟩ := HI0.out
   have hcz9_0 := cellS67_0 HGz9
   have hcz9_1 := cellS67_1 HGz9
   have hcz9_2 := cellS67_2 HGz9
   have hfz9_1 := blk_frozen HGz9 1
   have hfz9_2 := blk_frozen HGz9 2
   clear HGz9 hgz9
   go_enter Try.func84, Try.ntmps84
   go_wp2
   repeat (go_quiet (fail); try go_wp2)
   go_ret
   exact ⟨by first | rfl | (simp [errW_none, errW_some] <;> rfl) | (simp [*, errW_none, errW_some] <;> rfl), by repeat (first | (with_reducible first | exact HI0.out | apply IsS67.alloc | apply IsS67.drewN | apply IsS67.drew | apply IsS67.set_1 | apply IsS67.set_2) | exact HI0.out), by repeat (first | (with_reducible first | exact HB.out | apply below_alloc | apply pw_below_drewN | apply below_drew1 | refine below_set ?_ (IsS67.ge HI0.out)) | exact HB.out), by repeat (first | (with_reducible first | exact HK.out | apply KeepBut.set_ | apply keep_drewN | apply keep_drew | apply keep_alloc) | exact HK.out)⟩

end Go.Proofs.Ytfgbohochpjkfaa.G

-- Written by wip/tools/gen.py out of the translation (the kit's printer, one namespace a seat). Lean checks it.
namespace Go.Proofs.Ytfgbohochpjkfaa.G
open Go.RowKit Go.Proofs.YtfgbohochpjkfaaW.PrintWords Go.Proofs.YtfgbohochpjkfaaW.PrintLast Go.Proofs.YtfgbohochpjkfaaW.PrintMore
attribute [local go_sem] max2_int min2_int max_two min_two max_three min_three max_four min_four   -- for this text's walks alone
set_option linter.unusedVariables false
set_option linter.unusedSimpArgs false

/-! ### spec_l1Cur_pick: function 71 -/
def spec_l1Cur_pick.f (s0_0 : List Int) (s0_1 : Int) (s0_2 : Int) (a1 : Int) : Option (Int × Int × Int) := if a1 ≤ 1 then (some (0, s0_1, s0_2)) else ((spec_l1Cur_next.f s0_0 s0_1 s0_2).bind fun bt512 => (if a1 > 200 then ((spec_l1Cur_next.f s0_0 bt512.2.1 bt512.2.2).bind fun bt515 => (if a1 = 0 then (none) else (some (Int.tmod (wrap64 ((wrap64 (bt512.1 * 256)) + bt515.1)) a1, bt515.2.1, bt515.2.2)))) else (if a1 = 0 then (none) else (some (Int.tmod bt512.1 a1, bt512.2.1, bt512.2.2)))))
set_option maxHeartbeats 8000000 in
set_option maxRecDepth 100000 in
theorem spec_l1Cur_pick.calls (g : Nat) (s0_0 : List Int) (s0_1 : Int) (s0_2 : Int) (a1 : Int) (r1 : Int) (r2 : Int) (r3 : Int) (w0 w : World) (hI : IsS67 w0 w g s0_0 s0_1 s0_2) (hB : Below w0.heap.size w0 w) (h : spec_l1Cur_pick.f s0_0 s0_1 s0_2 a1 = some (r1, r2, r3)) :
  Calls Try.prog 71 #[.pointer (some ⟨g, 0, none⟩), .int .i64 a1] w fun e w' => e = .returned (.int .i64 r1) ∧ IsS67 w0 w' g s0_0 r2 r3 ∧ Below w0.heap.size w0 w' ∧ KeepBut w w' g none := by
 have HI0 := Aside0.mk hI
 have HK := Aside0.mk (KeepBut.refl w g none)
 have HL := Aside0.mk hB.size
 clear hI
 have HW0 := Aside0.mk hB.size
 have HB := Aside0.mk hB
 clear hB
 have H : (if a1 ≤ 1 then (some (0, s0_1, s0_2)) else ((spec_l1Cur_next.f s0_0 s0_1 s0_2).bind fun bt512 => (if a1 > 200 then ((spec_l1Cur_next.f s0_0 bt512.2.1 bt512.2.2).bind fun bt515 => (if a1 = 0 then (none) else (some (Int.tmod (wrap64 ((wrap64 (bt512.1 * 256)) + bt515.1)) a1, bt515.2.1, bt515.2.2)))) else (if a1 = 0 then (none) else (some (Int.tmod bt512.1 a1, bt512.2.1, bt512.2.2)))))) = some (r1, r2, r3) := h
 clear h
 by_cases c3 : a1 ≤ 1
 ·rw [if_pos c3] at H
  have c3b0 : decide (a1 ≤ 1) = true := decide_eq_true c3
  clear c3
  simp only [Option.some.injEq, Prod.mk.injEq] at H
  obtain ⟨rfl, rfl, rfl⟩ := H
  go_enter Try.func71, Try.ntmps71
  go_wp2
  go_ret
  exact ⟨by first | rfl | (simp [errW_none, errW_some] <;> rfl) | (simp [*, errW_none, errW_some] <;> rfl), by repeat (first | (with_reducible first | exact HI0.out | apply IsS67.alloc | apply IsS67.drewN | apply IsS67.drew | apply IsS67.set_1 | apply IsS67.set_2) | exact HI0.out), by repeat (first | (with_reducible first | exact HB.out | apply below_alloc | apply pw_below_drewN | apply below_drew1 | refine below_set ?_ (IsS67.ge HI0.out)) | exact HB.out), by repeat (first | (with_reducible first | exact HK.out | apply KeepBut.set_ | apply keep_drewN | apply keep_drew | apply keep_alloc) | exact HK.out)⟩
 ·rw [if_neg c3] at H
  have c3b0 : decide (a1 ≤ 1) = false := decide_eq_false c3
  clear c3
  replace H := Option.bind_eq_some_iff.mp H
  obtain ⟨⟨t512, t513, t514⟩, A40, H⟩ := H
  replace H : (if a1 > 200 then ((spec_l1Cur_next.f s0_0 t513 t514).bind fun bt515 => (if a1 = 0 then (none) else (some (Int.tmod (wrap64 ((wrap64 (t512 * 256)) + bt515.1)) a1, bt515.2.1, bt515.2.2)))) else (if a1 = 0 then (none) else (some (Int.tmod t512 a1, t513, t514)))) = some (r1, r2, r3) := H
  have A4 := Aside0.mk A40
  clear A40
  by_cases c5 : a1 > 200
  ·rw [if_pos c5] at H
   have c5b0 : decide (200 < a1) = true := decide_eq_true c5
   clear c5
   replace H := Option.bind_eq_some_iff.mp H
   obtain ⟨⟨t515, t516, t517⟩, A60, H⟩ := H
   replace H : (if a1 = 0 then (none) else (some (Int.tmod (wrap64 ((wrap64 (t512 * 256)) + t515)) a1, t516, t517))) = some (r1, r2, r3) := H
   have A6 := Aside0.mk A60
   clear A60
   by_cases c7 : a1 = 0
   ·rw [if_pos c7] at H
    exact absurd H (by simp)
   ·rw [if_neg c7] at H
    have c7b0 : (a1 == 0) = false := beq_eq_false_iff_ne.mpr c7
    have c7b1 : (a1 != 0) = true := bne_iff_ne.mpr c7
    simp only [Option.some.injEq, Prod.mk.injEq] at H
    obtain ⟨rfl, rfl, rfl⟩ := H
    go_enter Try.func71, Try.ntmps71
    go_wp2_with (first | ((with_reducible refine gate_callee (f := 84) rfl ?_); refine goesL_ (some 9) rfl rfl Try.func84 (by kernel_rfl) rfl #[.pointer (some ⟨g, 0, none⟩)] rfl (by (try simp only [List.map_toArray, List.map_cons, List.map_nil]); first | done | rfl | (simp only [List.length_drop, List.length_take]; rfl)) ?_; (with_reducible refine (spec_l1Cur_next.calls g s0_0 s0_1 s0_2 t512 t513 t514 w0 _ ?side1 ?side2 A4.out).mono ?_); (case side1 => repeat (first | (with_reducible first | exact HI0.out | apply IsS67.alloc | apply IsS67.drewN | apply IsS67.drew | apply IsS67.set_1 | apply IsS67.set_2) | exact HI0.out)); (case side2 => repeat (first | (with_reducible first | exact HB.out | apply below_alloc | apply pw_below_drewN | apply below_drew1 | refine below_set ?_ (IsS67.ge HI0.out)) | exact HB.out)); rintro e w8 ⟨rfl, hi, hb, hk⟩; refine ⟨_, rfl, ?_⟩; have n0_ := Aside0.mk (KeepBut.trans (by repeat (first | (with_reducible first | exact HK.out | apply KeepBut.set_ | apply keep_drewN | apply keep_drew | apply keep_alloc) | exact HK.out)) hk (.inl rfl)); have n1_ := Aside0.mk (hb); have n2_ := Aside0.mk (hi); clear HK; clear HB; clear HI0; have HK := n0_; have HB := n1_; have HI0 := n2_; clear n0_ n1_ n2_; (try clear hb); (try clear hb2); (try clear hk); (try clear hi)) | ((with_reducible refine gate_callee (f := 84) rfl ?_); refine goesL_ (some 15) rfl rfl Try.func84 (by kernel_rfl) rfl #[.pointer (some ⟨g, 0, none⟩)] rfl (by (try simp only [List.map_toArray, List.map_cons, List.map_nil]); first | done | rfl | (simp only [List.length_drop, List.length_take]; rfl)) ?_; (with_reducible refine (spec_l1Cur_next.calls g s0_0 t513 t514 t515 t516 t517 w0 _ ?side1 ?side2 A6.out).mono ?_); (case side1 => repeat (first | (with_reducible first | exact HI0.out | apply IsS67.alloc | apply IsS67.drewN | apply IsS67.drew | apply IsS67.set_1 | apply IsS67.set_2) | exact HI0.out)); (case side2 => repeat (first | (with_reducible first | exact HB.out | apply below_alloc | apply pw_below_drewN | apply below_drew1 | refine below_set ?_ (IsS67.ge HI0.out)) | exact HB.out)); rintro e w9 ⟨rfl, hi, hb, hk⟩; refine ⟨_, rfl, ?_⟩; have n0_ := Aside0.mk (KeepBut.trans (by repeat (first | (with_reducible first | exact HK.out | apply KeepBut.set_ | apply keep_drewN | apply keep_drew | apply keep_alloc) | exact HK.out)) hk (.inl rfl)); have n1_ := Aside0.mk (hb); have n2_ := Aside0.mk (hi); clear HK; clear HB; clear HI0; have HK := n0_; have HB := n1_; have HI0 := n2_; clear n0_ n1_ n2_; (try clear hb); (try clear hb2); (try clear hk); (try clear hi)))
    go_ret
    exact ⟨by first | rfl | (simp [errW_none, errW_some] <;> rfl) | (simp [*, errW_none, errW_some] <;> rfl), by repeat (first | (with_reducible first | exact HI0.out | apply IsS67.alloc | apply IsS67.drewN | apply IsS67.drew | apply IsS67.set_1 | apply IsS67.set_2) | exact HI0.out), by repeat (first | (with_reducible first | exact HB.out | apply below_alloc | apply pw_below_drewN | apply below_drew1 | refine below_set ?_ (IsS67.ge HI0.out)) | exact HB.out), by repeat (first | (with_reducible first | exact HK.out | apply KeepBut.set_ | apply keep_drewN | apply keep_drew | apply keep_alloc) | exact HK.out)⟩
  ·rw [if_neg c5] at H
   have c5b0 : decide (200 < a1) = false := decide_eq_false c5
   clear c5
   by_cases c10 : a1 = 0
   ·rw [if_pos c10] at H
    exact absurd H (by simp)
   ·rw [if_neg c10] at H
    have c10b0 : (a1 == 0) = false := beq_eq_false_iff_ne.mpr c10
    have c10b1 : (a1 != 0) = true := bne_iff_ne.mpr c10
    simp only [Option.some.injEq, Prod.mk.injEq] at H
    obtain ⟨rfl, rfl, rfl⟩ := H
    go_enter Try.func71, Try.ntmps71
    go_wp2_with (first | ((with_reducible refine gate_callee (f := 84) rfl ?_); refine goesL_ (some 9) rfl rfl Try.func84 (by kernel_rfl) rfl #[.pointer (some ⟨g, 0, none⟩)] rfl (by (try simp only [List.map_toArray, List.map_cons, List.map_nil]); first | done | rfl | (simp only [List.length_drop, List.length_take]; rfl)) ?_; (with_reducible refine (spec_l1Cur_next.calls g s0_0 s0_1 s0_2 t512 t513 t514 w0 _ ?side1 ?side2 A4.out).mono ?_); (case side1 => repeat (first | (with_reducible first | exact HI0.out | apply IsS67.alloc | apply IsS67.drewN | apply IsS67.drew | apply IsS67.set_1 | apply IsS67.set_2) | exact HI0.out)); (case side2 => repeat (first | (with_reducible first | exact HB.out | apply below_alloc | apply pw_below_drewN | apply below_drew1 | refine below_set ?_ (IsS67.ge HI0.out)) | exact HB.out)); rintro e w11 ⟨rfl, hi, hb, hk⟩; refine ⟨_, rfl, ?_⟩; have n0_ := Aside0.mk (KeepBut.trans (by repeat (first | (with_reducible first | exact HK.out | apply KeepBut.set_ | apply keep_drewN | apply keep_drew | apply keep_alloc) | exact HK.out)) hk (.inl rfl)); have n1_ := Aside0.mk (hb); have n2_ := Aside0.mk (hi); clear HK; clear HB; clear HI0; have HK := n0_; have HB := n1_; have HI0 := n2_; clear n0_ n1_ n2_; (try clear hb); (try clear hb2); (try clear hk); (try clear hi)))
    go_ret
    exact ⟨by first | rfl | (simp [errW_none, errW_some] <;> rfl) | (simp [*, errW_none, errW_some] <;> rfl), by repeat (first | (with_reducible first | exact HI0.out | apply IsS67.alloc | apply IsS67.drewN | apply IsS67.drew | apply IsS67.set_1 | apply IsS67.set_2) | exact HI0.out), by repeat (first | (with_reducible first | exact HB.out | apply below_alloc | apply pw_below_drewN | apply below_drew1 | refine below_set ?_ (IsS67.ge HI0.out)) | exact HB.out), by repeat (first | (with_reducible first | exact HK.out | apply KeepBut.set_ | apply keep_drewN | apply keep_drew | apply keep_alloc) | exact HK.out)⟩

end Go.Proofs.Ytfgbohochpjkfaa.G

-- Written by wip/tools/gen.py out of the translation (the kit's printer, one namespace a seat). Lean checks it.
namespace Go.Proofs.Ytfgbohochpjkfaa.G
open Go.RowKit Go.Proofs.YtfgbohochpjkfaaW.PrintWords Go.Proofs.YtfgbohochpjkfaaW.PrintLast Go.Proofs.YtfgbohochpjkfaaW.PrintMore
attribute [local go_sem] max2_int min2_int max_two min_two max_three min_three max_four min_four   -- for this text's walks alone
set_option linter.unusedVariables false
set_option linter.unusedSimpArgs false

/-! ### spec_l1Cur_one: function 83 -/
def spec_l1Cur_one.f (s0_0 : List Int) (s0_1 : Int) (s0_2 : Int) (a1 : Int) : Option (Bool × Int × Int) := (spec_l1Cur_pick.f s0_0 s0_1 s0_2 a1).bind fun bt522 => (some ((bt522.1 == 0), bt522.2.1, bt522.2.2))
set_option maxHeartbeats 8000000 in
set_option maxRecDepth 100000 in
theorem spec_l1Cur_one.calls (g : Nat) (s0_0 : List Int) (s0_1 : Int) (s0_2 : Int) (a1 : Int) (r1 : Bool) (r2 : Int) (r3 : Int) (w0 w : World) (hI : IsS67 w0 w g s0_0 s0_1 s0_2) (hB : Below w0.heap.size w0 w) (h : spec_l1Cur_one.f s0_0 s0_1 s0_2 a1 = some (r1, r2, r3)) :
  Calls Try.prog 83 #[.pointer (some ⟨g, 0, none⟩), .int .i64 a1] w fun e w' => e = .returned (.bool r1) ∧ IsS67 w0 w' g s0_0 r2 r3 ∧ Below w0.heap.size w0 w' ∧ KeepBut w w' g none := by
 have HI0 := Aside0.mk hI
 have HK := Aside0.mk (KeepBut.refl w g none)
 have HL := Aside0.mk hB.size
 clear hI
 have HW0 := Aside0.mk hB.size
 have HB := Aside0.mk hB
 clear hB
 have H : ((spec_l1Cur_pick.f s0_0 s0_1 s0_2 a1).bind fun bt522 => (some ((bt522.1 == 0), bt522.2.1, bt522.2.2))) = some (r1, r2, r3) := h
 clear h
 replace H := Option.bind_eq_some_iff.mp H
 obtain ⟨⟨t522, t523, t524⟩, A30, H⟩ := H
 replace H : (some ((t522 == 0), t523, t524)) = some (r1, r2, r3) := H
 have A3 := Aside0.mk A30
 clear A30
 simp only [Option.some.injEq, Prod.mk.injEq] at H
 obtain ⟨rfl, rfl, rfl⟩ := H
 go_enter Try.func83, Try.ntmps83
 go_wp2_with (first | ((with_reducible refine gate_callee (f := 71) rfl ?_); refine goesL_ (some 7) rfl rfl Try.func71 (by kernel_rfl) rfl #[.pointer (some ⟨g, 0, none⟩), .int .i64 a1] rfl (by (try simp only [List.map_toArray, List.map_cons, List.map_nil]); first | done | rfl | (simp only [List.length_drop, List.length_take]; rfl)) ?_; (with_reducible refine (spec_l1Cur_pick.calls g s0_0 s0_1 s0_2 a1 t522 t523 t524 w0 _ ?side1 ?side2 A3.out).mono ?_); (case side1 => repeat (first | (with_reducible first | exact HI0.out | apply IsS67.alloc | apply IsS67.drewN | apply IsS67.drew | apply IsS67.set_1 | apply IsS67.set_2) | exact HI0.out)); (case side2 => repeat (first | (with_reducible first | exact HB.out | apply below_alloc | apply pw_below_drewN | apply below_drew1 | refine below_set ?_ (IsS67.ge HI0.out)) | exact HB.out)); rintro e w4 ⟨rfl, hi, hb, hk⟩; refine ⟨_, rfl, ?_⟩; have n0_ := Aside0.mk (KeepBut.trans (by repeat (first | (with_reducible first | exact HK.out | apply KeepBut.set_ | apply keep_drewN | apply keep_drew | apply keep_alloc) | exact HK.out)) hk (.inl rfl)); have n1_ := Aside0.mk (hb); have n2_ := Aside0.mk (hi); clear HK; clear HB; clear HI0; have HK := n0_; have HB := n1_; have HI0 := n2_; clear n0_ n1_ n2_; (try clear hb); (try clear hb2); (try clear hk); (try clear hi)))
 go_ret
 exact ⟨by first | rfl | (simp [errW_none, errW_some] <;> rfl) | (simp [*, errW_none, errW_some] <;> rfl), by repeat (first | (with_reducible first | exact HI0.out | apply IsS67.alloc | apply IsS67.drewN | apply IsS67.drew | apply IsS67.set_1 | apply IsS67.set_2) | exact HI0.out), by repeat (first | (with_reducible first | exact HB.out | apply below_alloc | apply pw_below_drewN | apply below_drew1 | refine below_set ?_ (IsS67.ge HI0.out)) | exact HB.out), by repeat (first | (with_reducible first | exact HK.out | apply KeepBut.set_ | apply keep_drewN | apply keep_drew | apply keep_alloc) | exact HK.out)⟩

end Go.Proofs.Ytfgbohochpjkfaa.G

-- Written by wip/tools/gen.py out of the translation (the kit's printer, one namespace a seat). Lean checks it.
namespace Go.Proofs.Ytfgbohochpjkfaa.G
open Go.RowKit Go.Proofs.YtfgbohochpjkfaaW.PrintWords Go.Proofs.YtfgbohochpjkfaaW.PrintLast Go.Proofs.YtfgbohochpjkfaaW.PrintMore
attribute [local go_sem] max2_int min2_int max_two min_two max_three min_three max_four min_four   -- for this text's walks alone
set_option linter.unusedVariables false
set_option linter.unusedSimpArgs false

/-! ### spec_l1Cur_among: function 74 -/
def spec_l1Cur_among.f (s0_0 : List Int) (s0_1 : Int) (s0_2 : Int) (l1 : List Int) : Option (Int × Int × Int) := (spec_l1Cur_pick.f s0_0 s0_1 s0_2 (l1.length : Int)).bind fun bt518 => (if 0 ≤ bt518.1 then (if bt518.1 < (l1.length : Int) then (some (rd l1 bt518.1, bt518.2.1, bt518.2.2)) else (none)) else (none))
set_option maxHeartbeats 8000000 in
set_option maxRecDepth 100000 in
theorem spec_l1Cur_among.calls (g : Nat) (s0_0 : List Int) (s0_1 : Int) (s0_2 : Int) (A1 : Option Addr) (c1 : Nat) (l1 : List Int) (r1 : Int) (r2 : Int) (r3 : Int) (w0 w : World) (hI : IsS67 w0 w g s0_0 s0_1 s0_2) (hB : Below w0.heap.size w0 w) (hr1 : Kd.C (Kd.int .i64) w A1 l1.length l1) (hc1 : l1.length ≤ c1) (hf1 : ∀ ad, A1 = some ad → 0 < l1.length → ad.block ≠ g) (h : spec_l1Cur_among.f s0_0 s0_1 s0_2 l1 = some (r1, r2, r3)) :
  Calls Try.prog 74 #[.pointer (some ⟨g, 0, none⟩), .slice A1 l1.length c1] w fun e w' => e = .returned (.int .i64 r1) ∧ IsS67 w0 w' g s0_0 r2 r3 ∧ Below w0.heap.size w0 w' ∧ KeepBut w w' g none := by
 have HR1 := Aside0.mk hr1
 have HC1 := Aside0.mk hc1
 clear hr1 hc1
 have HI0 := Aside0.mk hI
 have HK := Aside0.mk (KeepBut.refl w g none)
 have HL := Aside0.mk hB.size
 clear hI
 have HW0 := Aside0.mk hB.size
 have HB := Aside0.mk hB
 clear hB
 have H : ((spec_l1Cur_pick.f s0_0 s0_1 s0_2 (l1.length : Int)).bind fun bt518 => (if 0 ≤ bt518.1 then (if bt518.1 < (l1.length : Int) then (some (rd l1 bt518.1, bt518.2.1, bt518.2.2)) else (none)) else (none))) = some (r1, r2, r3) := h
 clear h
 replace H := Option.bind_eq_some_iff.mp H
 obtain ⟨⟨t518, t519, t520⟩, A30, H⟩ := H
 replace H : (if 0 ≤ t518 then (if t518 < (l1.length : Int) then (some (rd l1 t518, t519, t520)) else (none)) else (none)) = some (r1, r2, r3) := H
 have A3 := Aside0.mk A30
 clear A30
 by_cases c4 : 0 ≤ t518
 ·rw [if_pos c4] at H
  have c4b0 : decide (0 ≤ t518) = true := decide_eq_true c4
  clear c4
  by_cases c5 : t518 < (l1.length : Int)
  ·rw [if_pos c5] at H
   have c5b0 : decide (t518 < (l1.length : Int)) = true := decide_eq_true c5
   clear c5
   simp only [Option.some.injEq, Prod.mk.injEq] at H
   obtain ⟨rfl, rfl, rfl⟩ := H
   go_enter Try.func74, Try.ntmps74
   go_wp2_with (first | ((with_reducible refine gate_callee (f := 71) rfl ?_); refine goesL_ (some 9) rfl rfl Try.func71 (by kernel_rfl) rfl #[.pointer (some ⟨g, 0, none⟩), .int .i64 (l1.length : Int)] rfl (by (try simp only [List.map_toArray, List.map_cons, List.map_nil]); first | done | rfl | (simp only [List.length_drop, List.length_take]; rfl)) ?_; (with_reducible refine (spec_l1Cur_pick.calls g s0_0 s0_1 s0_2 (l1.length : Int) t518 t519 t520 w0 _ ?side1 ?side2 A3.out).mono ?_); (case side1 => repeat (first | (with_reducible first | exact HI0.out | apply IsS67.alloc | apply IsS67.drewN | apply IsS67.drew | apply IsS67.set_1 | apply IsS67.set_2) | exact HI0.out)); (case side2 => repeat (first | (with_reducible first | exact HB.out | apply below_alloc | apply pw_below_drewN | apply below_drew1 | refine below_set ?_ (IsS67.ge HI0.out)) | exact HB.out)); rintro e w6 ⟨rfl, hi, hb, hk⟩; refine ⟨_, rfl, ?_⟩; have n0_ := Aside0.mk (KeepBut.trans (by repeat (first | (with_reducible first | exact HK.out | apply KeepBut.set_ | apply keep_drewN | apply keep_drew | apply keep_alloc) | exact HK.out)) hk (.inl rfl)); have n1_ := Aside0.mk (hb); have n2_ := Aside0.mk (hi); clear HK; clear HB; clear HI0; have HK := n0_; have HB := n1_; have HI0 := n2_; clear n0_ n1_ n2_; (try clear hb); (try clear hb2); (try clear hk); (try clear hi); have p521 : 0 ≤ (t518 : Int) := of_decide_eq_true (by first | (with_reducible assumption) | assumption); have q521 : t518 < (l1.length : Int) := of_decide_eq_true (by first | (with_reducible assumption) | assumption); obtain ⟨ad521, e521, hx521_0⟩ := Kd.at_int HR1.out t518 p521 q521; cases e521; replace hx521_0 := keep_cell HK.out hx521_0 (by first | (rw [add_block]; exact hf1 _ rfl (by omega)) | exact hf1 _ rfl (by omega) | exact hf1 ad521 rfl (by omega)); replace p521 := eq_true p521; replace q521 := eq_true q521))
   go_ret
   exact ⟨by first | rfl | (simp [errW_none, errW_some] <;> rfl) | (simp [*, errW_none, errW_some] <;> rfl), by repeat (first | (with_reducible first | exact HI0.out | apply IsS67.alloc | apply IsS67.drewN | apply IsS67.drew | apply IsS67.set_1 | apply IsS67.set_2) | exact HI0.out), by repeat (first | (with_reducible first | exact HB.out | apply below_alloc | apply pw_below_drewN | apply below_drew1 | refine below_set ?_ (IsS67.ge HI0.out)) | exact HB.out), by repeat (first | (with_reducible first | exact HK.out | apply KeepBut.set_ | apply keep_drewN | apply keep_drew | apply keep_alloc) | exact HK.out)⟩
  ·rw [if_neg c5] at H
   exact absurd H (by simp)
 ·rw [if_neg c4] at H
  exact absurd H (by simp)

end Go.Proofs.Ytfgbohochpjkfaa.G

namespace Go.Proofs.Ytfgbohochpjkfaa.G
open Go.RowKit Go.Proofs.YtfgbohochpjkfaaW.PrintWords Go.Proofs.YtfgbohochpjkfaaW.PrintLast
set_option linter.unusedVariables false
set_option linter.unusedSimpArgs false
/-- From some number of rounds on a value comes, and P holds of it. -/
def EvP {α : Type} (g : Nat → Option α) (P : α → Prop) : Prop := ∃ r, P r ∧ Ev g r
theorem EvP.now {α : Type} {P : α → Prop} (v : α) (h : P v) : EvP (fun _ => some v) P := ⟨v, h, Ev.now v⟩
theorem EvP.step {α : Type} {g f : Nat → Option α} {P : α → Prop} (h : ∀ k, g (k + 1) = f k) (k : EvP f P) : EvP g P := by
  obtain ⟨r, p, e⟩ := k
  exact ⟨r, p, Ev.step h e⟩
theorem EvP.bind {α β : Type} {g : Nat → Option α} {f : Nat → α → Option β} {P : α → Prop} {Q : β → Prop} (h : EvP g P) (k : ∀ a, P a → EvP (fun n => f n a) Q) : EvP (fun n => (g n).bind (f n)) Q := by
  obtain ⟨a, p, e⟩ := h
  obtain ⟨r, q, e2⟩ := k a p
  exact ⟨r, q, Ev.bind e e2⟩
theorem EvP.ite {α : Type} {c : Prop} [Decidable c] {A B : Nat → Option α} {P : α → Prop} (h1 : c → EvP A P) (h2 : ¬ c → EvP B P) : EvP (fun k => if c then A k else B k) P := by
  by_cases h : c
  · simpa only [if_pos h] using h1 h
  · simpa only [if_neg h] using h2 h
theorem EvP.mono {α : Type} {g : Nat → Option α} {P Q : α → Prop} (h : EvP g P) (k : ∀ r, P r → Q r) : EvP g Q := by
  obtain ⟨r, p, e⟩ := h
  exact ⟨r, k r p, e⟩
/-- The bytes that a case is drawn of. -/
def Cd (l : List Int) : Prop := (l.length : Int) ≤ 65536 ∧ ∀ y ∈ l, 0 ≤ y ∧ y ≤ 255
theorem cd_of {l : List Int} (h : (l.length : Int) ≤ 65536) (hw : ∀ y ∈ l, (Lit.int .u8 y).wf = true) : Cd l := by
  refine ⟨h, fun y hy => ?_⟩
  have e : (Lit.int .u8 y).wf = (decide (0 ≤ y) && decide (y ≤ 255)) := rfl
  have := hw y hy
  rw [e] at this
  simpa using this
theorem rd_mem (l : List Int) (i : Int) (h0 : 0 ≤ i) (h1 : i < (l.length : Int)) : rd l i ∈ l := by
  unfold rd
  rw [List.getD_eq_getElem?_getD, List.getElem?_eq_getElem (show i.toNat < l.length by omega)]
  exact List.getElem_mem _
theorem and255 (x : Int) : 0 ≤ Go.bits .and .u64 x 255 ∧ Go.bits .and .u64 x 255 ≤ 255 := by
  show 0 ≤ IntKind.u64.wrap (((BitVec.ofInt 64 x) &&& (BitVec.ofInt 64 255)).toNat : Int) ∧ IntKind.u64.wrap (((BitVec.ofInt 64 x) &&& (BitVec.ofInt 64 255)).toNat : Int) ≤ 255
  have h : ((BitVec.ofInt 64 x) &&& (BitVec.ofInt 64 255)).toNat ≤ 255 := by
    rw [BitVec.toNat_and]
    exact Nat.le_trans Nat.and_le_right (by decide)
  have e : IntKind.u64.wrap (((BitVec.ofInt 64 x) &&& (BitVec.ofInt 64 255)).toNat : Int) = (((BitVec.ofInt 64 x) &&& (BitVec.ofInt 64 255)).toNat : Int) := by
    generalize (((BitVec.ofInt 64 x) &&& (BitVec.ofInt 64 255)).toNat) = n at h ⊢
    simp only [IntKind.wrap, IntKind.signed, IntKind.bits]
    simp
    omega
  rw [e]
  omega
theorem next_ok {l : List Int} (hc : Cd l) (a s : Int) (h0 : 0 ≤ a) (h1 : a ≤ 1099511627776) : ∃ b s', spec_l1Cur_next.f l a s = some (b, a + 1, s') ∧ 0 ≤ b ∧ b ≤ 255 := by
  have hl := hc.1
  unfold spec_l1Cur_next.f
  rw [wrap64_id (x := a + 1) (by omega) (by omega)]
  by_cases h : a < (l.length : Int)
  · have hm := hc.2 _ (rd_mem l a h0 h)
    rw [if_pos h, if_pos h0, if_pos (by omega), wrap64_id (x := rd l a) (by omega) (by omega)]
    exact ⟨_, _, rfl, hm.1, hm.2⟩
  · rw [if_neg h, if_neg (by omega)]
    refine ⟨_, _, rfl, ?_⟩
    generalize hX : Go.bits _ _ _ _ = X
    have := and255 (IntKind.u64.wrap (IntKind.u64.wrap (IntKind.u64.wrap (s * 6364136223846793005)) + 906906) / 1099511627776)
    have hb : 0 ≤ X ∧ X ≤ 255 := by rw [← hX]; exact this
    rw [wrap64_id (by omega) (by omega)]
    exact hb
theorem pick_ok {l : List Int} (hc : Cd l) (a s n : Int) (h0 : 0 ≤ a) (h1 : a ≤ 1000000) : ∃ b a' s', spec_l1Cur_pick.f l a s n = some (b, a', s') ∧ 0 ≤ b ∧ (b = 0 ∨ b < n) ∧ a ≤ a' ∧ a' ≤ a + 2 := by
  unfold spec_l1Cur_pick.f
  by_cases g : n ≤ 1
  · rw [if_pos g]
    exact ⟨_, _, _, rfl, by omega, by omega, by omega, by omega⟩
  · obtain ⟨x, s1, e1, x0, x1⟩ := next_ok hc a s h0 (by omega)
    rw [if_neg g, e1]
    simp only [Option.bind_some]
    by_cases g2 : n > 200
    · obtain ⟨y, s2, e2, y0, y1⟩ := next_ok hc (a + 1) s1 (by omega) (by omega)
      rw [if_pos g2, e2]
      simp only [Option.bind_some]
      rw [if_neg (by omega), wrap64_id (x := x * 256) (by omega) (by omega), wrap64_id (x := x * 256 + y) (by omega) (by omega)]
      refine ⟨_, _, _, rfl, Int.tmod_nonneg _ (by omega), .inr ?_, by omega, by omega⟩
      exact Int.tmod_lt_of_pos _ (by omega)
    · rw [if_neg g2, if_neg (by omega)]
      refine ⟨_, _, _, rfl, Int.tmod_nonneg _ (by omega), .inr ?_, by omega, by omega⟩
      exact Int.tmod_lt_of_pos _ (by omega)
theorem EvP.one {β : Type} {l : List Int} (hc : Cd l) {a s n : Int} {f : Nat → Bool × Int × Int → Option β} {Q : β → Prop} (h0 : 0 ≤ a) (h1 : a ≤ 1000000)
    (k : ∀ b a' s', a ≤ a' → a' ≤ a + 2 → EvP (fun k => f k (b, a', s')) Q) : EvP (fun k => (spec_l1Cur_one.f l a s n).bind (f k)) Q := by
  obtain ⟨b, a', s', e, h2, h3, h4, h5⟩ := pick_ok hc a s n h0 h1
  unfold spec_l1Cur_one.f
  rw [e]
  simp only [Option.bind_some]
  exact k _ a' s' h4 h5
end Go.Proofs.Ytfgbohochpjkfaa.G

-- Written by wip/tools/gen.py out of the translation (the kit's printer, one namespace a seat). Lean checks it.
namespace Go.Proofs.Ytfgbohochpjkfaa.G
open Go.RowKit Go.Proofs.YtfgbohochpjkfaaW.PrintWords Go.Proofs.YtfgbohochpjkfaaW.PrintLast Go.Proofs.YtfgbohochpjkfaaW.PrintMore
attribute [local go_sem] max2_int min2_int max_two min_two max_three min_three max_four min_four   -- for this text's walks alone
set_option linter.unusedVariables false
set_option linter.unusedSimpArgs false

/-! ### spec_l1Least: function 82 -/
def spec_l1Least.f (a0 : Int) (a1 : Int) : Option (Int) := if a0 < a1 then (some a0) else (some a1)
set_option maxHeartbeats 8000000 in
set_option maxRecDepth 100000 in
theorem spec_l1Least.calls (a0 : Int) (a1 : Int) (r : Int) (w : World) (h : spec_l1Least.f a0 a1 = some r) :
  Calls Try.prog 82 #[.int .i64 a0, .int .i64 a1] w fun e w' => e = .returned (.int .i64 r) ∧ Drawn0 w w' := by
 have H : (if a0 < a1 then (some a0) else (some a1)) = some r := h
 clear h
 by_cases c3 : a0 < a1
 ·rw [if_pos c3] at H
  have c3b0 : decide (a0 < a1) = true := decide_eq_true c3
  clear c3
  obtain rfl := Option.some.inj H
  go_enter Try.func82, Try.ntmps82
  go_wp2
  go_ret
  exact ⟨by first | rfl | (simp; done) | (simp [*]; done), by repeat (first | exact Drawn0.refl _ | apply Drawn0.step)⟩
 ·rw [if_neg c3] at H
  have c3b0 : decide (a0 < a1) = false := decide_eq_false c3
  clear c3
  obtain rfl := Option.some.inj H
  go_enter Try.func82, Try.ntmps82
  go_wp2
  go_ret
  exact ⟨by first | rfl | (simp; done) | (simp [*]; done), by repeat (first | exact Drawn0.refl _ | apply Drawn0.step)⟩

end Go.Proofs.Ytfgbohochpjkfaa.G

/- The walk of (*l1Cur).costs: what it draws is a table of at most 8 rows of at most 8 (two of them may be one). -/
namespace Go.Proofs.Ytfgbohochpjkfaa.G
open Go.RowKit Go.Proofs.YtfgbohochpjkfaaW.PrintWords Go.Proofs.YtfgbohochpjkfaaW.PrintLast Go.Proofs.YtfgbohochpjkfaaW.PrintMore
set_option linter.unusedVariables false
set_option linter.unusedSimpArgs false
theorem cell_belowA {w w' : World} (hb : Below w.heap.size w w') {p : Addr} {v : Value} (h : w.cell? p = some v) : w'.cell? p = some v := (World.cell?_of_block (w := w) (w' := w') (a := p) (hb.block p.block (World.block_lt_of_cell? w p h))).trans h
/-- How the state of a draw stands in a world behind w. -/
structure St (w0 w : World) (g : Nat) (code : List Int) (w' : World) (a s : Int) : Prop where
  i : IsS67 w0 w' g code a s
  b : Below w0.heap.size w0 w'
  k : KeepBut w w' g none
  gl : g < w.heap.size
  wl : w0.heap.size ≤ w.heap.size
section
variable {w0 w : World} {g : Nat} {code : List Int} {w' w2 : World} {a s : Int}
theorem St.sz (h : St w0 w g code w' a s) : w.heap.size ≤ w'.heap.size := h.k.1
theorem St.lt (h : St w0 w g code w' a s) : g < w'.heap.size := Nat.lt_of_lt_of_le h.gl h.k.1
theorem St.below (h : St w0 w g code w' a s) (hb : Below w'.heap.size w' w2) : St w0 w g code w2 a s := ⟨h.i.below hb, below_step h.b hb, h.k.trans (KeepBut.of_below hb g none) (.inl rfl), h.gl, h.wl⟩
theorem St.grown (h : St w0 w g code w' a s) {row : Option Nat} (hg : w'.grownBy w2 row) (hr : ∀ b, row = some b → w.heap.size ≤ b) : St w0 w g code w2 a s := by
  have hgl := h.gl
  have hwl := h.wl
  have hb := h.b
  have hk := h.k
  refine ⟨h.i.grown hg (fun e => by have := hr g e.symm; omega), ⟨hg.os.trans hb.os, hg.tape.trans hb.tape, hg.output.trans hb.output, Nat.le_trans hb.size hg.size, fun i hi => (hg.block i (Nat.lt_of_lt_of_le hi hb.size) (fun e => by have := hr i e.symm; omega)).trans (hb.block i hi)⟩, ?_, hgl, hwl⟩
  cases row with
  | none => exact hk.trans (KeepBut.of_grown hg g) (.inl rfl)
  | some b => exact hk.trans (KeepBut.of_grown hg g) (.inr ⟨b, rfl, hr b rfl⟩)
theorem St.set (h : St w0 w g code w' a s) {b : Nat} (hb : w.heap.size ≤ b) (j : Nat) (u : Value) : St w0 w g code (w'.setCell ⟨b, j, none⟩ u) a s := by
  have hgl := h.gl
  have hwl := h.wl
  exact ⟨h.i.far (p := ⟨b, j, none⟩) (by show g ≠ b; omega) u, Below.setCell h.b (by show w0.heap.size ≤ b; omega) u, keep_far h.k (p := ⟨b, j, none⟩) hb u, hgl, hwl⟩
theorem pick_st (h : St w0 w g code w' a s) {n b a' s' : Int} (e : spec_l1Cur_pick.f code a s n = some (b, a', s')) :
    Calls Try.prog 71 #[.pointer (some ⟨g, 0, none⟩), .int .i64 n] w' fun e w2 => e = .returned (.int .i64 b) ∧ St w0 w g code w2 a' s' ∧ KeepBut w' w2 g none := by
  refine (spec_l1Cur_pick.calls g code a s n b a' s' w0 w' h.i h.b e).mono ?_
  rintro e w2 ⟨rfl, h1, h2, h3⟩
  exact ⟨rfl, ⟨h1, h2, h.k.trans h3 (.inl rfl), h.gl, h.wl⟩, h3⟩
theorem one_st (h : St w0 w g code w' a s) {n : Int} {b : Bool} {a' s' : Int} (e : spec_l1Cur_one.f code a s n = some (b, a', s')) :
    Calls Try.prog 83 #[.pointer (some ⟨g, 0, none⟩), .int .i64 n] w' fun e w2 => e = .returned (.bool b) ∧ St w0 w g code w2 a' s' ∧ KeepBut w' w2 g none := by
  refine (spec_l1Cur_one.calls g code a s n b a' s' w0 w' h.i h.b e).mono ?_
  rintro e w2 ⟨rfl, h1, h2, h3⟩
  exact ⟨rfl, ⟨h1, h2, h.k.trans h3 (.inl rfl), h.gl, h.wl⟩, h3⟩
theorem among_st (h : St w0 w g code w' a s) {A : Option Addr} {c : Nat} {l : List Int} {b a' s' : Int} (hC : Kd.C (Kd.int .i64) w' A l.length l) (hc : l.length ≤ c) (hf : ∀ ad, A = some ad → 0 < l.length → ad.block ≠ g) (e : spec_l1Cur_among.f code a s l = some (b, a', s')) :
    Calls Try.prog 74 #[.pointer (some ⟨g, 0, none⟩), .slice A l.length c] w' fun e w2 => e = .returned (.int .i64 b) ∧ St w0 w g code w2 a' s' ∧ KeepBut w' w2 g none := by
  refine (spec_l1Cur_among.calls g code a s A c l b a' s' w0 w' h.i h.b hC hc hf e).mono ?_
  rintro e w2 ⟨rfl, h1, h2, h3⟩
  exact ⟨rfl, ⟨h1, h2, h.k.trans h3 (.inl rfl), h.gl, h.wl⟩, h3⟩
end
theorem R_far_of {α : Type} {d : Kd α} {e g base : Nat} {w : World} {ok : Nat → Prop} {A : Option Addr} {n c : Nat} {xs : List α} (h : Kd.R d e w base ok (.slice A n c) xs) (hg : g < base) : ∀ ad, A = some ad → 0 < xs.length → ad.block ≠ g := by
  rintro ad rfl _ e
  obtain ⟨gb, rfl⟩ := Kd.R_head h
  have := Kd.R_base h gb (by simp [Value.ownBlock])
  simp only at e
  omega
def Tab (t : List (List Int)) : Prop := t.length ≤ 8 ∧ ∀ r ∈ t, r.length ≤ 8
theorem tab_id {t : List (List Int)} (h : t.length ≤ 6) (hr : ∀ r ∈ t, r.length ≤ 6) : Tab t := ⟨by omega, fun r hm => by have := hr r hm; omega⟩
theorem tab_set {t : List (List Int)} (h : t.length ≤ 6) (hr : ∀ r ∈ t, r.length ≤ 6) (i : Nat) (row : List Int) (hrow : row.length ≤ 7) : Tab (t.set i row) := ⟨by rw [List.length_set]; omega, fun r hm => by
  rcases List.mem_or_eq_of_mem_set hm with hm | rfl
  · have := hr r hm; omega
  · omega⟩
theorem tab_two {t : List (List Int)} (h : t.length ≤ 6) (hr : ∀ r ∈ t, r.length ≤ 6) (row : List Int) (hrow : row.length ≤ 7) : Tab (t ++ [row, row]) := ⟨by rw [List.length_append]; simp; omega, fun r hm => by
  rcases List.mem_append.1 hm with hm | hm
  · have := hr r hm; omega
  · simp at hm; rw [hm]; omega⟩
theorem two_rows {w : World} {b : Nat} {r : Value} (h : w.heap[b]? = some (.cells #[r, r] 27 (0, 0))) (row : List Int) : ReadsRow (fun (x : List Int) (cs : List Value) => x = row ∧ cs = [r]) 1 w (some ⟨b, 0, none⟩) 2 [row, row] := by
  refine ⟨rfl, by decide, fun _ => ⟨⟨b, 0, none⟩, rfl, fun j p hj => ⟨[r], rfl, ⟨?_, rfl⟩, fun i u hu => ?_⟩⟩⟩
  · match j, hj with
    | 0, hj => simpa using hj.symm
    | 1, hj => simpa using hj.symm
  · have hi : i = 0 := by
      cases i with
      | zero => rfl
      | succ i => simp at hu
    subst hi
    obtain rfl : r = u := by simpa using hu
    rw [add_plain, blk_cell h]
    match j, hj with
    | 0, hj => rfl
    | 1, hj => rfl
theorem among_ok {l : List Int} (hc : Cd l) (a s : Int) (xs : List Int) (h0 : 0 ≤ a) (h1 : a ≤ 1000000) (hx : 0 < (xs.length : Int)) : ∃ b a' s', spec_l1Cur_among.f l a s xs = some (b, a', s') ∧ a ≤ a' ∧ a' ≤ a + 2 := by
  obtain ⟨b, a', s', e, h2, h3, h4, h5⟩ := pick_ok hc a s (xs.length : Int) h0 h1
  refine ⟨rd xs b, a', s', ?_, h4, h5⟩
  unfold spec_l1Cur_among.f
  rw [e]
  simp only [Option.bind_some]
  rw [if_pos h2, if_pos (by omega)]
theorem S_elemI {W : World} {base e g n cap : Nat} {ok : Nat → Prop} {xs : List (List Int)} (h : Kd.S (Kd.slice 3 (Kd.int .i64)) e W base ok (.slice (some ⟨g, 0, none⟩) n cap) xs) (i : Int) (h0 : 0 ≤ i) (h1 : i < n) :
    ∃ (oki : Nat → Prop) (vr : Value), Kd.R (Kd.int .i64) 3 W base oki vr (xs.getD i.toNat []) ∧ W.cell? ⟨g, i.toNat, none⟩ = some vr ∧ (∀ k, oki k → ok k ∧ k ≠ g) ∧ Kd.H (Kd.slice 3 (Kd.int .i64)) e W base ok (.slice (some ⟨g, 0, none⟩) n cap) xs i oki [vr] := by
  obtain ⟨oki, cl, hcl, hM, hcc, hfz, hoki, hH⟩ := Kd.S_elem h ([] : List Int) i h0 h1
  obtain ⟨vr, rfl, hRow⟩ := hM
  refine ⟨oki, vr, hRow, ?_, hoki, hH⟩
  have := hcc 0 _ rfl
  rw [show (Kd.slice 3 (Kd.int .i64)).sz = 1 from rfl, Nat.mul_one, Nat.add_zero] at this
  exact this
theorem rows_snoc {t : List (List Int)} {row : List Int} {c : Nat} (h : ∀ r ∈ t, r.length = c) (hr : row.length = c) : ∀ r ∈ t ++ [row], r.length = c := fun r hm => by
  rcases List.mem_append.1 hm with hm | hm
  · exact h r hm
  · rw [List.mem_singleton.1 hm]; exact hr
theorem getD_mem {t : List (List Int)} {i : Nat} (h : i < t.length) : t.getD i [] ∈ t := by
  rw [List.getD_eq_getElem?_getD, List.getElem?_eq_getElem h]
  exact List.getElem_mem h
set_option maxHeartbeats 16000000 in
set_option maxRecDepth 100000 in
theorem costs_any {code : List Int} (hc : Cd code) (g : Nat) (w0 w : World) (a s : Int) (h0 : 0 ≤ a) (h1 : a ≤ 10000) (hI : IsS67 w0 w g code a s) (hB : Below w0.heap.size w0 w) :
    Calls Try.prog 70 #[.pointer (some ⟨g, 0, none⟩)] w fun e w' => ∃ (v : Value) (t : List (List Int)) (a' s' : Int), e = .returned v ∧ Tab t ∧ Kd.R (Kd.slice 3 (Kd.int .i64)) 27 w' w.heap.size (fun _ => True) v t ∧ a ≤ a' ∧ a' ≤ a + 200 ∧ St w0 w g code w' a' s' := by
  have HST0 : Aside0 (St w0 w g code w a s) := Aside0.mk ⟨hI, hB, KeepBut.refl _ _ _, hI.lt, hB.size⟩
  obtain ⟨x1, a1, s1, e1, p10, p11, q10, q11⟩ := pick_ok hc a s 4 h0 (by omega)
  obtain ⟨x2, a2, s2, e2, p20, p21, q20, q21⟩ := pick_ok hc a1 s1 3 (by omega) (by omega)
  obtain ⟨x3, a3, s3, e3, p30, p31, q30, q31⟩ := pick_ok hc a2 s2 24 (by omega) (by omega)
  obtain ⟨n, hn⟩ : ∃ n : Nat, 1 + x1 = (n : Int) := ⟨(1 + x1).toNat, by omega⟩
  obtain ⟨m1, hm1⟩ : ∃ m : Nat, (n : Int) + x2 = (m : Int) := ⟨((n : Int) + x2).toNat, by omega⟩
  have hw1 : wrap64 (1 + x1) = (n : Int) := by rw [wrap64_id (by omega) (by omega)]; exact hn
  have hw2 : wrap64 ((n : Int) + x2) = (m1 : Int) := by rw [wrap64_id (by omega) (by omega)]; exact hm1
  obtain ⟨c, hcm, hc1, hc5⟩ : ∃ c : Nat, spec_l1Least.f (m1 : Int) 5 = some (c : Int) ∧ 1 ≤ c ∧ c ≤ 6 := by
    unfold spec_l1Least.f
    by_cases h : (m1 : Int) < 5
    · exact ⟨m1, by rw [if_pos h], by omega, by omega⟩
    · exact ⟨5, by rw [if_neg h]; rfl, by omega, by omega⟩
  obtain ⟨b3, hb3⟩ : ∃ b, (x3 == 0) = b := ⟨_, rfl⟩
  have e3b : spec_l1Cur_one.f code a2 s2 24 = some (b3, a3, s3) := by unfold spec_l1Cur_one.f; rw [e3]; simp only [Option.bind_some]; rw [hb3]
  have E1 := Aside0.mk e1
  have E2 := Aside0.mk e2
  have E3 := Aside0.mk e3b
  have EC := Aside0.mk hcm
  have hn1 : 1 ≤ n ∧ n ≤ 4 := by omega
  have HA3 : Aside0 (a ≤ a3 ∧ a3 ≤ a + 6) := Aside0.mk (by omega)
  have ha3 : a ≤ a3 := HA3.out.1
  have ha4 : a3 ≤ a + 6 := HA3.out.2
  clear e1 e2 e3 e3b hcm hb3 hn hm1 p10 p11 q10 q11 p20 p21 q20 q21 p30 p31 q30 q31 hI hB
  cases b3 with
  | true =>
    go_enter Try.func70, Try.ntmps70
    go_wp2_with (first | (go_at_call 71; with_reducible refine (pick_st HST0.out E1.out).mono ?_; rintro e w11 ⟨rfl, hst, hk⟩; have HST1 := Aside0.mk hst; clear hst hk) | (go_at_call 71; with_reducible refine (pick_st HST1.out E2.out).mono ?_; rintro e w15 ⟨rfl, hst, hk⟩; have HST2 := Aside0.mk hst; clear hst hk) | (go_at_call 82; refine (spec_l1Least.calls _ _ _ _ EC.out).mono ?_; rintro e w17 ⟨rfl, hd⟩; have HST3 := Aside0.mk (HST2.out.below hd.below); clear hd) | (go_at_call 83; refine (one_st HST3.out E3.out).mono ?_; rintro e w19 ⟨rfl, hst, hk⟩; have HST4 := Aside0.mk hst; clear hst hk) | ((with_reducible refine gate_dst (N := 20) rfl ?_); refine Kd.S_lit (Kd.slice 3 (Kd.int .i64)) _ 27 ?hg (N := 20) ?hd (xs := ([] : List (List Int))) (inner := []) (ok := fun _ => True) (okp := fun _ => True) ?hr ?hp (fun _ hk => hk) trivial (Below.refl _ _) (Nat.le_refl _) (by simp) ?_; (case hd => rfl); (case hg => rfl); (case hr => first | (go_simp; done) | (go_simp; rfl)); (case hp => exact (Reps.none _ _)); intro v20 w20 ho hb hg_ hnew_; clear hg_ hnew_; have HO20 : Aside0 (Kd.S (Kd.slice 3 (Kd.int .i64)) 27 w20 w.heap.size (fun b => w.heap.size ≤ b) v20 []) := Aside0.mk (Kd.S_mono (Kd.S_bound (Kd.S_lower ho HST4.out.sz)) (fun b hb => hb.2.1)); have HST20 := Aside0.mk (HST4.out.below hb); clear ho hb))
    go_loopw [5, 6] (fun v5 v6 w' => ∃ (k : Nat) (t : List (List Int)) (a9 s9 : Int), k ≤ 6 ∧ v6 = .int .i64 k ∧ Aside0 (t.length = k ∧ ∀ r ∈ t, r.length = 6) ∧ Aside0 (a3 ≤ a9 ∧ a9 ≤ a3 + 12 * k) ∧ Aside0 (Kd.S (Kd.slice 3 (Kd.int .i64)) 27 w' w.heap.size (fun b => w.heap.size ≤ b) v5 t) ∧ Aside0 (St w0 w g code w' a9 s9)) (fun _ v6 _ => 6 - (intOf v6).toNat)
    case atStart => exact ⟨0, [], a3, s3, Nat.zero_le _, rfl, Aside0.mk ⟨rfl, fun r h => by cases h⟩, Aside0.mk ⟨Int.le_refl _, by omega⟩, HO20, HST20⟩
    case round =>
      clear HO20 HST20
      obtain ⟨k, t, a9, s9, hk, rfl, ht, ha, ho, hst⟩ := hrel
      by_cases hlt : k < 6
      · have HSo := Aside0.mk (Kd.S_mono (Kd.S_bound ho.out) (fun b hb => (⟨hb.1, hb.2.2.1⟩ : w.heap.size ≤ b ∧ b < wr.heap.size)))
        have HSZ := Aside0.mk hst.out.sz
        have HGL := Aside0.mk hst.out.gl
        obtain ⟨m, hm⟩ : ∃ m, wr.heap.size = m := ⟨_, rfl⟩
        rw [hm] at HSo HSZ
        have HMS := Aside0.mk hm
        clear hm
        go_wp2_with (((with_reducible refine gate_dst (N := 26) rfl ?_); refine Kd.R_lit (Kd.int .i64) _ 3 ?hg (N := 26) ?hd (xs := ([] : List Int)) (inner := []) (ok := fun _ => True) (okp := fun _ => True) ?hr ?hp (fun _ hk => hk) trivial (Below.refl _ _) (Nat.le_refl _) (by simp) ?_; (case hd => rfl); (case hg => rfl); (case hr => first | (go_simp; done) | (go_simp; rfl)); (case hp => exact (Reps.none _ _)); intro v26 w26 ho hb hg_ hnew_; clear hg_ hnew_; have HR26 : Aside0 (Kd.R (Kd.int .i64) 3 w26 w.heap.size (fun b => m ≤ b) v26 []) := Aside0.mk (Kd.R_lower (Kd.R_mono (Kd.R_bound ho) (fun b hb => (by have := hb.2.1; have := HMS.out; omega : m ≤ b))) hst.out.sz); have HST26 := Aside0.mk (hst.out.below hb); have HM26 : Aside0 (m ≤ w26.heap.size) := Aside0.mk (Nat.le_trans (Nat.le_of_eq HMS.out.symm) hb.size); have HS26 := Aside0.mk (Kd.S_below HSo.out hb); clear ho hb))
        go_loopw [7, 8] (fun v7 v8 w' => ∃ (j : Nat) (row : List Int) (a8 s8 : Int), j ≤ 6 ∧ v8 = .int .i64 j ∧ Aside0 (row.length = j) ∧ Aside0 (a9 ≤ a8 ∧ a8 ≤ a9 + 2 * j) ∧ Aside0 (Kd.S (Kd.slice 3 (Kd.int .i64)) 27 w' w.heap.size (fun b => w.heap.size ≤ b ∧ b < m) u5 t) ∧ Aside0 (Kd.R (Kd.int .i64) 3 w' w.heap.size (fun b => m ≤ b) v7 row) ∧ Aside0 (m ≤ w'.heap.size) ∧ Aside0 (St w0 w g code w' a8 s8)) (fun _ v8 _ => 6 - (intOf v8).toNat)
        case atStart => exact ⟨0, [], a9, s9, Nat.zero_le _, rfl, Aside0.mk rfl, Aside0.mk ⟨Int.le_refl _, by omega⟩, HS26, HR26, HM26, HST26⟩
        case round =>
          clear HR26 HS26 HST26 HM26
          obtain ⟨j, row, a8, s8, hj, rfl, hrl, ha8, hs8, hr8, hmw, hst8⟩ := hrel
          by_cases hlt2 : j < 6
          · obtain ⟨bA, aA, sA, eA, qA0, qA1⟩ := among_ok hc a8 s8 [1, 2, 3, 5, 8, 0, 20, -1] (by have := ha.out; have := ha8.out; omega) (by have := ha.out; have := ha8.out; omega) (by decide)
            have EA := Aside0.mk eA
            have QA : Aside0 (a9 ≤ aA ∧ aA ≤ a9 + 2 * ((j + 1 : Nat) : Int)) := Aside0.mk (by have := ha8.out; omega)
            have hgm : g < wr.heap.size := hst8.out.lt
            have HGM := Aside0.mk hgm
            have HMW : Aside0 (m ≤ wr.heap.size) := hmw
            clear eA qA0 qA1 hgm
            go_wp2_with (first | ((with_reducible refine gate_dst (N := 34) rfl ?_); refine Kd.R_lit (Kd.int .i64) _ 3 ?hg (N := 34) ?hd (xs := ([1, 2, 3, 5, 8, 0, 20, -1] : List Int)) (inner := [.int .i64 1, .int .i64 2, .int .i64 3, .int .i64 5, .int .i64 8, .int .i64 0, .int .i64 20, .int .i64 (-1)]) (ok := fun _ => True) (okp := fun _ => True) ?hr ?hp (fun _ hk => hk) trivial (Below.refl _ _) (Nat.le_refl _) (by simp) ?_; (case hd => rfl); (case hg => rfl); (case hr => first | (go_simp; done) | (go_simp; rfl)); (case hp => exact (Reps.one (show Kd.M (Kd.int .i64) _ _ _ (1) [.int .i64 (1)] from rfl) (Reps.one (show Kd.M (Kd.int .i64) _ _ _ (2) [.int .i64 (2)] from rfl) (Reps.one (show Kd.M (Kd.int .i64) _ _ _ (3) [.int .i64 (3)] from rfl) (Reps.one (show Kd.M (Kd.int .i64) _ _ _ (5) [.int .i64 (5)] from rfl) (Reps.one (show Kd.M (Kd.int .i64) _ _ _ (8) [.int .i64 (8)] from rfl) (Reps.one (show Kd.M (Kd.int .i64) _ _ _ (0) [.int .i64 (0)] from rfl) (Reps.one (show Kd.M (Kd.int .i64) _ _ _ (20) [.int .i64 (20)] from rfl) (Reps.one (show Kd.M (Kd.int .i64) _ _ _ (-1) [.int .i64 (-1)] from rfl) (Reps.none _ _)))))))))); intro v34 w34 ho hb hg_ hnew_; clear hg_ hnew_; obtain ⟨A34, c34, rfl⟩ := Kd.R_slice ho; have HL := Aside0.mk ho; have HST1 := Aside0.mk (hst8.out.below hb); have HO1 := Aside0.mk (Kd.S_below hs8.out hb); have HM34 : Aside0 (m ≤ w34.heap.size) := Aside0.mk (Nat.le_trans HMW.out hb.size); have HRW1 := Aside0.mk (Kd.R_below hr8.out hb); clear ho hb) | (go_at_call 74; refine (among_st HST1.out (Kd.R_reads' HL.out).2.2 (Kd.R_reads' HL.out).2.1 (R_far_of HL.out HGM.out) EA.out).mono ?_; rintro e w35 ⟨rfl, hst2, hk2⟩; have HST2 := Aside0.mk hst2; have HO2 := Aside0.mk (Kd.S_keep HO1.out hk2 (fun b hb => by have := hb.1; have := HGL.out; omega)); have HRW2 := Aside0.mk (Kd.R_keep HRW1.out hk2 (fun b hb => by have hb : m ≤ b := hb; have := HSZ.out; have := HGL.out; omega)); have HM35 : Aside0 (m ≤ w35.heap.size) := Aside0.mk (Nat.le_trans HM34.out hk2.1); clear hst2 hk2) | ((with_reducible refine gate_builtin (b := .append) (xs := #[.tmp 32, .tmp 36]) rfl ?_); at_builtin; refine Kd.R_append (Kd.int .i64) (W := w35) w.heap.size rfl (.tmp 32) (.tmp 36) 27 3 (.int .i64 0) 8 rfl Try.underlying27 info3 rfl (by decide) (by omega) u7 row bA [.int .i64 bA] (fun b => m ≤ b) (fun _ => False) rfl rfl rfl (fun _ hk => hk.elim) (fun b hb => Nat.le_trans HM35.out hb) HRW2.out (Below.refl _ _) HST2.out.sz (by have := hrl.out; omega) ?_; intro v37 w37 hR37 hB37 hg37 hat37; have HR37 := Aside0.mk hR37; have HST3 := Aside0.mk (HST2.out.grown hg37 (fun b hb => Kd.R_base HRW2.out b hb)); have HO3 := Aside0.mk (Kd.S_grown HO2.out hg37 (fun b hb e => by have := HRW2.out.1 b e.symm; have h2 := hb.2; have h3 : m ≤ b := this; omega)); have HM37 : Aside0 (m ≤ w37.heap.size) := Aside0.mk (Nat.le_trans HM35.out hg37.size); clear hR37 hB37 hg37 hat37))
            go_roundw
            case rel => exact ⟨j + 1, row ++ [bA], aA, sA, by omega, by go_num, Aside0.mk (by rw [List.length_append, List.length_singleton, hrl.out]), QA, HO3, HR37, HM37, HST3⟩
            case measure => simp [intOf]; omega
          · obtain rfl : j = 6 := by omega
            obtain ⟨A7, c7, e7⟩ := Kd.R_slice hr8.out
            subst e7
            have HRb := Aside0.mk (Kd.R_mono (Kd.R_bound hr8.out) (fun b hb => (⟨hb.1, hb.2.2.1⟩ : m ≤ b ∧ b < wr.heap.size)))
            have HOb : Aside0 (Kd.S (Kd.slice 3 (Kd.int .i64)) 27 wr w.heap.size (fun b => w.heap.size ≤ b ∧ ¬ (m ≤ b ∧ b < wr.heap.size)) u5 t) := Aside0.mk (Kd.S_mono hs8.out (fun b hb => ⟨hb.1, fun h => by have := hb.2; omega⟩))
            have HTN : Aside0 (t.length ≤ 6) := Aside0.mk (by have := ht.out.1; omega)
            go_wp2_with ((with_reducible refine gate_builtin (b := .append) (xs := #[.tmp 38, .tmp 40]) rfl ?_); at_builtin; refine Kd.S_append (Kd.slice 3 (Kd.int .i64)) (W := wr) w.heap.size rfl (.tmp 38) (.tmp 40) 22 27 (.slice none 0 0) 24 rfl Try.underlying22 info27 rfl (by decide) (by omega) u5 t row [.slice A7 row.length c7] (fun b => w.heap.size ≤ b) (fun b => m ≤ b ∧ b < wr.heap.size) rfl rfl ⟨_, rfl, HRb.out⟩ (fun b hb => ⟨by have := HSZ.out; omega, fun e => by have := (HOb.out.choose_spec.1 b e.symm).2; exact this hb⟩) (fun b hb => Nat.le_trans hst8.out.sz hb) HOb.out (Below.refl _ _) hst8.out.sz (by have := HTN.out; omega) ?_; intro v41 w41 hS41 hB41 hg41 hat41; have HS41 := Aside0.mk hS41; have HST41 := Aside0.mk (hst8.out.grown hg41 (fun b hb => Kd.S_base HOb.out b hb)); clear hS41 hB41 hg41 hat41)
            go_roundw
            case rel => exact ⟨k + 1, t ++ [row], a8, s8, by omega, by go_num, Aside0.mk ⟨by rw [List.length_append, List.length_singleton, ht.out.1], rows_snoc ht.out.2 hrl.out⟩, Aside0.mk (by have := ha.out; have := ha8.out; omega), HS41, HST41⟩
            case measure => simp [intOf]; omega
      · obtain rfl : k = 6 := by omega
        obtain ⟨i9, a4, s4, e4, hi0, hi1, q40, q41⟩ := pick_ok hc a9 s9 6 (by have := ha.out; omega) (by have := ha.out; omega)
        obtain ⟨x6, a5, s5, e6, p60, p61, q60, q61⟩ := pick_ok hc a4 s4 40 (by have := ha.out; omega) (by have := ha.out; omega)
        obtain ⟨go, co, ev, hgo1, hgo2, _⟩ := Kd.S_form ho.out (by have := ht.out.1; omega)
        rw [ht.out.1] at ev
        subst ev
        have HN6 : Aside0 (t.length ≤ 6) := Aside0.mk (by have := ht.out.1; omega)
        have HT6 : Aside0 (∀ r ∈ t, r.length ≤ 6) := Aside0.mk (fun r hr => by have := ht.out.2 r hr; omega)
        have hi9 : i9 < 6 := by omega
        have HGO : Aside0 (w.heap.size ≤ go) := Aside0.mk hgo1
        have HA5 : Aside0 (a ≤ a5 ∧ a5 ≤ a + 150) := Aside0.mk (by have := ha.out; omega)
        have E4 := Aside0.mk e4
        have E6 := Aside0.mk e6
        have HGL := Aside0.mk hst.out.gl
        clear e4 e6 hi1 hgo1 hgo2 q40 q41 q60 q61 p60 p61
        have hz0n : 0 < 6 := by omega
        have hz0c : 0 < 6 := by omega
        by_cases h6 : x6 = 0
        · subst h6
          obtain ⟨b5, a6, s6, e5, q50, q51⟩ := among_ok hc a5 s5 [-2, 9999, 10000] (by have := HA5.out; omega) (by have := HA5.out; omega) (by decide)
          have E5 := Aside0.mk e5
          clear e5
          go_wp2_with (first | (go_at_call 71; with_reducible refine (pick_st hst.out E4.out).mono ?_; rintro e w44 ⟨rfl, hst4, hk4⟩; have HST4 := Aside0.mk hst4; have HO4 := Aside0.mk (Kd.S_keep ho.out hk4 (fun b hb => by have hb : w.heap.size ≤ b := hb; have := HGL.out; omega)); clear hst4 hk4) | (go_at_call 71; with_reducible refine (pick_st HST4.out E6.out).mono ?_; rintro e wq ⟨rfl, hst4, hk4⟩; have HST := Aside0.mk hst4; have HO := Aside0.mk (Kd.S_keep HO4.out hk4 (fun b hb => by have hb : w.heap.size ≤ b := hb; have := HGL.out; omega)); clear hst4 hk4))
          obtain ⟨row, hrow⟩ : ∃ row, t.getD i9.toNat [] = row := ⟨_, rfl⟩
          have hrl : row.length = 6 := by rw [← hrow]; exact ht.out.2 _ (getD_mem (by have := ht.out.1; omega))
          obtain ⟨oki, cl, hcl, hM, hcc, hfz, hoki, hH⟩ := Kd.S_elem HO.out ([] : List Int) i9 hi0 (by omega)
          obtain ⟨vr, rfl, hRow⟩ := hM
          rw [hrow] at hRow
          obtain ⟨gr, cr, er, _⟩ := Kd.R_form hRow (by omega)
          subst er
          have hx2 : wq.cell? ⟨go, i9.toNat, none⟩ = some (.slice (some ⟨gr, 0, none⟩) row.length cr) := by
            have := hcc 0 _ rfl
            rw [show (Kd.slice 3 (Kd.int .i64)).sz = 1 from rfl, Nat.mul_one, Nat.add_zero] at this
            exact this
          have HROW : Aside0 (row.length ≤ 7) := Aside0.mk (by omega)
          clear hcl hcc hfz hoki hH hRow
          refine start_ (n := 9) (S := fun w' => w'.cell? ⟨go, i9.toNat, none⟩ = some (.slice (some ⟨gr, 0, none⟩) row.length cr)) (ds := [8]) #[false, false, false, false, false, false, false, false, false] (by kernel_rfl) rfl rfl hx2 (fun hHeld => ?_)
          have HSTd := Aside0.mk (HST.out.below (below_drew1 (Below.refl _ _)))
          have HOd := Aside0.mk (Kd.S_drew HO.out)
          generalize wq.drew = wd at HSTd HOd hHeld ⊢
          refine pure_ (i := 0) (N := (some 49)) (v := ?_) (a' := ?_) #[true, false, false, false, false, false, false, false, false] rfl rfl (by kernel_rfl) (fun _ _ _ h => h) (Or.inl ⟨by rfl, ?_⟩) ?_ ?_
          rotate_left
          · intro w'
            go_simp
            with_reducible rfl
          rotate_left
          · simp only [Act.put, List.setIfInBounds_toArray, List.set_cons_zero, List.set_cons_succ, i64_w, i32_w]
            rfl
          refine pure_ (i := 1) (N := (some 50)) (v := ?_) (a' := ?_) #[true, true, false, false, false, false, false, false, false] rfl rfl (by kernel_rfl) (fun _ _ _ h => h) (Or.inl ⟨by rfl, ?_⟩) ?_ ?_
          rotate_left
          · intro w'
            go_simp
            with_reducible rfl
          rotate_left
          · simp only [Act.put, List.setIfInBounds_toArray, List.set_cons_zero, List.set_cons_succ, i64_w, i32_w]
            rfl
          refine pure_ (i := 2) (N := (some 51)) (v := ?_) (a' := ?_) #[true, true, true, false, false, false, false, false, false] rfl rfl (by kernel_rfl) (fun _ _ _ h => h) (Or.inl ⟨by rfl, ?_⟩) ?_ ?_
          rotate_left
          · intro w'
            go_simp
            with_reducible rfl
          rotate_left
          · simp only [Act.put, List.setIfInBounds_toArray, List.set_cons_zero, List.set_cons_succ, i64_w, i32_w]
            rfl
          refine take_ (i := 3) (N := (some 52)) (v := ?_) (a' := ?_) #[true, true, true, true, false, false, false, false, false] rfl rfl (by kernel_rfl) (fun _ _ _ h => h) (Or.inl ⟨by rfl, ?_⟩) hHeld ?_ ?_
          rotate_left
          · intro w' s0
            go_simp
            with_reducible rfl
          rotate_left
          · simp only [Act.put, List.setIfInBounds_toArray, List.set_cons_zero, List.set_cons_succ, i64_w, i32_w]
            rfl
          refine pure_ (i := 4) (N := (some 53)) (v := ?_) (a' := ?_) #[true, true, true, true, true, false, false, false, false] rfl rfl (by kernel_rfl) (fun _ _ _ h => h) (Or.inl ⟨by rfl, ?_⟩) ?_ ?_
          rotate_left
          · intro w'
            go_simp
            with_reducible rfl
          rotate_left
          · simp only [Act.put, List.setIfInBounds_toArray, List.set_cons_zero, List.set_cons_succ, i64_w, i32_w]
            rfl
          refine one_ (i := 5) (N := (some 54)) #[true, true, true, true, true, true, false, false, false] rfl rfl (by kernel_rfl) (by decide) (fun K hK => ?_)
          refine Kd.R_lit_step (Kd.int .i64) _ 3 ?hg5 (N := 54) ?hd5 (xs := ([-2, 9999, 10000] : List Int)) (inner := [.int .i64 (-2), .int .i64 9999, .int .i64 10000]) (ok := fun _ => True) (okp := fun _ => True) ?hr5 ?hp5 (fun _ hk => hk) trivial (Below.refl _ _) (Nat.le_refl _) (by simp) ?_
          case hd5 => rfl
          case hg5 => rfl
          case hr5 => first | (go_simp; done) | (go_simp; rfl)
          case hp5 => exact (Reps.one (show Kd.M (Kd.int .i64) _ _ _ (-2) [.int .i64 (-2)] from rfl) (Reps.one (show Kd.M (Kd.int .i64) _ _ _ 9999 [.int .i64 9999] from rfl) (Reps.one (show Kd.M (Kd.int .i64) _ _ _ 10000 [.int .i64 10000] from rfl) (Reps.none _ _))))
          intro v54 w54 hR54 hb54 hg_ hnew_
          clear hg_ hnew_
          obtain ⟨A54, c54, rfl⟩ := Kd.R_slice hR54
          refine hK.out _ _ (cell_belowA hb54 hHeld) (fun hHeld5 => ?_)
          clear hK K
          refine norm_ (a' := ?_) ?_ ?_
          rotate_left
          · show Act.put _ (some 54) _ = _
            simp only [Act.put, List.setIfInBounds_toArray, List.set_cons_zero, List.set_cons_succ, i64_w, i32_w]
            rfl
          have HR54 := Aside0.mk hR54
          have HST54 := Aside0.mk (HSTd.out.below hb54)
          have HO54 := Aside0.mk (Kd.S_below HOd.out hb54)
          have HSZ := Aside0.mk hb54.size
          have HSTD := Aside0.mk HSTd.out.lt
          clear hR54 hb54 hHeld HSTd HOd
          refine one_ (i := 6) (N := (some 55)) #[true, true, true, true, true, true, true, false, false] rfl rfl (by kernel_rfl) (by decide) (fun K hK => ?_)
          refine call_ 74 #[.pointer (some ⟨g, 0, none⟩), .slice A54 ([-2, 9999, 10000] : List Int).length c54] (by rfl) rfl ?hrun6 ?_
          case hrun6 =>
            unfold execOp
            simp [resolve, Deferred.ofValue, invoke, Act.eval, enters_ Try.func74 (by kernel_rfl) rfl]
          refine (among_st HST54.out (Kd.R_reads' HR54.out).2.2 (Kd.R_reads' HR54.out).2.1 (R_far_of HR54.out HSTD.out) E5.out).mono ?_
          rintro e w55 ⟨rfl, hST55, hk55⟩
          refine ⟨_, rfl, ?_⟩
          have HO55 := Aside0.mk (Kd.S_keep HO54.out hk55 (fun k hk => by have := HST.out.gl; omega))
          have HST55 := Aside0.mk hST55
          have hx55 := keep_cell hk55 hHeld5 (by show go ≠ g; have := HGO.out; have := HST.out.gl; omega)
          clear hST55 hk55
          refine hK.out _ _ hx55 (fun hHeld6 => ?_)
          clear hK K
          refine norm_ (a' := ?_) ?_ ?_
          rotate_left
          · show Act.put _ (some 55) _ = _
            simp only [Act.put, List.setIfInBounds_toArray, List.set_cons_zero, List.set_cons_succ, i64_w, i32_w]
            rfl
          refine pure_ (i := 7) (N := (some 56)) (v := ?_) (a' := ?_) #[true, true, true, true, true, true, true, true, false] rfl rfl (by kernel_rfl) (fun _ _ _ h => h) (Or.inl ⟨by rfl, ?_⟩) ?_ ?_
          rotate_left
          · intro w'
            go_simp
            with_reducible rfl
          rotate_left
          · simp only [Act.put, List.setIfInBounds_toArray, List.set_cons_zero, List.set_cons_succ, i64_w, i32_w]
            rfl
          refine last_ (i := 8) (N := none) #[true, true, true, true, true, true, true, true, true] rfl rfl (by kernel_rfl) (by decide) (fun K hK => ?_)
          obtain ⟨oki, cl, hcl, hM, hcc, hfz, hoki, hH⟩ := Kd.S_elem HO55.out ([] : List Int) i9 hi0 (by omega)
          obtain ⟨vr2, rfl, hRow2⟩ := hM
          have e2 : vr2 = .slice (some ⟨gr, 0, none⟩) row.length cr := by
            have := hcc 0 _ rfl
            rw [show (Kd.slice 3 (Kd.int .i64)).sz = 1 from rfl, Nat.mul_one, Nat.add_zero] at this
            exact Option.some.inj (this.symm.trans hx55)
          subst e2
          rw [show t.getD i9.toNat [] = row from hrow] at hRow2
          obtain ⟨crow, hcrow⟩ := Kd.R_typed hRow2 gr (by simp [Value.ownBlock])
          have hzf := blk_frozen hcrow 0
          obtain ⟨adr, er, hzc⟩ := Kd.at_int (Kd.R_reads' hRow2).2.2 (0 : Int) (Int.le_refl _) (by omega)
          cases er
          rw [show (0 : Int).toNat = 0 from rfl, add_plain] at hzc
          refine skip_ (w1 := w55.setCell ⟨gr, 0, none⟩ (.int .i64 b5)) (by rfl) rfl ?hr8 ?_
          case hr8 => first | (go_simp; done) | (go_simp; rfl)
          refine hK.out _ _ ?_
          clear hK K
          have hR3 := (Kd.R_seg (c := [.int .i64 (rd row 0)]) (seg := [.int .i64 b5]) (j := 0) (x' := b5) (okp := fun _ => False) hRow2 (0 : Int) (Int.le_refl _) (by omega) rfl (by
            intro j u hu
            cases j with
            | zero =>
              obtain rfl : Value.int .i64 (rd row 0) = u := by simpa using hu
              exact hzc
            | succ j => simp at hu) (Nat.le_refl 1) rfl (fun _ h => h.elim))
          have hH2 := Kd.H_grown hH hR3.2 (fun b hb => by cases hb; exact hRow2.1 gr (by simp [Value.ownBlock]))
          have hS2 := Kd.H_back hH2 (x' := row.set 0 b5) ⟨_, rfl, hR3.1⟩ (fun _ h => h)
          have hgr : w.heap.size ≤ gr := (hoki gr (hRow2.1 gr (by simp [Value.ownBlock]))).1
          have HS9 : Aside0 (Kd.R (Kd.slice 3 (Kd.int .i64)) 27 (w55.setCell ⟨gr, 0, none⟩ (.int .i64 b5)) w.heap.size (fun _ => True) (.slice (some ⟨go, 0, none⟩) 6 co) (t.set i9.toNat (row.set 0 b5))) := Aside0.mk (Kd.R_mono (Kd.S_R hS2) (fun _ _ => trivial))
          have HST9 := Aside0.mk (HST55.out.set hgr 0 (.int .i64 b5))
          have HT9 : Aside0 (Tab (t.set i9.toNat (row.set 0 b5))) := Aside0.mk (tab_set HN6.out HT6.out i9.toNat (row.set 0 b5) (by rw [List.length_set]; exact HROW.out))
          clear hR3 hH2 hS2 hH hRow2 hcc hfz hoki hcl hgr hcrow hzf hzc
          refine done_ (by kernel_rfl) ?_
          go_wp2
          go_ret
          exact ⟨_, _, _, _, rfl, HT9.out, HS9.out, by have := HA5.out; omega, by have := HA5.out; omega, HST9.out⟩
        · have c0 : (x6 == 0) = false := beq_eq_false_iff_ne.2 h6
          by_cases h61 : x6 = 1
          · subst h61
            go_wp2_with (first | (go_at_call 71; with_reducible refine (pick_st hst.out E4.out).mono ?_; rintro e w44 ⟨rfl, hst4, hk4⟩; have HST4 := Aside0.mk hst4; have HO4 := Aside0.mk (Kd.S_keep ho.out hk4 (fun b hb => by have hb : w.heap.size ≤ b := hb; have := HGL.out; omega)); clear hst4 hk4) | (go_at_call 71; go_loud (with_reducible refine (pick_st HST4.out E6.out).mono ?_; rintro e wq ⟨rfl, hst4, hk4⟩; have HST := Aside0.mk hst4; have HO := Aside0.mk (Kd.S_keep HO4.out hk4 (fun b hb => by have hb : w.heap.size ≤ b := hb; have := HGL.out; omega)); clear hst4 hk4; obtain ⟨row, hrow⟩ : ∃ row, t.getD i9.toNat [] = row := ⟨_, rfl⟩; have hrl : row.length = 6 := (by rw [← hrow]; exact ht.out.2 _ (getD_mem (by have := ht.out.1; omega))); obtain ⟨oki, vr, hRow, hx2, hoki, hH⟩ := S_elemI (Kd.S_mono (Kd.S_bound HO.out) (fun b hb => (⟨hb.1, by have := hb.2.2.1; omega⟩ : w.heap.size ≤ b ∧ ¬ wq.heap.size ≤ b))) i9 hi0 (by omega); rw [hrow] at hRow; obtain ⟨gr, cr, er, _⟩ := Kd.R_form hRow (by omega); subst er; obtain ⟨cells, hgb⟩ := Kd.S_typed HO.out go (by simp [Value.ownBlock]); have HGB := Aside0.mk hgb; have HRow := Aside0.mk hRow; have HH := Aside0.mk hH; have HOk := Aside0.mk hoki; have HRL : Aside0 (row.length ≤ 6) := Aside0.mk (by omega); clear hoki hH hRow hrow hrl hgb)) | ((with_reducible refine gate_builtin (b := .append) (xs := #[.tmp 64, .tmp 65]) rfl ?_); at_builtin; refine Kd.R_append (Kd.int .i64) (W := wq) w.heap.size rfl (.tmp 64) (.tmp 65) 27 3 (.int .i64 0) 8 rfl Try.underlying27 info3 rfl (by decide) (by omega) (.slice (some ⟨gr, 0, none⟩) row.length cr) row 1 [.int .i64 1] (fun b => oki b ∨ wq.heap.size ≤ b) (fun _ => False) rfl rfl rfl (fun _ h => h.elim) (fun b hb => .inr hb) (Kd.R_mono HRow.out (fun b h => .inl h)) (Below.refl _ _) HST.out.sz (by have := HRL.out; omega) ?_; intro v66 w66 hR66 hB66 hg66 hat66; obtain ⟨A66, c66, e66⟩ := Kd.R_slice hR66; rw [List.length_append, List.length_singleton] at e66; subst e66; have HR66 := Aside0.mk hR66; have hgne : some go ≠ (Value.slice (some ⟨gr, 0, none⟩) row.length cr).ownBlock := (fun e => by have := (HOk.out go (HRow.out.1 go e.symm)).2; exact this rfl); have h6g : w66.heap[go]? = some (.cells cells 27 (0, 0)) := (hg66.block go (blk_lt HGB.out) hgne).trans HGB.out; have HH66 := Aside0.mk (Kd.H_grown HH.out hg66 (fun b hb => HRow.out.1 b hb)); have hz1 : w66.cell? ⟨go, i9.toNat, none⟩ = some (.slice (some ⟨gr, 0, none⟩) row.length cr) := (World.cell?_of_block (w := wq) (w' := w66) (a := ⟨go, i9.toNat, none⟩) (h6g.trans HGB.out.symm)).trans hx2; have hz2 : w66.frozen? ⟨go, i9.toNat, none⟩ = false := blk_frozen h6g _; have HST66 := Aside0.mk (HST.out.grown hg66 (fun b hb => (HOk.out b (HRow.out.1 b hb)).1.1)); clear hR66 hB66 hg66 hat66 h6g hgne))
            go_ret
            have hS6 := (Kd.S_seg (okg := fun b => wq.heap.size ≤ b) (ok := fun b => w.heap.size ≤ b) HH66.out hi0 (by omega) (seg := [.slice A66 (row.length + 1) c66]) (j := 0) (Nat.le_refl 1) (x' := row ++ [1]) ⟨_, rfl, HR66.out⟩ (fun b h => h) (fun b h => ⟨Nat.le_trans HST.out.sz h, fun e => by have := blk_lt HGB.out; have h : wq.heap.size ≤ b := h; omega⟩)).1
            rw [show i9.toNat * (Kd.slice 3 (Kd.int .i64)).sz + 0 = i9.toNat from by rw [show (Kd.slice 3 (Kd.int .i64)).sz = 1 from rfl]; omega] at hS6
            exact ⟨_, _, _, _, rfl, tab_set HN6.out HT6.out i9.toNat (row ++ [1]) (by rw [List.length_append, List.length_singleton]; have := HRL.out; omega), Kd.R_mono (Kd.S_R hS6) (fun _ _ => trivial), by have := HA5.out; omega, by have := HA5.out; omega, HST66.out.set HGO.out _ _⟩
          · have c1 : (x6 == 1) = false := beq_eq_false_iff_ne.2 h61
            by_cases h62 : x6 = 2
            · subst h62
              go_wp2_with (first | (go_at_call 71; with_reducible refine (pick_st hst.out E4.out).mono ?_; rintro e w44 ⟨rfl, hst4, hk4⟩; have HST4 := Aside0.mk hst4; have HO4 := Aside0.mk (Kd.S_keep ho.out hk4 (fun b hb => by have hb : w.heap.size ≤ b := hb; have := HGL.out; omega)); clear hst4 hk4) | (go_at_call 71; with_reducible refine (pick_st HST4.out E6.out).mono ?_; rintro e wq ⟨rfl, hst4, hk4⟩; have HST := Aside0.mk hst4; have HO := Aside0.mk (Kd.S_keep HO4.out hk4 (fun b hb => by have hb : w.heap.size ≤ b := hb; have := HGL.out; omega)); clear hst4 hk4))
              go_ret
              exact ⟨_, _, _, _, rfl, ⟨by simp, fun r h => by simp at h⟩, Kd.R_mono (Kd.R_take (m := 0) (Kd.S_R HO.out) (Nat.zero_le _)) (fun _ _ => trivial), by have := HA5.out; omega, by have := HA5.out; omega, HST.out⟩
            · have c2 : (x6 == 2) = false := beq_eq_false_iff_ne.2 h62
              by_cases h63 : x6 = 3
              · subst h63
                go_wp2_with (first | (go_at_call 71; with_reducible refine (pick_st hst.out E4.out).mono ?_; rintro e w44 ⟨rfl, hst4, hk4⟩; have HST4 := Aside0.mk hst4; have HO4 := Aside0.mk (Kd.S_keep ho.out hk4 (fun b hb => by have hb : w.heap.size ≤ b := hb; have := HGL.out; omega)); clear hst4 hk4) | (go_at_call 71; with_reducible refine (pick_st HST4.out E6.out).mono ?_; rintro e wq ⟨rfl, hst4, hk4⟩; have HST := Aside0.mk hst4; have HO := Aside0.mk (Kd.S_keep HO4.out hk4 (fun b hb => by have hb : w.heap.size ≤ b := hb; have := HGL.out; omega)); clear hst4 hk4))
                obtain ⟨row0, hrow⟩ : ∃ row, t.getD 0 [] = row := ⟨_, rfl⟩
                have hrl : row0.length = 6 := by rw [← hrow]; exact ht.out.2 _ (getD_mem (by have := ht.out.1; omega))
                obtain ⟨oki, cl, hcl, hM, hcc, hfz, hoki, hH⟩ := Kd.S_elem HO.out ([] : List Int) 0 (Int.le_refl _) (by omega)
                obtain ⟨vr, rfl, hRow⟩ := hM
                rw [show (0 : Int).toNat = 0 from rfl, hrow] at hRow
                obtain ⟨A0r, c0r, er⟩ := Kd.R_slice hRow
                subst er
                have hx0 : wq.cell? ⟨go, 0, none⟩ = some (.slice A0r row0.length c0r) := by
                  have := hcc 0 _ rfl
                  rw [show (0 : Int).toNat = 0 from rfl, Nat.zero_mul, Nat.add_zero] at this
                  exact this
                have HR0 : Aside0 (Kd.R (Kd.int .i64) 3 wq w.heap.size (fun b => w.heap.size ≤ b ∧ b ≠ go) (.slice A0r row0.length c0r) row0) := Aside0.mk (Kd.R_mono hRow (fun b hb => hoki b hb))
                have HROW0 : Aside0 (row0.length ≤ 7) := Aside0.mk (by omega)
                clear hcl hcc hfz hoki hH hRow
                refine start_ (n := 10) (S := fun w' => w'.cell? ⟨go, 0, none⟩ = some (.slice A0r row0.length c0r)) (ds := [8]) #[false, false, false, false, false, false, false, false, false, false] (by kernel_rfl) rfl rfl hx0 (fun hHeld => ?_)
                have HSTd := Aside0.mk (HST.out.below (below_drew1 (Below.refl _ _)))
                have HOd := Aside0.mk (Kd.S_drew HO.out)
                have HR0d := Aside0.mk (Kd.R_drew HR0.out)
                generalize wq.drew = wd at HSTd HOd HR0d hHeld ⊢
                refine pure_ (i := 0) (N := (some 74)) (v := ?_) (a' := ?_) #[true, false, false, false, false, false, false, false, false, false] rfl rfl (by kernel_rfl) (fun _ _ _ h => h) (Or.inl ⟨by rfl, ?_⟩) ?_ ?_
                rotate_left
                · intro w'
                  go_simp
                  with_reducible rfl
                rotate_left
                · simp only [Act.put, List.setIfInBounds_toArray, List.set_cons_zero, List.set_cons_succ, i64_w, i32_w]
                  rfl
                refine pure_ (i := 1) (N := (some 75)) (v := ?_) (a' := ?_) #[true, true, false, false, false, false, false, false, false, false] rfl rfl (by kernel_rfl) (fun _ _ _ h => h) (Or.inl ⟨by rfl, ?_⟩) ?_ ?_
                rotate_left
                · intro w'
                  go_simp
                  with_reducible rfl
                rotate_left
                · simp only [Act.put, List.setIfInBounds_toArray, List.set_cons_zero, List.set_cons_succ, i64_w, i32_w]
                  rfl
                refine pure_ (i := 2) (N := (some 76)) (v := ?_) (a' := ?_) #[true, true, true, false, false, false, false, false, false, false] rfl rfl (by kernel_rfl) (fun _ _ _ h => h) (Or.inl ⟨by rfl, ?_⟩) ?_ ?_
                rotate_left
                · intro w'
                  go_simp
                  with_reducible rfl
                rotate_left
                · simp only [Act.put, List.setIfInBounds_toArray, List.set_cons_zero, List.set_cons_succ, i64_w, i32_w]
                  rfl
                refine take_ (i := 3) (N := (some 77)) (v := ?_) (a' := ?_) #[true, true, true, true, false, false, false, false, false, false] rfl rfl (by kernel_rfl) (fun _ _ _ h => h) (Or.inl ⟨by rfl, ?_⟩) hHeld ?_ ?_
                rotate_left
                · intro w' s0
                  go_simp
                  with_reducible rfl
                rotate_left
                · simp only [Act.put, List.setIfInBounds_toArray, List.set_cons_zero, List.set_cons_succ, i64_w, i32_w]
                  rfl
                refine pure_ (i := 4) (N := (some 78)) (v := ?_) (a' := ?_) #[true, true, true, true, true, false, false, false, false, false] rfl rfl (by kernel_rfl) (fun _ _ _ h => h) (Or.inl ⟨by rfl, ?_⟩) ?_ ?_
                rotate_left
                · intro w'
                  go_simp
                  with_reducible rfl
                rotate_left
                · simp only [Act.put, List.setIfInBounds_toArray, List.set_cons_zero, List.set_cons_succ, i64_w, i32_w]
                  rfl
                refine pure_ (i := 5) (N := (some 79)) (v := ?_) (a' := ?_) #[true, true, true, true, true, true, false, false, false, false] rfl rfl (by kernel_rfl) (fun _ _ _ h => h) (Or.inl ⟨by rfl, ?_⟩) ?_ ?_
                rotate_left
                · intro w'
                  go_simp
                  with_reducible rfl
                rotate_left
                · simp only [Act.put, List.setIfInBounds_toArray, List.set_cons_zero, List.set_cons_succ, i64_w, i32_w]
                  rfl
                refine take_ (i := 6) (N := (some 80)) (v := ?_) (a' := ?_) #[true, true, true, true, true, true, true, false, false, false] rfl rfl (by kernel_rfl) (fun _ _ _ h => h) (Or.inl ⟨by rfl, ?_⟩) hHeld ?_ ?_
                rotate_left
                · intro w' s0
                  go_simp
                  with_reducible rfl
                rotate_left
                · simp only [Act.put, List.setIfInBounds_toArray, List.set_cons_zero, List.set_cons_succ, i64_w, i32_w]
                  rfl
                refine one_ (i := 7) (N := (some 81)) #[true, true, true, true, true, true, true, true, false, false] rfl rfl (by kernel_rfl) (by decide) (fun K hK => ?_)
                refine value_ (w1 := wd.alloc (.cells #[.slice A0r row0.length c0r, .slice A0r row0.length c0r] 27)) (v := .slice (some ⟨wd.heap.size, 0, none⟩) 2 2) (by rfl) rfl ?hr7 ?_
                case hr7 => first | (go_simp; done) | (go_simp; rfl)
                have hal := below_alloc (Below.refl wd.heap.size wd) (.cells #[.slice A0r row0.length c0r, .slice A0r row0.length c0r] 27)
                refine hK.out _ _ (cell_belowA hal hHeld) (fun _ => ?_)
                clear hK K
                refine norm_ (a' := ?_) ?_ ?_
                rotate_left
                · show Act.put _ (some 81) _ = _
                  simp only [Act.put, List.setIfInBounds_toArray, List.set_cons_zero, List.set_cons_succ, i64_w, i32_w]
                  rfl
                have hnew : (wd.alloc (.cells #[.slice A0r row0.length c0r, .slice A0r row0.length c0r] 27)).heap[wd.heap.size]? = some (.cells #[.slice A0r row0.length c0r, .slice A0r row0.length c0r] 27 (0, 0)) := heap_alloc_new wd _
                have HRr : Aside0 (ReadsRow (fun (x : List Int) (cs : List Value) => x = row0 ∧ cs = [.slice A0r row0.length c0r]) 1 (wd.alloc (.cells #[.slice A0r row0.length c0r, .slice A0r row0.length c0r] 27)) (some ⟨wd.heap.size, 0, none⟩) 2 [row0, row0]) := Aside0.mk (two_rows hnew row0)
                have HSTa := Aside0.mk (HSTd.out.below hal)
                have HOa := Aside0.mk (Kd.S_R (Kd.S_below HOd.out hal))
                have HR0a := Aside0.mk (Kd.R_below HR0d.out hal)
                clear hnew hal hHeld HSTd HOd HR0d
                generalize wd.alloc (.cells #[.slice A0r row0.length c0r, .slice A0r row0.length c0r] 27) = wa at HRr HSTa HOa HR0a ⊢
                refine last_ (i := 8) (N := (some 82)) #[true, true, true, true, true, true, true, true, true, false] rfl rfl (by kernel_rfl) (by decide) (fun K hK => ?_)
                refine Kd.R_append_rows_step (Kd.slice 3 (Kd.int .i64)) (w0 := wa) w.heap.size (by rfl) (.tmp 74) (.tmp 81) 22 27 (.slice none 0 0) 24 rfl Try.underlying22 info27 rfl (by decide) (by omega) (.slice (some ⟨go, 0, none⟩) 6 co) t [row0, row0] (some ⟨wd.heap.size, 0, none⟩) 2 2 (fun k => w.heap.size ≤ k) (fun k => w.heap.size ≤ k ∧ k ≠ go) rfl rfl HOa.out HRr.out (fun x cs h => by obtain ⟨rfl, rfl⟩ := h; exact ⟨_, rfl, HR0a.out⟩) (fun k h => ⟨h.1, fun e => h.2 (by simpa [Value.ownBlock] using e)⟩) (fun k h => Nat.le_trans HSTa.out.sz h) (Below.refl _ _) HSTa.out.sz (by have := HN6.out; omega) ?_
                intro v82 w82 hR82 hB82 hg82 hat82
                have HST82 := Aside0.mk (HSTa.out.grown hg82 (fun b hb => by obtain rfl : go = b := (by simpa [Value.ownBlock] using hb); exact HGO.out))
                have HR82 : Aside0 (Kd.R (Kd.slice 3 (Kd.int .i64)) 27 w82 w.heap.size (fun _ => True) v82 (t ++ [row0, row0])) := Aside0.mk (Kd.R_mono hR82 (fun _ _ => trivial))
                have HT9 : Aside0 (Tab (t ++ [row0, row0])) := Aside0.mk (tab_two HN6.out HT6.out row0 HROW0.out)
                obtain ⟨A82, c82, e82⟩ := Kd.R_slice hR82
                rw [show (t ++ [row0, row0]).length = t.length + 2 by simp] at e82
                subst e82
                clear hR82 hB82 hg82 hat82
                refine hK.out _ _ ?_
                clear hK K
                refine norm_ (a' := ?_) ?_ ?_
                rotate_left
                · show Act.put _ (some 82) _ = _
                  simp only [Act.put, List.setIfInBounds_toArray, List.set_cons_zero, List.set_cons_succ, i64_w, i32_w]
                  rfl
                refine pure_ (i := 9) (N := (some 5)) (v := ?_) (a' := ?_) #[true, true, true, true, true, true, true, true, true, true] rfl rfl (by kernel_rfl) (fun _ _ _ h => h) (Or.inl ⟨by rfl, ?_⟩) ?_ ?_
                rotate_left
                · intro w'
                  go_simp
                  with_reducible rfl
                rotate_left
                · simp only [Act.put, List.setIfInBounds_toArray, List.set_cons_zero, List.set_cons_succ, i64_w, i32_w]
                  rfl
                refine done_ (by kernel_rfl) ?_
                go_wp2
                go_ret
                exact ⟨_, _, _, _, rfl, HT9.out, HR82.out, by have := HA5.out; omega, by have := HA5.out; omega, HST82.out⟩
              · have c3 : (x6 == 3) = false := beq_eq_false_iff_ne.2 h63
                go_wp2_with (first | (go_at_call 71; with_reducible refine (pick_st hst.out E4.out).mono ?_; rintro e w44 ⟨rfl, hst4, hk4⟩; have HST4 := Aside0.mk hst4; have HO4 := Aside0.mk (Kd.S_keep ho.out hk4 (fun b hb => by have hb : w.heap.size ≤ b := hb; have := HGL.out; omega)); clear hst4 hk4) | (go_at_call 71; with_reducible refine (pick_st HST4.out E6.out).mono ?_; rintro e wq ⟨rfl, hst4, hk4⟩; have HST := Aside0.mk hst4; have HO := Aside0.mk (Kd.S_keep HO4.out hk4 (fun b hb => by have hb : w.heap.size ≤ b := hb; have := HGL.out; omega)); clear hst4 hk4))
                go_ret
                exact ⟨_, _, _, _, rfl, tab_id HN6.out HT6.out, Kd.R_mono (Kd.S_R HO.out) (fun _ _ => trivial), by have := HA5.out; omega, by have := HA5.out; omega, HST.out⟩
  | false =>
    go_enter Try.func70, Try.ntmps70
    go_wp2_with (first | (go_at_call 71; with_reducible refine (pick_st HST0.out E1.out).mono ?_; rintro e w11 ⟨rfl, hst, hk⟩; have HST1 := Aside0.mk hst; clear hst hk) | (go_at_call 71; with_reducible refine (pick_st HST1.out E2.out).mono ?_; rintro e w15 ⟨rfl, hst, hk⟩; have HST2 := Aside0.mk hst; clear hst hk) | (go_at_call 82; refine (spec_l1Least.calls _ _ _ _ EC.out).mono ?_; rintro e w17 ⟨rfl, hd⟩; have HST3 := Aside0.mk (HST2.out.below hd.below); clear hd) | (go_at_call 83; refine (one_st HST3.out E3.out).mono ?_; rintro e w19 ⟨rfl, hst, hk⟩; have HST4 := Aside0.mk hst; clear hst hk) | ((with_reducible refine gate_dst (N := 20) rfl ?_); refine Kd.S_lit (Kd.slice 3 (Kd.int .i64)) _ 27 ?hg (N := 20) ?hd (xs := ([] : List (List Int))) (inner := []) (ok := fun _ => True) (okp := fun _ => True) ?hr ?hp (fun _ hk => hk) trivial (Below.refl _ _) (Nat.le_refl _) (by simp) ?_; (case hd => rfl); (case hg => rfl); (case hr => first | (go_simp; done) | (go_simp; rfl)); (case hp => exact (Reps.none _ _)); intro v20 w20 ho hb hg_ hnew_; clear hg_ hnew_; have HO20 : Aside0 (Kd.S (Kd.slice 3 (Kd.int .i64)) 27 w20 w.heap.size (fun b => w.heap.size ≤ b) v20 []) := Aside0.mk (Kd.S_mono (Kd.S_bound (Kd.S_lower ho HST4.out.sz)) (fun b hb => hb.2.1)); have HST20 := Aside0.mk (HST4.out.below hb); clear ho hb))
    go_loopw [5, 6] (fun v5 v6 w' => ∃ (k : Nat) (t : List (List Int)) (a9 s9 : Int), k ≤ n ∧ v6 = .int .i64 k ∧ Aside0 (t.length = k ∧ ∀ r ∈ t, r.length = c) ∧ Aside0 (a3 ≤ a9 ∧ a9 ≤ a3 + 12 * k) ∧ Aside0 (Kd.S (Kd.slice 3 (Kd.int .i64)) 27 w' w.heap.size (fun b => w.heap.size ≤ b) v5 t) ∧ Aside0 (St w0 w g code w' a9 s9)) (fun _ v6 _ => n - (intOf v6).toNat)
    case atStart => exact ⟨0, [], a3, s3, Nat.zero_le _, rfl, Aside0.mk ⟨rfl, fun r h => by cases h⟩, Aside0.mk ⟨Int.le_refl _, by omega⟩, HO20, HST20⟩
    case round =>
      clear HO20 HST20
      obtain ⟨k, t, a9, s9, hk, rfl, ht, ha, ho, hst⟩ := hrel
      by_cases hlt : k < n
      · have HSo := Aside0.mk (Kd.S_mono (Kd.S_bound ho.out) (fun b hb => (⟨hb.1, hb.2.2.1⟩ : w.heap.size ≤ b ∧ b < wr.heap.size)))
        have HSZ := Aside0.mk hst.out.sz
        have HGL := Aside0.mk hst.out.gl
        obtain ⟨m, hm⟩ : ∃ m, wr.heap.size = m := ⟨_, rfl⟩
        rw [hm] at HSo HSZ
        have HMS := Aside0.mk hm
        clear hm
        go_wp2_with (((with_reducible refine gate_dst (N := 26) rfl ?_); refine Kd.R_lit (Kd.int .i64) _ 3 ?hg (N := 26) ?hd (xs := ([] : List Int)) (inner := []) (ok := fun _ => True) (okp := fun _ => True) ?hr ?hp (fun _ hk => hk) trivial (Below.refl _ _) (Nat.le_refl _) (by simp) ?_; (case hd => rfl); (case hg => rfl); (case hr => first | (go_simp; done) | (go_simp; rfl)); (case hp => exact (Reps.none _ _)); intro v26 w26 ho hb hg_ hnew_; clear hg_ hnew_; have HR26 : Aside0 (Kd.R (Kd.int .i64) 3 w26 w.heap.size (fun b => m ≤ b) v26 []) := Aside0.mk (Kd.R_lower (Kd.R_mono (Kd.R_bound ho) (fun b hb => (by have := hb.2.1; have := HMS.out; omega : m ≤ b))) hst.out.sz); have HST26 := Aside0.mk (hst.out.below hb); have HM26 : Aside0 (m ≤ w26.heap.size) := Aside0.mk (Nat.le_trans (Nat.le_of_eq HMS.out.symm) hb.size); have HS26 := Aside0.mk (Kd.S_below HSo.out hb); clear ho hb))
        go_loopw [7, 8] (fun v7 v8 w' => ∃ (j : Nat) (row : List Int) (a8 s8 : Int), j ≤ c ∧ v8 = .int .i64 j ∧ Aside0 (row.length = j) ∧ Aside0 (a9 ≤ a8 ∧ a8 ≤ a9 + 2 * j) ∧ Aside0 (Kd.S (Kd.slice 3 (Kd.int .i64)) 27 w' w.heap.size (fun b => w.heap.size ≤ b ∧ b < m) u5 t) ∧ Aside0 (Kd.R (Kd.int .i64) 3 w' w.heap.size (fun b => m ≤ b) v7 row) ∧ Aside0 (m ≤ w'.heap.size) ∧ Aside0 (St w0 w g code w' a8 s8)) (fun _ v8 _ => c - (intOf v8).toNat)
        case atStart => exact ⟨0, [], a9, s9, Nat.zero_le _, rfl, Aside0.mk rfl, Aside0.mk ⟨Int.le_refl _, by omega⟩, HS26, HR26, HM26, HST26⟩
        case round =>
          clear HR26 HS26 HST26 HM26
          obtain ⟨j, row, a8, s8, hj, rfl, hrl, ha8, hs8, hr8, hmw, hst8⟩ := hrel
          by_cases hlt2 : j < c
          · obtain ⟨bA, aA, sA, eA, qA0, qA1⟩ := among_ok hc a8 s8 [1, 2, 3, 5, 8, 0, 20, -1] (by have := ha.out; have := ha8.out; omega) (by have := ha.out; have := ha8.out; omega) (by decide)
            have EA := Aside0.mk eA
            have QA : Aside0 (a9 ≤ aA ∧ aA ≤ a9 + 2 * ((j + 1 : Nat) : Int)) := Aside0.mk (by have := ha8.out; omega)
            have hgm : g < wr.heap.size := hst8.out.lt
            have HGM := Aside0.mk hgm
            have HMW : Aside0 (m ≤ wr.heap.size) := hmw
            clear eA qA0 qA1 hgm
            go_wp2_with (first | ((with_reducible refine gate_dst (N := 34) rfl ?_); refine Kd.R_lit (Kd.int .i64) _ 3 ?hg (N := 34) ?hd (xs := ([1, 2, 3, 5, 8, 0, 20, -1] : List Int)) (inner := [.int .i64 1, .int .i64 2, .int .i64 3, .int .i64 5, .int .i64 8, .int .i64 0, .int .i64 20, .int .i64 (-1)]) (ok := fun _ => True) (okp := fun _ => True) ?hr ?hp (fun _ hk => hk) trivial (Below.refl _ _) (Nat.le_refl _) (by simp) ?_; (case hd => rfl); (case hg => rfl); (case hr => first | (go_simp; done) | (go_simp; rfl)); (case hp => exact (Reps.one (show Kd.M (Kd.int .i64) _ _ _ (1) [.int .i64 (1)] from rfl) (Reps.one (show Kd.M (Kd.int .i64) _ _ _ (2) [.int .i64 (2)] from rfl) (Reps.one (show Kd.M (Kd.int .i64) _ _ _ (3) [.int .i64 (3)] from rfl) (Reps.one (show Kd.M (Kd.int .i64) _ _ _ (5) [.int .i64 (5)] from rfl) (Reps.one (show Kd.M (Kd.int .i64) _ _ _ (8) [.int .i64 (8)] from rfl) (Reps.one (show Kd.M (Kd.int .i64) _ _ _ (0) [.int .i64 (0)] from rfl) (Reps.one (show Kd.M (Kd.int .i64) _ _ _ (20) [.int .i64 (20)] from rfl) (Reps.one (show Kd.M (Kd.int .i64) _ _ _ (-1) [.int .i64 (-1)] from rfl) (Reps.none _ _)))))))))); intro v34 w34 ho hb hg_ hnew_; clear hg_ hnew_; obtain ⟨A34, c34, rfl⟩ := Kd.R_slice ho; have HL := Aside0.mk ho; have HST1 := Aside0.mk (hst8.out.below hb); have HO1 := Aside0.mk (Kd.S_below hs8.out hb); have HM34 : Aside0 (m ≤ w34.heap.size) := Aside0.mk (Nat.le_trans HMW.out hb.size); have HRW1 := Aside0.mk (Kd.R_below hr8.out hb); clear ho hb) | (go_at_call 74; refine (among_st HST1.out (Kd.R_reads' HL.out).2.2 (Kd.R_reads' HL.out).2.1 (R_far_of HL.out HGM.out) EA.out).mono ?_; rintro e w35 ⟨rfl, hst2, hk2⟩; have HST2 := Aside0.mk hst2; have HO2 := Aside0.mk (Kd.S_keep HO1.out hk2 (fun b hb => by have := hb.1; have := HGL.out; omega)); have HRW2 := Aside0.mk (Kd.R_keep HRW1.out hk2 (fun b hb => by have hb : m ≤ b := hb; have := HSZ.out; have := HGL.out; omega)); have HM35 : Aside0 (m ≤ w35.heap.size) := Aside0.mk (Nat.le_trans HM34.out hk2.1); clear hst2 hk2) | ((with_reducible refine gate_builtin (b := .append) (xs := #[.tmp 32, .tmp 36]) rfl ?_); at_builtin; refine Kd.R_append (Kd.int .i64) (W := w35) w.heap.size rfl (.tmp 32) (.tmp 36) 27 3 (.int .i64 0) 8 rfl Try.underlying27 info3 rfl (by decide) (by omega) u7 row bA [.int .i64 bA] (fun b => m ≤ b) (fun _ => False) rfl rfl rfl (fun _ hk => hk.elim) (fun b hb => Nat.le_trans HM35.out hb) HRW2.out (Below.refl _ _) HST2.out.sz (by have := hrl.out; omega) ?_; intro v37 w37 hR37 hB37 hg37 hat37; have HR37 := Aside0.mk hR37; have HST3 := Aside0.mk (HST2.out.grown hg37 (fun b hb => Kd.R_base HRW2.out b hb)); have HO3 := Aside0.mk (Kd.S_grown HO2.out hg37 (fun b hb e => by have := HRW2.out.1 b e.symm; have h2 := hb.2; have h3 : m ≤ b := this; omega)); have HM37 : Aside0 (m ≤ w37.heap.size) := Aside0.mk (Nat.le_trans HM35.out hg37.size); clear hR37 hB37 hg37 hat37))
            go_roundw
            case rel => exact ⟨j + 1, row ++ [bA], aA, sA, by omega, by go_num, Aside0.mk (by rw [List.length_append, List.length_singleton, hrl.out]), QA, HO3, HR37, HM37, HST3⟩
            case measure => simp [intOf]; omega
          · obtain rfl : c = j := by omega
            obtain ⟨A7, c7, e7⟩ := Kd.R_slice hr8.out
            subst e7
            have HRb := Aside0.mk (Kd.R_mono (Kd.R_bound hr8.out) (fun b hb => (⟨hb.1, hb.2.2.1⟩ : m ≤ b ∧ b < wr.heap.size)))
            have HOb : Aside0 (Kd.S (Kd.slice 3 (Kd.int .i64)) 27 wr w.heap.size (fun b => w.heap.size ≤ b ∧ ¬ (m ≤ b ∧ b < wr.heap.size)) u5 t) := Aside0.mk (Kd.S_mono hs8.out (fun b hb => ⟨hb.1, fun h => by have := hb.2; omega⟩))
            have HTN : Aside0 (t.length ≤ 6) := Aside0.mk (by have := ht.out.1; omega)
            go_wp2_with ((with_reducible refine gate_builtin (b := .append) (xs := #[.tmp 38, .tmp 40]) rfl ?_); at_builtin; refine Kd.S_append (Kd.slice 3 (Kd.int .i64)) (W := wr) w.heap.size rfl (.tmp 38) (.tmp 40) 22 27 (.slice none 0 0) 24 rfl Try.underlying22 info27 rfl (by decide) (by omega) u5 t row [.slice A7 row.length c7] (fun b => w.heap.size ≤ b) (fun b => m ≤ b ∧ b < wr.heap.size) rfl rfl ⟨_, rfl, HRb.out⟩ (fun b hb => ⟨by have := HSZ.out; omega, fun e => by have := (HOb.out.choose_spec.1 b e.symm).2; exact this hb⟩) (fun b hb => Nat.le_trans hst8.out.sz hb) HOb.out (Below.refl _ _) hst8.out.sz (by have := HTN.out; omega) ?_; intro v41 w41 hS41 hB41 hg41 hat41; have HS41 := Aside0.mk hS41; have HST41 := Aside0.mk (hst8.out.grown hg41 (fun b hb => Kd.S_base HOb.out b hb)); clear hS41 hB41 hg41 hat41)
            go_roundw
            case rel => exact ⟨k + 1, t ++ [row], a8, s8, by omega, by go_num, Aside0.mk ⟨by rw [List.length_append, List.length_singleton, ht.out.1], rows_snoc ht.out.2 hrl.out⟩, Aside0.mk (by have := ha.out; have := ha8.out; omega), HS41, HST41⟩
            case measure => simp [intOf]; omega
      · obtain rfl : n = k := by omega
        obtain ⟨i9, a4, s4, e4, hi0, hi1, q40, q41⟩ := pick_ok hc a9 s9 (n : Int) (by have := ha.out; omega) (by have := ha.out; omega)
        obtain ⟨x6, a5, s5, e6, p60, p61, q60, q61⟩ := pick_ok hc a4 s4 40 (by have := ha.out; omega) (by have := ha.out; omega)
        obtain ⟨go, co, ev, hgo1, hgo2, _⟩ := Kd.S_form ho.out (by have := ht.out.1; omega)
        rw [ht.out.1] at ev
        subst ev
        have HN6 : Aside0 (t.length ≤ 6) := Aside0.mk (by have := ht.out.1; omega)
        have HT6 : Aside0 (∀ r ∈ t, r.length ≤ 6) := Aside0.mk (fun r hr => by have := ht.out.2 r hr; omega)
        have hi9 : i9 < (n : Int) := by omega
        have HGO : Aside0 (w.heap.size ≤ go) := Aside0.mk hgo1
        have HA5 : Aside0 (a ≤ a5 ∧ a5 ≤ a + 150) := Aside0.mk (by have := ha.out; omega)
        have E4 := Aside0.mk e4
        have E6 := Aside0.mk e6
        have HGL := Aside0.mk hst.out.gl
        clear e4 e6 hi1 hgo1 hgo2 q40 q41 q60 q61 p60 p61
        have hz0n : 0 < n := by omega
        have hz0c : 0 < c := by omega
        by_cases h6 : x6 = 0
        · subst h6
          obtain ⟨b5, a6, s6, e5, q50, q51⟩ := among_ok hc a5 s5 [-2, 9999, 10000] (by have := HA5.out; omega) (by have := HA5.out; omega) (by decide)
          have E5 := Aside0.mk e5
          clear e5
          go_wp2_with (first | (go_at_call 71; with_reducible refine (pick_st hst.out E4.out).mono ?_; rintro e w44 ⟨rfl, hst4, hk4⟩; have HST4 := Aside0.mk hst4; have HO4 := Aside0.mk (Kd.S_keep ho.out hk4 (fun b hb => by have hb : w.heap.size ≤ b := hb; have := HGL.out; omega)); clear hst4 hk4) | (go_at_call 71; with_reducible refine (pick_st HST4.out E6.out).mono ?_; rintro e wq ⟨rfl, hst4, hk4⟩; have HST := Aside0.mk hst4; have HO := Aside0.mk (Kd.S_keep HO4.out hk4 (fun b hb => by have hb : w.heap.size ≤ b := hb; have := HGL.out; omega)); clear hst4 hk4))
          obtain ⟨row, hrow⟩ : ∃ row, t.getD i9.toNat [] = row := ⟨_, rfl⟩
          have hrl : row.length = c := by rw [← hrow]; exact ht.out.2 _ (getD_mem (by have := ht.out.1; omega))
          obtain ⟨oki, cl, hcl, hM, hcc, hfz, hoki, hH⟩ := Kd.S_elem HO.out ([] : List Int) i9 hi0 (by omega)
          obtain ⟨vr, rfl, hRow⟩ := hM
          rw [hrow] at hRow
          obtain ⟨gr, cr, er, _⟩ := Kd.R_form hRow (by omega)
          subst er
          have hx2 : wq.cell? ⟨go, i9.toNat, none⟩ = some (.slice (some ⟨gr, 0, none⟩) row.length cr) := by
            have := hcc 0 _ rfl
            rw [show (Kd.slice 3 (Kd.int .i64)).sz = 1 from rfl, Nat.mul_one, Nat.add_zero] at this
            exact this
          have HROW : Aside0 (row.length ≤ 7) := Aside0.mk (by omega)
          clear hcl hcc hfz hoki hH hRow
          refine start_ (n := 9) (S := fun w' => w'.cell? ⟨go, i9.toNat, none⟩ = some (.slice (some ⟨gr, 0, none⟩) row.length cr)) (ds := [8]) #[false, false, false, false, false, false, false, false, false] (by kernel_rfl) rfl rfl hx2 (fun hHeld => ?_)
          have HSTd := Aside0.mk (HST.out.below (below_drew1 (Below.refl _ _)))
          have HOd := Aside0.mk (Kd.S_drew HO.out)
          generalize wq.drew = wd at HSTd HOd hHeld ⊢
          refine pure_ (i := 0) (N := (some 49)) (v := ?_) (a' := ?_) #[true, false, false, false, false, false, false, false, false] rfl rfl (by kernel_rfl) (fun _ _ _ h => h) (Or.inl ⟨by rfl, ?_⟩) ?_ ?_
          rotate_left
          · intro w'
            go_simp
            with_reducible rfl
          rotate_left
          · simp only [Act.put, List.setIfInBounds_toArray, List.set_cons_zero, List.set_cons_succ, i64_w, i32_w]
            rfl
          refine pure_ (i := 1) (N := (some 50)) (v := ?_) (a' := ?_) #[true, true, false, false, false, false, false, false, false] rfl rfl (by kernel_rfl) (fun _ _ _ h => h) (Or.inl ⟨by rfl, ?_⟩) ?_ ?_
          rotate_left
          · intro w'
            go_simp
            with_reducible rfl
          rotate_left
          · simp only [Act.put, List.setIfInBounds_toArray, List.set_cons_zero, List.set_cons_succ, i64_w, i32_w]
            rfl
          refine pure_ (i := 2) (N := (some 51)) (v := ?_) (a' := ?_) #[true, true, true, false, false, false, false, false, false] rfl rfl (by kernel_rfl) (fun _ _ _ h => h) (Or.inl ⟨by rfl, ?_⟩) ?_ ?_
          rotate_left
          · intro w'
            go_simp
            with_reducible rfl
          rotate_left
          · simp only [Act.put, List.setIfInBounds_toArray, List.set_cons_zero, List.set_cons_succ, i64_w, i32_w]
            rfl
          refine take_ (i := 3) (N := (some 52)) (v := ?_) (a' := ?_) #[true, true, true, true, false, false, false, false, false] rfl rfl (by kernel_rfl) (fun _ _ _ h => h) (Or.inl ⟨by rfl, ?_⟩) hHeld ?_ ?_
          rotate_left
          · intro w' s0
            go_simp
            with_reducible rfl
          rotate_left
          · simp only [Act.put, List.setIfInBounds_toArray, List.set_cons_zero, List.set_cons_succ, i64_w, i32_w]
            rfl
          refine pure_ (i := 4) (N := (some 53)) (v := ?_) (a' := ?_) #[true, true, true, true, true, false, false, false, false] rfl rfl (by kernel_rfl) (fun _ _ _ h => h) (Or.inl ⟨by rfl, ?_⟩) ?_ ?_
          rotate_left
          · intro w'
            go_simp
            with_reducible rfl
          rotate_left
          · simp only [Act.put, List.setIfInBounds_toArray, List.set_cons_zero, List.set_cons_succ, i64_w, i32_w]
            rfl
          refine one_ (i := 5) (N := (some 54)) #[true, true, true, true, true, true, false, false, false] rfl rfl (by kernel_rfl) (by decide) (fun K hK => ?_)
          refine Kd.R_lit_step (Kd.int .i64) _ 3 ?hg5 (N := 54) ?hd5 (xs := ([-2, 9999, 10000] : List Int)) (inner := [.int .i64 (-2), .int .i64 9999, .int .i64 10000]) (ok := fun _ => True) (okp := fun _ => True) ?hr5 ?hp5 (fun _ hk => hk) trivial (Below.refl _ _) (Nat.le_refl _) (by simp) ?_
          case hd5 => rfl
          case hg5 => rfl
          case hr5 => first | (go_simp; done) | (go_simp; rfl)
          case hp5 => exact (Reps.one (show Kd.M (Kd.int .i64) _ _ _ (-2) [.int .i64 (-2)] from rfl) (Reps.one (show Kd.M (Kd.int .i64) _ _ _ 9999 [.int .i64 9999] from rfl) (Reps.one (show Kd.M (Kd.int .i64) _ _ _ 10000 [.int .i64 10000] from rfl) (Reps.none _ _))))
          intro v54 w54 hR54 hb54 hg_ hnew_
          clear hg_ hnew_
          obtain ⟨A54, c54, rfl⟩ := Kd.R_slice hR54
          refine hK.out _ _ (cell_belowA hb54 hHeld) (fun hHeld5 => ?_)
          clear hK K
          refine norm_ (a' := ?_) ?_ ?_
          rotate_left
          · show Act.put _ (some 54) _ = _
            simp only [Act.put, List.setIfInBounds_toArray, List.set_cons_zero, List.set_cons_succ, i64_w, i32_w]
            rfl
          have HR54 := Aside0.mk hR54
          have HST54 := Aside0.mk (HSTd.out.below hb54)
          have HO54 := Aside0.mk (Kd.S_below HOd.out hb54)
          have HSZ := Aside0.mk hb54.size
          have HSTD := Aside0.mk HSTd.out.lt
          clear hR54 hb54 hHeld HSTd HOd
          refine one_ (i := 6) (N := (some 55)) #[true, true, true, true, true, true, true, false, false] rfl rfl (by kernel_rfl) (by decide) (fun K hK => ?_)
          refine call_ 74 #[.pointer (some ⟨g, 0, none⟩), .slice A54 ([-2, 9999, 10000] : List Int).length c54] (by rfl) rfl ?hrun6 ?_
          case hrun6 =>
            unfold execOp
            simp [resolve, Deferred.ofValue, invoke, Act.eval, enters_ Try.func74 (by kernel_rfl) rfl]
          refine (among_st HST54.out (Kd.R_reads' HR54.out).2.2 (Kd.R_reads' HR54.out).2.1 (R_far_of HR54.out HSTD.out) E5.out).mono ?_
          rintro e w55 ⟨rfl, hST55, hk55⟩
          refine ⟨_, rfl, ?_⟩
          have HO55 := Aside0.mk (Kd.S_keep HO54.out hk55 (fun k hk => by have := HST.out.gl; omega))
          have HST55 := Aside0.mk hST55
          have hx55 := keep_cell hk55 hHeld5 (by show go ≠ g; have := HGO.out; have := HST.out.gl; omega)
          clear hST55 hk55
          refine hK.out _ _ hx55 (fun hHeld6 => ?_)
          clear hK K
          refine norm_ (a' := ?_) ?_ ?_
          rotate_left
          · show Act.put _ (some 55) _ = _
            simp only [Act.put, List.setIfInBounds_toArray, List.set_cons_zero, List.set_cons_succ, i64_w, i32_w]
            rfl
          refine pure_ (i := 7) (N := (some 56)) (v := ?_) (a' := ?_) #[true, true, true, true, true, true, true, true, false] rfl rfl (by kernel_rfl) (fun _ _ _ h => h) (Or.inl ⟨by rfl, ?_⟩) ?_ ?_
          rotate_left
          · intro w'
            go_simp
            with_reducible rfl
          rotate_left
          · simp only [Act.put, List.setIfInBounds_toArray, List.set_cons_zero, List.set_cons_succ, i64_w, i32_w]
            rfl
          refine last_ (i := 8) (N := none) #[true, true, true, true, true, true, true, true, true] rfl rfl (by kernel_rfl) (by decide) (fun K hK => ?_)
          obtain ⟨oki, cl, hcl, hM, hcc, hfz, hoki, hH⟩ := Kd.S_elem HO55.out ([] : List Int) i9 hi0 (by omega)
          obtain ⟨vr2, rfl, hRow2⟩ := hM
          have e2 : vr2 = .slice (some ⟨gr, 0, none⟩) row.length cr := by
            have := hcc 0 _ rfl
            rw [show (Kd.slice 3 (Kd.int .i64)).sz = 1 from rfl, Nat.mul_one, Nat.add_zero] at this
            exact Option.some.inj (this.symm.trans hx55)
          subst e2
          rw [show t.getD i9.toNat [] = row from hrow] at hRow2
          obtain ⟨crow, hcrow⟩ := Kd.R_typed hRow2 gr (by simp [Value.ownBlock])
          have hzf := blk_frozen hcrow 0
          obtain ⟨adr, er, hzc⟩ := Kd.at_int (Kd.R_reads' hRow2).2.2 (0 : Int) (Int.le_refl _) (by omega)
          cases er
          rw [show (0 : Int).toNat = 0 from rfl, add_plain] at hzc
          refine skip_ (w1 := w55.setCell ⟨gr, 0, none⟩ (.int .i64 b5)) (by rfl) rfl ?hr8 ?_
          case hr8 => first | (go_simp; done) | (go_simp; rfl)
          refine hK.out _ _ ?_
          clear hK K
          have hR3 := (Kd.R_seg (c := [.int .i64 (rd row 0)]) (seg := [.int .i64 b5]) (j := 0) (x' := b5) (okp := fun _ => False) hRow2 (0 : Int) (Int.le_refl _) (by omega) rfl (by
            intro j u hu
            cases j with
            | zero =>
              obtain rfl : Value.int .i64 (rd row 0) = u := by simpa using hu
              exact hzc
            | succ j => simp at hu) (Nat.le_refl 1) rfl (fun _ h => h.elim))
          have hH2 := Kd.H_grown hH hR3.2 (fun b hb => by cases hb; exact hRow2.1 gr (by simp [Value.ownBlock]))
          have hS2 := Kd.H_back hH2 (x' := row.set 0 b5) ⟨_, rfl, hR3.1⟩ (fun _ h => h)
          have hgr : w.heap.size ≤ gr := (hoki gr (hRow2.1 gr (by simp [Value.ownBlock]))).1
          have HS9 : Aside0 (Kd.R (Kd.slice 3 (Kd.int .i64)) 27 (w55.setCell ⟨gr, 0, none⟩ (.int .i64 b5)) w.heap.size (fun _ => True) (.slice (some ⟨go, 0, none⟩) n co) (t.set i9.toNat (row.set 0 b5))) := Aside0.mk (Kd.R_mono (Kd.S_R hS2) (fun _ _ => trivial))
          have HST9 := Aside0.mk (HST55.out.set hgr 0 (.int .i64 b5))
          have HT9 : Aside0 (Tab (t.set i9.toNat (row.set 0 b5))) := Aside0.mk (tab_set HN6.out HT6.out i9.toNat (row.set 0 b5) (by rw [List.length_set]; exact HROW.out))
          clear hR3 hH2 hS2 hH hRow2 hcc hfz hoki hcl hgr hcrow hzf hzc
          refine done_ (by kernel_rfl) ?_
          go_wp2
          go_ret
          exact ⟨_, _, _, _, rfl, HT9.out, HS9.out, by have := HA5.out; omega, by have := HA5.out; omega, HST9.out⟩
        · have c0 : (x6 == 0) = false := beq_eq_false_iff_ne.2 h6
          by_cases h61 : x6 = 1
          · subst h61
            go_wp2_with (first | (go_at_call 71; with_reducible refine (pick_st hst.out E4.out).mono ?_; rintro e w44 ⟨rfl, hst4, hk4⟩; have HST4 := Aside0.mk hst4; have HO4 := Aside0.mk (Kd.S_keep ho.out hk4 (fun b hb => by have hb : w.heap.size ≤ b := hb; have := HGL.out; omega)); clear hst4 hk4) | (go_at_call 71; go_loud (with_reducible refine (pick_st HST4.out E6.out).mono ?_; rintro e wq ⟨rfl, hst4, hk4⟩; have HST := Aside0.mk hst4; have HO := Aside0.mk (Kd.S_keep HO4.out hk4 (fun b hb => by have hb : w.heap.size ≤ b := hb; have := HGL.out; omega)); clear hst4 hk4; obtain ⟨row, hrow⟩ : ∃ row, t.getD i9.toNat [] = row := ⟨_, rfl⟩; have hrl : row.length = c := (by rw [← hrow]; exact ht.out.2 _ (getD_mem (by have := ht.out.1; omega))); obtain ⟨oki, vr, hRow, hx2, hoki, hH⟩ := S_elemI (Kd.S_mono (Kd.S_bound HO.out) (fun b hb => (⟨hb.1, by have := hb.2.2.1; omega⟩ : w.heap.size ≤ b ∧ ¬ wq.heap.size ≤ b))) i9 hi0 (by omega); rw [hrow] at hRow; obtain ⟨gr, cr, er, _⟩ := Kd.R_form hRow (by omega); subst er; obtain ⟨cells, hgb⟩ := Kd.S_typed HO.out go (by simp [Value.ownBlock]); have HGB := Aside0.mk hgb; have HRow := Aside0.mk hRow; have HH := Aside0.mk hH; have HOk := Aside0.mk hoki; have HRL : Aside0 (row.length ≤ 6) := Aside0.mk (by omega); clear hoki hH hRow hrow hrl hgb)) | ((with_reducible refine gate_builtin (b := .append) (xs := #[.tmp 64, .tmp 65]) rfl ?_); at_builtin; refine Kd.R_append (Kd.int .i64) (W := wq) w.heap.size rfl (.tmp 64) (.tmp 65) 27 3 (.int .i64 0) 8 rfl Try.underlying27 info3 rfl (by decide) (by omega) (.slice (some ⟨gr, 0, none⟩) row.length cr) row 1 [.int .i64 1] (fun b => oki b ∨ wq.heap.size ≤ b) (fun _ => False) rfl rfl rfl (fun _ h => h.elim) (fun b hb => .inr hb) (Kd.R_mono HRow.out (fun b h => .inl h)) (Below.refl _ _) HST.out.sz (by have := HRL.out; omega) ?_; intro v66 w66 hR66 hB66 hg66 hat66; obtain ⟨A66, c66, e66⟩ := Kd.R_slice hR66; rw [List.length_append, List.length_singleton] at e66; subst e66; have HR66 := Aside0.mk hR66; have hgne : some go ≠ (Value.slice (some ⟨gr, 0, none⟩) row.length cr).ownBlock := (fun e => by have := (HOk.out go (HRow.out.1 go e.symm)).2; exact this rfl); have h6g : w66.heap[go]? = some (.cells cells 27 (0, 0)) := (hg66.block go (blk_lt HGB.out) hgne).trans HGB.out; have HH66 := Aside0.mk (Kd.H_grown HH.out hg66 (fun b hb => HRow.out.1 b hb)); have hz1 : w66.cell? ⟨go, i9.toNat, none⟩ = some (.slice (some ⟨gr, 0, none⟩) row.length cr) := (World.cell?_of_block (w := wq) (w' := w66) (a := ⟨go, i9.toNat, none⟩) (h6g.trans HGB.out.symm)).trans hx2; have hz2 : w66.frozen? ⟨go, i9.toNat, none⟩ = false := blk_frozen h6g _; have HST66 := Aside0.mk (HST.out.grown hg66 (fun b hb => (HOk.out b (HRow.out.1 b hb)).1.1)); clear hR66 hB66 hg66 hat66 h6g hgne))
            go_ret
            have hS6 := (Kd.S_seg (okg := fun b => wq.heap.size ≤ b) (ok := fun b => w.heap.size ≤ b) HH66.out hi0 (by omega) (seg := [.slice A66 (row.length + 1) c66]) (j := 0) (Nat.le_refl 1) (x' := row ++ [1]) ⟨_, rfl, HR66.out⟩ (fun b h => h) (fun b h => ⟨Nat.le_trans HST.out.sz h, fun e => by have := blk_lt HGB.out; have h : wq.heap.size ≤ b := h; omega⟩)).1
            rw [show i9.toNat * (Kd.slice 3 (Kd.int .i64)).sz + 0 = i9.toNat from by rw [show (Kd.slice 3 (Kd.int .i64)).sz = 1 from rfl]; omega] at hS6
            exact ⟨_, _, _, _, rfl, tab_set HN6.out HT6.out i9.toNat (row ++ [1]) (by rw [List.length_append, List.length_singleton]; have := HRL.out; omega), Kd.R_mono (Kd.S_R hS6) (fun _ _ => trivial), by have := HA5.out; omega, by have := HA5.out; omega, HST66.out.set HGO.out _ _⟩
          · have c1 : (x6 == 1) = false := beq_eq_false_iff_ne.2 h61
            by_cases h62 : x6 = 2
            · subst h62
              go_wp2_with (first | (go_at_call 71; with_reducible refine (pick_st hst.out E4.out).mono ?_; rintro e w44 ⟨rfl, hst4, hk4⟩; have HST4 := Aside0.mk hst4; have HO4 := Aside0.mk (Kd.S_keep ho.out hk4 (fun b hb => by have hb : w.heap.size ≤ b := hb; have := HGL.out; omega)); clear hst4 hk4) | (go_at_call 71; with_reducible refine (pick_st HST4.out E6.out).mono ?_; rintro e wq ⟨rfl, hst4, hk4⟩; have HST := Aside0.mk hst4; have HO := Aside0.mk (Kd.S_keep HO4.out hk4 (fun b hb => by have hb : w.heap.size ≤ b := hb; have := HGL.out; omega)); clear hst4 hk4))
              go_ret
              exact ⟨_, _, _, _, rfl, ⟨by simp, fun r h => by simp at h⟩, Kd.R_mono (Kd.R_take (m := 0) (Kd.S_R HO.out) (Nat.zero_le _)) (fun _ _ => trivial), by have := HA5.out; omega, by have := HA5.out; omega, HST.out⟩
            · have c2 : (x6 == 2) = false := beq_eq_false_iff_ne.2 h62
              by_cases h63 : x6 = 3
              · subst h63
                go_wp2_with (first | (go_at_call 71; with_reducible refine (pick_st hst.out E4.out).mono ?_; rintro e w44 ⟨rfl, hst4, hk4⟩; have HST4 := Aside0.mk hst4; have HO4 := Aside0.mk (Kd.S_keep ho.out hk4 (fun b hb => by have hb : w.heap.size ≤ b := hb; have := HGL.out; omega)); clear hst4 hk4) | (go_at_call 71; with_reducible refine (pick_st HST4.out E6.out).mono ?_; rintro e wq ⟨rfl, hst4, hk4⟩; have HST := Aside0.mk hst4; have HO := Aside0.mk (Kd.S_keep HO4.out hk4 (fun b hb => by have hb : w.heap.size ≤ b := hb; have := HGL.out; omega)); clear hst4 hk4))
                obtain ⟨row0, hrow⟩ : ∃ row, t.getD 0 [] = row := ⟨_, rfl⟩
                have hrl : row0.length = c := by rw [← hrow]; exact ht.out.2 _ (getD_mem (by have := ht.out.1; omega))
                obtain ⟨oki, cl, hcl, hM, hcc, hfz, hoki, hH⟩ := Kd.S_elem HO.out ([] : List Int) 0 (Int.le_refl _) (by omega)
                obtain ⟨vr, rfl, hRow⟩ := hM
                rw [show (0 : Int).toNat = 0 from rfl, hrow] at hRow
                obtain ⟨A0r, c0r, er⟩ := Kd.R_slice hRow
                subst er
                have hx0 : wq.cell? ⟨go, 0, none⟩ = some (.slice A0r row0.length c0r) := by
                  have := hcc 0 _ rfl
                  rw [show (0 : Int).toNat = 0 from rfl, Nat.zero_mul, Nat.add_zero] at this
                  exact this
                have HR0 : Aside0 (Kd.R (Kd.int .i64) 3 wq w.heap.size (fun b => w.heap.size ≤ b ∧ b ≠ go) (.slice A0r row0.length c0r) row0) := Aside0.mk (Kd.R_mono hRow (fun b hb => hoki b hb))
                have HROW0 : Aside0 (row0.length ≤ 7) := Aside0.mk (by omega)
                clear hcl hcc hfz hoki hH hRow
                refine start_ (n := 10) (S := fun w' => w'.cell? ⟨go, 0, none⟩ = some (.slice A0r row0.length c0r)) (ds := [8]) #[false, false, false, false, false, false, false, false, false, false] (by kernel_rfl) rfl rfl hx0 (fun hHeld => ?_)
                have HSTd := Aside0.mk (HST.out.below (below_drew1 (Below.refl _ _)))
                have HOd := Aside0.mk (Kd.S_drew HO.out)
                have HR0d := Aside0.mk (Kd.R_drew HR0.out)
                generalize wq.drew = wd at HSTd HOd HR0d hHeld ⊢
                refine pure_ (i := 0) (N := (some 74)) (v := ?_) (a' := ?_) #[true, false, false, false, false, false, false, false, false, false] rfl rfl (by kernel_rfl) (fun _ _ _ h => h) (Or.inl ⟨by rfl, ?_⟩) ?_ ?_
                rotate_left
                · intro w'
                  go_simp
                  with_reducible rfl
                rotate_left
                · simp only [Act.put, List.setIfInBounds_toArray, List.set_cons_zero, List.set_cons_succ, i64_w, i32_w]
                  rfl
                refine pure_ (i := 1) (N := (some 75)) (v := ?_) (a' := ?_) #[true, true, false, false, false, false, false, false, false, false] rfl rfl (by kernel_rfl) (fun _ _ _ h => h) (Or.inl ⟨by rfl, ?_⟩) ?_ ?_
                rotate_left
                · intro w'
                  go_simp
                  with_reducible rfl
                rotate_left
                · simp only [Act.put, List.setIfInBounds_toArray, List.set_cons_zero, List.set_cons_succ, i64_w, i32_w]
                  rfl
                refine pure_ (i := 2) (N := (some 76)) (v := ?_) (a' := ?_) #[true, true, true, false, false, false, false, false, false, false] rfl rfl (by kernel_rfl) (fun _ _ _ h => h) (Or.inl ⟨by rfl, ?_⟩) ?_ ?_
                rotate_left
                · intro w'
                  go_simp
                  with_reducible rfl
                rotate_left
                · simp only [Act.put, List.setIfInBounds_toArray, List.set_cons_zero, List.set_cons_succ, i64_w, i32_w]
                  rfl
                refine take_ (i := 3) (N := (some 77)) (v := ?_) (a' := ?_) #[true, true, true, true, false, false, false, false, false, false] rfl rfl (by kernel_rfl) (fun _ _ _ h => h) (Or.inl ⟨by rfl, ?_⟩) hHeld ?_ ?_
                rotate_left
                · intro w' s0
                  go_simp
                  with_reducible rfl
                rotate_left
                · simp only [Act.put, List.setIfInBounds_toArray, List.set_cons_zero, List.set_cons_succ, i64_w, i32_w]
                  rfl
                refine pure_ (i := 4) (N := (some 78)) (v := ?_) (a' := ?_) #[true, true, true, true, true, false, false, false, false, false] rfl rfl (by kernel_rfl) (fun _ _ _ h => h) (Or.inl ⟨by rfl, ?_⟩) ?_ ?_
                rotate_left
                · intro w'
                  go_simp
                  with_reducible rfl
                rotate_left
                · simp only [Act.put, List.setIfInBounds_toArray, List.set_cons_zero, List.set_cons_succ, i64_w, i32_w]
                  rfl
                refine pure_ (i := 5) (N := (some 79)) (v := ?_) (a' := ?_) #[true, true, true, true, true, true, false, false, false, false] rfl rfl (by kernel_rfl) (fun _ _ _ h => h) (Or.inl ⟨by rfl, ?_⟩) ?_ ?_
                rotate_left
                · intro w'
                  go_simp
                  with_reducible rfl
                rotate_left
                · simp only [Act.put, List.setIfInBounds_toArray, List.set_cons_zero, List.set_cons_succ, i64_w, i32_w]
                  rfl
                refine take_ (i := 6) (N := (some 80)) (v := ?_) (a' := ?_) #[true, true, true, true, true, true, true, false, false, false] rfl rfl (by kernel_rfl) (fun _ _ _ h => h) (Or.inl ⟨by rfl, ?_⟩) hHeld ?_ ?_
                rotate_left
                · intro w' s0
                  go_simp
                  with_reducible rfl
                rotate_left
                · simp only [Act.put, List.setIfInBounds_toArray, List.set_cons_zero, List.set_cons_succ, i64_w, i32_w]
                  rfl
                refine one_ (i := 7) (N := (some 81)) #[true, true, true, true, true, true, true, true, false, false] rfl rfl (by kernel_rfl) (by decide) (fun K hK => ?_)
                refine value_ (w1 := wd.alloc (.cells #[.slice A0r row0.length c0r, .slice A0r row0.length c0r] 27)) (v := .slice (some ⟨wd.heap.size, 0, none⟩) 2 2) (by rfl) rfl ?hr7 ?_
                case hr7 => first | (go_simp; done) | (go_simp; rfl)
                have hal := below_alloc (Below.refl wd.heap.size wd) (.cells #[.slice A0r row0.length c0r, .slice A0r row0.length c0r] 27)
                refine hK.out _ _ (cell_belowA hal hHeld) (fun _ => ?_)
                clear hK K
                refine norm_ (a' := ?_) ?_ ?_
                rotate_left
                · show Act.put _ (some 81) _ = _
                  simp only [Act.put, List.setIfInBounds_toArray, List.set_cons_zero, List.set_cons_succ, i64_w, i32_w]
                  rfl
                have hnew : (wd.alloc (.cells #[.slice A0r row0.length c0r, .slice A0r row0.length c0r] 27)).heap[wd.heap.size]? = some (.cells #[.slice A0r row0.length c0r, .slice A0r row0.length c0r] 27 (0, 0)) := heap_alloc_new wd _
                have HRr : Aside0 (ReadsRow (fun (x : List Int) (cs : List Value) => x = row0 ∧ cs = [.slice A0r row0.length c0r]) 1 (wd.alloc (.cells #[.slice A0r row0.length c0r, .slice A0r row0.length c0r] 27)) (some ⟨wd.heap.size, 0, none⟩) 2 [row0, row0]) := Aside0.mk (two_rows hnew row0)
                have HSTa := Aside0.mk (HSTd.out.below hal)
                have HOa := Aside0.mk (Kd.S_R (Kd.S_below HOd.out hal))
                have HR0a := Aside0.mk (Kd.R_below HR0d.out hal)
                clear hnew hal hHeld HSTd HOd HR0d
                generalize wd.alloc (.cells #[.slice A0r row0.length c0r, .slice A0r row0.length c0r] 27) = wa at HRr HSTa HOa HR0a ⊢
                refine last_ (i := 8) (N := (some 82)) #[true, true, true, true, true, true, true, true, true, false] rfl rfl (by kernel_rfl) (by decide) (fun K hK => ?_)
                refine Kd.R_append_rows_step (Kd.slice 3 (Kd.int .i64)) (w0 := wa) w.heap.size (by rfl) (.tmp 74) (.tmp 81) 22 27 (.slice none 0 0) 24 rfl Try.underlying22 info27 rfl (by decide) (by omega) (.slice (some ⟨go, 0, none⟩) n co) t [row0, row0] (some ⟨wd.heap.size, 0, none⟩) 2 2 (fun k => w.heap.size ≤ k) (fun k => w.heap.size ≤ k ∧ k ≠ go) rfl rfl HOa.out HRr.out (fun x cs h => by obtain ⟨rfl, rfl⟩ := h; exact ⟨_, rfl, HR0a.out⟩) (fun k h => ⟨h.1, fun e => h.2 (by simpa [Value.ownBlock] using e)⟩) (fun k h => Nat.le_trans HSTa.out.sz h) (Below.refl _ _) HSTa.out.sz (by have := HN6.out; omega) ?_
                intro v82 w82 hR82 hB82 hg82 hat82
                have HST82 := Aside0.mk (HSTa.out.grown hg82 (fun b hb => by obtain rfl : go = b := (by simpa [Value.ownBlock] using hb); exact HGO.out))
                have HR82 : Aside0 (Kd.R (Kd.slice 3 (Kd.int .i64)) 27 w82 w.heap.size (fun _ => True) v82 (t ++ [row0, row0])) := Aside0.mk (Kd.R_mono hR82 (fun _ _ => trivial))
                have HT9 : Aside0 (Tab (t ++ [row0, row0])) := Aside0.mk (tab_two HN6.out HT6.out row0 HROW0.out)
                obtain ⟨A82, c82, e82⟩ := Kd.R_slice hR82
                rw [show (t ++ [row0, row0]).length = t.length + 2 by simp] at e82
                subst e82
                clear hR82 hB82 hg82 hat82
                refine hK.out _ _ ?_
                clear hK K
                refine norm_ (a' := ?_) ?_ ?_
                rotate_left
                · show Act.put _ (some 82) _ = _
                  simp only [Act.put, List.setIfInBounds_toArray, List.set_cons_zero, List.set_cons_succ, i64_w, i32_w]
                  rfl
                refine pure_ (i := 9) (N := (some 5)) (v := ?_) (a' := ?_) #[true, true, true, true, true, true, true, true, true, true] rfl rfl (by kernel_rfl) (fun _ _ _ h => h) (Or.inl ⟨by rfl, ?_⟩) ?_ ?_
                rotate_left
                · intro w'
                  go_simp
                  with_reducible rfl
                rotate_left
                · simp only [Act.put, List.setIfInBounds_toArray, List.set_cons_zero, List.set_cons_succ, i64_w, i32_w]
                  rfl
                refine done_ (by kernel_rfl) ?_
                go_wp2
                go_ret
                exact ⟨_, _, _, _, rfl, HT9.out, HR82.out, by have := HA5.out; omega, by have := HA5.out; omega, HST82.out⟩
              · have c3 : (x6 == 3) = false := beq_eq_false_iff_ne.2 h63
                go_wp2_with (first | (go_at_call 71; with_reducible refine (pick_st hst.out E4.out).mono ?_; rintro e w44 ⟨rfl, hst4, hk4⟩; have HST4 := Aside0.mk hst4; have HO4 := Aside0.mk (Kd.S_keep ho.out hk4 (fun b hb => by have hb : w.heap.size ≤ b := hb; have := HGL.out; omega)); clear hst4 hk4) | (go_at_call 71; with_reducible refine (pick_st HST4.out E6.out).mono ?_; rintro e wq ⟨rfl, hst4, hk4⟩; have HST := Aside0.mk hst4; have HO := Aside0.mk (Kd.S_keep HO4.out hk4 (fun b hb => by have hb : w.heap.size ≤ b := hb; have := HGL.out; omega)); clear hst4 hk4))
                go_ret
                exact ⟨_, _, _, _, rfl, tab_id HN6.out HT6.out, Kd.R_mono (Kd.S_R HO.out) (fun _ _ => trivial), by have := HA5.out; omega, by have := HA5.out; omega, HST.out⟩
end Go.Proofs.Ytfgbohochpjkfaa.G

/- The contract of slices.Clone over whole numbers: nil for nil, else a list of its own. -/
namespace Go.Proofs.Ytfgbohochpjkfaa.G
open Go.RowKit Go.Proofs.YtfgbohochpjkfaaW.PrintWords Go.Proofs.YtfgbohochpjkfaaW.PrintLast
set_option linter.unusedVariables false
set_option linter.unusedSimpArgs false
def slices_Clone_int_int.f (l0 : List Int) : Option (List Int) := if ([] : List Int).length + l0.length < 17592186044416 then some l0 else none
set_option maxHeartbeats 8000000 in
set_option maxRecDepth 100000 in
theorem slices_Clone_int_int.calls (A0 : Option Addr) (c0 : Nat) (l0 : List Int) (r : List Int) (w : World) (hr0 : Kd.C (Kd.int .i64) w A0 l0.length l0) (hc0 : l0.length ≤ c0) (h : slices_Clone_int_int.f l0 = some r) :
    Calls Try.prog 61 #[.slice A0 l0.length c0] w fun e w' => ∃ v0_ : Value, e = .returned (v0_) ∧ Kd.R (Kd.int .i64) 3 w' w.heap.size (fun _ => True) v0_ r ∧ Below w.heap.size w w' := by
  have HR0 := Aside0.mk hr0
  have HC0 := Aside0.mk hc0
  clear hr0 hc0
  have HB := Aside0.mk (Below.refl w.heap.size w)
  have q22 : ∀ (w : World) (a : Option Addr) (n c : Nat), (binOp .eql 27 (.slice a n c) (.slice none 0 0)).run Try.prog w = .ok (.bool a.isNone) w := fun w a n c => Lib.run_eql_slice_nil w _ _ a n c 0 0 Try.underlying27
  unfold slices_Clone_int_int.f at h
  by_cases c2 : ([] : List Int).length + l0.length < 17592186044416
  · rw [if_pos c2] at h
    have LMc2 := Aside0.mk c2
    clear c2
    obtain rfl := Option.some.inj h
    clear h
    cases A0 with
    | none =>
      have hz : l0 = [] := by
        cases l0 with
        | nil => rfl
        | cons x xs =>
          obtain ⟨ad, e, _⟩ := Kd.at_int HR0.out 0 (by omega) (by simp)
          cases e
      subst hz
      go_enter Try.func61, Try.ntmps61
      go_wp2
      go_ret
      exact ⟨_, rfl, by first | exact Kd.R_nil _ _ | exact Kd.R_nil .. , by exact HB.out⟩
    | some ad =>
      obtain ⟨y280, hy280⟩ : ∃ y_ : List Int, y_ = (([] : List Int)) := ⟨_, rfl⟩
      have Ny280 := Aside0.mk hy280
      have LM := Aside0.mk (show y280.length + l0.length < 17592186044416 by rw [hy280]; exact LMc2.out)
      obtain ⟨y283, hy283⟩ : ∃ y_ : List Int, y_ = (y280 ++ l0) := ⟨_, rfl⟩
      have Ny283 := Aside0.mk hy283
      have hyy : y283 = l0 := by rw [hy283, hy280]; rfl
      clear hy280 hy283
      go_enter Try.func61, Try.ntmps61
      go_wp2_with (first | ((with_reducible refine gate_dst (N := 5) rfl ?_); refine Kd.R_lit (Kd.int .i64) _ 3 ?hg (N := 5) ?hd (xs := ([] : List Int)) (inner := []) (ok := fun _ => True) (okp := fun _ => True) ?hr ?hp (fun _ hk => hk) trivial (Below.refl _ _) (Nat.le_refl _) (by simp) ?_; (case hd => rfl); (case hg => rfl); (case hr => first | (go_simp; done) | (go_simp; rfl)); (case hp => exact (Reps.none _ _)); intro v281 w3 ho4 hb hg_ hnew_; clear hg_ hnew_; (first | rw [← Ny280.out] at ho4 | (simp only [Int.reduceToNat] at ho4; rw [← Ny280.out] at ho4)); have n0_ := Aside0.mk (Kd.R_lower ho4 (below_size (by repeat (first | (with_reducible first | exact HB.out | apply below_alloc | apply pw_below_drewN | apply below_drew1) | exact HB.out)))); have n1_ := Aside0.mk (below_step (by repeat (first | (with_reducible first | exact HB.out | apply below_alloc | apply pw_below_drewN | apply below_drew1) | exact HB.out)) hb); clear HB; have HO282 := n0_; have HB := n1_; clear n0_ n1_; clear hb ho4) | ((with_reducible refine gate_builtin (b := .append) (xs := #[.tmp 5, .tmp 6]) rfl ?_); at_builtin; refine Kd.R_append_rows (Kd.int .i64) (w0 := w) w.heap.size rfl (.tmp 5) (.tmp 6) 27 3 (.int .i64 0) 8 rfl Try.underlying27 info3 rfl (by decide) (by omega) v281 y280 l0 _ _ _ (fun _ => True) (fun _ => False) rfl rfl ?aO ?aR (fun _ _ h => h) (fun _ h => h.elim) ?aF ?aB ?aS ?aL ?_; (case aR => repeat (first | exact (Kd.C_below HR0.out HB.out) | (with_reducible refine Kd.C_alloc ?_ _) | (with_reducible refine Kd.C_drewN ?_ _) | (with_reducible refine Kd.C_drew ?_))); (case aB => exact (by repeat (first | (with_reducible first | exact HB.out | apply below_alloc | apply pw_below_drewN | apply below_drew1) | exact HB.out))); (case aF => exact (fun _ _ => trivial)); (case aO => exact (by (with_reducible repeat (first | apply Kd.R_alloc | apply Kd.R_drewN | apply Kd.R_drew)); exact HO282.out)); (case aS => exact (below_size (by repeat (first | (with_reducible first | exact HB.out | apply below_alloc | apply pw_below_drewN | apply below_drew1) | exact HB.out)))); (case aL => have := LM.out; omega); intro v284 w5 ho hb hg hat; rw [← Ny283.out] at ho; have n0_ := Aside0.mk (hb); have n1_ := Aside0.mk (ho); clear HB; clear HO282; have HB := n0_; have HO285 := n1_; clear n0_ n1_; clear ho hb hg hat))
      go_ret
      have HZ := HO285.out
      rw [hyy] at HZ
      exact ⟨_, rfl, HZ, HB.out⟩
  · rw [if_neg c2] at h
    cases h
end Go.Proofs.Ytfgbohochpjkfaa.G

-- Written by wip/tools/gen.py out of the translation (the kit's printer, one namespace a seat). Lean checks it.
namespace Go.Proofs.Ytfgbohochpjkfaa.G
open Go.RowKit Go.Proofs.YtfgbohochpjkfaaW.PrintWords Go.Proofs.YtfgbohochpjkfaaW.PrintLast Go.Proofs.YtfgbohochpjkfaaW.PrintMore
attribute [local go_sem] max2_int min2_int max_two min_two max_three min_three max_four min_four   -- for this text's walks alone
set_option linter.unusedVariables false
set_option linter.unusedSimpArgs false

/-! ### slices_Index_int_int: function 77 -/
def slices_Index_int_int.l0 : Nat → List Int → Int → Int → Int → Option (Int)
 | 0, _, _, _, _ => none
 | k + 1, x0, x1, x7, x8 => if x8 < x7 then (if 0 ≤ x8 then (if x8 < (x0.length : Int) then (if x1 = (rd x0 x8) then (some x8) else (slices_Index_int_int.l0 k x0 x1 x7 (wrap64 (x8 + 1)))) else (none)) else (none)) else (some (-1))
def slices_Index_int_int.f (k : Nat) (l0 : List Int) (a1 : Int) : Option (Int) := slices_Index_int_int.l0 k l0 a1 (l0.length : Int) 0
set_option maxHeartbeats 8000000 in
set_option maxRecDepth 100000 in
theorem slices_Index_int_int.calls (k : Nat) (A0 : Option Addr) (c0 : Nat) (l0 : List Int) (a1 : Int) (r : Int) (w : World) (hr0 : Kd.C (Kd.int .i64) w A0 l0.length l0) (hc0 : l0.length ≤ c0) (h : slices_Index_int_int.f k l0 a1 = some r) :
  Calls Try.prog 77 #[.slice A0 l0.length c0, .int .i64 a1] w fun e w' => e = .returned (.int .i64 r) ∧ Drawn0 w w' := by
 have HR0 := Aside0.mk hr0
 have HC0 := Aside0.mk hc0
 clear hr0 hc0
 have H : (slices_Index_int_int.l0 k l0 a1 (l0.length : Int) 0) = some r := h
 clear h
 have H' := Aside0.mk H
 clear H
 go_enter Try.func77, Try.ntmps77
 go_wp2
 go_loopg [8] k (fun kq v8 w' => ∃ (x8_1 : Int), v8 = .int .i64 x8_1 ∧ Aside0 (slices_Index_int_int.l0 kq l0 a1 (l0.length : Int) x8_1 = some r) ∧ Aside0 (kq ≤ k) ∧ Drawn0 w w')
 case atStart => exact ⟨(0), (by first | rfl | (simp; done) | (simp [*]; done)), H', ⟨Nat.le_refl _⟩, by repeat (first | exact Drawn0.refl _ | apply Drawn0.step)⟩
 case round =>
  clear H'
  try clear p2
  obtain ⟨x8_1, rfl, HA, HK1, ⟨m1, rfl⟩⟩ := hrel
  cases gk with
  | zero => exact absurd HA.out (by simp [slices_Index_int_int.l0])
  | succ k1 =>
   have H := HA.out
   clear HA
   simp only [slices_Index_int_int.l0] at H
   by_cases c3 : x8_1 < (l0.length : Int)
   ·rw [if_pos c3] at H
    have c3b0 : decide (x8_1 < (l0.length : Int)) = true := decide_eq_true c3
    clear c3
    by_cases c4 : 0 ≤ x8_1
    ·rw [if_pos c4] at H
     have c4b0 : decide (0 ≤ x8_1) = true := decide_eq_true c4
     clear c4
     by_cases c5 : x8_1 < (l0.length : Int)
     ·rw [if_pos c5] at H
      have c5b0 : decide (x8_1 < (l0.length : Int)) = true := decide_eq_true c5
      clear c5
      by_cases c6 : a1 = (rd l0 x8_1)
      ·rw [if_pos c6] at H
       have c6b0 : (a1 == (rd l0 x8_1)) = true := beq_iff_eq.mpr c6
       have c6b1 : (a1 != (rd l0 x8_1)) = false := bne_eq_false_iff_eq.mpr c6
       clear c6
       obtain rfl := Option.some.inj H
       have p165 : 0 ≤ (x8_1 : Int) := of_decide_eq_true (by first | (with_reducible assumption) | assumption)
       have q165 : x8_1 < (l0.length : Int) := of_decide_eq_true (by first | (with_reducible assumption) | assumption)
       obtain ⟨ad165, e165, hx165_0⟩ := Kd.at_int HR0.out x8_1 p165 q165
       cases e165
       replace p165 := eq_true p165
       replace q165 := eq_true q165
       go_wp2
       go_ret
       exact ⟨by first | rfl | (simp; done) | (simp [*]; done), by repeat (first | exact Drawn0.refl _ | apply Drawn0.step)⟩
      ·rw [if_neg c6] at H
       have c6b0 : (a1 == (rd l0 x8_1)) = false := beq_eq_false_iff_ne.mpr c6
       have c6b1 : (a1 != (rd l0 x8_1)) = true := bne_iff_ne.mpr c6
       have H' := Aside0.mk H
       clear H
       have p165 : 0 ≤ (x8_1 : Int) := of_decide_eq_true (by first | (with_reducible assumption) | assumption)
       have q165 : x8_1 < (l0.length : Int) := of_decide_eq_true (by first | (with_reducible assumption) | assumption)
       obtain ⟨ad165, e165, hx165_0⟩ := Kd.at_int HR0.out x8_1 p165 q165
       cases e165
       replace p165 := eq_true p165
       replace q165 := eq_true q165
       go_wp2
       go_roundg k1
       case measure => have := HK1.out; omega
       case rel => exact ⟨(wrap64 (x8_1 + 1)), (by first | rfl | (simp; done) | (simp [*]; done)), H', ⟨by have := HK1.out; omega⟩, by repeat (first | exact Drawn0.refl _ | apply Drawn0.step)⟩
     ·rw [if_neg c5] at H
      exact absurd H (by simp)
    ·rw [if_neg c4] at H
     exact absurd H (by simp)
   ·rw [if_neg c3] at H
    have c3b0 : decide (x8_1 < (l0.length : Int)) = false := decide_eq_false c3
    clear c3
    obtain rfl := Option.some.inj H
    go_wp2
    go_ret
    exact ⟨by first | rfl | (simp; done) | (simp [*]; done), by repeat (first | exact Drawn0.refl _ | apply Drawn0.step)⟩

end Go.Proofs.Ytfgbohochpjkfaa.G

-- Written by wip/tools/gen.py out of the translation (the kit's printer, one namespace a seat). Lean checks it.
namespace Go.Proofs.Ytfgbohochpjkfaa.G
open Go.RowKit Go.Proofs.YtfgbohochpjkfaaW.PrintWords Go.Proofs.YtfgbohochpjkfaaW.PrintLast Go.Proofs.YtfgbohochpjkfaaW.PrintMore
attribute [local go_sem] max2_int min2_int max_two min_two max_three min_three max_four min_four   -- for this text's walks alone
set_option linter.unusedVariables false
set_option linter.unusedSimpArgs false

/-! ### slices_Contains_int_int: function 54 -/
def slices_Contains_int_int.f (k : Nat) (l0 : List Int) (a1 : Int) : Option (Bool) := (slices_Index_int_int.f k l0 a1).bind fun t166 => (some (decide (t166 ≥ 0)))
set_option maxHeartbeats 8000000 in
set_option maxRecDepth 100000 in
theorem slices_Contains_int_int.calls (k : Nat) (A0 : Option Addr) (c0 : Nat) (l0 : List Int) (a1 : Int) (r : Bool) (w : World) (hr0 : Kd.C (Kd.int .i64) w A0 l0.length l0) (hc0 : l0.length ≤ c0) (h : slices_Contains_int_int.f k l0 a1 = some r) :
  Calls Try.prog 54 #[.slice A0 l0.length c0, .int .i64 a1] w fun e w' => e = .returned (.bool r) ∧ Drawn0 w w' := by
 have HR0 := Aside0.mk hr0
 have HC0 := Aside0.mk hc0
 clear hr0 hc0
 have H : ((slices_Index_int_int.f k l0 a1).bind fun t166 => (some (decide (t166 ≥ 0)))) = some r := h
 clear h
 replace H := Option.bind_eq_some_iff.mp H
 obtain ⟨t166, A30, H⟩ := H
 replace H : (some (decide (t166 ≥ 0))) = some r := H
 have A3 := Aside0.mk A30
 clear A30
 obtain rfl := Option.some.inj H
 go_enter Try.func54, Try.ntmps54
 go_wp2_with (first | ((with_reducible refine gate_callee (f := 77) rfl ?_); refine goesL_ (some 7) rfl rfl Try.func77 (by kernel_rfl) rfl #[.slice A0 l0.length c0, .int .i64 a1] rfl (by (try simp only [List.map_toArray, List.map_cons, List.map_nil]); first | done | rfl | (simp only [List.length_drop, List.length_take]; rfl)) ?_; (with_reducible refine (slices_Index_int_int.calls k _ _ l0 a1 t166 _ ?side1 ?side2 A3.out).mono ?_); (case side1 => repeat (first | exact HR0.out | (with_reducible refine Kd.C_alloc ?_ _) | (with_reducible refine Kd.C_drewN ?_ _) | (with_reducible refine Kd.C_drew ?_))); (case side2 => exact HC0.out); rintro e w' ⟨rfl, ⟨nd, rfl⟩⟩; refine ⟨_, rfl, ?_⟩))
 go_ret
 exact ⟨by first | rfl | (simp; done) | (simp [*]; done), by repeat (first | exact Drawn0.refl _ | apply Drawn0.step)⟩

end Go.Proofs.Ytfgbohochpjkfaa.G

namespace Go.Proofs.Ytfgbohochpjkfaa.G
open Go.RowKit Go.Proofs.YtfgbohochpjkfaaW.PrintWords Go.Proofs.YtfgbohochpjkfaaW.PrintLast
set_option linter.unusedVariables false
set_option linter.unusedSimpArgs false
/-- x stands in the list. -/
def Has (l : List Int) (x : Int) : Prop := ¬ All (fun j => ¬ rd l j = x) 0 (l.length : Int)
theorem impl_has (l : List Int) (x : Int) (hl : (l.length : Int) ≤ 1099511627776) : Ev (fun k => slices_Contains_int_int.f k l x) (chk (Has l x) true false) := by
  unfold slices_Contains_int_int.f slices_Index_int_int.f
  have main : ∀ (d : Nat) (i : Int), 0 ≤ i → i + d = (l.length : Int) → ∃ v, Ev (fun k => slices_Index_int_int.l0 k l x (l.length : Int) i) v ∧ (v ≥ 0 ↔ ¬ All (fun j => ¬ rd l j = x) i (l.length : Int)) := by
    intro d
    induction d with
    | zero =>
      intro i h0 hd
      refine ⟨-1, ?_, ?_⟩
      · refine Ev.step (fun k => by rw [slices_Index_int_int.l0]) ?_
        simp (disch := omega) only [if_neg]
        exact Ev.now _
      · constructor
        · intro h; omega
        · intro h; exact absurd (fun j h1 h2 => by omega) h
    | succ d ih =>
      intro i h0 hd
      by_cases e : x = rd l i
      · refine ⟨i, ?_, ?_⟩
        · refine Ev.step (fun k => by rw [slices_Index_int_int.l0]) ?_
          simp (disch := omega) only [if_pos]
          exact Ev.now _
        · exact ⟨fun _ a => a i (by omega) (by omega) e.symm, fun _ => h0⟩
      · obtain ⟨v, hv, hi⟩ := ih (i + 1) (by omega) (by omega)
        refine ⟨v, ?_, ?_⟩
        · refine Ev.step (fun k => by rw [slices_Index_int_int.l0]) ?_
          simp (disch := omega) only [if_pos, wrap64_id]
          simp only [if_neg e]
          exact hv
        · rw [hi, All.step (show i < (l.length : Int) by omega)]
          exact ⟨fun h a => h a.2, fun h a => h ⟨fun e2 => e e2.symm, a⟩⟩
  obtain ⟨v, hv, hi⟩ := main l.length 0 (by omega) (by omega)
  refine Ev.bind hv ?_
  refine Ev.val ?_
  by_cases hh : Has l x
  · rw [chk_pos hh]; exact decide_eq_true (hi.2 hh)
  · rw [chk_neg hh]; exact decide_eq_false (fun h => hh (hi.1 h))
end Go.Proofs.Ytfgbohochpjkfaa.G

/- The contract of assignments: what is called back turns its state at each assignment, in lexicographic order. -/
namespace Go.Proofs.Ytfgbohochpjkfaa.G
open Go.RowKit Go.Proofs.YtfgbohochpjkfaaW.PrintWords Go.Proofs.YtfgbohochpjkfaaW.PrintLast
set_option linter.unusedVariables false
set_option linter.unusedSimpArgs false
/-- Outside the blocks of S the world w' is as w was. -/
structure Keeps (S : Nat → Prop) (w w' : World) : Prop where
  os : w'.os = w.os
  tape : w'.tape = w.tape
  output : w'.output = w.output
  size : w.heap.size ≤ w'.heap.size
  block : ∀ k, k < w.heap.size → ¬ S k → w'.heap[k]? = w.heap[k]?
theorem Keeps.refl (S : Nat → Prop) (w : World) : Keeps S w w := ⟨rfl, rfl, rfl, Nat.le_refl _, fun _ _ _ => rfl⟩
theorem Keeps.trans {S : Nat → Prop} {a b c : World} (h : Keeps S a b) (k : Keeps S b c) : Keeps S a c :=
  ⟨k.os.trans h.os, k.tape.trans h.tape, k.output.trans h.output, Nat.le_trans h.size k.size, fun i hi hn => (k.block i (Nat.lt_of_lt_of_le hi h.size) hn).trans (h.block i hi hn)⟩
theorem Keeps.of_below {S : Nat → Prop} {w w' : World} (h : Below w.heap.size w w') : Keeps S w w' := ⟨h.os, h.tape, h.output, h.size, fun k hk _ => h.block k hk⟩
theorem Keeps.cell {S : Nat → Prop} {w w' : World} (h : Keeps S w w') {p : Addr} {v : Value} (hp : w.cell? p = some v) (hn : ¬ S p.block) : w'.cell? p = some v :=
  (World.cell?_of_block (w := w) (h.block p.block (World.block_lt_of_cell? w p hp) hn)).trans hp
/-- What is called back (function F over captured values): it turns the state by step at each list, and nothing outside S. -/
structure Back {σ : Type} (F : FuncId) (caps : Array Value) (S : Nat → Prop) (B0 : Nat) (I : World → σ → Prop) (P : List Int → Prop) (step : σ → List Int → σ) : Prop where
  enters : ∀ (args : Array Value) (w : World), (callFunc F args).run Try.prog w = .ok (.enter F args) w
  call : ∀ (w : World) (s : σ) (v : Value) (l : List Int), I w s → P l → Kd.R (Kd.int .i64) 3 w B0 (fun k => ¬ S k) v l → Calls Try.prog F (#[v] ++ caps) w fun e w' => e = .returned (.tuple #[]) ∧ I w' (step s l) ∧ Keeps S w w'
  stay : ∀ (w w' : World) (s : σ), I w s → Below w.heap.size w w' → I w' s
  low : ∀ (w : World) (s : σ), I w s → ∀ k, S k → k < w.heap.size
/-- The boxes that assignments$1 has captured; what was there at wc stays. -/
structure Boxes (F : FuncId) (caps : Array Value) (S : Nat → Prop) (wc : World) (At : Option Addr) (ct : Nat) (t : List (List Int)) (Bt Bc Be : Nat) (w : World) : Prop where
  old : Below wc.heap.size wc w
  ct_ : w.cell? ⟨Bt, 0, none⟩ = some (.slice At t.length ct)
  cc : w.cell? ⟨Bc, 0, none⟩ = some (.func (.func F) #[] caps)
  ce : w.cell? ⟨Be, 0, none⟩ = some (.func (.func 80) #[] #[.pointer (some ⟨Bt, 0, none⟩), .pointer (some ⟨Bc, 0, none⟩), .pointer (some ⟨Be, 0, none⟩)])
  so : ∀ k, S k → wc.heap.size ≤ k
  st : ¬ S Bt
  sc : ¬ S Bc
  se : ¬ S Be
theorem Boxes.keeps {F : FuncId} {caps : Array Value} {S : Nat → Prop} {wc : World} {At : Option Addr} {ct : Nat} {t : List (List Int)} {Bt Bc Be : Nat} {w w' : World} (h : Boxes F caps S wc At ct t Bt Bc Be w) (k : Keeps S w w') : Boxes F caps S wc At ct t Bt Bc Be w' :=
  ⟨⟨k.os.trans h.old.os, k.tape.trans h.old.tape, k.output.trans h.old.output, Nat.le_trans h.old.size k.size, fun i hi => (k.block i (Nat.lt_of_lt_of_le hi h.old.size) (fun hs => by have := h.so i hs; omega)).trans (h.old.block i hi)⟩, k.cell h.ct_ h.st, k.cell h.cc h.sc, k.cell h.ce h.se, h.so, h.st, h.sc, h.se⟩
/-- All assignments that begin with some jobs, d more to come. -/
noncomputable def asgIn (f : List Int → List (List Int)) (row jobs : List Int) : Nat → Int → List (List Int)
  | 0, _ => []
  | r + 1, i => chk (0 ≤ rd row i ∧ ¬ Has jobs i) (f (jobs ++ [i])) [] ++ asgIn f row jobs r (i + 1)
noncomputable def asgs (t : List (List Int)) : Nat → List Int → List (List Int)
  | 0, jobs => [jobs]
  | d + 1, jobs => asgIn (asgs t d) (rd_L1 t (jobs.length : Int)) jobs (rd_L1 t (jobs.length : Int)).length 0
set_option maxHeartbeats 8000000 in
set_option maxRecDepth 100000 in
theorem extend_any {σ : Type} {F : FuncId} {caps : Array Value} {S : Nat → Prop}  {I : World → σ → Prop} {P : List Int → Prop} {step : σ → List Int → σ} {wc : World} (hb : Back F caps S wc.heap.size I P step) {At : Option Addr} {ct : Nat} {t : List (List Int)} (hCt : Kd.C (Kd.slice 3 (Kd.int .i64)) wc At t.length t) (hct : t.length ≤ ct) (Bt Bc Be : Nat) (hn : t.length ≤ 1000) (hm : ∀ i : Int, 0 ≤ i → (rd_L1 t i).length ≤ 1000) :
    ∀ (d : Nat) (jobs : List Int) (w : World) (s : σ) (A : Option Addr) (c : Nat), jobs.length + d = t.length → (∀ l ∈ asgs t d jobs, P l) → Boxes F caps S wc At ct t Bt Bc Be w → I w s → Kd.R (Kd.int .i64) 3 w wc.heap.size (fun k => ¬ S k) (.slice A jobs.length c) jobs →
    Calls Try.prog 80 #[.slice A jobs.length c, .pointer (some ⟨Bt, 0, none⟩), .pointer (some ⟨Bc, 0, none⟩), .pointer (some ⟨Be, 0, none⟩)] w fun e w' => e = .returned (.tuple #[]) ∧ I w' ((asgs t d jobs).foldl step s) ∧ Keeps S w w' := by
  intro d
  induction d with
  | zero =>
    intro jobs w s A c hd hP hX hI hC
    have hT := hX.ct_
    have hCB := hX.cc
    have hc : jobs.length ≤ c := (Kd.R_reads' hC).2.1
    have HR := Aside0.mk hC
    have HC := Aside0.mk (Kd.R_reads' hC).2.2
    have HX := Aside0.mk hX
    have HI := Aside0.mk hI
    have HP := Aside0.mk (hP jobs (by simp [asgs]))
    have HN : Aside0 (jobs.length = t.length) := Aside0.mk (by omega)
    have c1 : ((jobs.length : Int) == (t.length : Int)) = true := beq_iff_eq.2 (by omega)
    clear hC hX hI hP hd
    go_enter Try.func80, Try.ntmps80
    go_wp2
    refine start_ (n := 4) (S := fun w' => w'.cell? ⟨Bc, 0, none⟩ = some (.func (.func F) #[] caps)) (ds := [3]) #[false, false, false, false] (by kernel_rfl) rfl rfl hCB (fun hHeld => ?_)
    have HCd : Aside0 ((Kd.int .i64).C w.drew A jobs.length jobs) := Aside0.mk (Kd.C_drew HC.out)
    have HXd : Aside0 (Boxes F caps S wc At ct t Bt Bc Be w.drew) := Aside0.mk (HX.out.keeps (Keeps.of_below (below_drew1 (Below.refl _ _))))
    have HId : Aside0 (I w.drew s) := Aside0.mk (hb.stay _ _ _ HI.out (below_drew1 (Below.refl _ _)))
    have HKd : Aside0 (Keeps S w w.drew) := Aside0.mk (Keeps.of_below (below_drew1 (Below.refl _ _)))
    generalize w.drew = w0 at HCd HXd HId HKd hHeld ⊢
    refine take_ (i := 0) (N := some 12) (v := ?_) (a' := ?_) #[true, false, false, false] rfl rfl (by kernel_rfl) (fun _ _ _ h => h) (Or.inl ⟨by rfl, ?_⟩) hHeld ?_ ?_
    rotate_left
    · intro w' s0
      go_simp
      with_reducible rfl
    rotate_left
    · simp only [Act.put, List.setIfInBounds_toArray, List.set_cons_zero, List.set_cons_succ, i64_w, i32_w]
      rfl
    refine pure_ (i := 1) (N := some 13) (v := ?_) (a' := ?_) #[true, true, false, false] rfl rfl (by kernel_rfl) (fun _ _ _ h => h) (Or.inl ⟨by rfl, ?_⟩) ?_ ?_
    rotate_left
    · intro w'
      go_simp
      with_reducible rfl
    rotate_left
    · simp only [Act.put, List.setIfInBounds_toArray, List.set_cons_zero, List.set_cons_succ, i64_w, i32_w]
      rfl
    refine one_ (i := 2) (N := some 14) #[true, true, true, false] rfl rfl (by kernel_rfl) (by decide) (fun K hK => ?_)
    refine goes_ Try.func61 (by kernel_rfl) rfl #[.slice A jobs.length c] (by rfl) rfl rfl (by (try simp only [List.map_toArray, List.map_cons, List.map_nil]); first | done | rfl) ?_
    refine (slices_Clone_int_int.calls A c jobs jobs w0 HCd.out hc (by unfold slices_Clone_int_int.f; exact if_pos (by have := HN.out; simp only [List.length_nil]; omega))).mono ?_
    rintro e w1 ⟨v, rfl, hR, hB⟩
    refine ⟨v, rfl, ?_⟩
    refine hK.out _ _ ((Keeps.of_below (S := S) hB).cell hHeld HXd.out.sc) (fun hHeld => ?_)
    clear hK K
    refine norm_ (a' := ?_) ?_ ?_
    rotate_left
    · show Act.put _ (some 14) _ = _
      simp only [Act.put, List.setIfInBounds_toArray, List.set_cons_zero, List.set_cons_succ, i64_w, i32_w]
      rfl
    refine last_ (i := 3) (N := some 15) #[true, true, true, true] rfl rfl (by kernel_rfl) (by decide) (fun K hK => ?_)
    have hR2 : Kd.R (Kd.int .i64) 3 w1 wc.heap.size (fun k => ¬ S k) v jobs := Kd.R_lower (Kd.R_mono (Kd.R_bound hR) (fun k hk hs => by have := hb.low _ _ HId.out k hs; have := hk.2.1; omega)) HXd.out.old.size
    refine call_ F (#[v] ++ caps) (by rfl) rfl ?hrun ?_
    case hrun =>
      unfold execOp
      simp [resolve, Deferred.ofValue, invoke, Act.eval, hb.enters]
    refine (hb.call w1 s v jobs (hb.stay _ _ _ HId.out hB) HP.out hR2).mono ?_
    rintro e w2 ⟨rfl, hI2, hK2⟩
    refine ⟨_, rfl, ?_⟩
    refine hK.out _ _ ?_
    clear hK K
    refine norm_ (a' := ?_) ?_ ?_
    rotate_left
    · show Act.put _ (some 15) _ = _
      simp only [Act.put, List.setIfInBounds_toArray, List.set_cons_zero, List.set_cons_succ, i64_w, i32_w]
      rfl
    refine done_ (by kernel_rfl) ?_
    go_wp2
    refine bodyPost_ret (results_none rfl _ _ _) rfl ?_
    exact ⟨rfl, hI2, HKd.out.trans ((Keeps.of_below hB).trans hK2)⟩
  | succ d ih =>
    intro jobs w s A c hd hP hX hI hC
    have hT := hX.ct_
    have hc : jobs.length ≤ c := (Kd.R_reads' hC).2.1
    have HR := Aside0.mk hC
    have HX := Aside0.mk hX
    have HI := Aside0.mk hI
    have hJ : ((jobs.length : Int)) < (t.length : Int) := by omega
    have hJ0 : 0 ≤ (jobs.length : Int) := by omega
    obtain ⟨ad, A0, c0, rfl, hx0, hc0, hC0⟩ := at_L1 hCt (jobs.length : Int) hJ0 hJ
    have hxw : w.cell? (ad.add (jobs.length : Int).toNat) = some (.slice A0 (rd_L1 t (jobs.length : Int)).length c0) := (hX.old.cell (World.block_lt_of_cell? wc _ hx0)).trans hx0
    rw [Int.toNat_natCast] at hxw
    have hrl := hm (jobs.length : Int) hJ0
    have HRow : Aside0 (rd_L1 t (jobs.length : Int) = rd_L1 t (jobs.length : Int)) := Aside0.mk rfl
    have hPr : ∀ l ∈ asgIn (asgs t d) (rd_L1 t (jobs.length : Int)) jobs (rd_L1 t (jobs.length : Int)).length 0, P l := hP
    have hFr : (asgs t (d + 1) jobs).foldl step s = (asgIn (asgs t d) (rd_L1 t (jobs.length : Int)) jobs (rd_L1 t (jobs.length : Int)).length 0).foldl step s := rfl
    generalize rd_L1 t (jobs.length : Int) = row at hxw hc0 hC0 hrl hPr hFr
    clear HRow hx0
    have HC0 := Aside0.mk hC0
    clear hC0
    have HP : Aside0 (∀ l ∈ asgIn (asgs t d) row jobs (row.length - 0) ((0 : Nat) : Int), P l) := Aside0.mk hPr
    have HF : Aside0 ((asgs t (d + 1) jobs).foldl step s = (asgIn (asgs t d) row jobs (row.length - 0) ((0 : Nat) : Int)).foldl step s) := Aside0.mk hFr
    have HN : Aside0 (jobs.length + (d + 1) = t.length) := Aside0.mk hd
    have c1 : ((jobs.length : Int) == (t.length : Int)) = false := beq_eq_false_iff_ne.2 (by omega)
    clear hC hX hI hP hd hPr hFr hm
    go_enter Try.func80, Try.ntmps80
    go_wp2
    go_loopw [22] (fun i w' => ∃ (k : Nat) (s' : σ), k ≤ row.length ∧ i = .int .i64 k ∧ Aside0 ((asgs t (d + 1) jobs).foldl step s = (asgIn (asgs t d) row jobs (row.length - k) k).foldl step s') ∧ Aside0 (∀ l ∈ asgIn (asgs t d) row jobs (row.length - k) k, P l) ∧ Aside0 (I w' s') ∧ Aside0 (Keeps S w w')) (fun i _ => row.length - (intOf i).toNat)
    case atStart => exact ⟨0, s, Nat.zero_le _, rfl, HF, HP, HI, Aside0.mk (Keeps.refl _ _)⟩
    case round =>
      clear HF HP
      obtain ⟨k, s', hk, rfl, hf, hp, hi, hkp⟩ := hrel
      by_cases hlt : k < row.length
      · have HRr : Aside0 ((Kd.int .i64).R 3 wr wc.heap.size (fun k => ¬ S k) (.slice A jobs.length c) jobs) := Aside0.mk (Kd.R_step HR.out (fun b hb2 hl => hkp.out.block b hl hb2))
        have HXr : Aside0 (Boxes F caps S wc (some ad) ct t Bt Bc Be wr) := Aside0.mk (HX.out.keeps hkp.out)
        have hEr := HXr.out.ce
        obtain ⟨kk, hkk⟩ : ∃ kk, slices_Contains_int_int.f kk jobs (k : Int) = some (chk (Has jobs (k : Int)) true false) := Ev.rounds (impl_has jobs (k : Int) (by have := HN.out; omega))
        obtain ⟨adr, rfl, hxr⟩ := Kd.at_int (Kd.C_below HC0.out HXr.out.old) (k : Int) (by omega) (by omega)
        rw [Int.toNat_natCast] at hxr
        have hunf : asgIn (asgs t d) row jobs (row.length - k) (k : Int) = chk (0 ≤ rd row (k : Int) ∧ ¬ Has jobs (k : Int)) (asgs t d (jobs ++ [(k : Int)])) [] ++ asgIn (asgs t d) row jobs (row.length - (k + 1)) ((k + 1 : Nat) : Int) := by
          rw [show row.length - k = (row.length - (k + 1)) + 1 from by omega, asgIn]
          rfl
        have HU := Aside0.mk hunf
        clear hunf
        by_cases hge : 0 ≤ rd row (k : Int)
        · by_cases hh : Has jobs (k : Int)
          · rw [chk_pos hh] at hkk
            have HK := Aside0.mk hkk
            have hs2 : Aside0 ((asgs t (d + 1) jobs).foldl step s = (asgIn (asgs t d) row jobs (row.length - (k + 1)) ((k + 1 : Nat) : Int)).foldl step s') := Aside0.mk (by rw [hf.out, HU.out, chk_neg (fun m => m.2 hh)]; rfl)
            have hp2 : Aside0 (∀ l ∈ asgIn (asgs t d) row jobs (row.length - (k + 1)) ((k + 1 : Nat) : Int), P l) := Aside0.mk (fun l hl => hp.out l (by rw [HU.out]; exact List.mem_append_right _ hl))
            clear hkk hh hf hp
            go_wp2_with (go_at_call 54; refine (slices_Contains_int_int.calls kk A c jobs (k : Int) true _ (Kd.R_reads' HRr.out).2.2 hc HK.out).mono ?_; rintro e w2 ⟨rfl, hd2⟩)
            go_roundw
            case rel => exact ⟨k + 1, s', by omega, by go_num, hs2, hp2, Aside0.mk (hb.stay _ _ _ hi.out hd2.below), Aside0.mk (hkp.out.trans (Keeps.of_below hd2.below))⟩
            case measure => simp [intOf]; omega
          · rw [chk_neg hh] at hkk
            have HK := Aside0.mk hkk
            have hs2 : Aside0 ((asgs t (d + 1) jobs).foldl step s = (asgIn (asgs t d) row jobs (row.length - (k + 1)) ((k + 1 : Nat) : Int)).foldl step ((asgs t d (jobs ++ [(k : Int)])).foldl step s')) := Aside0.mk (by rw [hf.out, HU.out, chk_pos ⟨hge, hh⟩, List.foldl_append])
            have hp2 : Aside0 (∀ l ∈ asgIn (asgs t d) row jobs (row.length - (k + 1)) ((k + 1 : Nat) : Int), P l) := Aside0.mk (fun l hl => hp.out l (by rw [HU.out]; exact List.mem_append_right _ hl))
            have hp3 : Aside0 (∀ l ∈ asgs t d (jobs ++ [(k : Int)]), P l) := Aside0.mk (fun l hl => hp.out l (by rw [HU.out, chk_pos ⟨hge, hh⟩]; exact List.mem_append_left _ hl))
            clear hkk hh hf hp
            go_wp2_with (go_at_call 54; refine (slices_Contains_int_int.calls kk A c jobs (k : Int) false _ (Kd.R_reads' HRr.out).2.2 hc HK.out).mono ?_; rintro e w2 ⟨rfl, hd2⟩)
            have HEr := (Keeps.of_below (S := S) hd2.below).cell hEr HXr.out.se
            refine start_ (n := 7) (S := fun w' => w'.cell? ⟨Be, 0, none⟩ = some (.func (.func 80) #[] #[.pointer (some ⟨Bt, 0, none⟩), .pointer (some ⟨Bc, 0, none⟩), .pointer (some ⟨Be, 0, none⟩)])) (ds := [6]) #[false, false, false, false, false, false, false] (by kernel_rfl) rfl rfl HEr (fun hHeld => ?_)
            have HB2 : Aside0 (Below wr.heap.size wr w2.drew) := Aside0.mk (below_drew1 hd2.below)
            generalize w2.drew = w0 at HB2 hHeld ⊢
            refine take_ (i := 0) (N := some 35) (v := ?_) (a' := ?_) #[true, false, false, false, false, false, false] rfl rfl (by kernel_rfl) (fun _ _ _ h => h) (Or.inl ⟨by rfl, ?_⟩) hHeld ?_ ?_
            rotate_left
            · intro w' s0
              go_simp
              with_reducible rfl
            rotate_left
            · simp only [Act.put, List.setIfInBounds_toArray, List.set_cons_zero, List.set_cons_succ, i64_w, i32_w]
              rfl
            refine pure_ (i := 1) (N := some 36) (v := ?_) (a' := ?_) #[true, true, false, false, false, false, false] rfl rfl (by kernel_rfl) (fun _ _ _ h => h) (Or.inl ⟨by rfl, ?_⟩) ?_ ?_
            rotate_left
            · intro w'
              go_simp
              with_reducible rfl
            rotate_left
            · simp only [Act.put, List.setIfInBounds_toArray, List.set_cons_zero, List.set_cons_succ, i64_w, i32_w]
              rfl
            refine pure_ (i := 3) (N := some 38) (v := ?_) (a' := ?_) #[true, true, false, true, false, false, false] rfl rfl (by kernel_rfl) (fun _ _ _ h => h) (Or.inl ⟨by rfl, ?_⟩) ?_ ?_
            rotate_left
            · intro w'
              go_simp
              with_reducible rfl
            rotate_left
            · simp only [Act.put, List.setIfInBounds_toArray, List.set_cons_zero, List.set_cons_succ, i64_w, i32_w]
              rfl
            refine join_ (σ := Value × Value) 2 #[true, true, true, true, true, false, false] (fun s_ => [(37, s_.1), (39, s_.2)]) (fun s_ w' => Below w0.heap.size w0 w' ∧ Kd.R (Kd.int .i64) 3 w' w0.heap.size (fun k_ => some k_ ≠ s_.2.ownBlock) s_.1 jobs ∧ Kd.R (Kd.int .i64) 3 w' w0.heap.size (fun _ => True) s_.2 [(k : Int)]) ?_ ?_
            rotate_left
            · intro hCont
              refine two_ (i := 2) (j := 4) (Ni := some 37) (Nj := some 39) #[true, true, true, true, false, false, false] #[true, true, false, true, true, false, false] rfl rfl rfl rfl (by kernel_rfl) (by decide) (by decide) (fun K hK => ?_) (fun K hK => ?_)
              · refine goes_ Try.func61 (by kernel_rfl) rfl #[.slice A jobs.length c] (by rfl) rfl rfl (by (try simp only [List.map_toArray, List.map_cons, List.map_nil]); first | done | rfl) ?_
                have hR0 := Kd.R_below HRr.out HB2.out
                refine (slices_Clone_int_int.calls A c jobs jobs w0 (Kd.R_reads' hR0).2.2 hc (by unfold slices_Clone_int_int.f; exact if_pos (by have := HN.out; simp only [List.length_nil]; omega))).mono ?_
                rintro e w3 ⟨v, rfl, hR, hB⟩
                refine ⟨v, rfl, ?_⟩
                refine hK.out _ _ ((Keeps.of_below (S := S) hB).cell hHeld HXr.out.se) (fun hHeld => ?_)
                clear hK K
                refine norm_ (a' := ?_) ?_ ?_
                rotate_left
                · show Act.put _ (some 37) _ = _
                  simp only [Act.put, List.setIfInBounds_toArray, List.set_cons_zero, List.set_cons_succ, i64_w, i32_w]
                  rfl
                refine one_ (i := 4) (N := some 39) #[true, true, true, true, true, false, false] rfl rfl (by kernel_rfl) (by decide) (fun K hK => ?_)
                refine Kd.R_lit_step (Kd.int .i64) _ 3 ?hg1 (N := 39) ?hd1 (xs := [(k : Int)]) (inner := [.int .i64 k]) (ok := fun _ => True) (okp := fun _ => True) ?hr1 ?hp1 (fun _ hk => hk) trivial (Below.refl _ _) (Nat.le_refl _) (by simp) ?_
                case hd1 => rfl
                case hg1 => rfl
                case hr1 => first | (go_simp; done) | (go_simp; rfl)
                case hp1 => exact (Reps.one (show Kd.M (Kd.int .i64) _ _ _ (k : Int) [.int .i64 k] from rfl) (Reps.none _ _))
                intro v1 w4 ho hb4 hg_ hnew_
                refine hK.out _ _ ((Keeps.of_below (S := S) hb4).cell hHeld HXr.out.se) (fun hHeld => ?_)
                clear hK K
                refine norm_ (a' := ?_) ?_ ?_
                rotate_left
                · show Act.put _ (some 39) _ = _
                  simp only [Act.put, List.setIfInBounds_toArray, List.set_cons_zero, List.set_cons_succ, i64_w, i32_w]
                  rfl
                exact norm_ (by simp only [putAll, Act.put, List.setIfInBounds_toArray, List.set_cons_zero, List.set_cons_succ]) (hCont (v, v1) _ ⟨below_step hB hb4, Kd.R_mono (Kd.R_elder' hR (Kd.R_base ho) hb4) (fun _ hk => hk.2), Kd.R_lower ho hB.size⟩)
              · refine Kd.R_lit_step (Kd.int .i64) _ 3 ?hg2 (N := 39) ?hd2 (xs := [(k : Int)]) (inner := [.int .i64 k]) (ok := fun _ => True) (okp := fun _ => True) ?hr2 ?hp2 (fun _ hk => hk) trivial (Below.refl _ _) (Nat.le_refl _) (by simp) ?_
                case hd2 => rfl
                case hg2 => rfl
                case hr2 => first | (go_simp; done) | (go_simp; rfl)
                case hp2 => exact (Reps.one (show Kd.M (Kd.int .i64) _ _ _ (k : Int) [.int .i64 k] from rfl) (Reps.none _ _))
                intro v1 w3 ho hb3 hg_ hnew_
                refine hK.out _ _ ((Keeps.of_below (S := S) hb3).cell hHeld HXr.out.se) (fun hHeld => ?_)
                clear hK K
                refine norm_ (a' := ?_) ?_ ?_
                rotate_left
                · show Act.put _ (some 39) _ = _
                  simp only [Act.put, List.setIfInBounds_toArray, List.set_cons_zero, List.set_cons_succ, i64_w, i32_w]
                  rfl
                refine one_ (i := 2) (N := some 37) #[true, true, true, true, true, false, false] rfl rfl (by kernel_rfl) (by decide) (fun K hK => ?_)
                refine goes_ Try.func61 (by kernel_rfl) rfl #[.slice A jobs.length c] (by rfl) rfl rfl (by (try simp only [List.map_toArray, List.map_cons, List.map_nil]); first | done | rfl) ?_
                have hR0 := Kd.R_below (Kd.R_below HRr.out HB2.out) hb3
                refine (slices_Clone_int_int.calls A c jobs jobs w3 (Kd.R_reads' hR0).2.2 hc (by unfold slices_Clone_int_int.f; exact if_pos (by have := HN.out; simp only [List.length_nil]; omega))).mono ?_
                rintro e w4 ⟨v, rfl, hR, hB⟩
                refine ⟨v, rfl, ?_⟩
                refine hK.out _ _ ((Keeps.of_below (S := S) hB).cell hHeld HXr.out.se) (fun hHeld => ?_)
                clear hK K
                refine norm_ (a' := ?_) ?_ ?_
                rotate_left
                · show Act.put _ (some 37) _ = _
                  simp only [Act.put, List.setIfInBounds_toArray, List.set_cons_zero, List.set_cons_succ, i64_w, i32_w]
                  rfl
                exact norm_ (by simp only [putAll, Act.put, List.setIfInBounds_toArray, List.set_cons_zero, List.set_cons_succ]) (hCont (v, v1) _ ⟨below_step hb3 hB, Kd.R_lower (Kd.R_mono (Kd.R_new' hR (Kd.R_lt ho)) (fun _ hk => hk.2)) hb3.size, Kd.R_below ho hB⟩)
            · rintro ⟨v, v1⟩ w3 ⟨hB3, hRv, hR1⟩
              have hB3' := Aside0.mk hB3
              obtain ⟨A3, c3, e3⟩ := Kd.R_slice hRv
              subst e3
              obtain ⟨A1, c4, e4⟩ := Kd.R_slice hR1
              subst e4
              refine norm_ (a' := ?_) ?_ ?_
              rotate_left
              · simp only [putAll, Act.put, List.setIfInBounds_toArray, List.set_cons_zero, List.set_cons_succ]
                rfl
              refine one_ (i := 5) (N := some 40) #[true, true, true, true, true, true, false] rfl rfl (by kernel_rfl) (by decide) (fun K hK => ?_)
              refine Kd.R_append_rows_step (Kd.int .i64) (w0 := w0) w0.heap.size (by rfl) (.tmp 37) (.tmp 39) 27 3 (.int .i64 0) 8 rfl Try.underlying27 info3 rfl (by decide) (by omega) (.slice A3 jobs.length c3) jobs [(k : Int)] _ _ _ (fun k_ => True) (fun _ => False) rfl rfl ?aO ?aR (fun _ _ h => h) (fun _ h => h.elim) ?aF ?aB ?aS ?aL ?_
              case aR => exact (Kd.R_reads' hR1).2.2
              case aB => exact hB3
              case aF => exact (fun _ _ => trivial)
              case aO => exact Kd.R_mono hRv (fun _ _ => trivial)
              case aS => exact hB3.size
              case aL => have := HN.out; simp only [List.length_cons, List.length_nil]; omega
              intro v5 w5 ho hb5 hg hat
              refine hK.out _ _ ((Keeps.of_below (S := S) hb5).cell (HXr.out.keeps (Keeps.of_below HB2.out)).ce HXr.out.se) (fun hHeld => ?_)
              clear hK K
              refine norm_ (a' := ?_) ?_ ?_
              rotate_left
              · show Act.put _ (some 40) _ = _
                simp only [Act.put, List.setIfInBounds_toArray, List.set_cons_zero, List.set_cons_succ, i64_w, i32_w]
                rfl
              refine last_ (i := 6) (N := some 41) #[true, true, true, true, true, true, true] rfl rfl (by kernel_rfl) (by decide) (fun K hK => ?_)
              have hB5 := below_step HB2.out hb5
              have hI5 := hb.stay _ _ _ hi.out hB5
              have hR5 : Kd.R (Kd.int .i64) 3 w5 wc.heap.size (fun k => ¬ S k) v5 (jobs ++ [(k : Int)]) := Kd.R_lower (Kd.R_mono (Kd.R_bound ho) (fun b hk hs => by have := hb.low _ _ hi.out b hs; have := hk.2.1; have := HB2.out.size; omega)) (Nat.le_trans HXr.out.old.size HB2.out.size)
              obtain ⟨A5, c5, e5⟩ := Kd.R_slice hR5
              subst e5
              refine call_ 80 #[.slice A5 (jobs ++ [(k : Int)]).length c5, .pointer (some ⟨Bt, 0, none⟩), .pointer (some ⟨Bc, 0, none⟩), .pointer (some ⟨Be, 0, none⟩)] (by rfl) rfl ?hrun ?_
              case hrun =>
                unfold execOp
                simp [resolve, Deferred.ofValue, invoke, Act.eval, enters_ Try.func80 (by kernel_rfl) rfl]
              refine (ih (jobs ++ [(k : Int)]) w5 s' A5 c5 (by have := HN.out; simp only [List.length_append, List.length_cons, List.length_nil]; omega) hp3.out (HXr.out.keeps (Keeps.of_below hB5)) hI5 hR5).mono ?_
              rintro e w6 ⟨rfl, hI6, hK6⟩
              refine ⟨_, rfl, ?_⟩
              refine hK.out _ _ ?_
              clear hK K
              refine norm_ (a' := ?_) ?_ ?_
              rotate_left
              · show Act.put _ (some 41) _ = _
                simp only [Act.put, List.setIfInBounds_toArray, List.set_cons_zero, List.set_cons_succ, i64_w, i32_w]
                rfl
              have HI6 := Aside0.mk hI6
              have HK6 := Aside0.mk (hkp.out.trans ((Keeps.of_below hB5).trans hK6))
              clear hI6 hK6
              refine done_ (by kernel_rfl) ?_
              go_wp2
              go_roundw
              case rel => exact ⟨k + 1, _, by omega, by go_num, hs2, hp2, HI6, HK6⟩
              case measure => simp [intOf]; omega
        · have hs2 : Aside0 ((asgs t (d + 1) jobs).foldl step s = (asgIn (asgs t d) row jobs (row.length - (k + 1)) ((k + 1 : Nat) : Int)).foldl step s') := Aside0.mk (by rw [hf.out, HU.out, chk_neg (fun m => hge m.1)]; rfl)
          have hp2 : Aside0 (∀ l ∈ asgIn (asgs t d) row jobs (row.length - (k + 1)) ((k + 1 : Nat) : Int), P l) := Aside0.mk (fun l hl => hp.out l (by rw [HU.out]; exact List.mem_append_right _ hl))
          have hlt0 : rd row (k : Int) < 0 := by omega
          clear hkk hf hp hge
          go_wp2
          go_roundw
          case rel => exact ⟨k + 1, s', by omega, by go_num, hs2, hp2, hi, hkp⟩
          case measure => simp [intOf]; omega
      · have hs2 : Aside0 ((asgs t (d + 1) jobs).foldl step s = s') := Aside0.mk (by rw [hf.out, show row.length - k = 0 from by omega]; rfl)
        clear hf hp
        go_wp2
        go_end0
        exact ⟨rfl, by rw [hs2.out]; exact hi.out, hkp.out⟩
theorem st_func {P : Program} (a : Addr) (m : Mode) (f : Fn) (b c : Array Value) (w : World) : (store a (.func f b c) m).run P w = stored P w a (.func f b c) m := run_store P w a _ m rfl
attribute [local go_sem] st_func
theorem asg_boxes {F : FuncId} {caps : Array Value} {S : Nat → Prop} {wc w w1 w2 w3 : World} {At : Option Addr} {ct : Nat} {t : List (List Int)} {g1 g2 g3 : Nat} (hold : Below wc.heap.size wc w) (hso : ∀ k, S k → wc.heap.size ≤ k) (hlow : ∀ k, S k → k < w.heap.size)
    (h1 : g1 = w.heap.size) (x1 : w1.heap[g1]? = some (.cells #[.slice At t.length ct] 22 (0, 0))) (b1 : Below w.heap.size w w1)
    (h2 : g2 = w1.heap.size) (x2 : w2.heap[g2]? = some (.cells #[.func (.func F) #[] caps] 61 (0, 0))) (b2 : Below w1.heap.size w1 w2)
    (h3 : g3 = w2.heap.size) (x3 : w3.heap[g3]? = some (.cells #[.nilFunc] 61 (0, 0))) (b3 : Below w2.heap.size w2 w3) :
    Boxes F caps S wc At ct t g1 g2 g3 (w3.setCell ⟨g3, 0, none⟩ (.func (.func 80) #[] #[.pointer (some ⟨g1, 0, none⟩), .pointer (some ⟨g2, 0, none⟩), .pointer (some ⟨g3, 0, none⟩)])) ∧ Below w.heap.size w (w3.setCell ⟨g3, 0, none⟩ (.func (.func 80) #[] #[.pointer (some ⟨g1, 0, none⟩), .pointer (some ⟨g2, 0, none⟩), .pointer (some ⟨g3, 0, none⟩)])) := by
  have s1 := b1.size
  have s2 := b2.size
  have s3 := b3.size
  have l1 := blk_lt x1
  have l2 := blk_lt x2
  have hB : Below w.heap.size w (w3.setCell ⟨g3, 0, none⟩ (.func (.func 80) #[] #[.pointer (some ⟨g1, 0, none⟩), .pointer (some ⟨g2, 0, none⟩), .pointer (some ⟨g3, 0, none⟩)])) := Below.setCell (below_step b1 (below_step b2 b3)) (by show w.heap.size ≤ g3; omega) _
  have y1 := blk_below (blk_below x1 b2) b3
  have y2 := blk_below x2 b3
  have hB2 : Below wc.heap.size w (w3.setCell ⟨g3, 0, none⟩ (.func (.func 80) #[] #[.pointer (some ⟨g1, 0, none⟩), .pointer (some ⟨g2, 0, none⟩), .pointer (some ⟨g3, 0, none⟩)])) := hB.mono hold.size
  refine ⟨⟨hold.trans hB2, ?_, ?_, (blk_cell (blk_set x3 0 _) 0).trans rfl, hso, fun h => by have := hlow _ h; omega, fun h => by have := hlow _ h; omega, fun h => by have := hlow _ h; omega⟩, hB⟩
  · exact (cell_far (p := ⟨g3, 0, none⟩) (by show g1 ≠ g3; omega) _).trans ((blk_cell y1 0).trans rfl)
  · exact (cell_far (p := ⟨g3, 0, none⟩) (by show g2 ≠ g3; omega) _).trans ((blk_cell y2 0).trans rfl)
set_option maxHeartbeats 8000000 in
set_option maxRecDepth 100000 in
theorem assignments_any {σ : Type} {F : FuncId} {caps : Array Value} {S : Nat → Prop}  {I : World → σ → Prop} {P : List Int → Prop} {step : σ → List Int → σ} {wc : World} (hb : Back F caps S wc.heap.size I P step) {At : Option Addr} {ct : Nat} {t : List (List Int)} (hCt : Kd.C (Kd.slice 3 (Kd.int .i64)) wc At t.length t) (hct : t.length ≤ ct) (hn : t.length ≤ 1000) (hm : ∀ i : Int, 0 ≤ i → (rd_L1 t i).length ≤ 1000) (w : World) (s : σ) (hP : ∀ l ∈ asgs t t.length [], P l) (hold : Below wc.heap.size wc w) (hso : ∀ k, S k → wc.heap.size ≤ k) (hI : I w s) :
    Calls Try.prog 63 #[.slice At t.length ct, .func (.func F) #[] caps] w fun e w' => e = .returned (.tuple #[]) ∧ I w' ((asgs t t.length []).foldl step s) ∧ Keeps S w w' := by
  have hlow := hb.low w s hI
  have HP := Aside0.mk hP
  have HI := Aside0.mk hI
  clear hP hI
  go_enter Try.func63, Try.ntmps63
  go_wp2_with (first | ((with_reducible refine gate_dst (N := 2) rfl ?_); refine box_event ?hg2 (N := 2) ?hd2 (cs := #[.slice At t.length ct]) (t := 22) ?hr2 ?_; (case hd2 => rfl); (case hg2 => rfl); (case hr2 => first | (go_simp; done) | (go_simp; rfl)); intro g1 hgg1 w1 hboxg1 hbg1; have HG1 := Aside0.mk hgg1; have HX1 := Aside0.mk hboxg1; have HB1 := Aside0.mk hbg1; clear hgg1 hboxg1 hbg1) | ((with_reducible refine gate_dst (N := 3) rfl ?_); refine box_event ?hg3 (N := 3) ?hd3 (cs := #[.func (.func F) #[] caps]) (t := 61) ?hr3 ?_; (case hd3 => rfl); (case hg3 => rfl); (case hr3 => first | (go_simp; done) | (go_simp; rfl)); intro g2 hgg2 w2 hboxg2 hbg2; have HG2 := Aside0.mk hgg2; have HX2 := Aside0.mk hboxg2; have HB2 := Aside0.mk hbg2; clear hgg2 hboxg2 hbg2) | ((with_reducible refine gate_dst (N := 4) rfl ?_); refine box_event ?hg4 (N := 4) ?hd4 (cs := #[.nilFunc]) (t := 61) ?hr4 ?_; (case hd4 => rfl); (case hg4 => rfl); (case hr4 => first | (go_simp; done) | (go_simp; rfl)); intro g3 hgg3 w3 hboxg3 hbg3; have HG3 := Aside0.mk hgg3; have hz1 : w3.cell? ⟨g3, 0, none⟩ = some .nilFunc := (blk_cell hboxg3 0).trans rfl; have hz2 := blk_frozen hboxg3 0; have hz4 : (w3.setCell ⟨g3, 0, none⟩ (.func (.func 80) #[] #[.pointer (some ⟨g1, 0, none⟩), .pointer (some ⟨g2, 0, none⟩), .pointer (some ⟨g3, 0, none⟩)])).cell? ⟨g3, 0, none⟩ = some (.func (.func 80) #[] #[.pointer (some ⟨g1, 0, none⟩), .pointer (some ⟨g2, 0, none⟩), .pointer (some ⟨g3, 0, none⟩)]) := (blk_cell (blk_set hboxg3 0 (.func (.func 80) #[] #[.pointer (some ⟨g1, 0, none⟩), .pointer (some ⟨g2, 0, none⟩), .pointer (some ⟨g3, 0, none⟩)])) 0).trans rfl; have HX3 := Aside0.mk hboxg3; have HB3 := Aside0.mk hbg3; clear hgg3 hboxg3 hbg3) | (go_at_call 80; refine (extend_any hb hCt hct g1 g2 g3 hn hm t.length [] _ s none 0 (by simp) HP.out (asg_boxes hold hso hlow HG1.out HX1.out HB1.out HG2.out HX2.out HB2.out HG3.out HX3.out HB3.out).1 (hb.stay _ _ _ HI.out (asg_boxes hold hso hlow HG1.out HX1.out HB1.out HG2.out HX2.out HB2.out HG3.out HX3.out HB3.out).2) (Kd.R_nil _ _ _ _ _)).mono ?_; rintro e w5 ⟨rfl, hI5, hK5⟩; have HI5 := Aside0.mk hI5; have HK5 := Aside0.mk ((Keeps.of_below (asg_boxes hold hso hlow HG1.out HX1.out HB1.out HG2.out HX2.out HB2.out HG3.out HX3.out HB3.out).2).trans hK5); clear hI5 hK5))
  go_end0
  exact ⟨rfl, HI5.out, HK5.out⟩
end Go.Proofs.Ytfgbohochpjkfaa.G

-- Written by wip/tools/gen.py out of the translation (the kit's printer, one namespace a seat). Lean checks it.
namespace Go.Proofs.Ytfgbohochpjkfaa.G
open Go.RowKit Go.Proofs.YtfgbohochpjkfaaW.PrintWords Go.Proofs.YtfgbohochpjkfaaW.PrintLast Go.Proofs.YtfgbohochpjkfaaW.PrintMore
attribute [local go_sem] max2_int min2_int max_two min_two max_three min_three max_four min_four   -- for this text's walks alone
set_option linter.unusedVariables false
set_option linter.unusedSimpArgs false

/-! ### impl_within: function 50 -/
def impl_within.f (a0 : Int) (a1 : Int) (a2 : Int) : Option (Bool) := if a0 ≥ a1 then (some (decide (a0 ≤ a2))) else (some false)
set_option maxHeartbeats 8000000 in
set_option maxRecDepth 100000 in
theorem impl_within.calls (a0 : Int) (a1 : Int) (a2 : Int) (r : Bool) (w : World) (h : impl_within.f a0 a1 a2 = some r) :
  Calls Try.prog 50 #[.int .i64 a0, .int .i64 a1, .int .i64 a2] w fun e w' => e = .returned (.bool r) ∧ Drawn0 w w' := by
 have H : (if a0 ≥ a1 then (some (decide (a0 ≤ a2))) else (some false)) = some r := h
 clear h
 by_cases c4 : a0 ≥ a1
 ·rw [if_pos c4] at H
  have c4b0 : decide (a1 ≤ a0) = true := decide_eq_true c4
  clear c4
  obtain rfl := Option.some.inj H
  go_enter Try.func50, Try.ntmps50
  go_wp2
  go_ret
  exact ⟨by first | rfl | (simp; done) | (simp [*]; done), by repeat (first | exact Drawn0.refl _ | apply Drawn0.step)⟩
 ·rw [if_neg c4] at H
  have c4b0 : decide (a1 ≤ a0) = false := decide_eq_false c4
  clear c4
  obtain rfl := Option.some.inj H
  go_enter Try.func50, Try.ntmps50
  go_wp2
  go_ret
  exact ⟨by first | rfl | (simp; done) | (simp [*]; done), by repeat (first | exact Drawn0.refl _ | apply Drawn0.step)⟩

end Go.Proofs.Ytfgbohochpjkfaa.G

-- Written by wip/tools/gen.py out of the translation (the kit's printer, one namespace a seat). Lean checks it.
namespace Go.Proofs.Ytfgbohochpjkfaa.G
open Go.RowKit Go.Proofs.YtfgbohochpjkfaaW.PrintWords Go.Proofs.YtfgbohochpjkfaaW.PrintLast Go.Proofs.YtfgbohochpjkfaaW.PrintMore
attribute [local go_sem] max2_int min2_int max_two min_two max_three min_three max_four min_four   -- for this text's walks alone
set_option linter.unusedVariables false
set_option linter.unusedSimpArgs false

/-! ### spec_l1In: function 55 -/
def spec_l1In.f (a0 : Int) (a1 : Int) (a2 : Int) : Option (Bool) := if a0 ≥ a1 then (some (decide (a0 ≤ a2))) else (some false)
set_option maxHeartbeats 8000000 in
set_option maxRecDepth 100000 in
theorem spec_l1In.calls (a0 : Int) (a1 : Int) (a2 : Int) (r : Bool) (w : World) (h : spec_l1In.f a0 a1 a2 = some r) :
  Calls Try.prog 55 #[.int .i64 a0, .int .i64 a1, .int .i64 a2] w fun e w' => e = .returned (.bool r) ∧ Drawn0 w w' := by
 have H : (if a0 ≥ a1 then (some (decide (a0 ≤ a2))) else (some false)) = some r := h
 clear h
 by_cases c4 : a0 ≥ a1
 ·rw [if_pos c4] at H
  have c4b0 : decide (a1 ≤ a0) = true := decide_eq_true c4
  clear c4
  obtain rfl := Option.some.inj H
  go_enter Try.func55, Try.ntmps55
  go_wp2
  go_ret
  exact ⟨by first | rfl | (simp; done) | (simp [*]; done), by repeat (first | exact Drawn0.refl _ | apply Drawn0.step)⟩
 ·rw [if_neg c4] at H
  have c4b0 : decide (a1 ≤ a0) = false := decide_eq_false c4
  clear c4
  obtain rfl := Option.some.inj H
  go_enter Try.func55, Try.ntmps55
  go_wp2
  go_ret
  exact ⟨by first | rfl | (simp; done) | (simp [*]; done), by repeat (first | exact Drawn0.refl _ | apply Drawn0.step)⟩

end Go.Proofs.Ytfgbohochpjkfaa.G

-- Written by wip/tools/gen.py out of the translation (the kit's printer, one namespace a seat). Lean checks it.
namespace Go.Proofs.Ytfgbohochpjkfaa.G
open Go.RowKit Go.Proofs.YtfgbohochpjkfaaW.PrintWords Go.Proofs.YtfgbohochpjkfaaW.PrintLast Go.Proofs.YtfgbohochpjkfaaW.PrintMore
attribute [local go_sem] max2_int min2_int max_two min_two max_three min_three max_four min_four   -- for this text's walks alone
set_option linter.unusedVariables false
set_option linter.unusedSimpArgs false

/-! ### spec_l1Most: function 78 -/
def spec_l1Most.f (a0 : Int) (a1 : Int) : Option (Int) := if a0 > a1 then (some a0) else (some a1)
set_option maxHeartbeats 8000000 in
set_option maxRecDepth 100000 in
theorem spec_l1Most.calls (a0 : Int) (a1 : Int) (r : Int) (w : World) (h : spec_l1Most.f a0 a1 = some r) :
  Calls Try.prog 78 #[.int .i64 a0, .int .i64 a1] w fun e w' => e = .returned (.int .i64 r) ∧ Drawn0 w w' := by
 have H : (if a0 > a1 then (some a0) else (some a1)) = some r := h
 clear h
 by_cases c3 : a0 > a1
 ·rw [if_pos c3] at H
  have c3b0 : decide (a1 < a0) = true := decide_eq_true c3
  clear c3
  obtain rfl := Option.some.inj H
  go_enter Try.func78, Try.ntmps78
  go_wp2
  go_ret
  exact ⟨by first | rfl | (simp; done) | (simp [*]; done), by repeat (first | exact Drawn0.refl _ | apply Drawn0.step)⟩
 ·rw [if_neg c3] at H
  have c3b0 : decide (a1 < a0) = false := decide_eq_false c3
  clear c3
  obtain rfl := Option.some.inj H
  go_enter Try.func78, Try.ntmps78
  go_wp2
  go_ret
  exact ⟨by first | rfl | (simp; done) | (simp [*]; done), by repeat (first | exact Drawn0.refl _ | apply Drawn0.step)⟩

end Go.Proofs.Ytfgbohochpjkfaa.G

namespace Go.Proofs.Ytfgbohochpjkfaa.G
open Go.RowKit Go.Proofs.YtfgbohochpjkfaaW.PrintWords Go.Proofs.YtfgbohochpjkfaaW.PrintLast
set_option linter.unusedVariables false
set_option linter.unusedSimpArgs false
theorem impl_within_eq (a b c : Int) : impl_within.f a b c = some (decide (b ≤ a ∧ a ≤ c)) := by
  unfold impl_within.f
  split
  · rename_i h; congr 1; simp; omega
  · rename_i h; congr 1; simp; omega
theorem spec_l1In_eq (a b c : Int) : spec_l1In.f a b c = some (decide (b ≤ a ∧ a ≤ c)) := by
  unfold spec_l1In.f
  split
  · rename_i h; congr 1; simp; omega
  · rename_i h; congr 1; simp; omega
theorem spec_most_eq (a b : Int) : spec_l1Most.f a b = some (mx a b) := by
  unfold spec_l1Most.f mx
  split <;> split <;> first | rfl | (congr 1; omega)
end Go.Proofs.Ytfgbohochpjkfaa.G

-- Written by wip/tools/gen.py out of the translation (the kit's printer, one namespace a seat). Lean checks it.
namespace Go.Proofs.Ytfgbohochpjkfaa.G
open Go.RowKit Go.Proofs.YtfgbohochpjkfaaW.PrintWords Go.Proofs.YtfgbohochpjkfaaW.PrintLast Go.Proofs.YtfgbohochpjkfaaW.PrintMore
attribute [local go_sem] max2_int min2_int max_two min_two max_three min_three max_four min_four   -- for this text's walks alone
set_option linter.unusedVariables false
set_option linter.unusedSimpArgs false

/-! ### impl_IsValidCosts_1: function 52 -/
def impl_IsValidCosts_1.f (a0 : Int) : Option (Bool) := (impl_within.f a0 (-1) 9999).bind fun t101 => (some (!t101))
set_option maxHeartbeats 8000000 in
set_option maxRecDepth 100000 in
theorem impl_IsValidCosts_1.calls (a0 : Int) (r : Bool) (w : World) (h : impl_IsValidCosts_1.f a0 = some r) :
  Calls Try.prog 52 #[.int .i64 a0] w fun e w' => e = .returned (.bool r) ∧ Drawn0 w w' := by
 have H : ((impl_within.f a0 (-1) 9999).bind fun t101 => (some (!t101))) = some r := h
 clear h
 replace H := Option.bind_eq_some_iff.mp H
 obtain ⟨t101, A20, H⟩ := H
 replace H : (some (!t101)) = some r := H
 have A2 := Aside0.mk A20
 clear A20
 obtain rfl := Option.some.inj H
 go_enter Try.func52, Try.ntmps52
 go_wp2_with (first | ((with_reducible refine gate_callee (f := 50) rfl ?_); refine goesL_ (some 4) rfl rfl Try.func50 (by kernel_rfl) rfl #[.int .i64 a0, .int .i64 (-1), .int .i64 9999] rfl (by (try simp only [List.map_toArray, List.map_cons, List.map_nil]); first | done | rfl | (simp only [List.length_drop, List.length_take]; rfl)) ?_; (with_reducible refine (impl_within.calls a0 (-1) 9999 t101 _ A2.out).mono ?_); rintro e w' ⟨rfl, ⟨nd, rfl⟩⟩; refine ⟨_, rfl, ?_⟩))
 go_ret
 exact ⟨by first | rfl | (simp; done) | (simp [*]; done), by repeat (first | exact Drawn0.refl _ | apply Drawn0.step)⟩

end Go.Proofs.Ytfgbohochpjkfaa.G

/- The contract of slices.ContainsFunc at the test of IsValidCosts. -/
namespace Go.Proofs.Ytfgbohochpjkfaa.G
open Go.RowKit Go.Proofs.YtfgbohochpjkfaaW.PrintWords Go.Proofs.YtfgbohochpjkfaaW.PrintLast
set_option linter.unusedVariables false
set_option linter.unusedSimpArgs false
theorem ret_int {k : IntKind} {a b : Int} (h : a = b) : Ending.returned (.int k a) = .returned (.int k b) := by rw [h]
theorem drawn_two {w w1 w2 : World} (h : Drawn0 w w1) (h2 : Drawn0 w1 w2) : Drawn0 w w2 := by
  obtain ⟨⟨n1, rfl⟩⟩ := h
  obtain ⟨⟨n2, rfl⟩⟩ := h2
  exact ⟨⟨n1 + n2, World.drewN_drewN ..⟩⟩
def good52 (n : Int) : Bool := decide (-1 ≤ n ∧ n ≤ 9999)
def bad52 (l : List Int) : Nat → Nat → Int
  | 0, _ => -1
  | d + 1, i => if good52 (rd l i) then bad52 l d (i + 1) else i
theorem bad52_iff (l : List Int) : ∀ d i, bad52 l d i ≥ 0 ↔ ¬ ∀ j : Nat, i ≤ j → j < i + d → good52 (rd l j) = true := by
  intro d
  induction d with
  | zero => intro i; simp [bad52]; omega
  | succ d ih =>
    intro i
    unfold bad52
    split
    · rename_i h
      rw [ih (i + 1)]
      constructor
      · intro h1 h2
        exact h1 fun j a b => h2 j (by omega) (by omega)
      · intro h1 h2
        refine h1 fun j a b => ?_
        by_cases e : j = i
        · rw [e]; exact h
        · exact h2 j (by omega) (by omega)
    · rename_i h
      constructor
      · intro _ h2
        exact h (h2 i (by omega) (by omega))
      · intro _; omega
theorem lit52_eq (n : Int) : impl_IsValidCosts_1.f n = some (!good52 n) := by
  unfold impl_IsValidCosts_1.f impl_within.f good52
  by_cases h : n ≥ -1
  · simp [h]
  · simp [h]
set_option maxHeartbeats 2000000 in
set_option maxRecDepth 100000 in
theorem idx52 (A0 : Option Addr) (c0 : Nat) (l0 : List Int) (w : World) (hr0 : Kd.C (Kd.int .i64) w A0 l0.length l0) (hc0 : l0.length ≤ c0) :
    Calls Try.prog 75 #[.slice A0 l0.length c0, .func (.func 52) #[] #[]] w fun e w' => e = .returned (.int .i64 (bad52 l0 l0.length 0)) ∧ Drawn0 w w' := by
  have hn : l0.length ≤ 9223372036854775807 := hr0.2.1
  have HR := Aside0.mk hr0
  clear hr0
  have HN : Aside0 (bad52 l0 l0.length 0 = bad52 l0 (l0.length - 0) 0) := Aside0.mk rfl
  go_enter Try.func75, Try.ntmps75
  go_wp2
  go_loopw [8] (fun i w' => ∃ k : Nat, k ≤ l0.length ∧ i = .int .i64 k ∧ Aside0 (bad52 l0 l0.length 0 = bad52 l0 (l0.length - k) k) ∧ Drawn0 w w') (fun i _ => l0.length - (intOf i).toNat)
  case atStart => exact ⟨0, Nat.zero_le _, rfl, HN, Drawn0.refl _⟩
  case round =>
    obtain ⟨k, hk, rfl, hb, hd⟩ := hrel
    by_cases hlt : k < l0.length
    · obtain ⟨ad, rfl, hx⟩ := Kd.at_int (Kd.C_below HR.out hd.below) (k : Int) (by omega) (by omega)
      rw [Int.toNat_natCast] at hx
      by_cases hg : good52 (rd l0 k) = true
      · have hs : Aside0 (bad52 l0 l0.length 0 = bad52 l0 (l0.length - (k + 1)) (k + 1)) := Aside0.mk (by
          rw [hb.out, show l0.length - k = (l0.length - (k + 1)) + 1 from by omega]
          conv => lhs; unfold bad52
          rw [if_pos hg])
        have hf : Aside0 (impl_IsValidCosts_1.f (rd l0 k) = some false) := Aside0.mk (by rw [lit52_eq, hg]; rfl)
        clear hb hg
        go_wp2_with (go_at_call 52; refine (impl_IsValidCosts_1.calls _ false _ hf.out).mono ?_; rintro e w' ⟨rfl, hd2⟩)
        go_roundw
        case rel => exact ⟨k + 1, by omega, by go_num, hs, drawn_two hd hd2⟩
        case measure => simp [intOf]; omega
      · have hs : Aside0 (bad52 l0 l0.length 0 = (k : Int)) := Aside0.mk (by
          rw [hb.out, show l0.length - k = (l0.length - (k + 1)) + 1 from by omega]
          conv => lhs; unfold bad52
          rw [if_neg hg])
        have hf : Aside0 (impl_IsValidCosts_1.f (rd l0 k) = some true) := Aside0.mk (by rw [lit52_eq, Bool.eq_false_iff.2 hg]; rfl)
        clear hb hg
        go_wp2_with (go_at_call 52; refine (impl_IsValidCosts_1.calls _ true _ hf.out).mono ?_; rintro e w' ⟨rfl, hd2⟩)
        go_ret
        exact ⟨ret_int hs.out.symm, drawn_two hd hd2⟩
    · have hs : Aside0 (bad52 l0 l0.length 0 = -1) := Aside0.mk (by
        rw [hb.out, show l0.length - k = 0 from by omega]; rfl)
      clear hb
      go_wp2
      go_ret
      exact ⟨ret_int hs.out.symm, hd⟩
def slices_ContainsFunc_int_int_52.f (l0 : List Int) : Option Bool := some (decide (bad52 l0 l0.length 0 ≥ 0))
set_option maxHeartbeats 2000000 in
set_option maxRecDepth 100000 in
theorem slices_ContainsFunc_int_int_52.calls (A0 : Option Addr) (c0 : Nat) (l0 : List Int) (r : Bool) (w : World) (hr0 : Kd.C (Kd.int .i64) w A0 l0.length l0) (hc0 : l0.length ≤ c0) (h : slices_ContainsFunc_int_int_52.f l0 = some r) :
    Calls Try.prog 51 #[.slice A0 l0.length c0, .func (.func 52) #[] #[]] w fun e w' => e = .returned (.bool r) ∧ Drawn0 w w' := by
  obtain rfl : decide (bad52 l0 l0.length 0 ≥ 0) = r := Option.some.inj h
  have HR := Aside0.mk hr0
  clear hr0 h
  go_enter Try.func51, Try.ntmps51
  go_wp2_with (go_at_call 75; refine (idx52 A0 c0 l0 _ HR.out hc0).mono ?_; rintro e w' ⟨rfl, hd⟩)
  go_ret
  exact ⟨rfl, hd⟩
end Go.Proofs.Ytfgbohochpjkfaa.G

-- Written by wip/tools/gen.py out of the translation (the kit's printer, one namespace a seat). Lean checks it.
namespace Go.Proofs.Ytfgbohochpjkfaa.G
open Go.RowKit Go.Proofs.YtfgbohochpjkfaaW.PrintWords Go.Proofs.YtfgbohochpjkfaaW.PrintLast Go.Proofs.YtfgbohochpjkfaaW.PrintMore
attribute [local go_sem] max2_int min2_int max_two min_two max_three min_three max_four min_four   -- for this text's walks alone
set_option linter.unusedVariables false
set_option linter.unusedSimpArgs false

/-! ### impl_IsValidCosts: function 17 -/
mutual
def impl_IsValidCosts.j0 : Nat → List (List Int) → Bool → Option (Bool)
 | 0, _, _ => none
 | k + 1, x0, x18 => if x18 = true then (some false) else (impl_IsValidCosts.l0 k x0 x0 (x0.length : Int) 0)
def impl_IsValidCosts.l0 : Nat → List (List Int) → List (List Int) → Int → Int → Option (Bool)
 | 0, _, _, _, _ => none
 | k + 1, x0, x19, x20, x21 => if x21 < x20 then (if 0 ≤ x21 then (if x21 < (x19.length : Int) then (if 0 < (x0.length : Int) then (if ((rd_L1 x19 x21).length : Int) = ((rd_L1 x0 0).length : Int) then ((slices_ContainsFunc_int_int_52.f (rd_L1 x19 x21)).bind fun t133 => (if t133 = true then (some false) else (impl_IsValidCosts.l0 k x0 x19 x20 (wrap64 (x21 + 1))))) else (some false)) else (none)) else (none)) else (none)) else (some true)
end
def impl_IsValidCosts.f (k : Nat) (l0 : List (List Int)) : Option (Bool) := (impl_within.f (l0.length : Int) 1 6).bind fun t128 => (if t128 = true then (if 0 < (l0.length : Int) then ((impl_within.f ((rd_L1 l0 0).length : Int) (l0.length : Int) 6).bind fun t130 => (impl_IsValidCosts.j0 k l0 (!t130))) else (none)) else (impl_IsValidCosts.j0 k l0 true))
theorem impl_IsValidCosts.mono_l : ∀ k, (∀ y0 y1, LeO (impl_IsValidCosts.j0 k y0 y1) (impl_IsValidCosts.j0 (k + 1) y0 y1)) ∧ (∀ y0 y1 y2 y3, LeO (impl_IsValidCosts.l0 k y0 y1 y2 y3) (impl_IsValidCosts.l0 (k + 1) y0 y1 y2 y3))
 | 0 => ⟨fun _ _ r h => by simp [impl_IsValidCosts.j0] at h, fun _ _ _ _ r h => by simp [impl_IsValidCosts.l0] at h⟩
 | k + 1 => by
  obtain ⟨ih0, ih1⟩ := impl_IsValidCosts.mono_l k
  refine ⟨?_, ?_⟩
  ·intro y0 y1
   unfold impl_IsValidCosts.j0
   repeat' first
   | (with_reducible exact ih0 _ _)
   | (with_reducible exact ih1 _ _ _ _)
   | (with_reducible exact LeO.refl _)
   | (with_reducible exact LeO.none _)
   | (with_reducible refine LeO.ite ?_ ?_)
   | (with_reducible refine LeO.bind ?_ (fun _ => ?_))
   | exact ih0 _ _
   | exact ih1 _ _ _ _
   | exact LeO.none _
   | refine LeO.ite ?_ ?_
   | refine LeO.bind ?_ (fun _ => ?_)
  ·intro y0 y1 y2 y3
   unfold impl_IsValidCosts.l0
   repeat' first
   | (with_reducible exact ih0 _ _)
   | (with_reducible exact ih1 _ _ _ _)
   | (with_reducible exact LeO.refl _)
   | (with_reducible exact LeO.none _)
   | (with_reducible refine LeO.ite ?_ ?_)
   | (with_reducible refine LeO.bind ?_ (fun _ => ?_))
   | exact ih0 _ _
   | exact ih1 _ _ _ _
   | exact LeO.none _
   | refine LeO.ite ?_ ?_
   | refine LeO.bind ?_ (fun _ => ?_)
theorem impl_IsValidCosts.mono : ∀ a0 k, LeO (impl_IsValidCosts.f k a0) (impl_IsValidCosts.f (k + 1) a0) := by
 intro a0 k
 obtain ⟨ih0, ih1⟩ := impl_IsValidCosts.mono_l k
 unfold impl_IsValidCosts.f
 repeat' first
   | (with_reducible exact ih0 _ _)
   | (with_reducible exact ih1 _ _ _ _)
   | (with_reducible exact LeO.refl _)
   | (with_reducible exact LeO.none _)
   | (with_reducible refine LeO.ite ?_ ?_)
   | (with_reducible refine LeO.bind ?_ (fun _ => ?_))
   | exact ih0 _ _
   | exact ih1 _ _ _ _
   | exact LeO.none _
   | refine LeO.ite ?_ ?_
   | refine LeO.bind ?_ (fun _ => ?_)
set_option maxHeartbeats 8000000 in
set_option maxRecDepth 100000 in
theorem impl_IsValidCosts.calls (k : Nat) (A0 : Option Addr) (c0 : Nat) (l0 : List (List Int)) (r : Bool) (w : World) (hr0 : Kd.C (Kd.slice 3 (Kd.int .i64)) w A0 l0.length l0) (hc0 : l0.length ≤ c0) (h : impl_IsValidCosts.f k l0 = some r) :
  Calls Try.prog 17 #[.slice A0 l0.length c0] w fun e w' => e = .returned (.bool r) ∧ Drawn0 w w' := by
 have HR0 := Aside0.mk hr0
 have HC0 := Aside0.mk hc0
 clear hr0 hc0
 have H : ((impl_within.f (l0.length : Int) 1 6).bind fun t128 => (if t128 = true then (if 0 < (l0.length : Int) then ((impl_within.f ((rd_L1 l0 0).length : Int) (l0.length : Int) 6).bind fun t130 => (impl_IsValidCosts.j0 k l0 (!t130))) else (none)) else (impl_IsValidCosts.j0 k l0 true))) = some r := h
 clear h
 have HC2 := Aside0.mk H
 clear H
 go_enter Try.func17, Try.ntmps17
 go_upto_region 1 with (fail)
 go_cut [18] (fun v18 wc => ∃ (kq : Nat) (x18_1 : Bool), v18 = .bool x18_1 ∧ Aside0 (impl_IsValidCosts.j0 kq l0 x18_1 = some r) ∧ Aside0 (kq ≤ k) ∧ Drawn0 w wc)
 case first =>
  have H := HC2.out
  clear HC2
  replace H := Option.bind_eq_some_iff.mp H
  obtain ⟨t128, A30, H⟩ := H
  replace H : (if t128 = true then (if 0 < (l0.length : Int) then ((impl_within.f ((rd_L1 l0 0).length : Int) (l0.length : Int) 6).bind fun t130 => (impl_IsValidCosts.j0 k l0 (!t130))) else (none)) else (impl_IsValidCosts.j0 k l0 true)) = some r := H
  have A3 := Aside0.mk A30
  clear A30
  by_cases c4 : t128 = true
  ·subst c4
   have H1 : (if 0 < (l0.length : Int) then ((impl_within.f ((rd_L1 l0 0).length : Int) (l0.length : Int) 6).bind fun t130 => (impl_IsValidCosts.j0 k l0 (!t130))) else (none)) = some r := by rw [if_pos rfl] at H; exact H
   clear H
   have H := H1
   clear H1
   by_cases c5 : 0 < (l0.length : Int)
   ·rw [if_pos c5] at H
    have c5b0 : decide (0 < (l0.length : Int)) = true := decide_eq_true c5
    have c5b1 : decide (0 < l0.length) = true := decide_eq_true (by omega)
    clear c5
    (first | rw [c5b0] | (simp only [i64_w, i32_w]; rw [c5b0]) | skip)
    replace H := Option.bind_eq_some_iff.mp H
    obtain ⟨t130, A60, H⟩ := H
    replace H : (impl_IsValidCosts.j0 k l0 (!t130)) = some r := H
    have A6 := Aside0.mk A60
    clear A60
    have H' := Aside0.mk H
    clear H
    go_wp2_with (first | ((with_reducible refine gate_callee (f := 50) rfl ?_); refine goesL_ (some 7) rfl rfl Try.func50 (by kernel_rfl) rfl #[.int .i64 (l0.length : Int), .int .i64 1, .int .i64 6] rfl (by (try simp only [List.map_toArray, List.map_cons, List.map_nil]); first | done | rfl | (simp only [List.length_drop, List.length_take]; rfl)) ?_; (with_reducible refine (impl_within.calls (l0.length : Int) 1 6 true _ A3.out).mono ?_); rintro e w' ⟨rfl, ⟨nd, rfl⟩⟩; refine ⟨_, rfl, ?_⟩; have p129 : 0 ≤ (0 : Int) := (by omega); have q129 : 0 < (l0.length : Int) := of_decide_eq_true (by first | (with_reducible assumption) | assumption); obtain ⟨ad129, A129_0, c129_0, e129, hx129_0, hl129_0, hi129_0⟩ := at_L1 HR0.out 0 p129 q129; cases e129; have qi129 : (0 < l0.length) = True := eq_true (by omega); (try rw [show ((0 : Int)).toNat = 0 from rfl] at hx129_0); (try rw [Addr.add_zero'] at hx129_0); have HR129_0 := Aside0.mk hi129_0; have HC129_0 := Aside0.mk hl129_0; clear hi129_0 hl129_0; replace p129 := eq_true p129; replace q129 := eq_true q129) | (go_at_call 50; (with_reducible refine (impl_within.calls ((rd_L1 l0 0).length : Int) (l0.length : Int) 6 t130 _ A6.out).mono ?_); rintro e w' ⟨rfl, ⟨nd, rfl⟩⟩))
    go_meet
    case rel => exact ⟨_, (!t130), (by first | rfl | (simp; done) | (simp [*]; done)), H', ⟨by first | omega | exact Nat.le_refl _⟩, by repeat (first | exact Drawn0.refl _ | apply Drawn0.step)⟩
   ·rw [if_neg c5] at H
    exact absurd H (by simp)
  ·replace c4 := Bool.eq_false_iff.mpr c4
   subst c4
   have H1 : (impl_IsValidCosts.j0 k l0 true) = some r := by rw [if_neg (show ¬ (false = true) by decide)] at H; exact H
   clear H
   have H := H1
   clear H1
   have H' := Aside0.mk H
   clear H
   go_wp2_with (first | ((with_reducible refine gate_callee (f := 50) rfl ?_); refine goesL_ (some 7) rfl rfl Try.func50 (by kernel_rfl) rfl #[.int .i64 (l0.length : Int), .int .i64 1, .int .i64 6] rfl (by (try simp only [List.map_toArray, List.map_cons, List.map_nil]); first | done | rfl | (simp only [List.length_drop, List.length_take]; rfl)) ?_; (with_reducible refine (impl_within.calls (l0.length : Int) 1 6 false _ A3.out).mono ?_); rintro e w' ⟨rfl, ⟨nd, rfl⟩⟩; refine ⟨_, rfl, ?_⟩))
   go_meet
   case rel => exact ⟨_, (true), (by first | rfl | (simp; done) | (simp [*]; done)), H', ⟨by first | omega | exact Nat.le_refl _⟩, by repeat (first | exact Drawn0.refl _ | apply Drawn0.step)⟩
 case rest =>
  clear HC2
  try clear c1
  try clear p1
  try clear q1
  try clear hx1
  try clear qi1
  try clear p2
  try clear c4
  try clear c5
  try clear c5b0
  try clear c5b1
  try clear hx129_0
  try clear p129
  try clear q129
  obtain ⟨kq, x18_1, rfl, HA, HJ1, ⟨mc1, rfl⟩⟩ := hcut
  cases kq with
  | zero => exact absurd HA.out (by simp [impl_IsValidCosts.j0])
  | succ kj1 =>
   have H := HA.out
   clear HA
   simp only [impl_IsValidCosts.j0] at H
   by_cases c7 : x18_1 = true
   ·subst c7
    have H1 : (some false) = some r := by rw [if_pos rfl] at H; exact H
    clear H
    have H := H1
    clear H1
    obtain rfl := Option.some.inj H
    go_wp2
    go_ret
    exact ⟨by first | rfl | (simp; done) | (simp [*]; done), by repeat (first | exact Drawn0.refl _ | apply Drawn0.step)⟩
   ·replace c7 := Bool.eq_false_iff.mpr c7
    subst c7
    have H1 : (impl_IsValidCosts.l0 kj1 l0 l0 (l0.length : Int) 0) = some r := by rw [if_neg (show ¬ (false = true) by decide)] at H; exact H
    clear H
    have H := H1
    clear H1
    have H' := Aside0.mk H
    clear H
    go_wp2
    go_loopg [21] kj1 (fun kq v21 w' => ∃ (x21_2 : Int), v21 = .int .i64 x21_2 ∧ Aside0 (impl_IsValidCosts.l0 kq l0 l0 (l0.length : Int) x21_2 = some r) ∧ Aside0 (kq ≤ kj1) ∧ Drawn0 w w')
    case atStart => exact ⟨(0), (by first | rfl | (simp; done) | (simp [*]; done)), H', ⟨Nat.le_refl _⟩, by repeat (first | exact Drawn0.refl _ | apply Drawn0.step)⟩
    case round =>
     clear H'
     try clear c1
     try clear p1
     try clear q1
     try clear hx1
     try clear qi1
     try clear p2
     try clear c4
     try clear c5
     try clear c5b0
     try clear c5b1
     try clear c7
     try clear hx129_0
     try clear p1
     try clear p129
     try clear p2
     try clear q1
     try clear q129
     obtain ⟨x21_2, rfl, HA, HK2, ⟨m2, rfl⟩⟩ := hrel
     cases gk with
     | zero => exact absurd HA.out (by simp [impl_IsValidCosts.l0])
     | succ k2 =>
      have H := HA.out
      clear HA
      simp only [impl_IsValidCosts.l0] at H
      by_cases c8 : x21_2 < (l0.length : Int)
      ·rw [if_pos c8] at H
       have c8b0 : decide (x21_2 < (l0.length : Int)) = true := decide_eq_true c8
       clear c8
       by_cases c9 : 0 ≤ x21_2
       ·rw [if_pos c9] at H
        have c9b0 : decide (0 ≤ x21_2) = true := decide_eq_true c9
        clear c9
        by_cases c10 : x21_2 < (l0.length : Int)
        ·rw [if_pos c10] at H
         have c10b0 : decide (x21_2 < (l0.length : Int)) = true := decide_eq_true c10
         clear c10
         by_cases c11 : 0 < (l0.length : Int)
         ·rw [if_pos c11] at H
          have c11b0 : decide (0 < (l0.length : Int)) = true := decide_eq_true c11
          have c11b1 : decide (0 < l0.length) = true := decide_eq_true (by omega)
          clear c11
          by_cases c12 : ((rd_L1 l0 x21_2).length : Int) = ((rd_L1 l0 0).length : Int)
          ·rw [if_pos c12] at H
           have c12b0 : (((rd_L1 l0 x21_2).length : Int) == ((rd_L1 l0 0).length : Int)) = true := beq_iff_eq.mpr c12
           have c12b1 : (((rd_L1 l0 x21_2).length : Int) != ((rd_L1 l0 0).length : Int)) = false := bne_eq_false_iff_eq.mpr c12
           have c12b2 : ((rd_L1 l0 x21_2).length == (rd_L1 l0 0).length) = true := by first | simpa using c12 | (simp at c12 ⊢; omega)
           clear c12
           replace H := Option.bind_eq_some_iff.mp H
           obtain ⟨t133, A130, H⟩ := H
           replace H : (if t133 = true then (some false) else (impl_IsValidCosts.l0 k2 l0 l0 (l0.length : Int) (wrap64 (x21_2 + 1)))) = some r := H
           have A13 := Aside0.mk A130
           clear A130
           by_cases c14 : t133 = true
           ·subst c14
            have H1 : (some false) = some r := by rw [if_pos rfl] at H; exact H
            clear H
            have H := H1
            clear H1
            obtain rfl := Option.some.inj H
            have p131 : 0 ≤ (x21_2 : Int) := of_decide_eq_true (by first | (with_reducible assumption) | assumption)
            have q131 : x21_2 < (l0.length : Int) := of_decide_eq_true (by first | (with_reducible assumption) | assumption)
            obtain ⟨ad131, A131_0, c131_0, e131, hx131_0, hl131_0, hi131_0⟩ := at_L1 HR0.out x21_2 p131 q131
            cases e131
            have HR131_0 := Aside0.mk hi131_0
            have HC131_0 := Aside0.mk hl131_0
            clear hi131_0 hl131_0
            replace p131 := eq_true p131
            replace q131 := eq_true q131
            have p132 : 0 ≤ (0 : Int) := (by omega)
            have q132 : 0 < (l0.length : Int) := of_decide_eq_true (by first | (with_reducible assumption) | assumption)
            obtain ⟨ad132, A132_0, c132_0, e132, hx132_0, hl132_0, hi132_0⟩ := at_L1 HR0.out 0 p132 q132
            obtain rfl : ad131 = ad132 := (by injection e132)
            have qi132 : (0 < l0.length) = True := eq_true (by omega)
            (try rw [show ((0 : Int)).toNat = 0 from rfl] at hx132_0)
            (try rw [Addr.add_zero'] at hx132_0)
            have HR132_0 := Aside0.mk hi132_0
            have HC132_0 := Aside0.mk hl132_0
            clear hi132_0 hl132_0
            replace p132 := eq_true p132
            replace q132 := eq_true q132
            go_wp2_with (first | (go_at_call 51; (with_reducible refine (slices_ContainsFunc_int_int_52.calls _ _ (rd_L1 l0 x21_2)  true _ ?side1 ?side2 A13.out).mono ?_); (case side1 => repeat (first | exact HR131_0.out | (with_reducible refine Kd.C_alloc ?_ _) | (with_reducible refine Kd.C_drewN ?_ _) | (with_reducible refine Kd.C_drew ?_))); (case side2 => exact HC131_0.out); rintro e w' ⟨rfl, ⟨nd, rfl⟩⟩))
            go_ret
            exact ⟨by first | rfl | (simp; done) | (simp [*]; done), by repeat (first | exact Drawn0.refl _ | apply Drawn0.step)⟩
           ·replace c14 := Bool.eq_false_iff.mpr c14
            subst c14
            have H1 : (impl_IsValidCosts.l0 k2 l0 l0 (l0.length : Int) (wrap64 (x21_2 + 1))) = some r := by rw [if_neg (show ¬ (false = true) by decide)] at H; exact H
            clear H
            have H := H1
            clear H1
            have H' := Aside0.mk H
            clear H
            have p131 : 0 ≤ (x21_2 : Int) := of_decide_eq_true (by first | (with_reducible assumption) | assumption)
            have q131 : x21_2 < (l0.length : Int) := of_decide_eq_true (by first | (with_reducible assumption) | assumption)
            obtain ⟨ad131, A131_0, c131_0, e131, hx131_0, hl131_0, hi131_0⟩ := at_L1 HR0.out x21_2 p131 q131
            cases e131
            have HR131_0 := Aside0.mk hi131_0
            have HC131_0 := Aside0.mk hl131_0
            clear hi131_0 hl131_0
            replace p131 := eq_true p131
            replace q131 := eq_true q131
            have p132 : 0 ≤ (0 : Int) := (by omega)
            have q132 : 0 < (l0.length : Int) := of_decide_eq_true (by first | (with_reducible assumption) | assumption)
            obtain ⟨ad132, A132_0, c132_0, e132, hx132_0, hl132_0, hi132_0⟩ := at_L1 HR0.out 0 p132 q132
            obtain rfl : ad131 = ad132 := (by injection e132)
            have qi132 : (0 < l0.length) = True := eq_true (by omega)
            (try rw [show ((0 : Int)).toNat = 0 from rfl] at hx132_0)
            (try rw [Addr.add_zero'] at hx132_0)
            have HR132_0 := Aside0.mk hi132_0
            have HC132_0 := Aside0.mk hl132_0
            clear hi132_0 hl132_0
            replace p132 := eq_true p132
            replace q132 := eq_true q132
            go_wp2_with (first | (go_at_call 51; (with_reducible refine (slices_ContainsFunc_int_int_52.calls _ _ (rd_L1 l0 x21_2)  false _ ?side1 ?side2 A13.out).mono ?_); (case side1 => repeat (first | exact HR131_0.out | (with_reducible refine Kd.C_alloc ?_ _) | (with_reducible refine Kd.C_drewN ?_ _) | (with_reducible refine Kd.C_drew ?_))); (case side2 => exact HC131_0.out); rintro e w' ⟨rfl, ⟨nd, rfl⟩⟩))
            go_roundg k2
            case measure => have := HJ1.out; have := HK2.out; omega
            case rel => exact ⟨(wrap64 (x21_2 + 1)), (by first | rfl | (simp; done) | (simp [*]; done)), H', ⟨by have := HJ1.out; have := HK2.out; omega⟩, by repeat (first | exact Drawn0.refl _ | apply Drawn0.step)⟩
          ·rw [if_neg c12] at H
           have c12b0 : (((rd_L1 l0 x21_2).length : Int) == ((rd_L1 l0 0).length : Int)) = false := beq_eq_false_iff_ne.mpr c12
           have c12b1 : (((rd_L1 l0 x21_2).length : Int) != ((rd_L1 l0 0).length : Int)) = true := bne_iff_ne.mpr c12
           have c12b2 : ((rd_L1 l0 x21_2).length == (rd_L1 l0 0).length) = false := by first | simpa using c12 | (simp at c12 ⊢; omega)
           obtain rfl := Option.some.inj H
           have p131 : 0 ≤ (x21_2 : Int) := of_decide_eq_true (by first | (with_reducible assumption) | assumption)
           have q131 : x21_2 < (l0.length : Int) := of_decide_eq_true (by first | (with_reducible assumption) | assumption)
           obtain ⟨ad131, A131_0, c131_0, e131, hx131_0, hl131_0, hi131_0⟩ := at_L1 HR0.out x21_2 p131 q131
           cases e131
           have HR131_0 := Aside0.mk hi131_0
           have HC131_0 := Aside0.mk hl131_0
           clear hi131_0 hl131_0
           replace p131 := eq_true p131
           replace q131 := eq_true q131
           have p132 : 0 ≤ (0 : Int) := (by omega)
           have q132 : 0 < (l0.length : Int) := of_decide_eq_true (by first | (with_reducible assumption) | assumption)
           obtain ⟨ad132, A132_0, c132_0, e132, hx132_0, hl132_0, hi132_0⟩ := at_L1 HR0.out 0 p132 q132
           obtain rfl : ad131 = ad132 := (by injection e132)
           have qi132 : (0 < l0.length) = True := eq_true (by omega)
           (try rw [show ((0 : Int)).toNat = 0 from rfl] at hx132_0)
           (try rw [Addr.add_zero'] at hx132_0)
           have HR132_0 := Aside0.mk hi132_0
           have HC132_0 := Aside0.mk hl132_0
           clear hi132_0 hl132_0
           replace p132 := eq_true p132
           replace q132 := eq_true q132
           go_wp2
           go_ret
           exact ⟨by first | rfl | (simp; done) | (simp [*]; done), by repeat (first | exact Drawn0.refl _ | apply Drawn0.step)⟩
         ·rw [if_neg c11] at H
          exact absurd H (by simp)
        ·rw [if_neg c10] at H
         exact absurd H (by simp)
       ·rw [if_neg c9] at H
        exact absurd H (by simp)
      ·rw [if_neg c8] at H
       have c8b0 : decide (x21_2 < (l0.length : Int)) = false := decide_eq_false c8
       clear c8
       obtain rfl := Option.some.inj H
       go_wp2
       go_ret
       exact ⟨by first | rfl | (simp; done) | (simp [*]; done), by repeat (first | exact Drawn0.refl _ | apply Drawn0.step)⟩

end Go.Proofs.Ytfgbohochpjkfaa.G

-- Written by wip/tools/gen.py out of the translation (the kit's printer, one namespace a seat). Lean checks it.
namespace Go.Proofs.Ytfgbohochpjkfaa.G
open Go.RowKit Go.Proofs.YtfgbohochpjkfaaW.PrintWords Go.Proofs.YtfgbohochpjkfaaW.PrintLast Go.Proofs.YtfgbohochpjkfaaW.PrintMore
attribute [local go_sem] max2_int min2_int max_two min_two max_three min_three max_four min_four   -- for this text's walks alone
set_option linter.unusedVariables false
set_option linter.unusedSimpArgs false

/-! ### spec_l17Good: function 49 -/
mutual
def spec_l17Good.l0 : Nat → List (List Int) → Int → Option (Bool)
 | 0, _, _ => none
 | k + 1, x0, x3 => if x3 < (x0.length : Int) then (if 0 ≤ x3 then ((spec_l1In.f ((rd_L1 x0 x3).length : Int) (x0.length : Int) 6).bind fun t107 => (if t107 = true then (if 0 < (x0.length : Int) then (spec_l17Good.j1 k x0 x3 (((rd_L1 x0 x3).length : Int) != ((rd_L1 x0 0).length : Int))) else (none)) else (spec_l17Good.j1 k x0 x3 true))) else (none)) else (some true)
def spec_l17Good.j1 : Nat → List (List Int) → Int → Bool → Option (Bool)
 | 0, _, _, _ => none
 | k + 1, x0, x3, x35 => if x35 = true then (some false) else (spec_l17Good.l1 k x0 x3 0)
def spec_l17Good.l1 : Nat → List (List Int) → Int → Int → Option (Bool)
 | 0, _, _, _ => none
 | k + 1, x0, x3, x4 => if 0 ≤ x3 then (if x3 < (x0.length : Int) then (if x4 < ((rd_L1 x0 x3).length : Int) then (if 0 ≤ x4 then ((spec_l1In.f (rd (rd_L1 x0 x3) x4) (-1) 9999).bind fun t113 => (if t113 = true then (spec_l17Good.l1 k x0 x3 (wrap64 (x4 + 1))) else (some false))) else (none)) else (spec_l17Good.l0 k x0 (wrap64 (x3 + 1)))) else (none)) else (none)
end
def spec_l17Good.f (k : Nat) (l0 : List (List Int)) : Option (Bool) := (spec_l1In.f (l0.length : Int) 1 6).bind fun t105 => (if t105 = true then (spec_l17Good.l0 k l0 0) else (some false))
set_option maxHeartbeats 8000000 in
set_option maxRecDepth 100000 in
theorem spec_l17Good.calls (k : Nat) (A0 : Option Addr) (c0 : Nat) (l0 : List (List Int)) (r : Bool) (w : World) (hr0 : Kd.C (Kd.slice 3 (Kd.int .i64)) w A0 l0.length l0) (hc0 : l0.length ≤ c0) (h : spec_l17Good.f k l0 = some r) :
  Calls Try.prog 49 #[.slice A0 l0.length c0] w fun e w' => e = .returned (.bool r) ∧ Drawn0 w w' := by
 have HR0 := Aside0.mk hr0
 have HC0 := Aside0.mk hc0
 clear hr0 hc0
 have H : ((spec_l1In.f (l0.length : Int) 1 6).bind fun t105 => (if t105 = true then (spec_l17Good.l0 k l0 0) else (some false))) = some r := h
 clear h
 replace H := Option.bind_eq_some_iff.mp H
 obtain ⟨t105, A20, H⟩ := H
 replace H : (if t105 = true then (spec_l17Good.l0 k l0 0) else (some false)) = some r := H
 have A2 := Aside0.mk A20
 clear A20
 by_cases c3 : t105 = true
 ·subst c3
  have H1 : (spec_l17Good.l0 k l0 0) = some r := by rw [if_pos rfl] at H; exact H
  clear H
  have H := H1
  clear H1
  have H' := Aside0.mk H
  clear H
  go_enter Try.func49, Try.ntmps49
  go_wp2_with (first | (go_at_call 55; (with_reducible refine (spec_l1In.calls (l0.length : Int) 1 6 true _ A2.out).mono ?_); rintro e w' ⟨rfl, ⟨nd, rfl⟩⟩; (try first | exact ⟨rfl, _, World.drewN_drewN _ _ _⟩ | exact ⟨rfl, _, Eq.trans (World.drewN_drewN _ _ _) (congrArg (World.drewN _) (Nat.add_assoc _ _ _))⟩)))
  repeat (go_quiet (first | (go_at_call 55; (with_reducible refine (spec_l1In.calls (l0.length : Int) 1 6 true _ A2.out).mono ?_); rintro e w' ⟨rfl, ⟨nd, rfl⟩⟩; (try first | exact ⟨rfl, _, World.drewN_drewN _ _ _⟩ | exact ⟨rfl, _, Eq.trans (World.drewN_drewN _ _ _) (congrArg (World.drewN _) (Nat.add_assoc _ _ _))⟩))); try go_wp2_with (first | (go_at_call 55; (with_reducible refine (spec_l1In.calls (l0.length : Int) 1 6 true _ A2.out).mono ?_); rintro e w' ⟨rfl, ⟨nd, rfl⟩⟩; (try first | exact ⟨rfl, _, World.drewN_drewN _ _ _⟩ | exact ⟨rfl, _, Eq.trans (World.drewN_drewN _ _ _) (congrArg (World.drewN _) (Nat.add_assoc _ _ _))⟩))))
  go_loopg [3] k (fun kq v3 w' => ∃ (x3_1 : Int), v3 = .int .i64 x3_1 ∧ Aside0 (spec_l17Good.l0 kq l0 x3_1 = some r) ∧ Aside0 (kq ≤ k) ∧ Drawn0 w w')
  case atStart => exact ⟨(0), (by first | rfl | (simp; done) | (simp [*]; done)), H', ⟨Nat.le_refl _⟩, by repeat (first | exact Drawn0.refl _ | apply Drawn0.step)⟩
  case round =>
   clear H'
   try clear p2
   try clear c3
   obtain ⟨x3_1, rfl, HA, HK1, ⟨m1, rfl⟩⟩ := hrel
   cases gk with
   | zero => exact absurd HA.out (by simp [spec_l17Good.l0])
   | succ k1 =>
    have H := HA.out
    clear HA
    simp only [spec_l17Good.l0] at H
    by_cases c4 : x3_1 < (l0.length : Int)
    ·rw [if_pos c4] at H
     have c4b0 : decide (x3_1 < (l0.length : Int)) = true := decide_eq_true c4
     clear c4
     have HC5 := Aside0.mk H
     clear H
     go_upto_region 6 with (fail)
     repeat (go_quiet (fail); go_upto_region 6 with (fail))
     go_cut [35] (fun v35 wc => ∃ (kq : Nat) (x35_4 : Bool), v35 = .bool x35_4 ∧ Aside0 (spec_l17Good.j1 kq l0 x3_1 x35_4 = some r) ∧ Aside0 (kq ≤ k1) ∧ Drawn0 w wc)
     case first =>
      have H := HC5.out
      clear HC5
      by_cases c6 : 0 ≤ x3_1
      ·rw [if_pos c6] at H
       have c6b0 : decide (0 ≤ x3_1) = true := decide_eq_true c6
       clear c6
       (first | rw [c6b0] | (simp only [i64_w, i32_w]; rw [c6b0]) | skip)
       replace H := Option.bind_eq_some_iff.mp H
       obtain ⟨t107, A70, H⟩ := H
       replace H : (if t107 = true then (if 0 < (l0.length : Int) then (spec_l17Good.j1 k1 l0 x3_1 (((rd_L1 l0 x3_1).length : Int) != ((rd_L1 l0 0).length : Int))) else (none)) else (spec_l17Good.j1 k1 l0 x3_1 true)) = some r := H
       have A7 := Aside0.mk A70
       clear A70
       by_cases c8 : t107 = true
       ·subst c8
        have H1 : (if 0 < (l0.length : Int) then (spec_l17Good.j1 k1 l0 x3_1 (((rd_L1 l0 x3_1).length : Int) != ((rd_L1 l0 0).length : Int))) else (none)) = some r := by rw [if_pos rfl] at H; exact H
        clear H
        have H := H1
        clear H1
        by_cases c9 : 0 < (l0.length : Int)
        ·rw [if_pos c9] at H
         have c9b0 : decide (0 < (l0.length : Int)) = true := decide_eq_true c9
         have c9b1 : decide (0 < l0.length) = true := decide_eq_true (by omega)
         clear c9
         have H' := Aside0.mk H
         clear H
         have p106 : 0 ≤ (x3_1 : Int) := of_decide_eq_true (by first | (with_reducible assumption) | assumption)
         have q106 : x3_1 < (l0.length : Int) := of_decide_eq_true (by first | (with_reducible assumption) | assumption)
         obtain ⟨ad106, A106_0, c106_0, e106, hx106_0, hl106_0, hi106_0⟩ := at_L1 HR0.out x3_1 p106 q106
         cases e106
         have HR106_0 := Aside0.mk hi106_0
         have HC106_0 := Aside0.mk hl106_0
         clear hi106_0 hl106_0
         replace p106 := eq_true p106
         replace q106 := eq_true q106
         go_wp2_with (first | (go_at_call 55; (with_reducible refine (spec_l1In.calls ((rd_L1 l0 x3_1).length : Int) (l0.length : Int) 6 true _ A7.out).mono ?_); rintro e w' ⟨rfl, ⟨nd, rfl⟩⟩; (try first | exact ⟨rfl, _, World.drewN_drewN _ _ _⟩ | exact ⟨rfl, _, Eq.trans (World.drewN_drewN _ _ _) (congrArg (World.drewN _) (Nat.add_assoc _ _ _))⟩); have p108 : 0 ≤ (x3_1 : Int) := of_decide_eq_true (by first | (with_reducible assumption) | assumption); have q108 : x3_1 < (l0.length : Int) := of_decide_eq_true (by first | (with_reducible assumption) | assumption); obtain ⟨ad108, A108_0, c108_0, e108, hx108_0, hl108_0, hi108_0⟩ := at_L1 HR0.out x3_1 p108 q108; obtain rfl : ad106 = ad108 := (by injection e108); have HR108_0 := Aside0.mk hi108_0; have HC108_0 := Aside0.mk hl108_0; clear hi108_0 hl108_0; replace p108 := eq_true p108; replace q108 := eq_true q108; have ea_ := Option.some.inj (hx106_0.symm.trans hx108_0); injection ea_ with ea_ en_ ec_; subst ea_; subst ec_; clear en_; have p109 : 0 ≤ (0 : Int) := (by omega); have q109 : 0 < (l0.length : Int) := of_decide_eq_true (by first | (with_reducible assumption) | assumption); obtain ⟨ad109, A109_0, c109_0, e109, hx109_0, hl109_0, hi109_0⟩ := at_L1 HR0.out 0 p109 q109; obtain rfl : ad106 = ad109 := (by injection e109); have qi109 : (0 < l0.length) = True := eq_true (by omega); (try rw [show ((0 : Int)).toNat = 0 from rfl] at hx109_0); (try rw [Addr.add_zero'] at hx109_0); have HR109_0 := Aside0.mk hi109_0; have HC109_0 := Aside0.mk hl109_0; clear hi109_0 hl109_0; replace p109 := eq_true p109; replace q109 := eq_true q109))
         repeat (go_quiet (first | (go_at_call 55; (with_reducible refine (spec_l1In.calls ((rd_L1 l0 x3_1).length : Int) (l0.length : Int) 6 true _ A7.out).mono ?_); rintro e w' ⟨rfl, ⟨nd, rfl⟩⟩; (try first | exact ⟨rfl, _, World.drewN_drewN _ _ _⟩ | exact ⟨rfl, _, Eq.trans (World.drewN_drewN _ _ _) (congrArg (World.drewN _) (Nat.add_assoc _ _ _))⟩); have p108 : 0 ≤ (x3_1 : Int) := of_decide_eq_true (by first | (with_reducible assumption) | assumption); have q108 : x3_1 < (l0.length : Int) := of_decide_eq_true (by first | (with_reducible assumption) | assumption); obtain ⟨ad108, A108_0, c108_0, e108, hx108_0, hl108_0, hi108_0⟩ := at_L1 HR0.out x3_1 p108 q108; obtain rfl : ad106 = ad108 := (by injection e108); have HR108_0 := Aside0.mk hi108_0; have HC108_0 := Aside0.mk hl108_0; clear hi108_0 hl108_0; replace p108 := eq_true p108; replace q108 := eq_true q108; have ea_ := Option.some.inj (hx106_0.symm.trans hx108_0); injection ea_ with ea_ en_ ec_; subst ea_; subst ec_; clear en_; have p109 : 0 ≤ (0 : Int) := (by omega); have q109 : 0 < (l0.length : Int) := of_decide_eq_true (by first | (with_reducible assumption) | assumption); obtain ⟨ad109, A109_0, c109_0, e109, hx109_0, hl109_0, hi109_0⟩ := at_L1 HR0.out 0 p109 q109; obtain rfl : ad106 = ad109 := (by injection e109); have qi109 : (0 < l0.length) = True := eq_true (by omega); (try rw [show ((0 : Int)).toNat = 0 from rfl] at hx109_0); (try rw [Addr.add_zero'] at hx109_0); have HR109_0 := Aside0.mk hi109_0; have HC109_0 := Aside0.mk hl109_0; clear hi109_0 hl109_0; replace p109 := eq_true p109; replace q109 := eq_true q109)); try go_wp2_with (first | (go_at_call 55; (with_reducible refine (spec_l1In.calls ((rd_L1 l0 x3_1).length : Int) (l0.length : Int) 6 true _ A7.out).mono ?_); rintro e w' ⟨rfl, ⟨nd, rfl⟩⟩; (try first | exact ⟨rfl, _, World.drewN_drewN _ _ _⟩ | exact ⟨rfl, _, Eq.trans (World.drewN_drewN _ _ _) (congrArg (World.drewN _) (Nat.add_assoc _ _ _))⟩); have p108 : 0 ≤ (x3_1 : Int) := of_decide_eq_true (by first | (with_reducible assumption) | assumption); have q108 : x3_1 < (l0.length : Int) := of_decide_eq_true (by first | (with_reducible assumption) | assumption); obtain ⟨ad108, A108_0, c108_0, e108, hx108_0, hl108_0, hi108_0⟩ := at_L1 HR0.out x3_1 p108 q108; obtain rfl : ad106 = ad108 := (by injection e108); have HR108_0 := Aside0.mk hi108_0; have HC108_0 := Aside0.mk hl108_0; clear hi108_0 hl108_0; replace p108 := eq_true p108; replace q108 := eq_true q108; have ea_ := Option.some.inj (hx106_0.symm.trans hx108_0); injection ea_ with ea_ en_ ec_; subst ea_; subst ec_; clear en_; have p109 : 0 ≤ (0 : Int) := (by omega); have q109 : 0 < (l0.length : Int) := of_decide_eq_true (by first | (with_reducible assumption) | assumption); obtain ⟨ad109, A109_0, c109_0, e109, hx109_0, hl109_0, hi109_0⟩ := at_L1 HR0.out 0 p109 q109; obtain rfl : ad106 = ad109 := (by injection e109); have qi109 : (0 < l0.length) = True := eq_true (by omega); (try rw [show ((0 : Int)).toNat = 0 from rfl] at hx109_0); (try rw [Addr.add_zero'] at hx109_0); have HR109_0 := Aside0.mk hi109_0; have HC109_0 := Aside0.mk hl109_0; clear hi109_0 hl109_0; replace p109 := eq_true p109; replace q109 := eq_true q109)))
         go_meet
         case rel => exact ⟨_, ((((rd_L1 l0 x3_1).length : Int) != ((rd_L1 l0 0).length : Int))), (by first | rfl | (simp; done) | (simp [*]; done)), H', ⟨by have := HK1.out; first | omega | exact Nat.le_refl _⟩, by repeat (first | exact Drawn0.refl _ | apply Drawn0.step)⟩
        ·rw [if_neg c9] at H
         exact absurd H (by simp)
       ·replace c8 := Bool.eq_false_iff.mpr c8
        subst c8
        have H1 : (spec_l17Good.j1 k1 l0 x3_1 true) = some r := by rw [if_neg (show ¬ (false = true) by decide)] at H; exact H
        clear H
        have H := H1
        clear H1
        have H' := Aside0.mk H
        clear H
        have p106 : 0 ≤ (x3_1 : Int) := of_decide_eq_true (by first | (with_reducible assumption) | assumption)
        have q106 : x3_1 < (l0.length : Int) := of_decide_eq_true (by first | (with_reducible assumption) | assumption)
        obtain ⟨ad106, A106_0, c106_0, e106, hx106_0, hl106_0, hi106_0⟩ := at_L1 HR0.out x3_1 p106 q106
        cases e106
        have HR106_0 := Aside0.mk hi106_0
        have HC106_0 := Aside0.mk hl106_0
        clear hi106_0 hl106_0
        replace p106 := eq_true p106
        replace q106 := eq_true q106
        go_wp2_with (first | (go_at_call 55; (with_reducible refine (spec_l1In.calls ((rd_L1 l0 x3_1).length : Int) (l0.length : Int) 6 false _ A7.out).mono ?_); rintro e w' ⟨rfl, ⟨nd, rfl⟩⟩; (try first | exact ⟨rfl, _, World.drewN_drewN _ _ _⟩ | exact ⟨rfl, _, Eq.trans (World.drewN_drewN _ _ _) (congrArg (World.drewN _) (Nat.add_assoc _ _ _))⟩)))
        repeat (go_quiet (first | (go_at_call 55; (with_reducible refine (spec_l1In.calls ((rd_L1 l0 x3_1).length : Int) (l0.length : Int) 6 false _ A7.out).mono ?_); rintro e w' ⟨rfl, ⟨nd, rfl⟩⟩; (try first | exact ⟨rfl, _, World.drewN_drewN _ _ _⟩ | exact ⟨rfl, _, Eq.trans (World.drewN_drewN _ _ _) (congrArg (World.drewN _) (Nat.add_assoc _ _ _))⟩))); try go_wp2_with (first | (go_at_call 55; (with_reducible refine (spec_l1In.calls ((rd_L1 l0 x3_1).length : Int) (l0.length : Int) 6 false _ A7.out).mono ?_); rintro e w' ⟨rfl, ⟨nd, rfl⟩⟩; (try first | exact ⟨rfl, _, World.drewN_drewN _ _ _⟩ | exact ⟨rfl, _, Eq.trans (World.drewN_drewN _ _ _) (congrArg (World.drewN _) (Nat.add_assoc _ _ _))⟩))))
        go_meet
        case rel => exact ⟨_, (true), (by first | rfl | (simp; done) | (simp [*]; done)), H', ⟨by have := HK1.out; first | omega | exact Nat.le_refl _⟩, by repeat (first | exact Drawn0.refl _ | apply Drawn0.step)⟩
      ·rw [if_neg c6] at H
       exact absurd H (by simp)
     case rest =>
      clear HC5
      try clear c1
      try clear p1
      try clear q1
      try clear hx1
      try clear qi1
      try clear p2
      try clear c3
      try clear c4
      try clear c4b0
      try clear c6
      try clear c6b0
      try clear c8
      try clear c9
      try clear c9b0
      try clear c9b1
      try clear hx106_0
      try clear hx108_0
      try clear hx109_0
      try clear p106
      try clear p108
      try clear p109
      try clear p2
      try clear q106
      try clear q108
      try clear q109
      obtain ⟨kq, x35_4, rfl, HA, HJ4, ⟨mc4, rfl⟩⟩ := hcut
      cases kq with
      | zero => exact absurd HA.out (by simp [spec_l17Good.j1])
      | succ kj4 =>
       have H := HA.out
       clear HA
       simp only [spec_l17Good.j1] at H
       by_cases c10 : x35_4 = true
       ·subst c10
        have H1 : (some false) = some r := by rw [if_pos rfl] at H; exact H
        clear H
        have H := H1
        clear H1
        obtain rfl := Option.some.inj H
        go_wp2
        repeat (go_quiet (fail); try go_wp2)
        go_ret
        exact ⟨by first | rfl | (simp; done) | (simp [*]; done), by repeat (first | exact Drawn0.refl _ | apply Drawn0.step)⟩
       ·replace c10 := Bool.eq_false_iff.mpr c10
        subst c10
        have H1 : (spec_l17Good.l1 kj4 l0 x3_1 0) = some r := by rw [if_neg (show ¬ (false = true) by decide)] at H; exact H
        clear H
        have H := H1
        clear H1
        have H' := Aside0.mk H
        clear H
        go_wp2
        repeat (go_quiet (fail); try go_wp2)
        go_loopg [4] kj4 (fun kq v4 w' => ∃ (x4_3 : Int), v4 = .int .i64 x4_3 ∧ Aside0 (spec_l17Good.l1 kq l0 x3_1 x4_3 = some r) ∧ Aside0 (kq ≤ kj4) ∧ Drawn0 w w')
        case atStart => exact ⟨(0), (by first | rfl | (simp; done) | (simp [*]; done)), H', ⟨Nat.le_refl _⟩, by repeat (first | exact Drawn0.refl _ | apply Drawn0.step)⟩
        case round =>
         clear H'
         try clear c1
         try clear p1
         try clear q1
         try clear hx1
         try clear qi1
         try clear p2
         try clear c3
         try clear c4
         try clear c4b0
         try clear c6
         try clear c6b0
         try clear c8
         try clear c9
         try clear c9b0
         try clear c9b1
         try clear c10
         try clear p10
         try clear q10
         try clear hx10
         try clear qi10
         try clear hx106_0
         try clear hx108_0
         try clear hx109_0
         try clear p1
         try clear p106
         try clear p108
         try clear p109
         try clear p2
         try clear q1
         try clear q106
         try clear q108
         try clear q109
         obtain ⟨x4_3, rfl, HA, HK3, ⟨m3, rfl⟩⟩ := hrel
         cases gk with
         | zero => exact absurd HA.out (by simp [spec_l17Good.l1])
         | succ k3 =>
          have H := HA.out
          clear HA
          simp only [spec_l17Good.l1] at H
          by_cases c11 : 0 ≤ x3_1
          ·rw [if_pos c11] at H
           have c11b0 : decide (0 ≤ x3_1) = true := decide_eq_true c11
           clear c11
           by_cases c12 : x3_1 < (l0.length : Int)
           ·rw [if_pos c12] at H
            have c12b0 : decide (x3_1 < (l0.length : Int)) = true := decide_eq_true c12
            clear c12
            by_cases c13 : x4_3 < ((rd_L1 l0 x3_1).length : Int)
            ·rw [if_pos c13] at H
             have c13b0 : decide (x4_3 < ((rd_L1 l0 x3_1).length : Int)) = true := decide_eq_true c13
             clear c13
             by_cases c14 : 0 ≤ x4_3
             ·rw [if_pos c14] at H
              have c14b0 : decide (0 ≤ x4_3) = true := decide_eq_true c14
              clear c14
              replace H := Option.bind_eq_some_iff.mp H
              obtain ⟨t113, A150, H⟩ := H
              replace H : (if t113 = true then (spec_l17Good.l1 k3 l0 x3_1 (wrap64 (x4_3 + 1))) else (some false)) = some r := H
              have A15 := Aside0.mk A150
              clear A150
              by_cases c16 : t113 = true
              ·subst c16
               have H1 : (spec_l17Good.l1 k3 l0 x3_1 (wrap64 (x4_3 + 1))) = some r := by rw [if_pos rfl] at H; exact H
               clear H
               have H := H1
               clear H1
               have H' := Aside0.mk H
               clear H
               have p110 : 0 ≤ (x3_1 : Int) := of_decide_eq_true (by first | (with_reducible assumption) | assumption)
               have q110 : x3_1 < (l0.length : Int) := of_decide_eq_true (by first | (with_reducible assumption) | assumption)
               obtain ⟨ad110, A110_0, c110_0, e110, hx110_0, hl110_0, hi110_0⟩ := at_L1 HR0.out x3_1 p110 q110
               cases e110
               have HR110_0 := Aside0.mk hi110_0
               have HC110_0 := Aside0.mk hl110_0
               clear hi110_0 hl110_0
               replace p110 := eq_true p110
               replace q110 := eq_true q110
               have p111 : 0 ≤ (x3_1 : Int) := of_decide_eq_true (by first | (with_reducible assumption) | assumption)
               have q111 : x3_1 < (l0.length : Int) := of_decide_eq_true (by first | (with_reducible assumption) | assumption)
               obtain ⟨ad111, A111_0, c111_0, e111, hx111_0, hl111_0, hi111_0⟩ := at_L1 HR0.out x3_1 p111 q111
               obtain rfl : ad110 = ad111 := (by injection e111)
               have HR111_0 := Aside0.mk hi111_0
               have HC111_0 := Aside0.mk hl111_0
               clear hi111_0 hl111_0
               replace p111 := eq_true p111
               replace q111 := eq_true q111
               have ea_ := Option.some.inj (hx110_0.symm.trans hx111_0)
               injection ea_ with ea_ en_ ec_
               subst ea_
               subst ec_
               clear en_
               have p112 : 0 ≤ (x4_3 : Int) := of_decide_eq_true (by first | (with_reducible assumption) | assumption)
               have q112 : x4_3 < ((rd_L1 l0 x3_1).length : Int) := of_decide_eq_true (by first | (with_reducible assumption) | assumption)
               obtain ⟨ad112, e112, hx112_0⟩ := Kd.at_int HR111_0.out x4_3 p112 q112
               cases e112
               replace p112 := eq_true p112
               replace q112 := eq_true q112
               go_wp2_with (first | (go_at_call 55; (with_reducible refine (spec_l1In.calls (rd (rd_L1 l0 x3_1) x4_3) (-1) 9999 true _ A15.out).mono ?_); rintro e w' ⟨rfl, ⟨nd, rfl⟩⟩; (try first | exact ⟨rfl, _, World.drewN_drewN _ _ _⟩ | exact ⟨rfl, _, Eq.trans (World.drewN_drewN _ _ _) (congrArg (World.drewN _) (Nat.add_assoc _ _ _))⟩)))
               repeat (go_quiet (first | (go_at_call 55; (with_reducible refine (spec_l1In.calls (rd (rd_L1 l0 x3_1) x4_3) (-1) 9999 true _ A15.out).mono ?_); rintro e w' ⟨rfl, ⟨nd, rfl⟩⟩; (try first | exact ⟨rfl, _, World.drewN_drewN _ _ _⟩ | exact ⟨rfl, _, Eq.trans (World.drewN_drewN _ _ _) (congrArg (World.drewN _) (Nat.add_assoc _ _ _))⟩))); try go_wp2_with (first | (go_at_call 55; (with_reducible refine (spec_l1In.calls (rd (rd_L1 l0 x3_1) x4_3) (-1) 9999 true _ A15.out).mono ?_); rintro e w' ⟨rfl, ⟨nd, rfl⟩⟩; (try first | exact ⟨rfl, _, World.drewN_drewN _ _ _⟩ | exact ⟨rfl, _, Eq.trans (World.drewN_drewN _ _ _) (congrArg (World.drewN _) (Nat.add_assoc _ _ _))⟩))))
               go_roundg k3
               case measure => have := HK1.out; have := HJ4.out; have := HK3.out; omega
               case rel => exact ⟨(wrap64 (x4_3 + 1)), (by first | rfl | (simp; done) | (simp [*]; done)), H', ⟨by have := HK1.out; have := HJ4.out; have := HK3.out; omega⟩, by repeat (first | exact Drawn0.refl _ | apply Drawn0.step)⟩
              ·replace c16 := Bool.eq_false_iff.mpr c16
               subst c16
               have H1 : (some false) = some r := by rw [if_neg (show ¬ (false = true) by decide)] at H; exact H
               clear H
               have H := H1
               clear H1
               obtain rfl := Option.some.inj H
               have p110 : 0 ≤ (x3_1 : Int) := of_decide_eq_true (by first | (with_reducible assumption) | assumption)
               have q110 : x3_1 < (l0.length : Int) := of_decide_eq_true (by first | (with_reducible assumption) | assumption)
               obtain ⟨ad110, A110_0, c110_0, e110, hx110_0, hl110_0, hi110_0⟩ := at_L1 HR0.out x3_1 p110 q110
               cases e110
               have HR110_0 := Aside0.mk hi110_0
               have HC110_0 := Aside0.mk hl110_0
               clear hi110_0 hl110_0
               replace p110 := eq_true p110
               replace q110 := eq_true q110
               have p111 : 0 ≤ (x3_1 : Int) := of_decide_eq_true (by first | (with_reducible assumption) | assumption)
               have q111 : x3_1 < (l0.length : Int) := of_decide_eq_true (by first | (with_reducible assumption) | assumption)
               obtain ⟨ad111, A111_0, c111_0, e111, hx111_0, hl111_0, hi111_0⟩ := at_L1 HR0.out x3_1 p111 q111
               obtain rfl : ad110 = ad111 := (by injection e111)
               have HR111_0 := Aside0.mk hi111_0
               have HC111_0 := Aside0.mk hl111_0
               clear hi111_0 hl111_0
               replace p111 := eq_true p111
               replace q111 := eq_true q111
               have ea_ := Option.some.inj (hx110_0.symm.trans hx111_0)
               injection ea_ with ea_ en_ ec_
               subst ea_
               subst ec_
               clear en_
               have p112 : 0 ≤ (x4_3 : Int) := of_decide_eq_true (by first | (with_reducible assumption) | assumption)
               have q112 : x4_3 < ((rd_L1 l0 x3_1).length : Int) := of_decide_eq_true (by first | (with_reducible assumption) | assumption)
               obtain ⟨ad112, e112, hx112_0⟩ := Kd.at_int HR111_0.out x4_3 p112 q112
               cases e112
               replace p112 := eq_true p112
               replace q112 := eq_true q112
               go_wp2_with (first | (go_at_call 55; (with_reducible refine (spec_l1In.calls (rd (rd_L1 l0 x3_1) x4_3) (-1) 9999 false _ A15.out).mono ?_); rintro e w' ⟨rfl, ⟨nd, rfl⟩⟩; (try first | exact ⟨rfl, _, World.drewN_drewN _ _ _⟩ | exact ⟨rfl, _, Eq.trans (World.drewN_drewN _ _ _) (congrArg (World.drewN _) (Nat.add_assoc _ _ _))⟩)))
               repeat (go_quiet (first | (go_at_call 55; (with_reducible refine (spec_l1In.calls (rd (rd_L1 l0 x3_1) x4_3) (-1) 9999 false _ A15.out).mono ?_); rintro e w' ⟨rfl, ⟨nd, rfl⟩⟩; (try first | exact ⟨rfl, _, World.drewN_drewN _ _ _⟩ | exact ⟨rfl, _, Eq.trans (World.drewN_drewN _ _ _) (congrArg (World.drewN _) (Nat.add_assoc _ _ _))⟩))); try go_wp2_with (first | (go_at_call 55; (with_reducible refine (spec_l1In.calls (rd (rd_L1 l0 x3_1) x4_3) (-1) 9999 false _ A15.out).mono ?_); rintro e w' ⟨rfl, ⟨nd, rfl⟩⟩; (try first | exact ⟨rfl, _, World.drewN_drewN _ _ _⟩ | exact ⟨rfl, _, Eq.trans (World.drewN_drewN _ _ _) (congrArg (World.drewN _) (Nat.add_assoc _ _ _))⟩))))
               go_ret
               exact ⟨by first | rfl | (simp; done) | (simp [*]; done), by repeat (first | exact Drawn0.refl _ | apply Drawn0.step)⟩
             ·rw [if_neg c14] at H
              exact absurd H (by simp)
            ·rw [if_neg c13] at H
             have c13b0 : decide (x4_3 < ((rd_L1 l0 x3_1).length : Int)) = false := decide_eq_false c13
             clear c13
             have H' := Aside0.mk H
             clear H
             have p110 : 0 ≤ (x3_1 : Int) := of_decide_eq_true (by first | (with_reducible assumption) | assumption)
             have q110 : x3_1 < (l0.length : Int) := of_decide_eq_true (by first | (with_reducible assumption) | assumption)
             obtain ⟨ad110, A110_0, c110_0, e110, hx110_0, hl110_0, hi110_0⟩ := at_L1 HR0.out x3_1 p110 q110
             cases e110
             have HR110_0 := Aside0.mk hi110_0
             have HC110_0 := Aside0.mk hl110_0
             clear hi110_0 hl110_0
             replace p110 := eq_true p110
             replace q110 := eq_true q110
             go_wp2
             repeat (go_quiet (fail); try go_wp2)
             go_roundg k3
             case measure => have := HK1.out; have := HJ4.out; have := HK3.out; omega
             case rel => exact ⟨(wrap64 (x3_1 + 1)), (by first | rfl | (simp; done) | (simp [*]; done)), H', ⟨by have := HK1.out; have := HJ4.out; have := HK3.out; omega⟩, by repeat (first | exact Drawn0.refl _ | apply Drawn0.step)⟩
           ·rw [if_neg c12] at H
            exact absurd H (by simp)
          ·rw [if_neg c11] at H
           exact absurd H (by simp)
    ·rw [if_neg c4] at H
     have c4b0 : decide (x3_1 < (l0.length : Int)) = false := decide_eq_false c4
     clear c4
     obtain rfl := Option.some.inj H
     go_wp2
     repeat (go_quiet (fail); try go_wp2)
     go_ret
     exact ⟨by first | rfl | (simp; done) | (simp [*]; done), by repeat (first | exact Drawn0.refl _ | apply Drawn0.step)⟩
 ·replace c3 := Bool.eq_false_iff.mpr c3
  subst c3
  have H1 : (some false) = some r := by rw [if_neg (show ¬ (false = true) by decide)] at H; exact H
  clear H
  have H := H1
  clear H1
  obtain rfl := Option.some.inj H
  go_enter Try.func49, Try.ntmps49
  go_wp2_with (first | (go_at_call 55; (with_reducible refine (spec_l1In.calls (l0.length : Int) 1 6 false _ A2.out).mono ?_); rintro e w' ⟨rfl, ⟨nd, rfl⟩⟩; (try first | exact ⟨rfl, _, World.drewN_drewN _ _ _⟩ | exact ⟨rfl, _, Eq.trans (World.drewN_drewN _ _ _) (congrArg (World.drewN _) (Nat.add_assoc _ _ _))⟩)))
  repeat (go_quiet (first | (go_at_call 55; (with_reducible refine (spec_l1In.calls (l0.length : Int) 1 6 false _ A2.out).mono ?_); rintro e w' ⟨rfl, ⟨nd, rfl⟩⟩; (try first | exact ⟨rfl, _, World.drewN_drewN _ _ _⟩ | exact ⟨rfl, _, Eq.trans (World.drewN_drewN _ _ _) (congrArg (World.drewN _) (Nat.add_assoc _ _ _))⟩))); try go_wp2_with (first | (go_at_call 55; (with_reducible refine (spec_l1In.calls (l0.length : Int) 1 6 false _ A2.out).mono ?_); rintro e w' ⟨rfl, ⟨nd, rfl⟩⟩; (try first | exact ⟨rfl, _, World.drewN_drewN _ _ _⟩ | exact ⟨rfl, _, Eq.trans (World.drewN_drewN _ _ _) (congrArg (World.drewN _) (Nat.add_assoc _ _ _))⟩))))
  go_ret
  exact ⟨by first | rfl | (simp; done) | (simp [*]; done), by repeat (first | exact Drawn0.refl _ | apply Drawn0.step)⟩

end Go.Proofs.Ytfgbohochpjkfaa.G

namespace Go.Proofs.Ytfgbohochpjkfaa.G
open Go.RowKit Go.Proofs.YtfgbohochpjkfaaW.PrintWords Go.Proofs.YtfgbohochpjkfaaW.PrintLast
set_option linter.unusedVariables false
set_option linter.unusedSimpArgs false
def okC (row : List Int) (k : Int) : Prop := -1 ≤ rd row k ∧ rd row k ≤ 9999
def rowOk (t : List (List Int)) (i : Int) : Prop := ((rd_L1 t i).length : Int) = ((rd_L1 t 0).length : Int) ∧ All (okC (rd_L1 t i)) 0 ((rd_L1 t i).length : Int)
def Costs (t : List (List Int)) : Prop := (1 ≤ (t.length : Int) ∧ (t.length : Int) ≤ 6) ∧ ((t.length : Int) ≤ ((rd_L1 t 0).length : Int) ∧ ((rd_L1 t 0).length : Int) ≤ 6) ∧ All (rowOk t) 0 (t.length : Int)
theorem cont52_eq (row : List Int) : slices_ContainsFunc_int_int_52.f row = some (chk (All (okC row) 0 (row.length : Int)) false true) := by
  unfold slices_ContainsFunc_int_int_52.f
  congr 1
  have hb : (bad52 row row.length 0 ≥ 0) ↔ ¬ All (okC row) 0 (row.length : Int) := by
    rw [bad52_iff]
    constructor
    · intro h a
      refine h fun j _ hj => ?_
      have := a (j : Int) (by omega) (by omega)
      unfold okC at this
      unfold good52; exact decide_eq_true this
    · intro h a
      refine h fun j h0 hj => ?_
      have := a j.toNat (by omega) (by omega)
      rw [show ((j.toNat : Nat) : Int) = j from by omega] at this
      unfold good52 at this
      have h' := of_decide_eq_true this
      exact h'
  by_cases ha : All (okC row) 0 (row.length : Int)
  · rw [chk_pos ha]; exact decide_eq_false (fun x => hb.1 x ha)
  · rw [chk_neg ha]; exact decide_eq_true (hb.2 ha)
theorem impl_costs0 (t : List (List Int)) : Ev (fun k => impl_IsValidCosts.f k t) (chk (Costs t) true false) := by
  have no : ¬ Costs t → Ev (fun k => impl_IsValidCosts.j0 k t true) (chk (Costs t) true false) := by
    intro h
    rw [chk_neg h]
    refine Ev.step (fun k => by rw [impl_IsValidCosts.j0]) ?_
    simp only [if_true]; exact Ev.now _
  unfold impl_IsValidCosts.f
  simp only [impl_within_eq, Option.bind_some, decide_eq_true_eq]
  refine Ev.ite (fun h1 => ?_) (fun h1 => no (fun c => h1 c.1))
  simp (disch := omega) only [if_pos]
  by_cases h2 : (t.length : Int) ≤ ((rd_L1 t 0).length : Int) ∧ ((rd_L1 t 0).length : Int) ≤ 6
  · rw [decide_eq_true h2]
    refine Ev.step (fun k => by rw [impl_IsValidCosts.j0]) ?_
    simp only [Bool.not_true, Bool.false_eq_true, if_false]
    rw [chk_congr (show Costs t ↔ All (rowOk t) 0 (t.length : Int) from ⟨fun c => c.2.2, fun c => ⟨h1, h2, c⟩⟩)]
    refine Ev.check (fun k i => impl_IsValidCosts.l0 k t t (t.length : Int) i) (t.length : Int) (rowOk t) true false 0 ?_ ?_ 0 (by omega) (by omega)
    · refine Ev.step (fun k => by rw [impl_IsValidCosts.l0]) ?_
      simp only [Int.lt_irrefl, if_false]
      exact Ev.now _
    · intro i h0 hlt r hr
      refine Ev.step (fun k => by rw [impl_IsValidCosts.l0]) ?_
      simp (disch := omega) only [if_pos, wrap64_id, cont52_eq, Option.bind_some]
      refine Ev.ite (fun g1 => ?_) (fun g1 => ?_)
      · refine Ev.ite (fun g2 => ?_) (fun g2 => ?_)
        · rw [chk_neg (fun m : rowOk t i => by rw [chk_pos m.2] at g2; cases g2)]; exact Ev.now _
        · have ha : All (okC (rd_L1 t i)) 0 ((rd_L1 t i).length : Int) := by
            apply Classical.byContradiction; intro hn; rw [chk_neg hn] at g2; exact g2 rfl
          rw [chk_pos ⟨g1, ha⟩]; exact hr
      · rw [chk_neg (fun m : rowOk t i => g1 m.1)]; exact Ev.now _
  · rw [decide_eq_false h2]
    exact no (fun c => h2 c.2.1)
theorem impl_costs (t : List (List Int)) (hl : ∀ i, 0 ≤ i → i < (t.length : Int) → ((rd_L1 t i).length : Int) ≤ 1099511627776) : Ev (fun k => impl_IsValidCosts.f k t) (chk (Costs t) true false) := impl_costs0 t
theorem spec_costs (t : List (List Int)) (hl : ∀ i, 0 ≤ i → i < (t.length : Int) → ((rd_L1 t i).length : Int) ≤ 1099511627776) : Ev (fun k => spec_l17Good.f k t) (chk (Costs t) true false) := by
  unfold spec_l17Good.f
  simp only [spec_l1In_eq, Option.bind_some, decide_eq_true_eq]
  refine Ev.ite (fun h1 => ?_) (fun h1 => ?_)
  · have key : Costs t ↔ All (fun i => ((t.length : Int) ≤ ((rd_L1 t i).length : Int) ∧ ((rd_L1 t i).length : Int) ≤ 6) ∧ rowOk t i) 0 (t.length : Int) := by
      constructor
      · intro c i i0 i1
        have m := c.2.2 i i0 i1
        exact ⟨by rw [m.1]; exact c.2.1, m⟩
      · intro a
        exact ⟨h1, (a 0 (by omega) (by omega)).1, fun i i0 i1 => (a i i0 i1).2⟩
    rw [chk_congr key]
    refine Ev.check (fun k i => spec_l17Good.l0 k t i) (t.length : Int) _ true false 0 ?_ ?_ 0 (by omega) (by omega)
    · refine Ev.step (fun k => by rw [spec_l17Good.l0]) ?_
      simp only [Int.lt_irrefl, if_false]
      exact Ev.now _
    · intro i h0 hlt r hr
      have no : ¬ (((t.length : Int) ≤ ((rd_L1 t i).length : Int) ∧ ((rd_L1 t i).length : Int) ≤ 6) ∧ rowOk t i) → Ev (fun k => spec_l17Good.j1 k t i true) (chk (((t.length : Int) ≤ ((rd_L1 t i).length : Int) ∧ ((rd_L1 t i).length : Int) ≤ 6) ∧ rowOk t i) r false) := by
        intro h
        rw [chk_neg h]
        refine Ev.step (fun k => by rw [spec_l17Good.j1]) ?_
        simp only [if_true]; exact Ev.now _
      refine Ev.step (fun k => by rw [spec_l17Good.l0]) ?_
      simp (disch := omega) only [if_pos, wrap64_id, spec_l1In_eq, Option.bind_some, decide_eq_true_eq]
      refine Ev.ite (fun g1 => ?_) (fun g1 => no (fun m => g1 m.1))
      by_cases g2 : ((rd_L1 t i).length : Int) = ((rd_L1 t 0).length : Int)
      · rw [show (((rd_L1 t i).length : Int) != ((rd_L1 t 0).length : Int)) = false from by rw [g2]; exact bne_self_eq_false _]
        refine Ev.step (fun k => by rw [spec_l17Good.j1]) ?_
        simp only [Bool.false_eq_true, if_false]
        have inner := Ev.check (fun k j => spec_l17Good.l1 k t i j) ((rd_L1 t i).length : Int) (okC (rd_L1 t i)) r false 0 (by
          refine Ev.step (fun k => by rw [spec_l17Good.l1]) ?_
          simp (disch := omega) only [if_pos, Int.lt_irrefl, if_false, wrap64_id]
          exact hr) (by
          intro j j0 jlt r' hr'
          refine Ev.step (fun k => by rw [spec_l17Good.l1]) ?_
          simp (disch := omega) only [if_pos, wrap64_id, spec_l1In_eq, Option.bind_some, decide_eq_true_eq]
          refine Ev.ite (fun h => ?_) (fun h => ?_)
          · rw [chk_pos (show okC (rd_L1 t i) j from h)]; exact hr'
          · rw [chk_neg (show ¬ okC (rd_L1 t i) j from h)]; exact Ev.now _) 0 (by omega) (by omega)
        rwa [chk_congr (show All (okC (rd_L1 t i)) 0 ((rd_L1 t i).length : Int) ↔ (((t.length : Int) ≤ ((rd_L1 t i).length : Int) ∧ ((rd_L1 t i).length : Int) ≤ 6) ∧ rowOk t i) from ⟨fun a => ⟨g1, g2, a⟩, fun a => a.2.2⟩)] at inner
      · rw [show (((rd_L1 t i).length : Int) != ((rd_L1 t 0).length : Int)) = true from by rw [bne_iff_ne]; exact g2]
        exact no (fun m => g2 m.2.1)
  · rw [chk_neg (fun c : Costs t => h1 c.1)]
    exact Ev.now _
end Go.Proofs.Ytfgbohochpjkfaa.G

/- The contract of CountAssignments: of a valid table, the number of its assignments. -/
namespace Go.Proofs.Ytfgbohochpjkfaa.G
open Go.RowKit Go.Proofs.YtfgbohochpjkfaaW.PrintWords Go.Proofs.YtfgbohochpjkfaaW.PrintLast
set_option linter.unusedVariables false
set_option linter.unusedSimpArgs false
theorem costs_true {k : Nat} {t : List (List Int)} (h : impl_IsValidCosts.f k t = some true) : Costs t := by
  have e1 := impl_costs0 t
  have e2 := Ev.of (g := fun k => impl_IsValidCosts.f k t) (fun k => impl_IsValidCosts.mono t k) h
  have e := Ev.same e1 e2
  exact chk_true.1 e
theorem rd_L1_1000 {t : List (List Int)} (hc : Costs t) (i : Int) (h0 : 0 ≤ i) : (rd_L1 t i).length ≤ 1000 := by
  obtain ⟨h1, h2, h3⟩ := hc
  by_cases h : i < (t.length : Int)
  · have := (h3 i h0 h).1
    omega
  · unfold rd_L1
    rw [List.getD_eq_getElem?_getD, List.getElem?_eq_none (by omega)]
    simp
theorem Keeps.of_set (w : World) (g i : Nat) (u : Value) : Keeps (fun k => k = g) w (w.setCell ⟨g, i, none⟩ u) := ⟨rfl, rfl, rfl, by simp [World.setCell], fun k hk hn => Below.heap_setCell w ⟨g, i, none⟩ u k hn⟩
/-- How the count stands in its box. -/
def CountI (Bc : Nat) (w : World) (s : Int) : Prop := w.heap[Bc]? = some (.cells #[.int .i64 s] 3 (0, 0))
set_option maxHeartbeats 2000000 in
set_option maxRecDepth 100000 in
theorem count_call (Bc : Nat) (w : World) (s : Int) (v : Value) (h : CountI Bc w s) : Calls Try.prog 64 #[v, .pointer (some ⟨Bc, 0, none⟩)] w fun e w' => e = .returned (.tuple #[]) ∧ CountI Bc w' (wrap64 (s + 1)) ∧ Keeps (fun k => k = Bc) w w' := by
  have hX := Aside0.mk h
  have hc : w.cell? ⟨Bc, 0, none⟩ = some (.int .i64 s) := (blk_cell h 0).trans rfl
  have hf := blk_frozen h 0
  clear h
  go_enter Try.func64, Try.ntmps64
  go_wp2
  go_end0
  have hk := Keeps.of_set w Bc 0 (.int .i64 (wrap64 (s + 1)))
  first
  | exact ⟨rfl, blk_set hX.out 0 _, hk⟩
  | (simp only [i64_w]; exact ⟨rfl, blk_set hX.out 0 _, hk⟩)
theorem count_back (Bc B0 : Nat) : Back (σ := Int) 64 #[.pointer (some ⟨Bc, 0, none⟩)] (fun k => k = Bc) B0 (CountI Bc) (fun _ => True) (fun s _ => wrap64 (s + 1)) where
  enters := fun args w => enters_ Try.func64 (by kernel_rfl) rfl args w
  call := fun w s v l h _ _ => count_call Bc w s v h
  stay := fun w w' s h hb => blk_below h hb
  low := fun w s h k hk => by subst hk; exact blk_lt h
theorem count_below {w w2 w5 : World} {g : Nat} (h : Below w.heap.size w w2) (k : Keeps (fun k => k = g) w2 w5) (hg : w.heap.size ≤ g) : Below w.heap.size w w5 :=
  ⟨k.os.trans h.os, k.tape.trans h.tape, k.output.trans h.output, Nat.le_trans h.size k.size, fun i hi => (k.block i (Nat.lt_of_lt_of_le hi h.size) (fun e => by omega)).trans (h.block i hi)⟩
noncomputable def impl_CountAssignments.f (k : Nat) (t : List (List Int)) : Option (Int × Bool) := (impl_IsValidCosts.f k t).bind fun b => if b = true then some ((asgs t t.length []).foldl (fun s _ => wrap64 (s + 1)) 0, true) else some (0, false)
theorem impl_CountAssignments.mono : ∀ a0 k, LeO (impl_CountAssignments.f k a0) (impl_CountAssignments.f (k + 1) a0) := by
  intro a0 k
  unfold impl_CountAssignments.f
  exact LeO.bind (impl_IsValidCosts.mono _ _) (fun _ => LeO.refl _)
set_option maxHeartbeats 2000000 in
set_option maxRecDepth 100000 in
theorem impl_CountAssignments.calls (k : Nat) (A0 : Option Addr) (c0 : Nat) (l0 : List (List Int)) (r1 : Int) (r2 : Bool) (w : World) (hr0 : Kd.C (Kd.slice 3 (Kd.int .i64)) w A0 l0.length l0) (hc0 : l0.length ≤ c0) (h : impl_CountAssignments.f k l0 = some (r1, r2)) :
    Calls Try.prog 32 #[.slice A0 l0.length c0] w fun e w' => e = .returned (.tuple #[.int .i64 r1, .bool r2]) ∧ Below w.heap.size w w' := by
  obtain ⟨b, hb, h⟩ := Option.bind_eq_some_iff.mp h
  have HR := Aside0.mk hr0
  have HV := Aside0.mk hb
  clear hr0
  cases b with
  | false =>
    rw [if_neg (by decide)] at h
    obtain ⟨rfl, rfl⟩ := Prod.mk.inj (Option.some.inj h)
    clear h hb
    go_enter Try.func32, Try.ntmps32
    go_wp2_with (go_at_call 17; refine (impl_IsValidCosts.calls k A0 c0 l0 false _ HR.out hc0 HV.out).mono ?_; rintro e w' ⟨rfl, hd⟩)
    go_ret2
    exact ⟨rfl, hd.below⟩
  | true =>
    rw [if_pos rfl] at h
    obtain ⟨rfl, rfl⟩ := Prod.mk.inj (Option.some.inj h)
    have HC := Aside0.mk (costs_true hb)
    clear h hb
    go_enter Try.func32, Try.ntmps32
    go_wp2_with (first | (go_at_call 17; refine (impl_IsValidCosts.calls k A0 c0 l0 true _ HR.out hc0 HV.out).mono ?_; rintro e w1 ⟨rfl, hd⟩; have HD := Aside0.mk hd.below; clear hd) | ((with_reducible refine gate_dst (N := 4) rfl ?_); refine box_event ?hg4 (N := 4) ?hd4 (cs := #[.int .i64 0]) (t := 3) ?hr4 ?_; (case hd4 => rfl); (case hg4 => rfl); (case hr4 => first | (go_simp; done) | (go_simp; rfl)); intro g1 hgg w2 hbox hbb; have HG := Aside0.mk hgg; have hz1 : w2.cell? ⟨g1, 0, none⟩ = some (.int .i64 0) := (blk_cell hbox 0).trans rfl; have hz2 := blk_frozen hbox 0; have HI : Aside0 (CountI g1 (w2.setCell ⟨g1, 0, none⟩ (.int .i64 0)) 0) := Aside0.mk (blk_set hbox 0 (.int .i64 0)); have HB : Aside0 (Below w.heap.size w (w2.setCell ⟨g1, 0, none⟩ (.int .i64 0))) := Aside0.mk (Below.setCell (below_step HD.out hbb) (by show w.heap.size ≤ g1; rw [hgg]; exact HD.out.size) _); clear hgg hbox hbb) | (go_at_call 63; refine (assignments_any (count_back g1 w.heap.size) HR.out hc0 (by have := HC.out.1; omega) (rd_L1_1000 HC.out) _ 0 (fun _ _ => trivial) HB.out (fun k hk => by rw [hk, HG.out]; exact HD.out.size) HI.out).mono ?_; rintro e w5 ⟨rfl, hI5, hK5⟩; have hz5 : w5.cell? ⟨g1, 0, none⟩ = some (.int .i64 ((asgs l0 l0.length []).foldl (fun s _ => wrap64 (s + 1)) 0)) := (blk_cell hI5 0).trans rfl; have HE : Aside0 (Below w.heap.size w w5) := Aside0.mk (count_below HB.out hK5 (by rw [HG.out]; exact HD.out.size)); clear hI5 hK5))
    go_ret2
    exact ⟨rfl, HE.out⟩
end Go.Proofs.Ytfgbohochpjkfaa.G
