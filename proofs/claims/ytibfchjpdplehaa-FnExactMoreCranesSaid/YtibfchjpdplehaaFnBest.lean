import Derived.Test.YtibfchjpdplehaaFnLoads
import Derived.Test.YtibfchjpdplehaaChs
namespace Go.Proofs.Ytibfchjpdplehaa.G
open Go.RowKit Go.Proofs.YtibfchjpdplehaaW.PrintWords Go.Proofs.YtibfchjpdplehaaW.PrintLast
set_option linter.unusedVariables false
set_option linter.unusedSimpArgs false
def mostOf (xs dv : List Int) : Int := topTo (loadsTo xs dv (dv.length + 1)) (dv.length + 1)
def better (s o : List Int × Int) : List Int × Int := if s.2 < 0 ∨ o.2 < s.2 then o else s
def bestIn (f : List Int → List Int × Int) (dv : List Int) : Nat → Int → List Int × Int → List Int × Int
  | 0, _, s => s
  | r + 1, k, s => bestIn f dv r (k + 1) (better s (f (dv ++ [k])))
def lastOf (dv : List Int) : Int := if 0 < (dv.length : Int) then rd dv ((dv.length : Int) - 1) else 0
def bestOf (xs : List Int) : Nat → List Int → List Int × Int
  | 0, dv => (dv, mostOf xs dv)
  | d + 1, dv => bestIn (bestOf xs d) dv ((xs.length : Int) + 1 - lastOf dv).toNat (lastOf dv) ([], -1)
noncomputable def stepB (xs : List Int) (c : Int) (s : List Int × Int) (l : List Int) : List Int × Int := chk (DivOk xs c l) (better s (l, mostOf xs l)) s
theorem top_nonneg (xs : List Int) : ∀ d : Nat, 0 ≤ topTo xs d
  | 0 => Int.le_refl _
  | d + 1 => by
    have := top_nonneg xs d
    rw [topTo_succ]
    unfold mx
    split <;> omega
theorem better_assoc (s a b : List Int × Int) (ha : 0 ≤ a.2) (hb : 0 ≤ b.2) : better (better s a) b = better s (better a b) := by
  unfold better
  by_cases h1 : s.2 < 0 ∨ a.2 < s.2
  · rw [if_pos h1]
    by_cases h2 : a.2 < 0 ∨ b.2 < a.2
    · rw [if_pos h2, if_pos (by omega)]
    · rw [if_neg h2, if_pos h1]
  · rw [if_neg h1]
    by_cases h2 : a.2 < 0 ∨ b.2 < a.2
    · rw [if_pos h2]
    · rw [if_neg h2, if_neg h1, if_neg (by omega)]
theorem better_nonneg {a b : List Int × Int} (ha : 0 ≤ a.2) (hb : 0 ≤ b.2) : 0 ≤ (better a b).2 := by
  unfold better; split <;> assumption
/-- The prefix is one of a division. -/
def Pre (xs dv : List Int) : Prop := All (okD (xs.length : Int) dv) 0 (dv.length : Int)
theorem pre_app {xs dv q : List Int} (h : Pre xs (dv ++ q)) : Pre xs dv := by
  intro i h0 h1
  have := h i h0 (by rw [List.length_append]; omega)
  unfold okD at this ⊢
  rw [rd_left dv q i h0 h1] at this
  refine ⟨this.1, fun hp => ?_⟩
  have h2 := this.2 hp
  rwa [rd_left dv q (i - 1) (by omega) (by omega)] at h2
theorem pre_snoc {xs dv : List Int} (h : Pre xs dv) (k : Int) : Pre xs (dv ++ [k]) ↔ (0 ≤ k ∧ k ≤ (xs.length : Int)) ∧ lastOf dv ≤ k := by
  have hl : ((dv ++ [k]).length : Int) = (dv.length : Int) + 1 := by simp
  constructor
  · intro m
    have := m (dv.length : Int) (by omega) (by omega)
    unfold okD at this
    rw [rd_last] at this
    refine ⟨this.1, ?_⟩
    unfold lastOf
    split
    · rename_i hp
      have h2 := this.2 hp
      rwa [rd_left dv [k] _ (by omega) (by omega)] at h2
    · exact this.1.1
  · rintro ⟨a, b⟩ i h0 h1
    show okD _ _ _
    by_cases e : i < (dv.length : Int)
    · have := h i h0 e
      unfold okD at this ⊢
      rw [rd_left dv [k] i h0 e]
      refine ⟨this.1, fun hp => ?_⟩
      rw [rd_left dv [k] (i - 1) (by omega) (by omega)]
      exact this.2 hp
    · obtain rfl : i = (dv.length : Int) := by omega
      unfold okD
      rw [rd_last]
      refine ⟨a, fun hp => ?_⟩
      rw [rd_left dv [k] _ (by omega) (by omega)]
      unfold lastOf at b
      rwa [if_pos hp] at b
theorem last_bd {xs dv : List Int} (h : Pre xs dv) : 0 ≤ lastOf dv ∧ lastOf dv ≤ (xs.length : Int) := by
  unfold lastOf
  split
  · have := h ((dv.length : Int) - 1) (by omega) (by omega)
    unfold okD at this
    exact this.1
  · omega
theorem fold_skip {xs : List Int} {c : Int} (ls : List (List Int)) (h : ∀ l ∈ ls, ¬ DivOk xs c l) : ∀ s, ls.foldl (stepB xs c) s = s := by
  induction ls with
  | nil => intro s; rfl
  | cons l ls ih =>
    intro s
    rw [List.foldl_cons]
    unfold stepB
    rw [chk_neg (h l List.mem_cons_self)]
    exact ih (fun l hl => h l (List.mem_cons_of_mem _ hl)) s
theorem fold_best {xs : List Int} {c : Int} (hW : WorkOk xs c) : ∀ (d : Nat) (dv : List Int), (dv.length : Int) + d = c - 1 → Pre xs dv →
    0 ≤ (bestOf xs d dv).2 ∧ ∀ s, (chs (xs.length + 1) d dv).foldl (stepB xs c) s = better s (bestOf xs d dv) := by
  intro d
  induction d with
  | zero =>
    intro dv hd hp
    refine ⟨top_nonneg _ _, fun s => ?_⟩
    show stepB xs c s dv = _
    unfold stepB
    rw [chk_pos ⟨hW, by omega, hp⟩]
    rfl
  | succ d ih =>
    intro dv hd hp
    have hb := last_bd hp
    have hlen : ∀ k : Int, ((dv ++ [k]).length : Int) + d = c - 1 := fun k => by
      rw [List.length_append, List.length_cons, List.length_nil]; omega
    have skip : ∀ k : Int, k < lastOf dv → ∀ s, (chs (xs.length + 1) d (dv ++ [k])).foldl (stepB xs c) s = s := by
      intro k hk
      refine fold_skip _ (fun l hl hD => ?_)
      obtain ⟨q, e, _⟩ := chs_begin _ _ _ _ hl
      rw [e] at hD
      have := ((pre_snoc hp k).1 (pre_app hD.2.2)).2
      omega
    have take : ∀ k : Int, lastOf dv ≤ k → k ≤ (xs.length : Int) → 0 ≤ (bestOf xs d (dv ++ [k])).2 ∧ ∀ s, (chs (xs.length + 1) d (dv ++ [k])).foldl (stepB xs c) s = better s (bestOf xs d (dv ++ [k])) :=
      fun k k0 k1 => ih _ (hlen k) ((pre_snoc hp k).2 ⟨⟨by omega, k1⟩, k0⟩)
    have c1 : ∀ (r : Nat) (k : Int), k + r = (xs.length : Int) + 1 → lastOf dv ≤ k → ∀ s, (chIn (chs (xs.length + 1) d) dv r k).foldl (stepB xs c) s = bestIn (bestOf xs d) dv r k s := by
      intro r
      induction r with
      | zero => intro k _ _ s; rfl
      | succ r ihr =>
        intro k hk k0 s
        unfold chIn bestIn
        rw [List.foldl_append, (take k k0 (by omega)).2]
        exact ihr (k + 1) (by omega) (by omega) _
    have c0 : ∀ (r : Nat) (k : Int), k + r = (xs.length : Int) + 1 → k ≤ lastOf dv → ∀ s, (chIn (chs (xs.length + 1) d) dv r k).foldl (stepB xs c) s = bestIn (bestOf xs d) dv ((xs.length : Int) + 1 - lastOf dv).toNat (lastOf dv) s := by
      intro r
      induction r with
      | zero => intro k hk k0 s; omega
      | succ r ihr =>
        intro k hk k0 s
        by_cases e : k = lastOf dv
        · rw [c1 (r + 1) k hk (by omega) s, ← e, show ((xs.length : Int) + 1 - k).toNat = r + 1 from by omega]
        · unfold chIn
          rw [List.foldl_append, skip k (by omega)]
          exact ihr (k + 1) (by omega) (by omega) s
    have c2 : ∀ (r : Nat) (k : Int), k + r = (xs.length : Int) + 1 → lastOf dv ≤ k → ∀ a, 0 ≤ a.2 → 0 ≤ (bestIn (bestOf xs d) dv r k a).2 ∧ ∀ s, bestIn (bestOf xs d) dv r k (better s a) = better s (bestIn (bestOf xs d) dv r k a) := by
      intro r
      induction r with
      | zero => intro k _ _ a ha; exact ⟨ha, fun s => rfl⟩
      | succ r ihr =>
        intro k hk k0 a ha
        have t := (take k k0 (by omega)).1
        have m := ihr (k + 1) (by omega) (by omega) (better a (bestOf xs d (dv ++ [k]))) (better_nonneg ha t)
        unfold bestIn
        refine ⟨m.1, fun s => ?_⟩
        rw [better_assoc s a _ ha t]
        exact m.2 s
    obtain ⟨r, hr⟩ : ∃ r : Nat, ((xs.length : Int) + 1 - lastOf dv).toNat = r + 1 := ⟨((xs.length : Int) - lastOf dv).toNat, by omega⟩
    have t := (take (lastOf dv) (by omega) (by omega)).1
    have m := c2 r (lastOf dv + 1) (by omega) (by omega) (bestOf xs d (dv ++ [lastOf dv])) t
    have e0 : bestOf xs (d + 1) dv = bestIn (bestOf xs d) dv r (lastOf dv + 1) (bestOf xs d (dv ++ [lastOf dv])) := by
      show bestIn (bestOf xs d) dv ((xs.length : Int) + 1 - lastOf dv).toNat (lastOf dv) ([], -1) = _
      rw [hr]
      show bestIn (bestOf xs d) dv r (lastOf dv + 1) (better ([], -1) (bestOf xs d (dv ++ [lastOf dv]))) = _
      rw [show better ([], -1) (bestOf xs d (dv ++ [lastOf dv])) = bestOf xs d (dv ++ [lastOf dv]) from if_pos (Or.inl (by decide))]
    refine ⟨by rw [e0]; exact m.1, fun s => ?_⟩
    show (chIn (chs (xs.length + 1) d) dv (xs.length + 1) 0).foldl (stepB xs c) s = _
    rw [c0 (xs.length + 1) 0 (by omega) hb.1 s, hr, e0]
    exact m.2 s
end Go.Proofs.Ytibfchjpdplehaa.G
