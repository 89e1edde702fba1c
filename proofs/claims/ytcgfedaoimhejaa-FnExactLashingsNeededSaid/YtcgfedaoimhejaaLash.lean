import Derived.Test.YtcgfedaoimhejaaWithin
import Derived.Test.YtcgfedaoimhejaaCont76
import Derived.Test.YtcgfedaoimhejaaGx14
import Derived.Test.YtcgfedaoimhejaaGx13
import Derived.Test.YtcgfedaoimhejaaGx5
import Derived.Test.YtcgfedaoimhejaaGx4
import Derived.Test.YtcgfedaoimhejaaGx6
import Derived.Test.YtcgfedaoimhejaaGx18
import Derived.Test.YtcgfedaoimhejaaGx9
import Derived.Test.YtcgfedaoimhejaaGx17
import Derived.Test.YtcgfedaoimhejaaGx8
import Derived.Test.YtcgfedaoimhejaaGx15
import Derived.Test.YtcgfedaoimhejaaGx16
import Derived.Test.YtcgfedaoimhejaaGx7
import Derived.Test.YtcgfedaoimhejaaGx24
import Derived.Test.YtcgfedaoimhejaaGx23
namespace Go.Proofs.Ytcgfedaoimhejaa.G
open Go.RowKit Go.Proofs.YtcgfedaoimhejaaW.PrintWords Go.Proofs.YtcgfedaoimhejaaW.PrintLast
set_option linter.unusedVariables false
set_option linter.unusedSimpArgs false
def okW (l : List Int) (i : Int) : Prop := 1 ≤ rd l i ∧ rd l i ≤ 32000
def Col (l : List Int) : Prop := (l.length : Int) ≤ 4 ∧ All (okW l) 0 (l.length : Int)
def Rules (L T S : Int) : Prop := (1 ≤ L ∧ L ≤ 200000) ∧ (0 ≤ T ∧ T ≤ 100) ∧ (1 ≤ S ∧ S ≤ 100000)
def Lashed (l : List Int) (L T S : Int) : Prop := Col l ∧ Rules L T S
theorem cont76_eq (l : List Int) : slices_ContainsFunc_int_int_76.f l = some (chk (All (okW l) 0 (l.length : Int)) false true) := by
  unfold slices_ContainsFunc_int_int_76.f
  congr 1
  have hb : (bad76 l l.length 0 ≥ 0) ↔ ¬ All (okW l) 0 (l.length : Int) := by
    rw [bad76_iff]
    constructor
    · intro h a
      refine h fun j _ hj => ?_
      have := a (j : Int) (by omega) (by omega)
      unfold okW at this
      unfold good76; exact decide_eq_true this
    · intro h a
      refine h fun j h0 hj => ?_
      have := a j.toNat (by omega) (by omega)
      rw [show ((j.toNat : Nat) : Int) = j from by omega] at this
      unfold good76 at this
      have h' := of_decide_eq_true this
      exact h'
  by_cases ha : All (okW l) 0 (l.length : Int)
  · rw [chk_pos ha]; exact decide_eq_false (fun x => hb.1 x ha)
  · rw [chk_neg ha]; exact decide_eq_true (hb.2 ha)
theorem impl_col (l : List Int) : impl_IsValidColumn.f l = some (chk (Col l) true false) := by
  unfold impl_IsValidColumn.f
  simp only [cont76_eq, Option.bind_some]
  by_cases h1 : (l.length : Int) ≤ 4
  · rw [if_pos h1]
    by_cases h2 : All (okW l) 0 (l.length : Int)
    · rw [chk_pos h2, chk_pos (show Col l from ⟨h1, h2⟩)]; rfl
    · rw [chk_neg h2, chk_neg (fun m : Col l => h2 m.2)]; rfl
  · rw [if_neg h1, chk_neg (fun m : Col l => h1 m.1)]
theorem impl_lashed (l : List Int) (L T S : Int) : impl_isLashed.f l L T S = some (chk (Lashed l L T S) true false) := by
  unfold impl_isLashed.f
  simp only [impl_col, impl_within_eq, Option.bind_some, decide_eq_true_eq]
  by_cases h1 : Col l
  · rw [chk_pos h1]
    simp only [if_true]
    by_cases h2 : 1 ≤ L ∧ L ≤ 200000
    · rw [if_pos h2]
      by_cases h3 : 0 ≤ T ∧ T ≤ 100
      · rw [if_pos h3]
        by_cases h4 : 1 ≤ S ∧ S ≤ 100000
        · rw [decide_eq_true h4, chk_pos (show Lashed l L T S from ⟨h1, h2, h3, h4⟩)]
        · rw [decide_eq_false h4, chk_neg (fun m : Lashed l L T S => h4 m.2.2.2)]
      · rw [if_neg h3, chk_neg (fun m : Lashed l L T S => h3 m.2.2.1)]
    · rw [if_neg h2, chk_neg (fun m : Lashed l L T S => h2 m.2.1)]
  · rw [chk_neg h1, chk_neg (fun m : Lashed l L T S => h1 m.1)]
    rfl
theorem spec_col (l : List Int) (hl : (l.length : Int) ≤ 1099511627776) : Ev (fun k => spec_l12Good.f k l) (chk (Col l) true false) := by
  unfold spec_l12Good.f spec_l12Weights.f
  have h := Ev.check (fun k i => spec_l12Weights.l0 k l 4 i) (l.length : Int) (okW l) (decide ((l.length : Int) ≤ 4)) false 0 (by
    refine Ev.step (fun k => by rw [spec_l12Weights.l0]) ?_
    simp only [Int.lt_irrefl, if_false]
    exact Ev.now _) (by
    intro i h0 hlt r hr
    refine Ev.step (fun k => by rw [spec_l12Weights.l0]) ?_
    simp (disch := omega) only [if_pos, wrap64_id, spec_l1In_eq, Option.bind_some, decide_eq_true_eq]
    refine Ev.ite (fun g => ?_) (fun g => ?_)
    · rw [chk_pos (show okW l i from g)]; exact hr
    · rw [chk_neg (show ¬ okW l i from g)]; exact Ev.now _) 0 (by omega) (by omega)
  refine Ev.bind h ?_
  refine Ev.val ?_
  by_cases ha : All (okW l) 0 (l.length : Int)
  · rw [chk_pos ha]
    by_cases h4 : (l.length : Int) ≤ 4
    · rw [decide_eq_true h4, chk_pos (show Col l from ⟨h4, ha⟩)]
    · rw [decide_eq_false h4, chk_neg (fun m : Col l => h4 m.1)]
  · rw [chk_neg ha, chk_neg (fun m : Col l => ha m.2)]
theorem spec_rules (L T S : Int) : spec_l12Rules.f L T S = some (chk (Rules L T S) true false) := by
  unfold spec_l12Rules.f
  simp only [spec_l1In_eq, Option.bind_some, decide_eq_true_eq]
  by_cases h2 : 1 ≤ L ∧ L ≤ 200000
  · rw [if_pos h2]
    by_cases h3 : 0 ≤ T ∧ T ≤ 100
    · rw [if_pos h3]
      by_cases h4 : 1 ≤ S ∧ S ≤ 100000
      · rw [decide_eq_true h4, chk_pos (show Rules L T S from ⟨h2, h3, h4⟩)]
      · rw [decide_eq_false h4, chk_neg (fun m : Rules L T S => h4 m.2.2)]
    · rw [if_neg h3, chk_neg (fun m : Rules L T S => h3 m.2.1)]
  · rw [if_neg h2, chk_neg (fun m : Rules L T S => h2 m.1)]
/-- The sum of d weights from i on. -/
def tot (l : List Int) (i : Int) : Nat → Int
  | 0 => 0
  | d + 1 => tot l i d + rd l (i + d)
theorem tot_succ (l : List Int) (i : Int) (d : Nat) : tot l i (d + 1) = tot l i d + rd l (i + d) := rfl
theorem tot_bd {l : List Int} (h : Col l) (i : Int) (h0 : 0 ≤ i) : ∀ d : Nat, i + d ≤ (l.length : Int) → 0 ≤ tot l i d ∧ tot l i d ≤ 32000 * d := by
  intro d
  induction d with
  | zero => intro _; simp [tot]
  | succ d ih =>
    intro hd
    have := ih (by omega)
    have o := h.2 (i + d) (by omega) (by omega)
    unfold okW at o
    rw [tot_succ]
    omega
/-- The force at the foot of container i. -/
def fr (l : List Int) (T i : Int) : Int := Int.tdiv (T * tot l i (l.length - i.toNat) + 99) 100
theorem rd_drop (l : List Int) (i j : Int) (h0 : 0 ≤ i) (j0 : 0 ≤ j) : rd (l.drop i.toNat) j = rd l (i + j) := by
  unfold rd
  rw [List.getD_eq_getElem?_getD, List.getD_eq_getElem?_getD, List.getElem?_drop, show i.toNat + j.toNat = (i + j).toNat from by omega]
theorem impl_sum {l : List Int} (h : Col l) (i : Int) (h0 : 0 ≤ i) (h1 : i ≤ (l.length : Int)) : Ev (fun k => impl_sumOf.f k (l.drop i.toNat)) (tot l i (l.length - i.toNat)) := by
  have h4 := h.1
  have hd : (((l.drop i.toNat)).length : Int) = (l.length : Int) - i := by rw [List.length_drop]; omega
  unfold impl_sumOf.f
  rw [hd]
  refine Ev.up (fun k (s : Int) j => impl_sumOf.l0 k s (l.drop i.toNat) ((l.length : Int) - i) j) (fun _ _ => tot l i (l.length - i.toNat)) (fun s j => 0 ≤ j ∧ s = tot l i j.toNat) ((l.length : Int) - i) ?_ ?_ 0 0 ⟨by omega, rfl⟩ (by omega)
  · rintro s ⟨_, rfl⟩
    refine Ev.step (fun k => by rw [impl_sumOf.l0]) ?_
    simp only [Int.lt_irrefl, if_false]
    rw [show ((l.length : Int) - i).toNat = l.length - i.toNat from by omega]
    exact Ev.now _
  · rintro s j ⟨j0, rfl⟩ jlt ih
    have b := tot_bd h i h0 j.toNat (by omega)
    have o := h.2 (i + j) (by omega) (by omega)
    unfold okW at o
    refine Ev.step (fun k => by rw [impl_sumOf.l0]) ?_
    simp (disch := omega) only [if_pos, wrap64_id, rd_drop]
    refine ih _ ⟨by omega, ?_⟩
    rw [show (j + 1).toNat = j.toNat + 1 from by omega, tot_succ, show ((j.toNat : Nat) : Int) = j from by omega]
theorem spec_sum {l : List Int} (h : Col l) (i : Int) (h0 : 0 ≤ i) (h1 : i ≤ (l.length : Int)) : Ev (fun k => spec_l12Sum.f k l i) (tot l i (l.length - i.toNat)) := by
  have h4 := h.1
  unfold spec_l12Sum.f
  refine Ev.up (fun k (s : Int) j => spec_l12Sum.l0 k l s j) (fun _ _ => tot l i (l.length - i.toNat)) (fun s j => i ≤ j ∧ s = tot l i (j - i).toNat) (l.length : Int) ?_ ?_ 0 i ⟨by omega, by rw [show (i - i).toNat = 0 from by omega]; rfl⟩ (by omega)
  · rintro s ⟨_, rfl⟩
    refine Ev.step (fun k => by rw [spec_l12Sum.l0]) ?_
    simp only [Int.lt_irrefl, if_false]
    rw [show ((l.length : Int) - i).toNat = l.length - i.toNat from by omega]
    exact Ev.now _
  · rintro s j ⟨j0, rfl⟩ jlt ih
    have b := tot_bd h i h0 (j - i).toNat (by omega)
    have o := h.2 j (by omega) (by omega)
    unfold okW at o
    refine Ev.step (fun k => by rw [spec_l12Sum.l0]) ?_
    simp (disch := omega) only [if_pos, wrap64_id]
    refine ih _ ⟨by omega, ?_⟩
    rw [show (j + 1 - i).toNat = (j - i).toNat + 1 from by omega, tot_succ, show i + (((j - i).toNat : Nat) : Int) = j from by omega]
def forcesTo (l : List Int) (T : Int) : Nat → List Int
  | 0 => []
  | d + 1 => forcesTo l T d ++ [fr l T d]
theorem forcesTo_succ (l : List Int) (T : Int) (d : Nat) : forcesTo l T (d + 1) = forcesTo l T d ++ [fr l T d] := rfl
theorem forces_len (l : List Int) (T : Int) : ∀ d : Nat, (forcesTo l T d).length = d := by
  intro d
  induction d with
  | zero => rfl
  | succ d ih => rw [forcesTo_succ, List.length_append, ih]; rfl
theorem prod_bd {l : List Int} (h : Col l) (T : Int) (hT : 0 ≤ T ∧ T ≤ 100) (i : Int) (h0 : 0 ≤ i) (h1 : i ≤ (l.length : Int)) : 0 ≤ T * tot l i (l.length - i.toNat) ∧ T * tot l i (l.length - i.toNat) ≤ 12800000 := by
  have h4 := h.1
  have b := tot_bd h i h0 (l.length - i.toNat) (by omega)
  have m := mul_bd (x := T) (y := tot l i (l.length - i.toNat)) (A := 100) (B := 128000) (by omega) (by omega) (by omega) (by omega) (by omega) (by omega)
  exact ⟨Int.mul_nonneg hT.1 b.1, by omega⟩
theorem fr_bd {l : List Int} (h : Col l) (T : Int) (hT : 0 ≤ T ∧ T ≤ 100) (i : Int) (h0 : 0 ≤ i) (h1 : i ≤ (l.length : Int)) : 0 ≤ fr l T i ∧ fr l T i ≤ 200000 := by
  have p := prod_bd h T hT i h0 h1
  unfold fr
  rw [Int.tdiv_eq_ediv_of_nonneg (by omega)]
  omega
theorem forces_mem {l : List Int} (h : Col l) (T : Int) (hT : 0 ≤ T ∧ T ≤ 100) : ∀ d : Nat, d ≤ l.length → ∀ x ∈ forcesTo l T d, 0 ≤ x ∧ x ≤ 200000 := by
  intro d
  induction d with
  | zero => intro _ x hx; cases hx
  | succ d ih =>
    intro hd x hx
    rw [forcesTo_succ, List.mem_append] at hx
    rcases hx with hx | hx
    · exact ih (by omega) x hx
    · rw [List.mem_singleton] at hx
      rw [hx]
      exact fr_bd h T hT d (by omega) (by omega)
theorem rd_mem (xs : List Int) (i : Int) (h0 : 0 ≤ i) (h1 : i < (xs.length : Int)) : rd xs i ∈ xs := by
  unfold rd
  rw [List.getD_eq_getElem?_getD, List.getElem?_eq_getElem (show i.toNat < xs.length by omega)]
  exact List.getElem_mem _
theorem impl_forces {l : List Int} (L T S : Int) (h : Col l) (hT : 0 ≤ T ∧ T ≤ 100) : Ev (fun k => impl_forcesOf.f k l L T S) (forcesTo l T l.length) := by
  have h4 := h.1
  unfold impl_forcesOf.f
  refine Ev.up (fun k (s : List Int) j => impl_forcesOf.l0 k l s (l.length : Int) j L T S) (fun _ _ => forcesTo l T l.length) (fun s j => 0 ≤ j ∧ s = forcesTo l T j.toNat) (l.length : Int) ?_ ?_ [] 0 ⟨by omega, rfl⟩ (by omega)
  · rintro s ⟨_, rfl⟩
    refine Ev.step (fun k => by rw [impl_forcesOf.l0]) ?_
    simp only [Int.lt_irrefl, if_false, Int.toNat_natCast]
    exact Ev.now _
  · rintro s j ⟨j0, rfl⟩ jlt ih
    have p := prod_bd h T hT j j0 (by omega)
    have fl := forces_len l T j.toNat
    refine Ev.step (fun k => by rw [impl_forcesOf.l0]) ?_
    simp (disch := omega) only [if_pos]
    refine Ev.bind (impl_sum h j j0 (by omega)) ?_
    have e : impl_ceiling.f (wrap64 (T * tot l j (l.length - j.toNat))) 100 = some (fr l T j) := by
      unfold impl_ceiling.f fr
      rw [if_neg (by decide), wrap64_id (x := T * tot l j (l.length - j.toNat)) (by omega) (by omega), wrap64_id (x := T * tot l j (l.length - j.toNat) + 100) (by omega) (by omega), wrap64_id (x := T * tot l j (l.length - j.toNat) + 100 - 1) (by omega) (by omega), show T * tot l j (l.length - j.toNat) + 100 - 1 = T * tot l j (l.length - j.toNat) + 99 from by omega]
      rw [wrap64_id]
      · rw [Int.tdiv_eq_ediv_of_nonneg (by omega)]; omega
      · rw [Int.tdiv_eq_ediv_of_nonneg (by omega)]; omega
    rw [e]
    simp (disch := omega) only [if_pos, Option.bind_some, wrap64_id]
    refine ih _ ⟨by omega, ?_⟩
    rw [show (j + 1).toNat = j.toNat + 1 from by omega, forcesTo_succ, show ((j.toNat : Nat) : Int) = j from by omega]
theorem spec_forces {l : List Int} (T : Int) (h : Col l) (hT : 0 ≤ T ∧ T ≤ 100) : Ev (fun k => spec_l12Forces.f k l T) (forcesTo l T l.length) := by
  have h4 := h.1
  unfold spec_l12Forces.f
  refine Ev.up (fun k (s : List Int) j => spec_l12Forces.l0 k l T s j) (fun _ _ => forcesTo l T l.length) (fun s j => 0 ≤ j ∧ s = forcesTo l T j.toNat) (l.length : Int) ?_ ?_ [] 0 ⟨by omega, rfl⟩ (by omega)
  · rintro s ⟨_, rfl⟩
    refine Ev.step (fun k => by rw [spec_l12Forces.l0]) ?_
    simp only [Int.lt_irrefl, if_false, Int.toNat_natCast]
    exact Ev.now _
  · rintro s j ⟨j0, rfl⟩ jlt ih
    have p := prod_bd h T hT j j0 (by omega)
    have fl := forces_len l T j.toNat
    refine Ev.step (fun k => by rw [spec_l12Forces.l0]) ?_
    simp (disch := omega) only [if_pos]
    refine Ev.bind (spec_sum h j j0 (by omega)) ?_
    have e : wrap64 (Int.tdiv (wrap64 ((wrap64 (tot l j (l.length - j.toNat) * T)) + 99)) 100) = fr l T j := by
      unfold fr
      rw [Int.mul_comm (tot l j (l.length - j.toNat)) T, wrap64_id (x := T * tot l j (l.length - j.toNat)) (by omega) (by omega), wrap64_id (x := T * tot l j (l.length - j.toNat) + 99) (by omega) (by omega)]
      rw [wrap64_id]
      · rw [Int.tdiv_eq_ediv_of_nonneg (by omega)]; omega
      · rw [Int.tdiv_eq_ediv_of_nonneg (by omega)]; omega
    rw [e]
    simp (disch := omega) only [if_pos, wrap64_id]
    refine ih _ ⟨by omega, ?_⟩
    rw [show (j + 1).toNat = j.toNat + 1 from by omega, forcesTo_succ, show ((j.toNat : Nat) : Int) = j from by omega]
noncomputable def forcesR (l : List Int) (L T S : Int) : List Int × Bool := chk (Lashed l L T S) (forcesTo l T l.length, true) ([], false)
theorem forcesR_len (l : List Int) (L T S : Int) : ((forcesR l L T S).1.length : Int) ≤ 4 := by
  unfold forcesR
  by_cases h : Lashed l L T S
  · rw [chk_pos h]
    have := h.1.1
    show ((forcesTo l T l.length).length : Int) ≤ 4
    rw [forces_len]; exact this
  · rw [chk_neg h]; decide
theorem impl_LashF (l : List Int) (L T S : Int) : Ev (fun k => impl_LashForces.f k l L T S) (forcesR l L T S) := by
  unfold impl_LashForces.f forcesR
  simp only [impl_lashed, Option.bind_some]
  refine Ev.ite (fun h => ?_) (fun h => ?_)
  · have h := chk_true.1 h
    rw [chk_pos h]
    exact Ev.bind (impl_forces L T S h.1 h.2.2.1) (Ev.now _)
  · rw [chk_neg (fun m => h (chk_true.2 m))]; exact Ev.now _
theorem spec_LashF (l : List Int) (hl : (l.length : Int) ≤ 1099511627776) (L T S : Int) : Ev (fun k => spec_LashForces.f k l L T S) (forcesR l L T S) := by
  unfold spec_LashForces.f forcesR
  refine Ev.bind (spec_col l hl) ?_
  refine Ev.ite (fun h => ?_) (fun h => ?_)
  · have h := chk_true.1 h
    simp only [spec_rules, Option.bind_some]
    refine Ev.ite (fun g => ?_) (fun g => ?_)
    · have g := chk_true.1 g
      rw [chk_pos (show Lashed l L T S from ⟨h, g⟩)]
      exact Ev.bind (spec_forces T h g.2.1) (Ev.now _)
    · rw [chk_neg (fun m : Lashed l L T S => g (chk_true.2 m.2))]; exact Ev.now _
  · rw [chk_neg (fun m : Lashed l L T S => h (chk_true.2 m.1))]; exact Ev.now _
/-- The lashings for forces, from index i on. -/
def need (F : List Int) (S : Int) : Nat → Int → List Int → List Int × Bool
  | 0, _, a => (a, true)
  | d + 1, i, a => if Int.tdiv (rd F i + S - 1) S > 4 then ([], false) else need F S d (i + 1) (a ++ [Int.tdiv (rd F i + S - 1) S])
theorem need_succ (F : List Int) (S : Int) (d : Nat) (i : Int) (a : List Int) : need F S (d + 1) i a = if Int.tdiv (rd F i + S - 1) S > 4 then ([], false) else need F S d (i + 1) (a ++ [Int.tdiv (rd F i + S - 1) S]) := rfl
theorem need_len (F : List Int) (S : Int) : ∀ (d : Nat) (i : Int) (a : List Int), ((need F S d i a).1.length : Int) ≤ d + a.length := by
  intro d
  induction d with
  | zero => intro i a; show (a.length : Int) ≤ _; omega
  | succ d ih =>
    intro i a
    rw [need_succ]
    split
    · show ((0 : Nat) : Int) ≤ _; omega
    · have := ih (i + 1) (a ++ [Int.tdiv (rd F i + S - 1) S])
      rw [List.length_append, List.length_singleton] at this
      omega
theorem tdiv_bd (x S : Int) (h0 : 0 ≤ x) (h1 : x ≤ 1000000) (hS : 1 ≤ S) : 0 ≤ Int.tdiv x S ∧ Int.tdiv x S ≤ 1000000 := by
  rw [Int.tdiv_eq_ediv_of_nonneg h0]
  refine ⟨Int.ediv_nonneg h0 (by omega), ?_⟩
  have := Int.ediv_le_self S h0
  omega
theorem impl_need (F : List Int) (L T S : Int) (hS : 1 ≤ S ∧ S ≤ 100000) (hF : ∀ x ∈ F, 0 ≤ x ∧ x ≤ 200000) (h4 : (F.length : Int) ≤ 4) : ∀ (d : Nat) (i : Int) (a : List Int), 0 ≤ i → i + d = (F.length : Int) → (a.length : Int) ≤ i → Ev (fun k => impl_LashingsNeeded.l0 k a F (F.length : Int) i L T S) (need F S d i a) := by
  intro d
  induction d with
  | zero =>
    intro i a i0 hd ha
    refine Ev.step (fun k => by rw [impl_LashingsNeeded.l0]) ?_
    simp (disch := omega) only [if_neg]
    exact Ev.now _
  | succ d ih =>
    intro i a i0 hd ha
    have m := hF _ (rd_mem F i i0 (by omega))
    have t := tdiv_bd (rd F i + S - 1) S (by omega) (by omega) (by omega)
    refine Ev.step (fun k => by rw [impl_LashingsNeeded.l0]) ?_
    simp (disch := omega) only [if_pos, if_neg, impl_ceiling.f, Option.bind_some, wrap64_id]
    rw [need_succ]
    refine Ev.ite (fun g => ?_) (fun g => ?_)
    · rw [if_pos g]; exact Ev.now _
    · rw [if_neg g]
      exact ih (i + 1) _ (by omega) (by omega) (by rw [List.length_append, List.length_singleton]; omega)
theorem spec_need (F : List Int) (L T S : Int) (hS : 1 ≤ S ∧ S ≤ 100000) (hF : ∀ x ∈ F, 0 ≤ x ∧ x ≤ 200000) (h4 : (F.length : Int) ≤ 4) : ∀ (d : Nat) (i : Int) (a : List Int), 0 ≤ i → i + d = (F.length : Int) → (a.length : Int) ≤ i → Ev (fun k => spec_LashingsNeeded.l0 k a F i L T S) (need F S d i a) := by
  intro d
  induction d with
  | zero =>
    intro i a i0 hd ha
    refine Ev.step (fun k => by rw [spec_LashingsNeeded.l0]) ?_
    simp (disch := omega) only [if_neg]
    exact Ev.now _
  | succ d ih =>
    intro i a i0 hd ha
    have m := hF _ (rd_mem F i i0 (by omega))
    have t := tdiv_bd (rd F i + S - 1) S (by omega) (by omega) (by omega)
    refine Ev.step (fun k => by rw [spec_LashingsNeeded.l0]) ?_
    simp (disch := omega) only [if_pos, if_neg, wrap64_id]
    rw [need_succ]
    refine Ev.ite (fun g => ?_) (fun g => ?_)
    · rw [if_pos g]; exact Ev.now _
    · rw [if_neg g]
      exact ih (i + 1) _ (by omega) (by omega) (by rw [List.length_append, List.length_singleton]; omega)
noncomputable def needR (l : List Int) (L T S : Int) : List Int × Bool := chk (Lashed l L T S) (need (forcesTo l T l.length) S l.length 0 []) ([], false)
theorem needR_len (l : List Int) (L T S : Int) : ((needR l L T S).1.length : Int) ≤ 4 := by
  unfold needR
  by_cases h : Lashed l L T S
  · rw [chk_pos h]
    have := h.1.1
    have n := need_len (forcesTo l T l.length) S l.length 0 []
    rw [List.length_nil] at n
    omega
  · rw [chk_neg h]; decide
theorem impl_LashN (l : List Int) (L T S : Int) : Ev (fun k => impl_LashingsNeeded.f k l L T S) (needR l L T S) := by
  unfold impl_LashingsNeeded.f needR
  simp only [impl_lashed, Option.bind_some]
  refine Ev.ite (fun h => ?_) (fun h => ?_)
  · have h := chk_true.1 h
    rw [chk_pos h]
    have h4 := h.1.1
    have fl := forces_len l T l.length
    refine Ev.bind (impl_forces L T S h.1 h.2.2.1) ?_
    exact impl_need _ L T S h.2.2.2 (forces_mem h.1 T h.2.2.1 l.length (Nat.le_refl _)) (by omega) l.length 0 [] (by omega) (by omega) (by simp)
  · rw [chk_neg (fun m => h (chk_true.2 m))]; exact Ev.now _
theorem spec_LashN (l : List Int) (hl : (l.length : Int) ≤ 1099511627776) (L T S : Int) : Ev (fun k => spec_LashingsNeeded.f k l L T S) (needR l L T S) := by
  have no : ¬ Lashed l L T S → Ev (fun k => spec_LashingsNeeded.j0 k l [] true L T S) (needR l L T S) := by
    intro h
    unfold needR
    rw [chk_neg h]
    refine Ev.step (fun k => by rw [spec_LashingsNeeded.j0]) ?_
    simp only [if_true]; exact Ev.now _
  unfold spec_LashingsNeeded.f
  simp only [Option.bind_some]
  refine Ev.bind (spec_col l hl) ?_
  refine Ev.ite (fun h => ?_) (fun h => no (fun m => h (chk_true.2 m.1)))
  have h := chk_true.1 h
  simp only [spec_rules, Option.bind_some]
  by_cases g : Rules L T S
  · rw [chk_pos g]
    refine Ev.step (fun k => by rw [spec_LashingsNeeded.j0]) ?_
    simp only [Bool.not_true, Bool.false_eq_true, if_false]
    refine Ev.bind (spec_forces T h g.2.1) ?_
    unfold needR
    rw [chk_pos (show Lashed l L T S from ⟨h, g⟩)]
    have h4 := h.1
    have fl := forces_len l T l.length
    exact spec_need _ L T S g.2.2 (forces_mem h T g.2.1 l.length (Nat.le_refl _)) (by omega) l.length 0 [] (by omega) (by omega) (by simp)
  · rw [chk_neg g]
    exact no (fun m => g m.2)
end Go.Proofs.Ytcgfedaoimhejaa.G
