/- Texts of the proof of FnExactPathLengthTo, joined in build order. -/
import Derived.Test.YtbpccdbkaiigcaaMgFnExactPathLengthTo3
import Derived.Test.YtbpccdbkaiigcaaMgFnExactPathLengthTo1
import Derived.Test.YtbpccdbkaiigcaaMgFnExactPathLengthTo2
/- The search by breadth, as a pure function, and what the walks hold of the world while they search. -/
namespace Go.Proofs.Ytbpccdbkaiigcaa.G
open Go.RowKit Go.Proofs.YtbpccdbkaiigcaaW.PrintWords Go.Proofs.YtbpccdbkaiigcaaW.PrintLast Go.Proofs.YtbpccdbkaiigcaaW.PrintMore
set_option linter.unusedVariables false
set_option linter.unusedSimpArgs false
/-- The neighbours of a cell, one behind another: what is new is noted and stands in line. -/
def stepIn (x : Int) : List S48 → Mp → List S48 → Mp × List S48
  | [], m, q => (m, q)
  | d :: ds, m, q => match m d with
    | some _ => stepIn x ds m q
    | none => stepIn x ds (upd m d x) (q ++ [d])
def bfs (nb : S48 → List S48) : Nat → Mp → List S48 → Option Mp
  | 0, _, _ => none
  | _ + 1, m, [] => some m
  | k + 1, m, c :: q => match m c with
    | none => none
    | some v => if q.length < 1000 ∧ 0 ≤ v ∧ v < 1000 then bfs nb k (stepIn (v + 1) (nb c) m q).1 (stepIn (v + 1) (nb c) m q).2 else none
theorem stepIn_some {x : Int} {d : S48} {ds : List S48} {m : Mp} {q : List S48} {v : Int} (h : m d = some v) : stepIn x (d :: ds) m q = stepIn x ds m q := by rw [stepIn, h]
theorem stepIn_none {x : Int} {d : S48} {ds : List S48} {m : Mp} {q : List S48} (h : m d = none) : stepIn x (d :: ds) m q = stepIn x ds (upd m d x) (q ++ [d]) := by rw [stepIn, h]
theorem drop48 (ds : List S48) (x : Int) (h0 : 0 ≤ x) (h1 : x < (ds.length : Int)) : ds.drop x.toNat = rd_T48 ds x :: ds.drop (x + 1).toNat := by
  unfold rd_T48
  rw [List.getD_eq_getElem?_getD, List.getElem?_eq_getElem (by omega), show (x + 1).toNat = x.toNat + 1 from by omega]
  exact List.drop_eq_getElem_cons (by omega)
theorem mem48 (ds : List S48) (x : Int) (h0 : 0 ≤ x) (h1 : x < (ds.length : Int)) : rd_T48 ds x ∈ ds := by
  unfold rd_T48
  rw [List.getD_eq_getElem?_getD, List.getElem?_eq_getElem (by omega)]
  exact List.getElem_mem _
/-- What the search's walk holds of the world. -/
structure SF (w0 w : World) (fc : Array Value) (g2 b n : Nat) (m : Mp) (v6 : Value) (l : List S48) (vn : Value) (ds : List S48) : Prop where
  fl : w.heap[g2]? = some (.cells fc 29 (0, 0))
  mp : MapI w b n m
  mb : w0.heap.size ≤ b
  gb : w0.heap.size ≤ g2
  ln : Kd.Q k48 48 w w0.heap.size (fun k => k ≠ b ∧ k ≠ g2) v6 l
  nb : Kd.R k48 48 w w0.heap.size (fun k => (k ≠ b ∧ k ≠ g2) ∧ some k ≠ v6.ownBlock) vn ds
  bl : Below w0.heap.size w0 w
theorem SF.below {w0 w w1 : World} {fc : Array Value} {g2 b n : Nat} {m : Mp} {v6 vn : Value} {l ds : List S48} (h : SF w0 w fc g2 b n m v6 l vn ds) (hb : Below w.heap.size w w1) : SF w0 w1 fc g2 b n m v6 l vn ds :=
  ⟨blk_below h.fl hb, h.mp.below hb, h.mb, h.gb, Kd.Q_below h.ln hb, Kd.R_below h.nb hb, below_step h.bl hb⟩
theorem SF.put {w0 w w1 : World} {fc : Array Value} {g2 b n n' : Nat} {m m' : Mp} {v6 vn : Value} {l ds : List S48} (h : SF w0 w fc g2 b n m v6 l vn ds) (hm : MapI w1 b n' m') (hg : w.grownBy w1 (some b)) : SF w0 w1 fc g2 b n' m' v6 l vn ds :=
  ⟨(hg.block g2 (blk_lt h.fl) (fun e => h.mp.cells h.fl (Option.some.inj e).symm)).trans h.fl, hm, h.mb, h.gb, Kd.Q_grown h.ln hg (fun k hk e => hk.1 (Option.some.inj e)), Kd.R_grown h.nb hg (fun k hk e => hk.1.1 (Option.some.inj e)), h.bl.grown hg h.bl.size (fun k hk => by cases hk; exact h.mb)⟩
theorem SF.app {w0 w w1 : World} {fc : Array Value} {g2 b n : Nat} {m : Mp} {v6 v7 vn : Value} {l l' ds : List S48} (h : SF w0 w fc g2 b n m v6 l vn ds) (hq : Kd.Q k48 48 w1 w0.heap.size (fun k => k ≠ b ∧ k ≠ g2) v7 l') (hb : Below w0.heap.size w0 w1) (hg : w.grownBy w1 v6.ownBlock) (hat : v7.ownBlock = v6.ownBlock ∨ ∃ b, v7.ownBlock = some b ∧ w.heap.size ≤ b) : SF w0 w1 fc g2 b n m v7 l' vn ds :=
  ⟨(hg.block g2 (blk_lt h.fl) (Kd.Q_ne h.ln h.fl (by decide))).trans h.fl, h.mp.grown hg (Kd.Q_away h.ln (fun k hk => hk.1)), h.mb, h.gb, hq, Kd.R_after h.nb hg hat, hb⟩
/-- The neighbours have come: their list is a new one. -/
theorem SF.near {w0 w w1 : World} {fc : Array Value} {g2 b n : Nat} {m : Mp} {v6 vn vn' : Value} {l ds ds' : List S48} (h : SF w0 w fc g2 b n m v6 l vn ds) (hb : Below w.heap.size w w1) (hr : Kd.R k48 48 w1 w.heap.size (fun _ => True) vn' ds') : SF w0 w1 fc g2 b n m v6 l vn' ds' :=
  have h' := h.below hb
  ⟨h'.fl, h'.mp, h.mb, h.gb, h'.ln, Kd.R_lower (Kd.R_mono (Kd.R_bound hr) (fun k hk => ⟨⟨fun e => by have := h.mp.lt; have := hk.2.1; omega, fun e => by have := blk_lt h.fl; have := hk.2.1; omega⟩, fun e => by have := Kd.Q_lt h.ln k e.symm; have := hk.2.1; omega⟩)) h.bl.size, h'.bl⟩
theorem SF.next {w0 w : World} {fc : Array Value} {g2 b n : Nat} {m : Mp} {A : Option Addr} {nn c : Nat} {vn : Value} {x : S48} {l ds : List S48} (h : SF w0 w fc g2 b n m (.slice A nn c) (x :: l) vn ds) : SF w0 w fc g2 b n m (.slice (if c = 1 then A else A.map (·.add (1 * 2))) (nn - 1) (c - 1)) l (.slice none 0 0) [] :=
  ⟨h.fl, h.mp, h.mb, h.gb, Kd.Q_drop (k := 1) h.ln (by simp), Kd.R_nil _ _ _ _ _, h.bl⟩
end Go.Proofs.Ytbpccdbkaiigcaa.G

-- Written by wip/tools/gen.py out of the translation (the kit's printer, one namespace a seat). Lean checks it.
namespace Go.Proofs.Ytbpccdbkaiigcaa.G
open Go.RowKit Go.Proofs.YtbpccdbkaiigcaaW.PrintWords Go.Proofs.YtbpccdbkaiigcaaW.PrintLast Go.Proofs.YtbpccdbkaiigcaaW.PrintMore
attribute [local go_sem] max2_int min2_int max_two min_two max_three min_three max_four min_four   -- for this text's walks alone
set_option linter.unusedVariables false
set_option linter.unusedSimpArgs false

/-! ### impl_around: function 70 -/
def impl_around.l0 : Nat → List (S48) → List (S48) → Int → Int → Int → Int → List (S48) → Int → Int → Option ((List (S48)))
 | 0, _, _, _, _, _, _, _, _, _ => none
 | k + 1, x5, x15, x16, x17, x441000, x441001, x441002, x442000, x442001 => if x17 < x16 then (if 0 ≤ x17 then (if x17 < (x15.length : Int) then ((impl_isFree.f k x441000 x441001 x441002 (wrap64 (x442000 + ((rd_T48 x15 x17).f0))) (wrap64 (x442001 + ((rd_T48 x15 x17).f1)))).bind fun t451 => (if t451 = true then (if x5.length < 8796093022208 then (impl_around.l0 k (x5 ++ [(⟨wrap64 (x442000 + ((rd_T48 x15 x17).f0)), wrap64 (x442001 + ((rd_T48 x15 x17).f1))⟩ : S48)]) x15 x16 (wrap64 (x17 + 1)) x441000 x441001 x441002 x442000 x442001) else (none)) else (impl_around.l0 k x5 x15 x16 (wrap64 (x17 + 1)) x441000 x441001 x441002 x442000 x442001))) else (none)) else (none)) else (some x5)
def impl_around.f (k : Nat) (a0_0 : Int) (a0_1 : Int) (l0_2 : List (S48)) (a1_0 : Int) (a1_1 : Int) : Option ((List (S48))) := (some (([(⟨0, (-1)⟩ : S48), (⟨(-1), 0⟩ : S48), (⟨0, 0⟩ : S48), (⟨1, 0⟩ : S48), (⟨0, 1⟩ : S48)] : List (S48)) : List (S48))).bind fun y445 => (impl_around.l0 k (([] : List (S48))) y445 (y445.length : Int) 0 a0_0 a0_1 l0_2 a1_0 a1_1)
set_option maxHeartbeats 8000000 in
set_option maxRecDepth 100000 in
theorem impl_around.calls (k : Nat) (a0_0 : Int) (a0_1 : Int) (A0_2 : Option Addr) (c0_2 : Nat) (l0_2 : List (S48)) (a1_0 : Int) (a1_1 : Int) (r : List (S48)) (w : World) (hr0_2 : Kd.C k48 w A0_2 l0_2.length l0_2) (hc0_2 : l0_2.length ≤ c0_2) (h : impl_around.f k a0_0 a0_1 l0_2 a1_0 a1_1 = some r) :
  Calls Try.prog 70 #[.agg #[.int .i64 a0_0, .int .i64 a0_1, .slice A0_2 l0_2.length c0_2], .agg #[.int .i64 a1_0, .int .i64 a1_1]] w fun e w' => ∃ v0_ : Value, e = .returned (v0_) ∧ Kd.R k48 48 w' w.heap.size (fun _ => True) v0_ r ∧ Below w.heap.size w w' := by
 have hu29 := Try.underlying29
 have hu48 := Try.underlying48
 have HR0_2 := Aside0.mk hr0_2
 have HC0_2 := Aside0.mk hc0_2
 clear hr0_2 hc0_2
 have HB := Aside0.mk (Below.refl w.heap.size w)
 have H : ((some (([(⟨0, (-1)⟩ : S48), (⟨(-1), 0⟩ : S48), (⟨0, 0⟩ : S48), (⟨1, 0⟩ : S48), (⟨0, 1⟩ : S48)] : List (S48)) : List (S48))).bind fun y445 => (impl_around.l0 k (([] : List (S48))) y445 (y445.length : Int) 0 a0_0 a0_1 l0_2 a1_0 a1_1)) = some r := h
 clear h
 obtain ⟨y442, hy442⟩ : ∃ y_ : List (S48), y_ = (([] : List (S48))) := ⟨_, rfl⟩
 replace H : ((some (([(⟨0, (-1)⟩ : S48), (⟨(-1), 0⟩ : S48), (⟨0, 0⟩ : S48), (⟨1, 0⟩ : S48), (⟨0, 1⟩ : S48)] : List (S48)) : List (S48))).bind fun y445 => (impl_around.l0 k y442 y445 (y445.length : Int) 0 a0_0 a0_1 l0_2 a1_0 a1_1)) = some r := by first | (rw [hy442]; with_reducible exact H) | (have H2_ := (Option.bind_some _ _).symm.trans H; rw [hy442]; with_reducible exact H2_) | (have H2_ := (Option.bind_some _ _).symm.trans H; with_reducible exact H2_) | with_reducible exact H | (rw [hy442]; exact H) | exact H
 have Ny442 := Aside0.mk hy442
 clear hy442
 obtain ⟨y445, hy445⟩ : ∃ y_ : List (S48), y_ = (([(⟨0, (-1)⟩ : S48), (⟨(-1), 0⟩ : S48), (⟨0, 0⟩ : S48), (⟨1, 0⟩ : S48), (⟨0, 1⟩ : S48)] : List (S48))) := ⟨_, rfl⟩
 replace H : (impl_around.l0 k y442 y445 (y445.length : Int) 0 a0_0 a0_1 l0_2 a1_0 a1_1) = some r := by first | (rw [hy445]; with_reducible exact H) | (have H2_ := (Option.bind_some _ _).symm.trans H; rw [hy445]; with_reducible exact H2_) | (have H2_ := (Option.bind_some _ _).symm.trans H; with_reducible exact H2_) | with_reducible exact H | (rw [hy445]; exact H) | exact H
 have Ny445 := Aside0.mk hy445
 clear hy445
 have H' := Aside0.mk H
 clear H
 go_enter Try.func70, Try.ntmps70
 go_wp2_with (first | ((with_reducible refine gate_dst (N := 2) rfl ?_); refine box_event ?hg (N := 2) ?hd (cs := #[.int .i64 a0_0, .int .i64 a0_1, .slice A0_2 l0_2.length c0_2]) (t := 29) ?hr ?_; (case hd => rfl); (case hg => rfl); (case hr => first | (go_simp; done) | (go_simp; rfl)); intro gb440 hg w3 hbox hb; have n0_ := Aside0.mk (below_step (by repeat (first | (with_reducible first | exact HB.out | apply below_alloc | apply pw_below_drewN | apply below_drew1) | exact HB.out)) hb); have n1_ := Aside0.mk (hbox); have n2_ := Aside0.mk ((by rw [hg]; exact (below_size (by repeat (first | (with_reducible first | exact HB.out | apply below_alloc | apply pw_below_drewN | apply below_drew1) | exact HB.out))) : w.heap.size ≤ gb440)); have n3_ := Aside0.mk ((by rw [hg]; exact (below_size (by repeat (first | (with_reducible first | exact HB.out | apply below_alloc | apply pw_below_drewN | apply below_drew1) | exact HB.out))) : w.heap.size ≤ gb440)); clear HB; have HB := n0_; have BK440 := n1_; have GW440 := n2_; have GE440 := n3_; clear n0_ n1_ n2_ n3_; clear hb hbox hg) | ((with_reducible refine gate_dst (N := 3) rfl ?_); refine box_event ?hg (N := 3) ?hd (cs := #[.int .i64 a1_0, .int .i64 a1_1]) (t := 48) ?hr ?_; (case hd => rfl); (case hg => rfl); (case hr => first | (go_simp; done) | (go_simp; rfl)); intro gb441 hg w4 hbox hb; have n0_ := Aside0.mk (blk_below (g := gb440) (o := .cells #[.int .i64 a0_0, .int .i64 a0_1, .slice A0_2 l0_2.length c0_2] 29 (0, 0)) (by (with_reducible repeat (first | refine blk_drewN ?_ _ | refine blk_drew ?_ | refine blk_alloc ?_ _)); exact BK440.out) hb); have n1_ := Aside0.mk (below_step (by repeat (first | (with_reducible first | exact HB.out | apply below_alloc | apply pw_below_drewN | apply below_drew1 | refine below_set ?_ GE440.out) | exact HB.out)) hb); have n2_ := Aside0.mk (hbox); have n3_ := Aside0.mk ((by rw [hg]; exact (below_size (by repeat (first | (with_reducible first | exact HB.out | apply below_alloc | apply pw_below_drewN | apply below_drew1 | refine below_set ?_ GE440.out) | exact HB.out))) : w.heap.size ≤ gb441)); have n4_ := Aside0.mk ((by rw [hg]; exact (below_size (by repeat (first | (with_reducible first | exact HB.out | apply below_alloc | apply pw_below_drewN | apply below_drew1 | refine below_set ?_ GE440.out) | exact HB.out))) : w.heap.size ≤ gb441)); have n5_ := Aside0.mk ((by rw [hg]; exact Nat.ne_of_lt (blk_lt (g := gb440) (o := .cells #[.int .i64 a0_0, .int .i64 a0_1, .slice A0_2 l0_2.length c0_2] 29 (0, 0)) (by (with_reducible repeat (first | refine blk_drewN ?_ _ | refine blk_drew ?_ | refine blk_alloc ?_ _)); exact BK440.out)) : gb440 ≠ gb441)); have n6_ := Aside0.mk ((by rw [hg]; exact Nat.ne_of_gt (blk_lt (g := gb440) (o := .cells #[.int .i64 a0_0, .int .i64 a0_1, .slice A0_2 l0_2.length c0_2] 29 (0, 0)) (by (with_reducible repeat (first | refine blk_drewN ?_ _ | refine blk_drew ?_ | refine blk_alloc ?_ _)); exact BK440.out)) : gb441 ≠ gb440)); clear BK440; clear HB; have BK440 := n0_; have HB := n1_; have BK441 := n2_; have GW441 := n3_; have GE441 := n4_; have NB440_441 := n5_; have NB441_440 := n6_; clear n0_ n1_ n2_ n3_ n4_ n5_ n6_; clear hb hbox hg) | ((with_reducible refine gate_dst (N := 9) rfl ?_); refine Kd.R_lit k48 _ 48 ?hg (N := 9) ?hd (xs := ([] : List (S48))) (inner := []) (ok := fun _ => True) (okp := fun _ => True) ?hr ?hp (fun _ hk => hk) trivial (Below.refl _ _) (Nat.le_refl _) (by simp) ?_; (case hd => rfl); (case hg => rfl); (case hr => first | (go_simp; done) | (go_simp; rfl)); (case hp => exact (Reps.none _ _)); intro v443 w5 ho6 hb hg_ hnew_; clear hg_ hnew_; (first | rw [← Ny442.out] at ho6 | (simp only [Int.reduceToNat] at ho6; rw [← Ny442.out] at ho6)); have n0_ := Aside0.mk (Kd.R_lower (Kd.R_newB ho6 (g := gb441) (o := .cells #[.int .i64 a1_0, .int .i64 a1_1] 48 (0, 0)) (by (with_reducible repeat (first | refine blk_drewN ?_ _ | refine blk_drew ?_ | refine blk_alloc ?_ _)); exact BK441.out)) (below_size (by repeat (first | (with_reducible first | exact HB.out | apply below_alloc | apply pw_below_drewN | apply below_drew1 | refine below_set ?_ GE440.out | refine below_set ?_ GE441.out) | exact HB.out)))); have n1_ := Aside0.mk (blk_below (g := gb440) (o := .cells #[.int .i64 a0_0, .int .i64 a0_1, .slice A0_2 l0_2.length c0_2] 29 (0, 0)) (by (with_reducible repeat (first | refine blk_drewN ?_ _ | refine blk_drew ?_ | refine blk_alloc ?_ _)); exact BK440.out) hb); have n2_ := Aside0.mk (blk_below (g := gb441) (o := .cells #[.int .i64 a1_0, .int .i64 a1_1] 48 (0, 0)) (by (with_reducible repeat (first | refine blk_drewN ?_ _ | refine blk_drew ?_ | refine blk_alloc ?_ _)); exact BK441.out) hb); have n3_ := Aside0.mk (below_step (by repeat (first | (with_reducible first | exact HB.out | apply below_alloc | apply pw_below_drewN | apply below_drew1 | refine below_set ?_ GE440.out | refine below_set ?_ GE441.out) | exact HB.out)) hb); clear BK440; clear BK441; clear HB; have HO444 := n0_; have BK440 := n1_; have BK441 := n2_; have HB := n3_; clear n0_ n1_ n2_ n3_; clear hb ho6) | ((with_reducible refine gate_dst (N := 15) rfl ?_); refine Kd.R_lit k48 _ 48 ?hg (N := 15) ?hd (xs := ([(⟨0, (-1)⟩ : S48), (⟨(-1), 0⟩ : S48), (⟨0, 0⟩ : S48), (⟨1, 0⟩ : S48), (⟨0, 1⟩ : S48)] : List (S48))) (inner := [.int .i64 0, .int .i64 (-1), .int .i64 (-1), .int .i64 0, .int .i64 0, .int .i64 0, .int .i64 1, .int .i64 0, .int .i64 0, .int .i64 1]) (ok := fun _ => True) (okp := fun _ => True) ?hr ?hp (fun _ hk => hk) trivial (Below.refl _ _) (Nat.le_refl _) (by simp) ?_; (case hd => rfl); (case hg => rfl); (case hr => first | (go_simp; done) | (go_simp; rfl)); (case hp => exact (Reps.c2 (show Kd.M k48 _ _ _ (⟨0, (-1)⟩ : S48) [.int .i64 0, .int .i64 (-1)] from (k48_mkM _ _ _ (⟨0, (-1)⟩ : S48) )) (Reps.c2 (show Kd.M k48 _ _ _ (⟨(-1), 0⟩ : S48) [.int .i64 (-1), .int .i64 0] from (k48_mkM _ _ _ (⟨(-1), 0⟩ : S48) )) (Reps.c2 (show Kd.M k48 _ _ _ (⟨0, 0⟩ : S48) [.int .i64 0, .int .i64 0] from (k48_mkM _ _ _ (⟨0, 0⟩ : S48) )) (Reps.c2 (show Kd.M k48 _ _ _ (⟨1, 0⟩ : S48) [.int .i64 1, .int .i64 0] from (k48_mkM _ _ _ (⟨1, 0⟩ : S48) )) (Reps.c2 (show Kd.M k48 _ _ _ (⟨0, 1⟩ : S48) [.int .i64 0, .int .i64 1] from (k48_mkM _ _ _ (⟨0, 1⟩ : S48) )) (Reps.none _ _))))))); intro v446 w7 ho8 hb hg_ hnew_; clear hg_ hnew_; (first | rw [← Ny445.out] at ho8 | (simp only [Int.reduceToNat] at ho8; rw [← Ny445.out] at ho8)); have n0_ := Aside0.mk (Kd.R_elder' (by (with_reducible repeat (first | apply Kd.R_alloc | apply Kd.R_drewN | apply Kd.R_drew)); exact HO444.out) (Kd.R_base ho8) hb); have n1_ := Aside0.mk (Kd.R_lower (Kd.R_newB (Kd.R_new' ho8 (Kd.R_lt (by (with_reducible repeat (first | apply Kd.R_alloc | apply Kd.R_drewN | apply Kd.R_drew)); exact HO444.out))) (g := gb441) (o := .cells #[.int .i64 a1_0, .int .i64 a1_1] 48 (0, 0)) (by (with_reducible repeat (first | refine blk_drewN ?_ _ | refine blk_drew ?_ | refine blk_alloc ?_ _)); exact BK441.out)) (below_size (by repeat (first | (with_reducible first | exact HB.out | apply below_alloc | apply pw_below_drewN | apply below_drew1 | refine below_set ?_ GE440.out | refine below_set ?_ GE441.out) | exact HB.out)))); have n2_ := Aside0.mk (blk_below (g := gb440) (o := .cells #[.int .i64 a0_0, .int .i64 a0_1, .slice A0_2 l0_2.length c0_2] 29 (0, 0)) (by (with_reducible repeat (first | refine blk_drewN ?_ _ | refine blk_drew ?_ | refine blk_alloc ?_ _)); exact BK440.out) hb); have n3_ := Aside0.mk (blk_below (g := gb441) (o := .cells #[.int .i64 a1_0, .int .i64 a1_1] 48 (0, 0)) (by (with_reducible repeat (first | refine blk_drewN ?_ _ | refine blk_drew ?_ | refine blk_alloc ?_ _)); exact BK441.out) hb); have n4_ := Aside0.mk (below_step (by repeat (first | (with_reducible first | exact HB.out | apply below_alloc | apply pw_below_drewN | apply below_drew1 | refine below_set ?_ GE440.out | refine below_set ?_ GE441.out) | exact HB.out)) hb); clear HO444; clear BK440; clear BK441; clear HB; have HO444 := n0_; have HO447 := n1_; have BK440 := n2_; have BK441 := n3_; have HB := n4_; clear n0_ n1_ n2_ n3_ n4_; clear hb ho8; obtain ⟨Ao9, co9, eo9⟩ := Kd.R_slice HO447.out; subst eo9))
 go_loopg [5, 17] k (fun kq v5 v17 w' => ∃ (x5_1 : List (S48)) (x17_1 : Int), v17 = .int .i64 x17_1 ∧ Aside0 (impl_around.l0 kq x5_1 y445 (y445.length : Int) x17_1 a0_0 a0_1 l0_2 a1_0 a1_1 = some r) ∧ Aside0 (kq ≤ k) ∧ Aside0 (Kd.R k48 48 w' w.heap.size (fun k_ => some k_ ≠ ((.slice Ao9 y445.length co9) : Value).ownBlock ∧ k_ ≠ gb441) v5 x5_1) ∧ Aside0 (Kd.R k48 48 w' w.heap.size (fun k_ => some k_ ≠ (v5 : Value).ownBlock ∧ k_ ≠ gb441) (.slice Ao9 y445.length co9) y445) ∧ Aside0 (w'.heap[gb440]? = some (.cells #[.int .i64 a0_0, .int .i64 a0_1, (.slice A0_2 l0_2.length c0_2)] 29 (0, 0))) ∧ Aside0 (w'.heap[gb441]? = some (.cells #[.int .i64 a1_0, .int .i64 a1_1] 48 (0, 0))) ∧ Aside0 (Below w.heap.size w w'))
 case atStart => exact ⟨(y442), (0), (by first | rfl | (simp; done) | (simp [*]; done)), H', ⟨Nat.le_refl _⟩, ⟨by (with_reducible repeat (first | apply Kd.R_alloc | apply Kd.R_drewN | apply Kd.R_drew)); exact Kd.R_mono HO444.out (fun _ hk => ⟨hk.2, hk.1.2⟩)⟩, ⟨by (with_reducible repeat (first | apply Kd.R_alloc | apply Kd.R_drewN | apply Kd.R_drew)); exact Kd.R_mono HO447.out (fun _ hk => ⟨hk.1.2, hk.2⟩)⟩, ⟨by (with_reducible repeat (first | refine blk_drewN ?_ _ | refine blk_drew ?_ | refine blk_alloc ?_ _)); exact BK440.out⟩, ⟨by (with_reducible repeat (first | refine blk_drewN ?_ _ | refine blk_drew ?_ | refine blk_alloc ?_ _)); exact BK441.out⟩, ⟨by repeat (first | (with_reducible first | exact HB.out | apply below_alloc | apply pw_below_drewN | apply below_drew1 | refine below_set ?_ GE440.out | refine below_set ?_ GE441.out) | exact HB.out)⟩⟩
 case round =>
  clear H'
  try clear c2
  try clear p2
  try clear c7
  obtain ⟨x5_1, x17_1, rfl, HA, HK1, HO_5, HO_15, BK440, BK441, HB⟩ := hrel
  cases gk with
  | zero => exact absurd HA.out (by simp [impl_around.l0])
  | succ k1 =>
   have H := HA.out
   clear HA
   simp only [impl_around.l0] at H
   by_cases c10 : x17_1 < (y445.length : Int)
   ·rw [if_pos c10] at H
    have c10b0 : decide (x17_1 < (y445.length : Int)) = true := decide_eq_true c10
    clear c10
    by_cases c11 : 0 ≤ x17_1
    ·rw [if_pos c11] at H
     have c11b0 : decide (0 ≤ x17_1) = true := decide_eq_true c11
     clear c11
     by_cases c12 : x17_1 < (y445.length : Int)
     ·rw [if_pos c12] at H
      have c12b0 : decide (x17_1 < (y445.length : Int)) = true := decide_eq_true c12
      clear c12
      replace H := Option.bind_eq_some_iff.mp H
      obtain ⟨t451, A130, H⟩ := H
      replace H : (if t451 = true then (if x5_1.length < 8796093022208 then (impl_around.l0 k1 (x5_1 ++ [(⟨wrap64 (a1_0 + ((rd_T48 y445 x17_1).f0)), wrap64 (a1_1 + ((rd_T48 y445 x17_1).f1))⟩ : S48)]) y445 (y445.length : Int) (wrap64 (x17_1 + 1)) a0_0 a0_1 l0_2 a1_0 a1_1) else (none)) else (impl_around.l0 k1 x5_1 y445 (y445.length : Int) (wrap64 (x17_1 + 1)) a0_0 a0_1 l0_2 a1_0 a1_1)) = some r := H
      have A13 := Aside0.mk A130
      clear A130
      by_cases c14 : t451 = true
      ·subst c14
       have H1 : (if x5_1.length < 8796093022208 then (impl_around.l0 k1 (x5_1 ++ [(⟨wrap64 (a1_0 + ((rd_T48 y445 x17_1).f0)), wrap64 (a1_1 + ((rd_T48 y445 x17_1).f1))⟩ : S48)]) y445 (y445.length : Int) (wrap64 (x17_1 + 1)) a0_0 a0_1 l0_2 a1_0 a1_1) else (none)) = some r := by rw [if_pos rfl] at H; exact H
       clear H
       have H := H1
       clear H1
       by_cases c15 : x5_1.length < 8796093022208
       ·rw [if_pos c15] at H
        have LMc15 := Aside0.mk c15
        clear c15
        obtain ⟨y452, hy452⟩ : ∃ y_ : List (S48), y_ = (x5_1 ++ [(⟨wrap64 (a1_0 + ((rd_T48 y445 x17_1).f0)), wrap64 (a1_1 + ((rd_T48 y445 x17_1).f1))⟩ : S48)]) := ⟨_, rfl⟩
        replace H : (impl_around.l0 k1 y452 y445 (y445.length : Int) (wrap64 (x17_1 + 1)) a0_0 a0_1 l0_2 a1_0 a1_1) = some r := by first | (rw [hy452]; with_reducible exact H) | (have H2_ := (Option.bind_some _ _).symm.trans H; rw [hy452]; with_reducible exact H2_) | (have H2_ := (Option.bind_some _ _).symm.trans H; with_reducible exact H2_) | with_reducible exact H | (rw [hy452]; exact H) | exact H
        have Ny452 := Aside0.mk hy452
        clear hy452
        have H' := Aside0.mk H
        clear H
        have p448 : 0 ≤ (x17_1 : Int) := of_decide_eq_true (by first | (with_reducible assumption) | assumption)
        have q448 : x17_1 < (y445.length : Int) := of_decide_eq_true (by first | (with_reducible assumption) | assumption)
        obtain ⟨ad448, e448, hx448_0, hx448_1⟩ := at_T48 (Kd.R_reads' HO_15.out).2.2 x17_1 p448 q448
        cases e448
        replace p448 := eq_true p448
        replace q448 := eq_true q448
        go_wp2_with (first | ((with_reducible refine gate_dst (N := 7) rfl ?_); refine box_event ?hg (N := 7) ?hd (cs := #[.int .i64 0, .int .i64 0]) (t := 48) ?hr ?_; (case hd => rfl); (case hg => rfl); (case hr => first | (go_simp; done) | (go_simp; rfl)); intro gb449 hg w16 hbox hb; have n0_ := Aside0.mk (Kd.R_below (Kd.R_elderB (by (with_reducible repeat (first | apply Kd.R_alloc | apply Kd.R_drewN | apply Kd.R_drew)); exact HO_5.out) gb449 (Nat.le_of_eq hg.symm)) hb); have n1_ := Aside0.mk (Kd.R_below (Kd.R_elderB (by (with_reducible repeat (first | apply Kd.R_alloc | apply Kd.R_drewN | apply Kd.R_drew)); exact HO_15.out) gb449 (Nat.le_of_eq hg.symm)) hb); have n2_ := Aside0.mk (blk_below (g := gb440) (o := .cells #[.int .i64 a0_0, .int .i64 a0_1, .slice A0_2 l0_2.length c0_2] 29 (0, 0)) (by (with_reducible repeat (first | refine blk_drewN ?_ _ | refine blk_drew ?_ | refine blk_alloc ?_ _)); exact BK440.out) hb); have n3_ := Aside0.mk (blk_below (g := gb441) (o := .cells #[.int .i64 a1_0, .int .i64 a1_1] 48 (0, 0)) (by (with_reducible repeat (first | refine blk_drewN ?_ _ | refine blk_drew ?_ | refine blk_alloc ?_ _)); exact BK441.out) hb); have n4_ := Aside0.mk (below_step (by repeat (first | (with_reducible first | exact HB.out | apply below_alloc | apply pw_below_drewN | apply below_drew1 | refine below_set ?_ GE440.out | refine below_set ?_ GE441.out) | exact HB.out)) hb); have n5_ := Aside0.mk (hbox); have n6_ := Aside0.mk ((by rw [hg]; exact (below_size (by repeat (first | (with_reducible first | exact HB.out | apply below_alloc | apply pw_below_drewN | apply below_drew1 | refine below_set ?_ GE440.out | refine below_set ?_ GE441.out) | exact HB.out))) : w.heap.size ≤ gb449)); have n7_ := Aside0.mk ((by rw [hg]; exact (below_size (by repeat (first | (with_reducible first | exact HB.out | apply below_alloc | apply pw_below_drewN | apply below_drew1 | refine below_set ?_ GE440.out | refine below_set ?_ GE441.out) | exact HB.out))) : w.heap.size ≤ gb449)); have n8_ := Aside0.mk ((by rw [hg]; exact Nat.ne_of_lt (blk_lt (g := gb440) (o := .cells #[.int .i64 a0_0, .int .i64 a0_1, .slice A0_2 l0_2.length c0_2] 29 (0, 0)) (by (with_reducible repeat (first | refine blk_drewN ?_ _ | refine blk_drew ?_ | refine blk_alloc ?_ _)); exact BK440.out)) : gb440 ≠ gb449)); have n9_ := Aside0.mk ((by rw [hg]; exact Nat.ne_of_gt (blk_lt (g := gb440) (o := .cells #[.int .i64 a0_0, .int .i64 a0_1, .slice A0_2 l0_2.length c0_2] 29 (0, 0)) (by (with_reducible repeat (first | refine blk_drewN ?_ _ | refine blk_drew ?_ | refine blk_alloc ?_ _)); exact BK440.out)) : gb449 ≠ gb440)); have n10_ := Aside0.mk ((by rw [hg]; exact Nat.ne_of_lt (blk_lt (g := gb441) (o := .cells #[.int .i64 a1_0, .int .i64 a1_1] 48 (0, 0)) (by (with_reducible repeat (first | refine blk_drewN ?_ _ | refine blk_drew ?_ | refine blk_alloc ?_ _)); exact BK441.out)) : gb441 ≠ gb449)); have n11_ := Aside0.mk ((by rw [hg]; exact Nat.ne_of_gt (blk_lt (g := gb441) (o := .cells #[.int .i64 a1_0, .int .i64 a1_1] 48 (0, 0)) (by (with_reducible repeat (first | refine blk_drewN ?_ _ | refine blk_drew ?_ | refine blk_alloc ?_ _)); exact BK441.out)) : gb449 ≠ gb441)); clear HO_5; clear HO_15; clear BK440; clear BK441; clear HB; have HO_5 := n0_; have HO_15 := n1_; have BK440 := n2_; have BK441 := n3_; have HB := n4_; have BK449 := n5_; have GW449 := n6_; have GE449 := n7_; have NB440_449 := n8_; have NB449_440 := n9_; have NB441_449 := n10_; have NB449_441 := n11_; clear n0_ n1_ n2_ n3_ n4_ n5_ n6_ n7_ n8_ n9_ n10_ n11_; clear hb hbox hg; have hnb17 := NB449_440.out; have hnc17 := NB440_449.out; have hnb18 := NB449_441.out; have hnc18 := NB441_449.out; have hcz19_0 : w16.cell? ⟨gb449, 0, none⟩ = some (.int .i64 0) := (blk_cell BK449.out 0).trans rfl; have hcz19_1 : w16.cell? ⟨gb449, 1, none⟩ = some (.int .i64 0) := (blk_cell BK449.out 1).trans rfl; have hfz19_0 := blk_frozen BK449.out 0; have hfz19_1 := blk_frozen BK449.out 1; have hnb20 := NB441_440.out; have hnc20 := NB440_441.out; have hcz21_0 : w16.cell? ⟨gb441, 0, none⟩ = some (.int .i64 a1_0) := (blk_cell BK441.out 0).trans rfl; have hcz21_1 : w16.cell? ⟨gb441, 1, none⟩ = some (.int .i64 a1_1) := (blk_cell BK441.out 1).trans rfl; have hfz21_0 := blk_frozen BK441.out 0; have hfz21_1 := blk_frozen BK441.out 1) | ((with_reducible refine gate_dst (N := 8) rfl ?_); refine box_event ?hg (N := 8) ?hd (cs := #[.int .i64 0, .int .i64 0]) (t := 48) ?hr ?_; (case hd => rfl); (case hg => rfl); (case hr => first | (go_simp; done) | (go_simp; rfl)); intro gb450 hg w22 hbox hb; have n0_ := Aside0.mk (Kd.R_below (Kd.R_elderB (by (with_reducible repeat (first | apply Kd.R_alloc | apply Kd.R_drewN | apply Kd.R_drew)); exact (Kd.R_mono (Kd.R_far (p := ⟨gb449, 1, none⟩) (Kd.R_far (p := ⟨gb449, 0, none⟩) (Kd.R_mono HO_5.out (fun k_ hk => (⟨hk, hk.2⟩ : _ ∧ k_ ≠ gb449))) (fun _ hk => hk.2) (.int .i64 ((rd_T48 y445 x17_1).f0))) (fun _ hk => hk.2) (.int .i64 ((rd_T48 y445 x17_1).f1))) (fun _ h_ => h_.1))) gb450 (Nat.le_of_eq hg.symm)) hb); have n1_ := Aside0.mk (Kd.R_below (Kd.R_elderB (by (with_reducible repeat (first | apply Kd.R_alloc | apply Kd.R_drewN | apply Kd.R_drew)); exact (Kd.R_mono (Kd.R_far (p := ⟨gb449, 1, none⟩) (Kd.R_far (p := ⟨gb449, 0, none⟩) (Kd.R_mono HO_15.out (fun k_ hk => (⟨hk, hk.2⟩ : _ ∧ k_ ≠ gb449))) (fun _ hk => hk.2) (.int .i64 ((rd_T48 y445 x17_1).f0))) (fun _ hk => hk.2) (.int .i64 ((rd_T48 y445 x17_1).f1))) (fun _ h_ => h_.1))) gb450 (Nat.le_of_eq hg.symm)) hb); have n2_ := Aside0.mk (blk_below (g := gb440) (o := .cells #[.int .i64 a0_0, .int .i64 a0_1, .slice A0_2 l0_2.length c0_2] 29 (0, 0)) (by (with_reducible repeat (first | refine blk_drewN ?_ _ | refine blk_drew ?_ | refine blk_alloc ?_ _)); refine blk_far ?_ NB440_449.out _; (with_reducible repeat (first | refine blk_drewN ?_ _ | refine blk_drew ?_ | refine blk_alloc ?_ _)); refine blk_far ?_ NB440_449.out _; (with_reducible repeat (first | refine blk_drewN ?_ _ | refine blk_drew ?_ | refine blk_alloc ?_ _)); exact BK440.out) hb); have n3_ := Aside0.mk (blk_below (g := gb441) (o := .cells #[.int .i64 a1_0, .int .i64 a1_1] 48 (0, 0)) (by (with_reducible repeat (first | refine blk_drewN ?_ _ | refine blk_drew ?_ | refine blk_alloc ?_ _)); refine blk_far ?_ NB441_449.out _; (with_reducible repeat (first | refine blk_drewN ?_ _ | refine blk_drew ?_ | refine blk_alloc ?_ _)); refine blk_far ?_ NB441_449.out _; (with_reducible repeat (first | refine blk_drewN ?_ _ | refine blk_drew ?_ | refine blk_alloc ?_ _)); exact BK441.out) hb); have n4_ := Aside0.mk (blk_below (g := gb449) (o := .cells #[.int .i64 ((rd_T48 y445 x17_1).f0), .int .i64 ((rd_T48 y445 x17_1).f1)] 48 (0, 0)) (by (with_reducible repeat (first | refine blk_drewN ?_ _ | refine blk_drew ?_ | refine blk_alloc ?_ _)); refine blk_put (cs := #[.int .i64 ((rd_T48 y445 x17_1).f0), .int .i64 0]) ?_ 1 _ rfl; (with_reducible repeat (first | refine blk_drewN ?_ _ | refine blk_drew ?_ | refine blk_alloc ?_ _)); refine blk_put (cs := #[.int .i64 0, .int .i64 0]) ?_ 0 _ rfl; (with_reducible repeat (first | refine blk_drewN ?_ _ | refine blk_drew ?_ | refine blk_alloc ?_ _)); exact BK449.out) hb); have n5_ := Aside0.mk (below_step (by repeat (first | (with_reducible first | exact HB.out | apply below_alloc | apply pw_below_drewN | apply below_drew1 | refine below_set ?_ GE440.out | refine below_set ?_ GE441.out | refine below_set ?_ GE449.out) | exact HB.out)) hb); have n6_ := Aside0.mk (hbox); have n7_ := Aside0.mk ((by rw [hg]; exact (below_size (by repeat (first | (with_reducible first | exact HB.out | apply below_alloc | apply pw_below_drewN | apply below_drew1 | refine below_set ?_ GE440.out | refine below_set ?_ GE441.out | refine below_set ?_ GE449.out) | exact HB.out))) : w.heap.size ≤ gb450)); have n8_ := Aside0.mk ((by rw [hg]; exact (below_size (by repeat (first | (with_reducible first | exact HB.out | apply below_alloc | apply pw_below_drewN | apply below_drew1 | refine below_set ?_ GE440.out | refine below_set ?_ GE441.out | refine below_set ?_ GE449.out) | exact HB.out))) : w.heap.size ≤ gb450)); have n9_ := Aside0.mk ((by rw [hg]; exact Nat.ne_of_lt (blk_lt (g := gb440) (o := .cells #[.int .i64 a0_0, .int .i64 a0_1, .slice A0_2 l0_2.length c0_2] 29 (0, 0)) (by (with_reducible repeat (first | refine blk_drewN ?_ _ | refine blk_drew ?_ | refine blk_alloc ?_ _)); refine blk_far ?_ NB440_449.out _; (with_reducible repeat (first | refine blk_drewN ?_ _ | refine blk_drew ?_ | refine blk_alloc ?_ _)); refine blk_far ?_ NB440_449.out _; (with_reducible repeat (first | refine blk_drewN ?_ _ | refine blk_drew ?_ | refine blk_alloc ?_ _)); exact BK440.out)) : gb440 ≠ gb450)); have n10_ := Aside0.mk ((by rw [hg]; exact Nat.ne_of_gt (blk_lt (g := gb440) (o := .cells #[.int .i64 a0_0, .int .i64 a0_1, .slice A0_2 l0_2.length c0_2] 29 (0, 0)) (by (with_reducible repeat (first | refine blk_drewN ?_ _ | refine blk_drew ?_ | refine blk_alloc ?_ _)); refine blk_far ?_ NB440_449.out _; (with_reducible repeat (first | refine blk_drewN ?_ _ | refine blk_drew ?_ | refine blk_alloc ?_ _)); refine blk_far ?_ NB440_449.out _; (with_reducible repeat (first | refine blk_drewN ?_ _ | refine blk_drew ?_ | refine blk_alloc ?_ _)); exact BK440.out)) : gb450 ≠ gb440)); have n11_ := Aside0.mk ((by rw [hg]; exact Nat.ne_of_lt (blk_lt (g := gb441) (o := .cells #[.int .i64 a1_0, .int .i64 a1_1] 48 (0, 0)) (by (with_reducible repeat (first | refine blk_drewN ?_ _ | refine blk_drew ?_ | refine blk_alloc ?_ _)); refine blk_far ?_ NB441_449.out _; (with_reducible repeat (first | refine blk_drewN ?_ _ | refine blk_drew ?_ | refine blk_alloc ?_ _)); refine blk_far ?_ NB441_449.out _; (with_reducible repeat (first | refine blk_drewN ?_ _ | refine blk_drew ?_ | refine blk_alloc ?_ _)); exact BK441.out)) : gb441 ≠ gb450)); have n12_ := Aside0.mk ((by rw [hg]; exact Nat.ne_of_gt (blk_lt (g := gb441) (o := .cells #[.int .i64 a1_0, .int .i64 a1_1] 48 (0, 0)) (by (with_reducible repeat (first | refine blk_drewN ?_ _ | refine blk_drew ?_ | refine blk_alloc ?_ _)); refine blk_far ?_ NB441_449.out _; (with_reducible repeat (first | refine blk_drewN ?_ _ | refine blk_drew ?_ | refine blk_alloc ?_ _)); refine blk_far ?_ NB441_449.out _; (with_reducible repeat (first | refine blk_drewN ?_ _ | refine blk_drew ?_ | refine blk_alloc ?_ _)); exact BK441.out)) : gb450 ≠ gb441)); have n13_ := Aside0.mk ((by rw [hg]; exact Nat.ne_of_lt (blk_lt (g := gb449) (o := .cells #[.int .i64 ((rd_T48 y445 x17_1).f0), .int .i64 ((rd_T48 y445 x17_1).f1)] 48 (0, 0)) (by (with_reducible repeat (first | refine blk_drewN ?_ _ | refine blk_drew ?_ | refine blk_alloc ?_ _)); refine blk_put (cs := #[.int .i64 ((rd_T48 y445 x17_1).f0), .int .i64 0]) ?_ 1 _ rfl; (with_reducible repeat (first | refine blk_drewN ?_ _ | refine blk_drew ?_ | refine blk_alloc ?_ _)); refine blk_put (cs := #[.int .i64 0, .int .i64 0]) ?_ 0 _ rfl; (with_reducible repeat (first | refine blk_drewN ?_ _ | refine blk_drew ?_ | refine blk_alloc ?_ _)); exact BK449.out)) : gb449 ≠ gb450)); have n14_ := Aside0.mk ((by rw [hg]; exact Nat.ne_of_gt (blk_lt (g := gb449) (o := .cells #[.int .i64 ((rd_T48 y445 x17_1).f0), .int .i64 ((rd_T48 y445 x17_1).f1)] 48 (0, 0)) (by (with_reducible repeat (first | refine blk_drewN ?_ _ | refine blk_drew ?_ | refine blk_alloc ?_ _)); refine blk_put (cs := #[.int .i64 ((rd_T48 y445 x17_1).f0), .int .i64 0]) ?_ 1 _ rfl; (with_reducible repeat (first | refine blk_drewN ?_ _ | refine blk_drew ?_ | refine blk_alloc ?_ _)); refine blk_put (cs := #[.int .i64 0, .int .i64 0]) ?_ 0 _ rfl; (with_reducible repeat (first | refine blk_drewN ?_ _ | refine blk_drew ?_ | refine blk_alloc ?_ _)); exact BK449.out)) : gb450 ≠ gb449)); clear HO_5; clear HO_15; clear BK440; clear BK441; clear BK449; clear HB; have HO_5 := n0_; have HO_15 := n1_; have BK440 := n2_; have BK441 := n3_; have BK449 := n4_; have HB := n5_; have BK450 := n6_; have GW450 := n7_; have GE450 := n8_; have NB440_450 := n9_; have NB450_440 := n10_; have NB441_450 := n11_; have NB450_441 := n12_; have NB449_450 := n13_; have NB450_449 := n14_; clear n0_ n1_ n2_ n3_ n4_ n5_ n6_ n7_ n8_ n9_ n10_ n11_ n12_ n13_ n14_; clear hb hbox hg; have hnb23 := NB450_440.out; have hnc23 := NB440_450.out; have hnb24 := NB450_441.out; have hnc24 := NB441_450.out; have hnb25 := NB450_449.out; have hnc25 := NB449_450.out; have hcz26_0 : w22.cell? ⟨gb450, 0, none⟩ = some (.int .i64 0) := (blk_cell BK450.out 0).trans rfl; have hcz26_1 : w22.cell? ⟨gb450, 1, none⟩ = some (.int .i64 0) := (blk_cell BK450.out 1).trans rfl; have hfz26_0 := blk_frozen BK450.out 0; have hfz26_1 := blk_frozen BK450.out 1; have hcz27_0 : w22.cell? ⟨gb440, 0, none⟩ = some (.int .i64 a0_0) := (blk_cell BK440.out 0).trans rfl; have hcz27_1 : w22.cell? ⟨gb440, 1, none⟩ = some (.int .i64 a0_1) := (blk_cell BK440.out 1).trans rfl; have hcz27_2 : w22.cell? ⟨gb440, 2, none⟩ = some (.slice A0_2 l0_2.length c0_2) := (blk_cell BK440.out 2).trans rfl; have hfz27_0 := blk_frozen BK440.out 0; have hfz27_1 := blk_frozen BK440.out 1; have hfz27_2 := blk_frozen BK440.out 2) | ((with_reducible refine gate_callee (f := 58) rfl ?_); refine goesL_ (some 34) rfl rfl Try.func58 (by kernel_rfl) rfl #[.agg #[.int .i64 a0_0, .int .i64 a0_1, .slice A0_2 l0_2.length c0_2], .agg #[.int .i64 (wrap64 (a1_0 + ((rd_T48 y445 x17_1).f0))), .int .i64 (wrap64 (a1_1 + ((rd_T48 y445 x17_1).f1)))]] rfl (by (try simp only [List.map_toArray, List.map_cons, List.map_nil]); first | done | rfl | (simp only [List.length_drop, List.length_take]; rfl)) ?_; (with_reducible refine (impl_isFree.calls k1 a0_0 a0_1 _ _ l0_2 (wrap64 (a1_0 + ((rd_T48 y445 x17_1).f0))) (wrap64 (a1_1 + ((rd_T48 y445 x17_1).f1))) true _ ?side1 ?side2 A13.out).mono ?_); (case side1 => exact Kd.C_below HR0_2.out (by repeat (first | (with_reducible first | exact HB.out | apply below_alloc | apply pw_below_drewN | apply below_drew1 | refine below_set ?_ GE440.out | refine below_set ?_ GE441.out | refine below_set ?_ GE449.out | refine below_set ?_ GE450.out) | exact HB.out))); (case side2 => exact HC0_2.out); rintro e w28 ⟨rfl, hb⟩; refine ⟨_, rfl, ?_⟩; have n0_ := Aside0.mk (Kd.R_below (by (with_reducible repeat (first | apply Kd.R_alloc | apply Kd.R_drewN | apply Kd.R_drew)); exact (Kd.R_mono (Kd.R_far (p := ⟨gb450, 1, none⟩) (Kd.R_far (p := ⟨gb450, 0, none⟩) (Kd.R_mono HO_5.out (fun k_ hk => (⟨hk, hk.2⟩ : _ ∧ k_ ≠ gb450))) (fun _ hk => hk.2) (.int .i64 (wrap64 (a1_0 + ((rd_T48 y445 x17_1).f0))))) (fun _ hk => hk.2) (.int .i64 (wrap64 (a1_1 + ((rd_T48 y445 x17_1).f1))))) (fun _ h_ => h_.1))) hb); have n1_ := Aside0.mk (Kd.R_below (by (with_reducible repeat (first | apply Kd.R_alloc | apply Kd.R_drewN | apply Kd.R_drew)); exact (Kd.R_mono (Kd.R_far (p := ⟨gb450, 1, none⟩) (Kd.R_far (p := ⟨gb450, 0, none⟩) (Kd.R_mono HO_15.out (fun k_ hk => (⟨hk, hk.2⟩ : _ ∧ k_ ≠ gb450))) (fun _ hk => hk.2) (.int .i64 (wrap64 (a1_0 + ((rd_T48 y445 x17_1).f0))))) (fun _ hk => hk.2) (.int .i64 (wrap64 (a1_1 + ((rd_T48 y445 x17_1).f1))))) (fun _ h_ => h_.1))) hb); have n2_ := Aside0.mk (blk_below (g := gb440) (o := .cells #[.int .i64 a0_0, .int .i64 a0_1, .slice A0_2 l0_2.length c0_2] 29 (0, 0)) (by (with_reducible repeat (first | refine blk_drewN ?_ _ | refine blk_drew ?_ | refine blk_alloc ?_ _)); refine blk_far ?_ NB440_450.out _; (with_reducible repeat (first | refine blk_drewN ?_ _ | refine blk_drew ?_ | refine blk_alloc ?_ _)); refine blk_far ?_ NB440_450.out _; (with_reducible repeat (first | refine blk_drewN ?_ _ | refine blk_drew ?_ | refine blk_alloc ?_ _)); exact BK440.out) hb); have n3_ := Aside0.mk (blk_below (g := gb441) (o := .cells #[.int .i64 a1_0, .int .i64 a1_1] 48 (0, 0)) (by (with_reducible repeat (first | refine blk_drewN ?_ _ | refine blk_drew ?_ | refine blk_alloc ?_ _)); refine blk_far ?_ NB441_450.out _; (with_reducible repeat (first | refine blk_drewN ?_ _ | refine blk_drew ?_ | refine blk_alloc ?_ _)); refine blk_far ?_ NB441_450.out _; (with_reducible repeat (first | refine blk_drewN ?_ _ | refine blk_drew ?_ | refine blk_alloc ?_ _)); exact BK441.out) hb); have n4_ := Aside0.mk (blk_below (g := gb449) (o := .cells #[.int .i64 ((rd_T48 y445 x17_1).f0), .int .i64 ((rd_T48 y445 x17_1).f1)] 48 (0, 0)) (by (with_reducible repeat (first | refine blk_drewN ?_ _ | refine blk_drew ?_ | refine blk_alloc ?_ _)); refine blk_far ?_ NB449_450.out _; (with_reducible repeat (first | refine blk_drewN ?_ _ | refine blk_drew ?_ | refine blk_alloc ?_ _)); refine blk_far ?_ NB449_450.out _; (with_reducible repeat (first | refine blk_drewN ?_ _ | refine blk_drew ?_ | refine blk_alloc ?_ _)); exact BK449.out) hb); have n5_ := Aside0.mk (blk_below (g := gb450) (o := .cells #[.int .i64 (wrap64 (a1_0 + ((rd_T48 y445 x17_1).f0))), .int .i64 (wrap64 (a1_1 + ((rd_T48 y445 x17_1).f1)))] 48 (0, 0)) (by (with_reducible repeat (first | refine blk_drewN ?_ _ | refine blk_drew ?_ | refine blk_alloc ?_ _)); refine blk_put (cs := #[.int .i64 (wrap64 (a1_0 + ((rd_T48 y445 x17_1).f0))), .int .i64 0]) ?_ 1 _ rfl; (with_reducible repeat (first | refine blk_drewN ?_ _ | refine blk_drew ?_ | refine blk_alloc ?_ _)); refine blk_put (cs := #[.int .i64 0, .int .i64 0]) ?_ 0 _ rfl; (with_reducible repeat (first | refine blk_drewN ?_ _ | refine blk_drew ?_ | refine blk_alloc ?_ _)); exact BK450.out) hb); have n6_ := Aside0.mk (below_step (by repeat (first | (with_reducible first | exact HB.out | apply below_alloc | apply pw_below_drewN | apply below_drew1 | refine below_set ?_ GE440.out | refine below_set ?_ GE441.out | refine below_set ?_ GE449.out | refine below_set ?_ GE450.out) | exact HB.out)) hb); clear HO_5; clear HO_15; clear BK440; clear BK441; clear BK449; clear BK450; clear HB; have HO_5 := n0_; have HO_15 := n1_; have BK440 := n2_; have BK441 := n3_; have BK449 := n4_; have BK450 := n5_; have HB := n6_; clear n0_ n1_ n2_ n3_ n4_ n5_ n6_; (try clear hb); (try clear hb2); (try clear hk); (try clear hi); have hcz29_0 : w28.cell? ⟨gb450, 0, none⟩ = some (.int .i64 (wrap64 (a1_0 + ((rd_T48 y445 x17_1).f0)))) := (blk_cell BK450.out 0).trans rfl; have hcz29_1 : w28.cell? ⟨gb450, 1, none⟩ = some (.int .i64 (wrap64 (a1_1 + ((rd_T48 y445 x17_1).f1)))) := (blk_cell BK450.out 1).trans rfl; have hfz29_0 := blk_frozen BK450.out 0; have hfz29_1 := blk_frozen BK450.out 1) | ((with_reducible refine gate_builtin (b := .append) (xs := #[.tmp 35, .tmp 37]) rfl ?_); at_builtin; refine Kd.R_append k48 (w0 := w) w.heap.size rfl (.tmp 35) (.tmp 37) 27 48 (.agg #[(.int .i64 0), (.int .i64 0)]) 16 rfl Try.underlying27 info48 rfl (by decide) (by omega) u5 x5_1 (⟨wrap64 (a1_0 + ((rd_T48 y445 x17_1).f0)), wrap64 (a1_1 + ((rd_T48 y445 x17_1).f1))⟩ : S48) [.int .i64 (wrap64 (a1_0 + ((rd_T48 y445 x17_1).f0))), .int .i64 (wrap64 (a1_1 + ((rd_T48 y445 x17_1).f1)))] (fun k_ => some k_ ≠ (.slice (some ad448) y445.length co9 : Value).ownBlock ∧ k_ ≠ gb441 ∧ k_ ≠ gb449 ∧ k_ ≠ gb450) (fun _ => False) rfl rfl ?aP (fun _ hk => hk.elim) ?aF ?aO ?aB ?aS ?aL ?_; (case aP => exact k48_mkM _ _ _ (⟨wrap64 (a1_0 + ((rd_T48 y445 x17_1).f0)), wrap64 (a1_1 + ((rd_T48 y445 x17_1).f1))⟩ : S48)); (case aB => exact (by repeat (first | (with_reducible first | exact HB.out | apply below_alloc | apply pw_below_drewN | apply below_drew1 | refine below_set ?_ GE440.out | refine below_set ?_ GE441.out | refine below_set ?_ GE449.out | refine below_set ?_ GE450.out) | exact HB.out))); (case aF => exact (fun k_ hk => ⟨Kd.fresh' (Kd.R_lt (by (with_reducible repeat (first | apply Kd.R_alloc | apply Kd.R_drewN | apply Kd.R_drew)); exact HO_15.out)) k_ hk, Kd.freshB (g := gb441) (o := .cells #[.int .i64 a1_0, .int .i64 a1_1] 48 (0, 0)) (by (with_reducible repeat (first | refine blk_drewN ?_ _ | refine blk_drew ?_ | refine blk_alloc ?_ _)); exact BK441.out) k_ hk, Kd.freshB (g := gb449) (o := .cells #[.int .i64 ((rd_T48 y445 x17_1).f0), .int .i64 ((rd_T48 y445 x17_1).f1)] 48 (0, 0)) (by (with_reducible repeat (first | refine blk_drewN ?_ _ | refine blk_drew ?_ | refine blk_alloc ?_ _)); exact BK449.out) k_ hk, Kd.freshB (g := gb450) (o := .cells #[.int .i64 (wrap64 (a1_0 + ((rd_T48 y445 x17_1).f0))), .int .i64 (wrap64 (a1_1 + ((rd_T48 y445 x17_1).f1)))] 48 (0, 0)) (by (with_reducible repeat (first | refine blk_drewN ?_ _ | refine blk_drew ?_ | refine blk_alloc ?_ _)); exact BK450.out) k_ hk⟩)); (case aO => exact (by (with_reducible repeat (first | apply Kd.R_alloc | apply Kd.R_drewN | apply Kd.R_drew)); exact Kd.R_mono HO_5.out (fun _ hk => ⟨hk.1.1.1, ⟨hk.1.1.2, ⟨hk.1.2, hk.2⟩⟩⟩))); (case aS => exact (below_size (by repeat (first | (with_reducible first | exact HB.out | apply below_alloc | apply pw_below_drewN | apply below_drew1 | refine below_set ?_ GE440.out | refine below_set ?_ GE441.out | refine below_set ?_ GE449.out | refine below_set ?_ GE450.out) | exact HB.out)))); (case aL => have := LMc15.out; omega); intro v453 w30 ho hb hg hat; rw [← Ny452.out] at ho; have n0_ := Aside0.mk (Kd.R_after (ok := (fun k_ => k_ ≠ gb441 ∧ k_ ≠ gb449 ∧ k_ ≠ gb450)) (by (with_reducible repeat (first | apply Kd.R_alloc | apply Kd.R_drewN | apply Kd.R_drew)); exact Kd.R_mono HO_15.out (fun _ hk => ⟨⟨hk.1.1.2, ⟨hk.1.2, hk.2⟩⟩, hk.1.1.1⟩)) hg hat); have n1_ := Aside0.mk (blk_grown (g := gb440) (o := .cells #[.int .i64 a0_0, .int .i64 a0_1, .slice A0_2 l0_2.length c0_2] 29 (0, 0)) (by (with_reducible repeat (first | refine blk_drewN ?_ _ | refine blk_drew ?_ | refine blk_alloc ?_ _)); exact BK440.out) hg (Kd.R_ne HO_5.out BK440.out (by decide))); have n2_ := Aside0.mk (blk_grown (g := gb441) (o := .cells #[.int .i64 a1_0, .int .i64 a1_1] 48 (0, 0)) (by (with_reducible repeat (first | refine blk_drewN ?_ _ | refine blk_drew ?_ | refine blk_alloc ?_ _)); exact BK441.out) hg (Kd.R_away HO_5.out (fun _ hk => hk.1.1.2))); have n3_ := Aside0.mk (blk_grown (g := gb449) (o := .cells #[.int .i64 ((rd_T48 y445 x17_1).f0), .int .i64 ((rd_T48 y445 x17_1).f1)] 48 (0, 0)) (by (with_reducible repeat (first | refine blk_drewN ?_ _ | refine blk_drew ?_ | refine blk_alloc ?_ _)); exact BK449.out) hg (Kd.R_away HO_5.out (fun _ hk => hk.1.2))); have n4_ := Aside0.mk (blk_grown (g := gb450) (o := .cells #[.int .i64 (wrap64 (a1_0 + ((rd_T48 y445 x17_1).f0))), .int .i64 (wrap64 (a1_1 + ((rd_T48 y445 x17_1).f1)))] 48 (0, 0)) (by (with_reducible repeat (first | refine blk_drewN ?_ _ | refine blk_drew ?_ | refine blk_alloc ?_ _)); exact BK450.out) hg (Kd.R_away HO_5.out (fun _ hk => hk.2))); have n5_ := Aside0.mk (hb); have n6_ := Aside0.mk (ho); clear HO_15; clear BK440; clear BK441; clear BK449; clear BK450; clear HB; clear HO_5; have HO_15 := n0_; have BK440 := n1_; have BK441 := n2_; have BK449 := n3_; have BK450 := n4_; have HB := n5_; have HO454 := n6_; clear n0_ n1_ n2_ n3_ n4_ n5_ n6_; clear ho hb hg hat))
        go_roundg k1
        case measure => have := HK1.out; omega
        case rel => exact ⟨(y452), (wrap64 (x17_1 + 1)), (by first | rfl | (simp; done) | (simp [*]; done)), H', ⟨by have := HK1.out; omega⟩, ⟨by (with_reducible repeat (first | apply Kd.R_alloc | apply Kd.R_drewN | apply Kd.R_drew)); exact Kd.R_mono HO454.out (fun _ hk => ⟨hk.1, hk.2.1⟩)⟩, ⟨by (with_reducible repeat (first | apply Kd.R_alloc | apply Kd.R_drewN | apply Kd.R_drew)); exact Kd.R_mono HO_15.out (fun _ hk => ⟨hk.2, hk.1.1⟩)⟩, ⟨by (with_reducible repeat (first | refine blk_drewN ?_ _ | refine blk_drew ?_ | refine blk_alloc ?_ _)); exact BK440.out⟩, ⟨by (with_reducible repeat (first | refine blk_drewN ?_ _ | refine blk_drew ?_ | refine blk_alloc ?_ _)); exact BK441.out⟩, ⟨by repeat (first | (with_reducible first | exact HB.out | apply below_alloc | apply pw_below_drewN | apply below_drew1 | refine below_set ?_ GE440.out | refine below_set ?_ GE441.out | refine below_set ?_ GE449.out | refine below_set ?_ GE450.out) | exact HB.out)⟩⟩
       ·rw [if_neg c15] at H
        exact absurd H (by simp)
      ·replace c14 := Bool.eq_false_iff.mpr c14
       subst c14
       have H1 : (impl_around.l0 k1 x5_1 y445 (y445.length : Int) (wrap64 (x17_1 + 1)) a0_0 a0_1 l0_2 a1_0 a1_1) = some r := by rw [if_neg (show ¬ (false = true) by decide)] at H; exact H
       clear H
       have H := H1
       clear H1
       have H' := Aside0.mk H
       clear H
       have p448 : 0 ≤ (x17_1 : Int) := of_decide_eq_true (by first | (with_reducible assumption) | assumption)
       have q448 : x17_1 < (y445.length : Int) := of_decide_eq_true (by first | (with_reducible assumption) | assumption)
       obtain ⟨ad448, e448, hx448_0, hx448_1⟩ := at_T48 (Kd.R_reads' HO_15.out).2.2 x17_1 p448 q448
       cases e448
       replace p448 := eq_true p448
       replace q448 := eq_true q448
       go_wp2_with (first | ((with_reducible refine gate_dst (N := 7) rfl ?_); refine box_event ?hg (N := 7) ?hd (cs := #[.int .i64 0, .int .i64 0]) (t := 48) ?hr ?_; (case hd => rfl); (case hg => rfl); (case hr => first | (go_simp; done) | (go_simp; rfl)); intro gb449 hg w31 hbox hb; have n0_ := Aside0.mk (Kd.R_below (Kd.R_elderB (by (with_reducible repeat (first | apply Kd.R_alloc | apply Kd.R_drewN | apply Kd.R_drew)); exact HO_5.out) gb449 (Nat.le_of_eq hg.symm)) hb); have n1_ := Aside0.mk (Kd.R_below (Kd.R_elderB (by (with_reducible repeat (first | apply Kd.R_alloc | apply Kd.R_drewN | apply Kd.R_drew)); exact HO_15.out) gb449 (Nat.le_of_eq hg.symm)) hb); have n2_ := Aside0.mk (blk_below (g := gb440) (o := .cells #[.int .i64 a0_0, .int .i64 a0_1, .slice A0_2 l0_2.length c0_2] 29 (0, 0)) (by (with_reducible repeat (first | refine blk_drewN ?_ _ | refine blk_drew ?_ | refine blk_alloc ?_ _)); exact BK440.out) hb); have n3_ := Aside0.mk (blk_below (g := gb441) (o := .cells #[.int .i64 a1_0, .int .i64 a1_1] 48 (0, 0)) (by (with_reducible repeat (first | refine blk_drewN ?_ _ | refine blk_drew ?_ | refine blk_alloc ?_ _)); exact BK441.out) hb); have n4_ := Aside0.mk (below_step (by repeat (first | (with_reducible first | exact HB.out | apply below_alloc | apply pw_below_drewN | apply below_drew1 | refine below_set ?_ GE440.out | refine below_set ?_ GE441.out) | exact HB.out)) hb); have n5_ := Aside0.mk (hbox); have n6_ := Aside0.mk ((by rw [hg]; exact (below_size (by repeat (first | (with_reducible first | exact HB.out | apply below_alloc | apply pw_below_drewN | apply below_drew1 | refine below_set ?_ GE440.out | refine below_set ?_ GE441.out) | exact HB.out))) : w.heap.size ≤ gb449)); have n7_ := Aside0.mk ((by rw [hg]; exact (below_size (by repeat (first | (with_reducible first | exact HB.out | apply below_alloc | apply pw_below_drewN | apply below_drew1 | refine below_set ?_ GE440.out | refine below_set ?_ GE441.out) | exact HB.out))) : w.heap.size ≤ gb449)); have n8_ := Aside0.mk ((by rw [hg]; exact Nat.ne_of_lt (blk_lt (g := gb440) (o := .cells #[.int .i64 a0_0, .int .i64 a0_1, .slice A0_2 l0_2.length c0_2] 29 (0, 0)) (by (with_reducible repeat (first | refine blk_drewN ?_ _ | refine blk_drew ?_ | refine blk_alloc ?_ _)); exact BK440.out)) : gb440 ≠ gb449)); have n9_ := Aside0.mk ((by rw [hg]; exact Nat.ne_of_gt (blk_lt (g := gb440) (o := .cells #[.int .i64 a0_0, .int .i64 a0_1, .slice A0_2 l0_2.length c0_2] 29 (0, 0)) (by (with_reducible repeat (first | refine blk_drewN ?_ _ | refine blk_drew ?_ | refine blk_alloc ?_ _)); exact BK440.out)) : gb449 ≠ gb440)); have n10_ := Aside0.mk ((by rw [hg]; exact Nat.ne_of_lt (blk_lt (g := gb441) (o := .cells #[.int .i64 a1_0, .int .i64 a1_1] 48 (0, 0)) (by (with_reducible repeat (first | refine blk_drewN ?_ _ | refine blk_drew ?_ | refine blk_alloc ?_ _)); exact BK441.out)) : gb441 ≠ gb449)); have n11_ := Aside0.mk ((by rw [hg]; exact Nat.ne_of_gt (blk_lt (g := gb441) (o := .cells #[.int .i64 a1_0, .int .i64 a1_1] 48 (0, 0)) (by (with_reducible repeat (first | refine blk_drewN ?_ _ | refine blk_drew ?_ | refine blk_alloc ?_ _)); exact BK441.out)) : gb449 ≠ gb441)); clear HO_5; clear HO_15; clear BK440; clear BK441; clear HB; have HO_5 := n0_; have HO_15 := n1_; have BK440 := n2_; have BK441 := n3_; have HB := n4_; have BK449 := n5_; have GW449 := n6_; have GE449 := n7_; have NB440_449 := n8_; have NB449_440 := n9_; have NB441_449 := n10_; have NB449_441 := n11_; clear n0_ n1_ n2_ n3_ n4_ n5_ n6_ n7_ n8_ n9_ n10_ n11_; clear hb hbox hg; have hnb32 := NB449_440.out; have hnc32 := NB440_449.out; have hnb33 := NB449_441.out; have hnc33 := NB441_449.out; have hcz34_0 : w31.cell? ⟨gb449, 0, none⟩ = some (.int .i64 0) := (blk_cell BK449.out 0).trans rfl; have hcz34_1 : w31.cell? ⟨gb449, 1, none⟩ = some (.int .i64 0) := (blk_cell BK449.out 1).trans rfl; have hfz34_0 := blk_frozen BK449.out 0; have hfz34_1 := blk_frozen BK449.out 1; have hnb35 := NB441_440.out; have hnc35 := NB440_441.out; have hcz36_0 : w31.cell? ⟨gb441, 0, none⟩ = some (.int .i64 a1_0) := (blk_cell BK441.out 0).trans rfl; have hcz36_1 : w31.cell? ⟨gb441, 1, none⟩ = some (.int .i64 a1_1) := (blk_cell BK441.out 1).trans rfl; have hfz36_0 := blk_frozen BK441.out 0; have hfz36_1 := blk_frozen BK441.out 1) | ((with_reducible refine gate_dst (N := 8) rfl ?_); refine box_event ?hg (N := 8) ?hd (cs := #[.int .i64 0, .int .i64 0]) (t := 48) ?hr ?_; (case hd => rfl); (case hg => rfl); (case hr => first | (go_simp; done) | (go_simp; rfl)); intro gb450 hg w37 hbox hb; have n0_ := Aside0.mk (Kd.R_below (Kd.R_elderB (by (with_reducible repeat (first | apply Kd.R_alloc | apply Kd.R_drewN | apply Kd.R_drew)); exact (Kd.R_mono (Kd.R_far (p := ⟨gb449, 1, none⟩) (Kd.R_far (p := ⟨gb449, 0, none⟩) (Kd.R_mono HO_5.out (fun k_ hk => (⟨hk, hk.2⟩ : _ ∧ k_ ≠ gb449))) (fun _ hk => hk.2) (.int .i64 ((rd_T48 y445 x17_1).f0))) (fun _ hk => hk.2) (.int .i64 ((rd_T48 y445 x17_1).f1))) (fun _ h_ => h_.1))) gb450 (Nat.le_of_eq hg.symm)) hb); have n1_ := Aside0.mk (Kd.R_below (Kd.R_elderB (by (with_reducible repeat (first | apply Kd.R_alloc | apply Kd.R_drewN | apply Kd.R_drew)); exact (Kd.R_mono (Kd.R_far (p := ⟨gb449, 1, none⟩) (Kd.R_far (p := ⟨gb449, 0, none⟩) (Kd.R_mono HO_15.out (fun k_ hk => (⟨hk, hk.2⟩ : _ ∧ k_ ≠ gb449))) (fun _ hk => hk.2) (.int .i64 ((rd_T48 y445 x17_1).f0))) (fun _ hk => hk.2) (.int .i64 ((rd_T48 y445 x17_1).f1))) (fun _ h_ => h_.1))) gb450 (Nat.le_of_eq hg.symm)) hb); have n2_ := Aside0.mk (blk_below (g := gb440) (o := .cells #[.int .i64 a0_0, .int .i64 a0_1, .slice A0_2 l0_2.length c0_2] 29 (0, 0)) (by (with_reducible repeat (first | refine blk_drewN ?_ _ | refine blk_drew ?_ | refine blk_alloc ?_ _)); refine blk_far ?_ NB440_449.out _; (with_reducible repeat (first | refine blk_drewN ?_ _ | refine blk_drew ?_ | refine blk_alloc ?_ _)); refine blk_far ?_ NB440_449.out _; (with_reducible repeat (first | refine blk_drewN ?_ _ | refine blk_drew ?_ | refine blk_alloc ?_ _)); exact BK440.out) hb); have n3_ := Aside0.mk (blk_below (g := gb441) (o := .cells #[.int .i64 a1_0, .int .i64 a1_1] 48 (0, 0)) (by (with_reducible repeat (first | refine blk_drewN ?_ _ | refine blk_drew ?_ | refine blk_alloc ?_ _)); refine blk_far ?_ NB441_449.out _; (with_reducible repeat (first | refine blk_drewN ?_ _ | refine blk_drew ?_ | refine blk_alloc ?_ _)); refine blk_far ?_ NB441_449.out _; (with_reducible repeat (first | refine blk_drewN ?_ _ | refine blk_drew ?_ | refine blk_alloc ?_ _)); exact BK441.out) hb); have n4_ := Aside0.mk (blk_below (g := gb449) (o := .cells #[.int .i64 ((rd_T48 y445 x17_1).f0), .int .i64 ((rd_T48 y445 x17_1).f1)] 48 (0, 0)) (by (with_reducible repeat (first | refine blk_drewN ?_ _ | refine blk_drew ?_ | refine blk_alloc ?_ _)); refine blk_put (cs := #[.int .i64 ((rd_T48 y445 x17_1).f0), .int .i64 0]) ?_ 1 _ rfl; (with_reducible repeat (first | refine blk_drewN ?_ _ | refine blk_drew ?_ | refine blk_alloc ?_ _)); refine blk_put (cs := #[.int .i64 0, .int .i64 0]) ?_ 0 _ rfl; (with_reducible repeat (first | refine blk_drewN ?_ _ | refine blk_drew ?_ | refine blk_alloc ?_ _)); exact BK449.out) hb); have n5_ := Aside0.mk (below_step (by repeat (first | (with_reducible first | exact HB.out | apply below_alloc | apply pw_below_drewN | apply below_drew1 | refine below_set ?_ GE440.out | refine below_set ?_ GE441.out | refine below_set ?_ GE449.out) | exact HB.out)) hb); have n6_ := Aside0.mk (hbox); have n7_ := Aside0.mk ((by rw [hg]; exact (below_size (by repeat (first | (with_reducible first | exact HB.out | apply below_alloc | apply pw_below_drewN | apply below_drew1 | refine below_set ?_ GE440.out | refine below_set ?_ GE441.out | refine below_set ?_ GE449.out) | exact HB.out))) : w.heap.size ≤ gb450)); have n8_ := Aside0.mk ((by rw [hg]; exact (below_size (by repeat (first | (with_reducible first | exact HB.out | apply below_alloc | apply pw_below_drewN | apply below_drew1 | refine below_set ?_ GE440.out | refine below_set ?_ GE441.out | refine below_set ?_ GE449.out) | exact HB.out))) : w.heap.size ≤ gb450)); have n9_ := Aside0.mk ((by rw [hg]; exact Nat.ne_of_lt (blk_lt (g := gb440) (o := .cells #[.int .i64 a0_0, .int .i64 a0_1, .slice A0_2 l0_2.length c0_2] 29 (0, 0)) (by (with_reducible repeat (first | refine blk_drewN ?_ _ | refine blk_drew ?_ | refine blk_alloc ?_ _)); refine blk_far ?_ NB440_449.out _; (with_reducible repeat (first | refine blk_drewN ?_ _ | refine blk_drew ?_ | refine blk_alloc ?_ _)); refine blk_far ?_ NB440_449.out _; (with_reducible repeat (first | refine blk_drewN ?_ _ | refine blk_drew ?_ | refine blk_alloc ?_ _)); exact BK440.out)) : gb440 ≠ gb450)); have n10_ := Aside0.mk ((by rw [hg]; exact Nat.ne_of_gt (blk_lt (g := gb440) (o := .cells #[.int .i64 a0_0, .int .i64 a0_1, .slice A0_2 l0_2.length c0_2] 29 (0, 0)) (by (with_reducible repeat (first | refine blk_drewN ?_ _ | refine blk_drew ?_ | refine blk_alloc ?_ _)); refine blk_far ?_ NB440_449.out _; (with_reducible repeat (first | refine blk_drewN ?_ _ | refine blk_drew ?_ | refine blk_alloc ?_ _)); refine blk_far ?_ NB440_449.out _; (with_reducible repeat (first | refine blk_drewN ?_ _ | refine blk_drew ?_ | refine blk_alloc ?_ _)); exact BK440.out)) : gb450 ≠ gb440)); have n11_ := Aside0.mk ((by rw [hg]; exact Nat.ne_of_lt (blk_lt (g := gb441) (o := .cells #[.int .i64 a1_0, .int .i64 a1_1] 48 (0, 0)) (by (with_reducible repeat (first | refine blk_drewN ?_ _ | refine blk_drew ?_ | refine blk_alloc ?_ _)); refine blk_far ?_ NB441_449.out _; (with_reducible repeat (first | refine blk_drewN ?_ _ | refine blk_drew ?_ | refine blk_alloc ?_ _)); refine blk_far ?_ NB441_449.out _; (with_reducible repeat (first | refine blk_drewN ?_ _ | refine blk_drew ?_ | refine blk_alloc ?_ _)); exact BK441.out)) : gb441 ≠ gb450)); have n12_ := Aside0.mk ((by rw [hg]; exact Nat.ne_of_gt (blk_lt (g := gb441) (o := .cells #[.int .i64 a1_0, .int .i64 a1_1] 48 (0, 0)) (by (with_reducible repeat (first | refine blk_drewN ?_ _ | refine blk_drew ?_ | refine blk_alloc ?_ _)); refine blk_far ?_ NB441_449.out _; (with_reducible repeat (first | refine blk_drewN ?_ _ | refine blk_drew ?_ | refine blk_alloc ?_ _)); refine blk_far ?_ NB441_449.out _; (with_reducible repeat (first | refine blk_drewN ?_ _ | refine blk_drew ?_ | refine blk_alloc ?_ _)); exact BK441.out)) : gb450 ≠ gb441)); have n13_ := Aside0.mk ((by rw [hg]; exact Nat.ne_of_lt (blk_lt (g := gb449) (o := .cells #[.int .i64 ((rd_T48 y445 x17_1).f0), .int .i64 ((rd_T48 y445 x17_1).f1)] 48 (0, 0)) (by (with_reducible repeat (first | refine blk_drewN ?_ _ | refine blk_drew ?_ | refine blk_alloc ?_ _)); refine blk_put (cs := #[.int .i64 ((rd_T48 y445 x17_1).f0), .int .i64 0]) ?_ 1 _ rfl; (with_reducible repeat (first | refine blk_drewN ?_ _ | refine blk_drew ?_ | refine blk_alloc ?_ _)); refine blk_put (cs := #[.int .i64 0, .int .i64 0]) ?_ 0 _ rfl; (with_reducible repeat (first | refine blk_drewN ?_ _ | refine blk_drew ?_ | refine blk_alloc ?_ _)); exact BK449.out)) : gb449 ≠ gb450)); have n14_ := Aside0.mk ((by rw [hg]; exact Nat.ne_of_gt (blk_lt (g := gb449) (o := .cells #[.int .i64 ((rd_T48 y445 x17_1).f0), .int .i64 ((rd_T48 y445 x17_1).f1)] 48 (0, 0)) (by (with_reducible repeat (first | refine blk_drewN ?_ _ | refine blk_drew ?_ | refine blk_alloc ?_ _)); refine blk_put (cs := #[.int .i64 ((rd_T48 y445 x17_1).f0), .int .i64 0]) ?_ 1 _ rfl; (with_reducible repeat (first | refine blk_drewN ?_ _ | refine blk_drew ?_ | refine blk_alloc ?_ _)); refine blk_put (cs := #[.int .i64 0, .int .i64 0]) ?_ 0 _ rfl; (with_reducible repeat (first | refine blk_drewN ?_ _ | refine blk_drew ?_ | refine blk_alloc ?_ _)); exact BK449.out)) : gb450 ≠ gb449)); clear HO_5; clear HO_15; clear BK440; clear BK441; clear BK449; clear HB; have HO_5 := n0_; have HO_15 := n1_; have BK440 := n2_; have BK441 := n3_; have BK449 := n4_; have HB := n5_; have BK450 := n6_; have GW450 := n7_; have GE450 := n8_; have NB440_450 := n9_; have NB450_440 := n10_; have NB441_450 := n11_; have NB450_441 := n12_; have NB449_450 := n13_; have NB450_449 := n14_; clear n0_ n1_ n2_ n3_ n4_ n5_ n6_ n7_ n8_ n9_ n10_ n11_ n12_ n13_ n14_; clear hb hbox hg; have hnb38 := NB450_440.out; have hnc38 := NB440_450.out; have hnb39 := NB450_441.out; have hnc39 := NB441_450.out; have hnb40 := NB450_449.out; have hnc40 := NB449_450.out; have hcz41_0 : w37.cell? ⟨gb450, 0, none⟩ = some (.int .i64 0) := (blk_cell BK450.out 0).trans rfl; have hcz41_1 : w37.cell? ⟨gb450, 1, none⟩ = some (.int .i64 0) := (blk_cell BK450.out 1).trans rfl; have hfz41_0 := blk_frozen BK450.out 0; have hfz41_1 := blk_frozen BK450.out 1; have hcz42_0 : w37.cell? ⟨gb440, 0, none⟩ = some (.int .i64 a0_0) := (blk_cell BK440.out 0).trans rfl; have hcz42_1 : w37.cell? ⟨gb440, 1, none⟩ = some (.int .i64 a0_1) := (blk_cell BK440.out 1).trans rfl; have hcz42_2 : w37.cell? ⟨gb440, 2, none⟩ = some (.slice A0_2 l0_2.length c0_2) := (blk_cell BK440.out 2).trans rfl; have hfz42_0 := blk_frozen BK440.out 0; have hfz42_1 := blk_frozen BK440.out 1; have hfz42_2 := blk_frozen BK440.out 2) | ((with_reducible refine gate_callee (f := 58) rfl ?_); refine goesL_ (some 34) rfl rfl Try.func58 (by kernel_rfl) rfl #[.agg #[.int .i64 a0_0, .int .i64 a0_1, .slice A0_2 l0_2.length c0_2], .agg #[.int .i64 (wrap64 (a1_0 + ((rd_T48 y445 x17_1).f0))), .int .i64 (wrap64 (a1_1 + ((rd_T48 y445 x17_1).f1)))]] rfl (by (try simp only [List.map_toArray, List.map_cons, List.map_nil]); first | done | rfl | (simp only [List.length_drop, List.length_take]; rfl)) ?_; (with_reducible refine (impl_isFree.calls k1 a0_0 a0_1 _ _ l0_2 (wrap64 (a1_0 + ((rd_T48 y445 x17_1).f0))) (wrap64 (a1_1 + ((rd_T48 y445 x17_1).f1))) false _ ?side1 ?side2 A13.out).mono ?_); (case side1 => exact Kd.C_below HR0_2.out (by repeat (first | (with_reducible first | exact HB.out | apply below_alloc | apply pw_below_drewN | apply below_drew1 | refine below_set ?_ GE440.out | refine below_set ?_ GE441.out | refine below_set ?_ GE449.out | refine below_set ?_ GE450.out) | exact HB.out))); (case side2 => exact HC0_2.out); rintro e w43 ⟨rfl, hb⟩; refine ⟨_, rfl, ?_⟩; have n0_ := Aside0.mk (Kd.R_below (by (with_reducible repeat (first | apply Kd.R_alloc | apply Kd.R_drewN | apply Kd.R_drew)); exact (Kd.R_mono (Kd.R_far (p := ⟨gb450, 1, none⟩) (Kd.R_far (p := ⟨gb450, 0, none⟩) (Kd.R_mono HO_5.out (fun k_ hk => (⟨hk, hk.2⟩ : _ ∧ k_ ≠ gb450))) (fun _ hk => hk.2) (.int .i64 (wrap64 (a1_0 + ((rd_T48 y445 x17_1).f0))))) (fun _ hk => hk.2) (.int .i64 (wrap64 (a1_1 + ((rd_T48 y445 x17_1).f1))))) (fun _ h_ => h_.1))) hb); have n1_ := Aside0.mk (Kd.R_below (by (with_reducible repeat (first | apply Kd.R_alloc | apply Kd.R_drewN | apply Kd.R_drew)); exact (Kd.R_mono (Kd.R_far (p := ⟨gb450, 1, none⟩) (Kd.R_far (p := ⟨gb450, 0, none⟩) (Kd.R_mono HO_15.out (fun k_ hk => (⟨hk, hk.2⟩ : _ ∧ k_ ≠ gb450))) (fun _ hk => hk.2) (.int .i64 (wrap64 (a1_0 + ((rd_T48 y445 x17_1).f0))))) (fun _ hk => hk.2) (.int .i64 (wrap64 (a1_1 + ((rd_T48 y445 x17_1).f1))))) (fun _ h_ => h_.1))) hb); have n2_ := Aside0.mk (blk_below (g := gb440) (o := .cells #[.int .i64 a0_0, .int .i64 a0_1, .slice A0_2 l0_2.length c0_2] 29 (0, 0)) (by (with_reducible repeat (first | refine blk_drewN ?_ _ | refine blk_drew ?_ | refine blk_alloc ?_ _)); refine blk_far ?_ NB440_450.out _; (with_reducible repeat (first | refine blk_drewN ?_ _ | refine blk_drew ?_ | refine blk_alloc ?_ _)); refine blk_far ?_ NB440_450.out _; (with_reducible repeat (first | refine blk_drewN ?_ _ | refine blk_drew ?_ | refine blk_alloc ?_ _)); exact BK440.out) hb); have n3_ := Aside0.mk (blk_below (g := gb441) (o := .cells #[.int .i64 a1_0, .int .i64 a1_1] 48 (0, 0)) (by (with_reducible repeat (first | refine blk_drewN ?_ _ | refine blk_drew ?_ | refine blk_alloc ?_ _)); refine blk_far ?_ NB441_450.out _; (with_reducible repeat (first | refine blk_drewN ?_ _ | refine blk_drew ?_ | refine blk_alloc ?_ _)); refine blk_far ?_ NB441_450.out _; (with_reducible repeat (first | refine blk_drewN ?_ _ | refine blk_drew ?_ | refine blk_alloc ?_ _)); exact BK441.out) hb); have n4_ := Aside0.mk (blk_below (g := gb449) (o := .cells #[.int .i64 ((rd_T48 y445 x17_1).f0), .int .i64 ((rd_T48 y445 x17_1).f1)] 48 (0, 0)) (by (with_reducible repeat (first | refine blk_drewN ?_ _ | refine blk_drew ?_ | refine blk_alloc ?_ _)); refine blk_far ?_ NB449_450.out _; (with_reducible repeat (first | refine blk_drewN ?_ _ | refine blk_drew ?_ | refine blk_alloc ?_ _)); refine blk_far ?_ NB449_450.out _; (with_reducible repeat (first | refine blk_drewN ?_ _ | refine blk_drew ?_ | refine blk_alloc ?_ _)); exact BK449.out) hb); have n5_ := Aside0.mk (blk_below (g := gb450) (o := .cells #[.int .i64 (wrap64 (a1_0 + ((rd_T48 y445 x17_1).f0))), .int .i64 (wrap64 (a1_1 + ((rd_T48 y445 x17_1).f1)))] 48 (0, 0)) (by (with_reducible repeat (first | refine blk_drewN ?_ _ | refine blk_drew ?_ | refine blk_alloc ?_ _)); refine blk_put (cs := #[.int .i64 (wrap64 (a1_0 + ((rd_T48 y445 x17_1).f0))), .int .i64 0]) ?_ 1 _ rfl; (with_reducible repeat (first | refine blk_drewN ?_ _ | refine blk_drew ?_ | refine blk_alloc ?_ _)); refine blk_put (cs := #[.int .i64 0, .int .i64 0]) ?_ 0 _ rfl; (with_reducible repeat (first | refine blk_drewN ?_ _ | refine blk_drew ?_ | refine blk_alloc ?_ _)); exact BK450.out) hb); have n6_ := Aside0.mk (below_step (by repeat (first | (with_reducible first | exact HB.out | apply below_alloc | apply pw_below_drewN | apply below_drew1 | refine below_set ?_ GE440.out | refine below_set ?_ GE441.out | refine below_set ?_ GE449.out | refine below_set ?_ GE450.out) | exact HB.out)) hb); clear HO_5; clear HO_15; clear BK440; clear BK441; clear BK449; clear BK450; clear HB; have HO_5 := n0_; have HO_15 := n1_; have BK440 := n2_; have BK441 := n3_; have BK449 := n4_; have BK450 := n5_; have HB := n6_; clear n0_ n1_ n2_ n3_ n4_ n5_ n6_; (try clear hb); (try clear hb2); (try clear hk); (try clear hi)))
       go_roundg k1
       case measure => have := HK1.out; omega
       case rel => exact ⟨(x5_1), (wrap64 (x17_1 + 1)), (by first | rfl | (simp; done) | (simp [*]; done)), H', ⟨by have := HK1.out; omega⟩, ⟨by (with_reducible repeat (first | apply Kd.R_alloc | apply Kd.R_drewN | apply Kd.R_drew)); exact Kd.R_mono HO_5.out (fun _ hk => ⟨hk.1.1.1, hk.1.1.2⟩)⟩, ⟨by (with_reducible repeat (first | apply Kd.R_alloc | apply Kd.R_drewN | apply Kd.R_drew)); exact Kd.R_mono HO_15.out (fun _ hk => ⟨hk.1.1.1, hk.1.1.2⟩)⟩, ⟨by (with_reducible repeat (first | refine blk_drewN ?_ _ | refine blk_drew ?_ | refine blk_alloc ?_ _)); exact BK440.out⟩, ⟨by (with_reducible repeat (first | refine blk_drewN ?_ _ | refine blk_drew ?_ | refine blk_alloc ?_ _)); exact BK441.out⟩, ⟨by repeat (first | (with_reducible first | exact HB.out | apply below_alloc | apply pw_below_drewN | apply below_drew1 | refine below_set ?_ GE440.out | refine below_set ?_ GE441.out | refine below_set ?_ GE449.out | refine below_set ?_ GE450.out) | exact HB.out)⟩⟩
     ·rw [if_neg c12] at H
      exact absurd H (by simp)
    ·rw [if_neg c11] at H
     exact absurd H (by simp)
   ·rw [if_neg c10] at H
    have c10b0 : decide (x17_1 < (y445.length : Int)) = false := decide_eq_false c10
    clear c10
    obtain rfl := Option.some.inj H
    go_wp2
    go_ret
    exact ⟨_, by first | rfl | (simp [errW_none, errW_some] <;> rfl) | (simp [*, errW_none, errW_some] <;> rfl), by (with_reducible repeat (first | apply Kd.R_alloc | apply Kd.R_drewN | apply Kd.R_drew)); exact Kd.R_mono HO_5.out (fun _ hk => trivial), by repeat (first | (with_reducible first | exact HB.out | apply below_alloc | apply pw_below_drewN | apply below_drew1 | refine below_set ?_ GE440.out | refine below_set ?_ GE441.out) | exact HB.out)⟩

end Go.Proofs.Ytbpccdbkaiigcaa.G

/- The walk of impl.stepsFrom: what it hands back is the map that the search by breadth makes. -/
namespace Go.Proofs.Ytbpccdbkaiigcaa.G
open Go.RowKit Go.Proofs.YtbpccdbkaiigcaaW.PrintWords Go.Proofs.YtbpccdbkaiigcaaW.PrintLast Go.Proofs.YtbpccdbkaiigcaaW.PrintMore
set_option linter.unusedVariables false
set_option linter.unusedSimpArgs false
/-- What is known of the floor's neighbours among the cells G. -/
structure Nbs (a0_0 a0_1 : Int) (l0_2 : List S48) (G : S48 → Prop) (nb : S48 → List S48) : Prop where
  wf : ∀ d, G d → W64 d
  len : ∀ d, G d → (nb d).length ≤ 5
  cl : ∀ d, G d → ∀ e ∈ nb d, G e
  run : ∀ d, G d → ∃ k, impl_around.f k a0_0 a0_1 l0_2 d.f0 d.f1 = some (nb d)
theorem grown_blk {w w1 : World} {b g : Nat} {cs : Array Value} {t : TypeId} (hg : w.grownBy w1 (some b)) (h : w.heap[g]? = some (.cells cs t (0, 0))) (hne : g ≠ b) : w1.heap[g]? = some (.cells cs t (0, 0)) := (hg.block g (blk_lt h) (fun e => hne (Option.some.inj e))).trans h
theorem wf_small {x : Int} (h0 : -1 ≤ x) (h1 : x ≤ 2000) : (Lit.int .i64 x).wf = true := wf_iff.2 ⟨by omega, by omega⟩
set_option maxHeartbeats 8000000 in
set_option maxRecDepth 100000 in
theorem impl_stepsFrom.calls (a0_0 a0_1 : Int) (A0_2 : Option Addr) (c0_2 : Nat) (l0_2 : List S48) (c1 : S48) (G : S48 → Prop) (nb : S48 → List S48) (K : Nat) (r : Mp) (w : World) (hr0_2 : Kd.C k48 w A0_2 l0_2.length l0_2) (hc0_2 : l0_2.length ≤ c0_2) (hnb : Nbs a0_0 a0_1 l0_2 G nb) (hG : G c1) (hK : K ≤ 1000) (h : bfs nb K (upd (fun _ => none) c1 0) [c1] = some r) :
    Calls Try.prog 65 #[.agg #[.int .i64 a0_0, .int .i64 a0_1, .slice A0_2 l0_2.length c0_2], .agg #[.int .i64 c1.f0, .int .i64 c1.f1]] w fun e w' => ∃ (b n : Nat), e = .returned (.map (some b)) ∧ w.heap.size ≤ b ∧ n ≤ 10000 ∧ MapI w' b n r ∧ Below w.heap.size w w' := by
  have hu29 := Try.underlying29
  have hu48 := Try.underlying48
  have HR0 := Aside0.mk hr0_2
  have HC0 := Aside0.mk hc0_2
  have HN := Aside0.mk hnb
  have HH := Aside0.mk h
  have hw1 := hnb.wf c1 hG
  clear hr0_2 hc0_2 hnb h
  have hmm := @run_makeMap Try.prog
  go_enter Try.func65, Try.ntmps65
  go_wp2_with (first | ((with_reducible refine gate_dst (N := 2) rfl ?_); refine box_event ?hg (N := 2) ?hd (cs := #[.int .i64 a0_0, .int .i64 a0_1, .slice A0_2 l0_2.length c0_2]) (t := 29) ?hr ?_; (case hd => rfl); (case hg => rfl); (case hr => first | (go_simp; done) | (go_simp; rfl)); intro g2 hgg2 w2 hbox hb; have HF2 := Aside0.mk hbox; have HB2 := Aside0.mk hb; have HG2 := Aside0.mk hgg2; clear hbox hb hgg2; have hf20 : w2.cell? ⟨g2, 0, none⟩ = some (.int .i64 a0_0) := (blk_cell HF2.out 0).trans rfl; have hf21 : w2.cell? ⟨g2, 1, none⟩ = some (.int .i64 a0_1) := (blk_cell HF2.out 1).trans rfl; have hf22 : w2.cell? ⟨g2, 2, none⟩ = some (.slice A0_2 l0_2.length c0_2) := (blk_cell HF2.out 2).trans rfl) | ((with_reducible refine gate_dst (N := 3) rfl ?_); refine box_event ?hg (N := 3) ?hd (cs := #[.int .i64 c1.f0, .int .i64 c1.f1]) (t := 48) ?hr ?_; (case hd => rfl); (case hg => rfl); (case hr => first | (go_simp; done) | (go_simp; rfl)); intro g3 hgg3 w3 hbox hb; have HF3 := Aside0.mk hbox; have HB3 := Aside0.mk hb; have HG3 := Aside0.mk hgg3; clear hbox hb hgg3; have hf30 : w3.cell? ⟨g3, 0, none⟩ = some (.int .i64 c1.f0) := (blk_cell HF3.out 0).trans rfl; have hf31 : w3.cell? ⟨g3, 1, none⟩ = some (.int .i64 c1.f1) := (blk_cell HF3.out 1).trans rfl; have hf32 : (w3.alloc (.map #[] 0)).cell? ⟨g3, 0, none⟩ = some (.int .i64 c1.f0) := (blk_cell (blk_below HF3.out (below_alloc (Below.refl _ _) _)) 0).trans rfl; have hf33 : (w3.alloc (.map #[] 0)).cell? ⟨g3, 1, none⟩ = some (.int .i64 c1.f1) := (blk_cell (blk_below HF3.out (below_alloc (Below.refl _ _) _)) 1).trans rfl) | (refine wpI_insert (c := c1) rfl (.tmp 11) (.tmp 12) (.const (.int .i64 0)) rfl rfl rfl rfl (mapI_made w3) (by decide) hw1 (by decide) ?_; intro w4 hm4 hg4; have HF4 := Aside0.mk (grown_blk hg4 (blk_below HF3.out (below_alloc (Below.refl _ _) _)) (Nat.ne_of_lt (blk_lt HF3.out))); have HM4 := Aside0.mk hm4; have HG4 := Aside0.mk hg4; have hf40 : w4.cell? ⟨g3, 0, none⟩ = some (.int .i64 c1.f0) := (blk_cell HF4.out 0).trans rfl; have hf41 : w4.cell? ⟨g3, 1, none⟩ = some (.int .i64 c1.f1) := (blk_cell HF4.out 1).trans rfl; clear hm4 hg4) | ((with_reducible refine gate_dst (N := 15) rfl ?_); refine Kd.R_lit k48 _ 48 ?hg (N := 15) ?hd (xs := ([c1] : List S48)) (inner := [.int .i64 c1.f0, .int .i64 c1.f1]) (ok := fun _ => True) (okp := fun _ => True) ?hr ?hp (fun _ hk => hk) trivial (Below.refl _ _) (Nat.le_refl _) (by simp) ?_; (case hd => rfl); (case hg => rfl); (case hr => first | (go_simp; done) | (go_simp; rfl)); (case hp => exact (Reps.c2 (show Kd.M k48 _ _ _ c1 [.int .i64 c1.f0, .int .i64 c1.f1] from k48_mkM _ _ _ c1) (Reps.none _ _))); intro v15 w15 hR hB hg_ hnew_; clear hg_ hnew_; have HR5 := Aside0.mk hR; have HB5 := Aside0.mk hB; clear hR hB))
  have hl2 : g2 < w2.heap.size := blk_lt HF2.out
  have hf2 : w3.heap[g2]? = some (.cells #[.int .i64 a0_0, .int .i64 a0_1, .slice A0_2 l0_2.length c0_2] 29 (0, 0)) := blk_below HF2.out HB3.out
  have HFL := Aside0.mk (grown_blk HG4.out (blk_below hf2 (below_alloc (Below.refl _ _) (.map #[] 0))) (Nat.ne_of_lt (blk_lt hf2)))
  have hb0 : w.heap.size ≤ w3.heap.size := Nat.le_trans HB2.out.size HB3.out.size
  have hgb : w.heap.size ≤ g2 := by have := HG2.out; omega
  have hb4a := below_step (below_step HB2.out HB3.out) (below_alloc (Below.refl _ _) (.map #[] 0))
  have HB4 := Aside0.mk (hb4a.grown HG4.out hb4a.size (fun k hk => by cases hk; exact hb0))
  obtain ⟨b, hbb⟩ : ∃ b, w3.heap.size = b := ⟨_, rfl⟩
  have HS5 : Aside0 (SF w w15 #[.int .i64 a0_0, .int .i64 a0_1, .slice A0_2 l0_2.length c0_2] g2 w3.heap.size 1 (upd (fun _ => none) c1 0) v15 [c1] (.slice none 0 0) []) := Aside0.mk ⟨blk_below HFL.out HB5.out, HM4.out.below HB5.out, hb0, hgb, Kd.Q_of_R (Kd.R_lower (Kd.R_mono (Kd.R_bound HR5.out) (fun k hk => ⟨fun e => by have := HM4.out.lt; have := hk.2.1; omega, fun e => by have := blk_lt HFL.out; have := hk.2.1; omega⟩)) HB4.out.size), Kd.R_nil _ _ _ _ _, below_step HB4.out HB5.out⟩
  clear hl2 hf2 hb0 hgb hb4a HR5 HB5 HF2 HF3 HB2 HB3 HG2 HG3 HF4 HM4 HG4 HFL HB4
  rw [hbb] at HS5
  simp only [hbb]
  go_loopg [6] K (fun kq v6 w' => ∃ (m : Mp) (q : List S48) (n : Nat), Aside0 (bfs nb kq m q = some r) ∧ Aside0 (kq ≤ K) ∧ Aside0 (n + 5 * kq ≤ 5 * K + 1) ∧ Aside0 (∀ d ∈ q, G d) ∧ Aside0 (SF w w' #[.int .i64 a0_0, .int .i64 a0_1, .slice A0_2 l0_2.length c0_2] g2 b n m v6 q (.slice none 0 0) []))
  case atStart => exact ⟨_, _, 1, HH, ⟨Nat.le_refl _⟩, ⟨by omega⟩, ⟨fun d hd => by rw [List.mem_singleton] at hd; subst hd; exact hG⟩, HS5⟩
  case round =>
    clear HH HS5 hG
    obtain ⟨m, q, n, HA, HK1, HNN, HQ, HS⟩ := hrel
    cases gk with
    | zero => exact absurd HA.out (by simp [bfs])
    | succ k1 =>
      cases q with
      | nil =>
        have e := HA.out
        rw [bfs] at e
        obtain rfl := Option.some.inj e
        obtain ⟨A6, c6, e6, _⟩ := Kd.Q_slice HS.out.ln
        subst e6
        clear HA e
        go_wp2
        go_ret
        exact ⟨b, n, rfl, HS.out.mb, by have := HNN.out; omega, HS.out.mp, HS.out.bl⟩
      | cons c q =>
        have e := HA.out
        rw [bfs] at e
        cases hc : m c with
        | none => rw [hc] at e; exact absurd e (by simp)
        | some v =>
          rw [hc] at e
          dsimp only at e
          by_cases hg : q.length < 1000 ∧ 0 ≤ v ∧ v < 1000
          · rw [if_pos hg] at e
            have HE := Aside0.mk e
            have HV := Aside0.mk hg
            have HC := Aside0.mk hc
            have HGc := Aside0.mk (HQ.out c List.mem_cons_self)
            have HGq : Aside0 (∀ d ∈ q, G d) := Aside0.mk (fun d hd => HQ.out d (List.mem_cons_of_mem _ hd))
            clear e hg hc HA HQ
            obtain ⟨A6, c6, e6, hcap6⟩ := Kd.Q_slice HS.out.ln
            subst e6
            obtain ⟨ad6, ea, hx0, hx1⟩ := at_T48 (Kd.Q_reads' HS.out.ln).2.2 0 (Int.le_refl _) (by simp)
            subst ea
            rw [show (rd_T48 (c :: q) 0) = c from rfl, show ad6.add ((0 : Int).toNat * 2) = ad6 from by cases ad6; rfl] at hx0 hx1
            have hf0 : wr.cell? ⟨g2, 0, none⟩ = some (.int .i64 a0_0) := (blk_cell HS.out.fl 0).trans rfl
            have hf1 : wr.cell? ⟨g2, 1, none⟩ = some (.int .i64 a0_1) := (blk_cell HS.out.fl 1).trans rfl
            have hf2 : wr.cell? ⟨g2, 2, none⟩ = some (.slice A0_2 l0_2.length c0_2) := (blk_cell HS.out.fl 2).trans rfl
            obtain ⟨ka, hka⟩ := HN.out.run c HGc.out
            have HKA := Aside0.mk hka
            clear hka
            have hl6 : (c :: q).length = q.length + 1 := rfl
            have hcond : decide (0 < ((q.length + 1 : Nat) : Int)) = true := decide_eq_true (by omega)
            rw [hl6] at *
            go_wp2
            refine start_ (n := 7) (S := fun w' => w'.cell? ⟨g2, 0, none⟩ = some (.int .i64 a0_0) ∧ w'.cell? ⟨g2, 1, none⟩ = some (.int .i64 a0_1) ∧ w'.cell? ⟨g2, 2, none⟩ = some (.slice A0_2 l0_2.length c0_2) ∧ w'.cell? ad6 = some (.int .i64 c.f0) ∧ w'.cell? ⟨ad6.block, ad6.off + 1, none⟩ = some (.int .i64 c.f1)) (ds := [4]) #[false, false, false, false, false, false, false] (by kernel_rfl) rfl rfl ⟨hf0, hf1, hf2, hx0, hx1⟩ (fun hHeld => ?_)
            refine take_ (i := 0) (N := (some 21)) (v := ?_) (a' := ?_) #[true, false, false, false, false, false, false] rfl rfl (by kernel_rfl) (fun _ _ _ h => h) (Or.inl ⟨by rfl, ?_⟩) hHeld ?_ ?_
            rotate_left
            · intro w' s0
              obtain ⟨s1, s2, s3, s4, s5⟩ := s0
              go_simp
              with_reducible rfl
            rotate_left
            · simp only [Act.put, List.setIfInBounds_toArray, List.set_cons_zero, List.set_cons_succ, i64_w, i32_w]
              rfl
            refine pure_ (i := 1) (N := (some 22)) (v := ?_) (a' := ?_) #[true, true, false, false, false, false, false] rfl rfl (by kernel_rfl) (fun _ _ _ h => h) (Or.inl ⟨by rfl, ?_⟩) ?_ ?_
            rotate_left
            · intro w'
              go_simp
              with_reducible rfl
            rotate_left
            · simp only [Act.put, List.setIfInBounds_toArray, List.set_cons_zero, List.set_cons_succ, i64_w, i32_w]
              rfl
            refine pure_ (i := 2) (N := (some 23)) (v := ?_) (a' := ?_) #[true, true, true, false, false, false, false] rfl rfl (by kernel_rfl) (fun _ _ _ h => h) (Or.inl ⟨by rfl, ?_⟩) ?_ ?_
            rotate_left
            · intro w'
              go_simp
              with_reducible rfl
            rotate_left
            · simp only [Act.put, List.setIfInBounds_toArray, List.set_cons_zero, List.set_cons_succ, i64_w, i32_w]
              rfl
            refine take_ (i := 3) (N := (some 24)) (v := ?_) (a' := ?_) #[true, true, true, true, false, false, false] rfl rfl (by kernel_rfl) (fun _ _ _ h => h) (Or.inl ⟨by rfl, ?_⟩) hHeld ?_ ?_
            rotate_left
            · intro w' s0
              obtain ⟨s1, s2, s3, s4, s5⟩ := s0
              go_simp
              with_reducible rfl
            rotate_left
            · simp only [Act.put, List.setIfInBounds_toArray, List.set_cons_zero, List.set_cons_succ, i64_w, i32_w]
              rfl
            refine pure_ (i := 6) (N := (some 27)) (v := ?_) (a' := ?_) #[true, true, true, true, false, false, true] rfl rfl (by kernel_rfl) (fun _ _ _ h => h) (Or.inl ⟨by rfl, ?_⟩) ?_ ?_
            rotate_left
            · intro w'
              go_simp
              with_reducible rfl
            rotate_left
            · simp only [Act.put, List.setIfInBounds_toArray, List.set_cons_zero, List.set_cons_succ, i64_w, i32_w]
              rfl
            have HSd := Aside0.mk (HS.out.below (below_drew1 (Below.refl _ _)))
            have HRd := Aside0.mk (Kd.C_below HR0.out HSd.out.bl)
            generalize wr.drew = wd at HSd HRd hHeld ⊢
            refine last_ (i := 4) (N := (some 25)) #[true, true, true, true, true, false, true] rfl rfl (by kernel_rfl) (by decide) (fun K hK => ?_)
            refine call_ 70 #[.agg #[.int .i64 a0_0, .int .i64 a0_1, .slice A0_2 l0_2.length c0_2], .agg #[.int .i64 c.f0, .int .i64 c.f1]] (by rfl) rfl ?hrun4 ?_
            case hrun4 =>
              unfold execOp
              simp [resolve, Deferred.ofValue, invoke, Act.eval, enters_ Try.func70 (by kernel_rfl) rfl]
            refine (impl_around.calls ka a0_0 a0_1 A0_2 c0_2 l0_2 c.f0 c.f1 (nb c) _ HRd.out HC0.out HKA.out).mono ?_
            rintro e w25 ⟨v25, rfl, hR, hB⟩
            refine ⟨_, rfl, ?_⟩
            obtain ⟨A25, c25, rfl⟩ := Kd.R_slice hR
            have HS1 := Aside0.mk (HSd.out.near hB hR)
            clear hR hB hHeld HSd HRd HS hf0 hf1 hf2 hx0 hx1
            refine hK.out _ _ ?_
            clear hK K
            refine norm_ (a' := ?_) ?_ ?_
            rotate_left
            · show Act.put _ (some 25) _ = _
              simp only [Act.put, List.setIfInBounds_toArray, List.set_cons_zero, List.set_cons_succ, i64_w, i32_w]
              rfl
            refine pure_ (i := 5) (N := (some 26)) (v := ?_) (a' := ?_) #[true, true, true, true, true, true, true] rfl rfl (by kernel_rfl) (fun _ _ _ h => h) (Or.inl ⟨by rfl, ?_⟩) ?_ ?_
            rotate_left
            · intro w'
              go_simp
              with_reducible rfl
            rotate_left
            · simp only [Act.put, List.setIfInBounds_toArray, List.set_cons_zero, List.set_cons_succ, i64_w, i32_w]
              rfl
            refine done_ (by kernel_rfl) ?_
            go_wp2
            go_loopw [6, 27] (fun v6 v27 w' => ∃ (x : Int) (m' : Mp) (q' : List S48) (n' : Nat), v27 = .int .i64 x ∧ Aside0 (0 ≤ x ∧ x ≤ ((nb c).length : Int)) ∧ Aside0 (stepIn (v + 1) ((nb c).drop x.toNat) m' q' = stepIn (v + 1) (nb c) m q) ∧ Aside0 (m' c = some v) ∧ Aside0 ((q'.length : Int) ≤ q.length + x) ∧ Aside0 ((n' : Int) ≤ n + x) ∧ Aside0 (∀ d ∈ q', G d) ∧ Aside0 (SF w w' #[.int .i64 a0_0, .int .i64 a0_1, .slice A0_2 l0_2.length c0_2] g2 b n' m' v6 (c :: q') (.slice A25 (nb c).length c25) (nb c))) (fun _ v27 _ => (nb c).length - (intOf v27).toNat)
            case atStart => exact ⟨0, m, q, n, rfl, ⟨Int.le_refl _, by omega⟩, ⟨rfl⟩, HC, ⟨by omega⟩, ⟨by omega⟩, HGq, HS1⟩
            case round =>
              clear HS1 HC HGq
              obtain ⟨x, m', q', n', rfl, HX, HST, HC, HQL, HNL, HGq, HS⟩ := hrel
              have h5 := HN.out.len c HGc.out
              by_cases hlt : x < ((nb c).length : Int)
              · obtain ⟨ad25, ea, hy0, hy1⟩ := at_T48 (Kd.R_reads' HS.out.nb).2.2 x HX.out.1 hlt
                cases ea
                obtain ⟨d, hd⟩ : ∃ d, rd_T48 (nb c) x = d := ⟨_, rfl⟩
                have hst := HST.out
                rw [drop48 (nb c) x HX.out.1 hlt, hd] at hst
                have HGd : Aside0 (G d) := Aside0.mk (HN.out.cl c HGc.out d (by rw [← hd]; exact mem48 _ x HX.out.1 hlt))
                rw [hd] at hy0 hy1
                have hX1 : 0 ≤ x + 1 ∧ x + 1 ≤ ((nb c).length : Int) := by have := HX.out; omega
                have HX1 := Aside0.mk hX1
                have hwx : wrap64 (x + 1) = x + 1 := wrap64_id (by omega) (by omega)
                have p0 : decide (x < ((nb c).length : Int)) = true := decide_eq_true hlt
                have p1 := eq_true HX.out.1
                have p2 := eq_true hlt
                obtain ⟨A6, c6, e6, hcap6⟩ := Kd.Q_slice HS.out.ln
                subst e6
                obtain ⟨ad6, ea, hx0, hx1⟩ := at_T48 (Kd.Q_reads' HS.out.ln).2.2 0 (Int.le_refl _) (by simp)
                subst ea
                rw [show (rd_T48 (c :: q') 0) = c from rfl, show ad6.add ((0 : Int).toNat * 2) = ad6 from by cases ad6; rfl] at hx0 hx1
                clear hX1 hlt hd HST
                cases hmd : m' d with
                | some y =>
                  rw [stepIn_some hmd] at hst
                  have HST := Aside0.mk hst
                  have HD := Aside0.mk hmd
                  clear hst hmd
                  go_wp2_with (first | ((with_reducible refine gate_dst (N := 8) rfl ?_); refine box_event ?hg (N := 8) ?hd (cs := #[.int .i64 0, .int .i64 0]) (t := 48) ?hr ?_; (case hd => rfl); (case hg => rfl); (case hr => first | (go_simp; done) | (go_simp; rfl)); intro g8 hgg8 w8 hbox hb; have HF8 := Aside0.mk hbox; have HB8 := Aside0.mk hb; have HG8 := Aside0.mk hgg8; clear hbox hb hgg8; have hz0 : w8.cell? ⟨g8, 0, none⟩ = some (.int .i64 0) := (blk_cell HF8.out 0).trans rfl; have hz1 : w8.cell? ⟨g8, 1, none⟩ = some (.int .i64 0) := (blk_cell HF8.out 1).trans rfl; have hzf0 := blk_frozen HF8.out 0; have hzf1 := blk_frozen HF8.out 1) | (at_lookup; have HB9 := Aside0.mk (below_set (j := 1) (v := .int .i64 d.f1) (below_set (j := 0) (v := .int .i64 d.f0) HB8.out (Nat.le_of_eq HG8.out.symm)) (Nat.le_of_eq HG8.out.symm)); have HF9 : Aside0 (((w8.setCell ⟨g8, 0, none⟩ (.int .i64 d.f0)).setCell ⟨g8, 1, none⟩ (.int .i64 d.f1)).heap[g8]? = some (.cells #[.int .i64 d.f0, .int .i64 d.f1] 48 (0, 0))) := Aside0.mk (blk_put (cs := #[.int .i64 d.f0, .int .i64 0]) (blk_put (cs := #[.int .i64 0, .int .i64 0]) HF8.out 0 _ rfl) 1 _ rfl); have HS9 := Aside0.mk (HS.out.below HB9.out); refine wpI_lookup_ok' (c := d) rfl (.tmp 32) (.tmp 33) rfl rfl rfl HS9.out.mp (HN.out.wf d HGd.out) (v := y) (i := true) (by rw [HD.out]; rfl) (by rw [HD.out]; rfl) ?_; clear HB9 hz0 hz1 hzf0 hzf1 HF8 HB8 HG8; generalize ((w8.setCell ⟨g8, 0, none⟩ (.int .i64 d.f0)).setCell ⟨g8, 1, none⟩ (.int .i64 d.f1)) = w9 at HF9 HS9 ⊢; have hc90 : w9.cell? ⟨g8, 0, none⟩ = some (.int .i64 d.f0) := (blk_cell HF9.out 0).trans rfl; have hc91 : w9.cell? ⟨g8, 1, none⟩ = some (.int .i64 d.f1) := (blk_cell HF9.out 1).trans rfl))
                  go_roundw
                  case measure => simp [intOf]; have := HX1.out; have := HX.out; omega
                  case rel => exact ⟨x + 1, m', q', n', (by rw [hwx]), HX1, HST, HC, ⟨by have := HQL.out; omega⟩, ⟨by have := HNL.out; omega⟩, HGq, HS9⟩
                | none =>
                  rw [stepIn_none hmd] at hst
                  have HST := Aside0.mk hst
                  have HD := Aside0.mk hmd
                  clear hst hmd
                  go_wp2_with (first | ((with_reducible refine gate_dst (N := 8) rfl ?_); refine box_event ?hg (N := 8) ?hd (cs := #[.int .i64 0, .int .i64 0]) (t := 48) ?hr ?_; (case hd => rfl); (case hg => rfl); (case hr => first | (go_simp; done) | (go_simp; rfl)); intro g8 hgg8 w8 hbox hb; have HF8 := Aside0.mk hbox; have HB8 := Aside0.mk hb; have HG8 := Aside0.mk hgg8; clear hbox hb hgg8; have hz0 : w8.cell? ⟨g8, 0, none⟩ = some (.int .i64 0) := (blk_cell HF8.out 0).trans rfl; have hz1 : w8.cell? ⟨g8, 1, none⟩ = some (.int .i64 0) := (blk_cell HF8.out 1).trans rfl; have hzf0 := blk_frozen HF8.out 0; have hzf1 := blk_frozen HF8.out 1) | (at_lookup; have HB9 := Aside0.mk (below_set (j := 1) (v := .int .i64 d.f1) (below_set (j := 0) (v := .int .i64 d.f0) HB8.out (Nat.le_of_eq HG8.out.symm)) (Nat.le_of_eq HG8.out.symm)); have HF9 : Aside0 (((w8.setCell ⟨g8, 0, none⟩ (.int .i64 d.f0)).setCell ⟨g8, 1, none⟩ (.int .i64 d.f1)).heap[g8]? = some (.cells #[.int .i64 d.f0, .int .i64 d.f1] 48 (0, 0))) := Aside0.mk (blk_put (cs := #[.int .i64 d.f0, .int .i64 0]) (blk_put (cs := #[.int .i64 0, .int .i64 0]) HF8.out 0 _ rfl) 1 _ rfl); have HS9 := Aside0.mk (HS.out.below HB9.out); refine wpI_lookup_ok' (c := d) rfl (.tmp 32) (.tmp 33) rfl rfl rfl HS9.out.mp (HN.out.wf d HGd.out) (v := 0) (i := false) (by rw [HD.out]; rfl) (by rw [HD.out]; rfl) ?_; clear HB9 hz0 hz1 hzf0 hzf1 HF8 HB8 HG8; generalize ((w8.setCell ⟨g8, 0, none⟩ (.int .i64 d.f0)).setCell ⟨g8, 1, none⟩ (.int .i64 d.f1)) = w9 at HF9 HS9 ⊢; have hc90 : w9.cell? ⟨g8, 0, none⟩ = some (.int .i64 d.f0) := (blk_cell HF9.out 0).trans rfl; have hc91 : w9.cell? ⟨g8, 1, none⟩ = some (.int .i64 d.f1) := (blk_cell HF9.out 1).trans rfl))
                  obtain ⟨ad7, ea, hx0, hx1⟩ := at_T48 (Kd.Q_reads' HS9.out.ln).2.2 0 (Int.le_refl _) (by simp)
                  cases ea
                  rw [show (rd_T48 (c :: q') 0) = c from rfl, show ad6.add ((0 : Int).toNat * 2) = ad6 from by cases ad6; rfl] at hx0 hx1
                  have HSd := Aside0.mk (HS9.out.below (below_drew1 (Below.refl _ _)))
                  have hrun : (Instr.lookup 84 (.map (some b)) (.agg #[.int .i64 c.f0, .int .i64 c.f1]) false).run Try.prog w9.drew = .ok (.int .i64 v) w9.drew := by
                    have e := mapI_run HSd.out.mp (HN.out.wf c HGc.out)
                    rw [HC.out] at e
                    exact e
                  have hwv : wrap64 (v + 1) = v + 1 := wrap64_id (by have := HV.out; omega) (by have := HV.out; omega)
                  refine start_ (n := 9) (S := fun w' => w'.cell? ⟨g8, 0, none⟩ = some (.int .i64 d.f0) ∧ w'.cell? ⟨g8, 1, none⟩ = some (.int .i64 d.f1) ∧ w'.cell? ad6 = some (.int .i64 c.f0) ∧ w'.cell? ⟨ad6.block, ad6.off + 1, none⟩ = some (.int .i64 c.f1) ∧ (Instr.lookup 84 (.map (some b)) (.agg #[.int .i64 c.f0, .int .i64 c.f1]) false).run Try.prog w' = .ok (.int .i64 v) w') (ds := [8]) #[false, false, false, false, false, false, false, false, false] (by kernel_rfl) rfl rfl ⟨hc90, hc91, hx0, hx1, hrun⟩ (fun hHeld => ?_)
                  refine pure_ (i := 0) (N := (some 39)) (v := ?_) (a' := ?_) #[true, false, false, false, false, false, false, false, false] rfl rfl (by kernel_rfl) (fun _ _ _ h => h) (Or.inl ⟨by rfl, ?_⟩) ?_ ?_
                  rotate_left
                  · intro w'
                    go_simp
                    with_reducible rfl
                  rotate_left
                  · simp only [Act.put, List.setIfInBounds_toArray, List.set_cons_zero, List.set_cons_succ, i64_w, i32_w]
                    rfl
                  refine take_ (i := 1) (N := (some 40)) (v := ?_) (a' := ?_) #[true, true, false, false, false, false, false, false, false] rfl rfl (by kernel_rfl) (fun _ _ _ h => h) (Or.inl ⟨by rfl, ?_⟩) hHeld ?_ ?_
                  rotate_left
                  · intro w' s0
                    obtain ⟨s1, s2, s3, s4, s5⟩ := s0
                    go_simp
                    with_reducible rfl
                  rotate_left
                  · simp only [Act.put, List.setIfInBounds_toArray, List.set_cons_zero, List.set_cons_succ, i64_w, i32_w]
                    rfl
                  refine pure_ (i := 2) (N := (some 41)) (v := ?_) (a' := ?_) #[true, true, true, false, false, false, false, false, false] rfl rfl (by kernel_rfl) (fun _ _ _ h => h) (Or.inl ⟨by rfl, ?_⟩) ?_ ?_
                  rotate_left
                  · intro w'
                    go_simp
                    with_reducible rfl
                  rotate_left
                  · simp only [Act.put, List.setIfInBounds_toArray, List.set_cons_zero, List.set_cons_succ, i64_w, i32_w]
                    rfl
                  refine pure_ (i := 3) (N := (some 42)) (v := ?_) (a' := ?_) #[true, true, true, true, false, false, false, false, false] rfl rfl (by kernel_rfl) (fun _ _ _ h => h) (Or.inl ⟨by rfl, ?_⟩) ?_ ?_
                  rotate_left
                  · intro w'
                    go_simp
                    with_reducible rfl
                  rotate_left
                  · simp only [Act.put, List.setIfInBounds_toArray, List.set_cons_zero, List.set_cons_succ, i64_w, i32_w]
                    rfl
                  refine pure_ (i := 4) (N := (some 43)) (v := ?_) (a' := ?_) #[true, true, true, true, true, false, false, false, false] rfl rfl (by kernel_rfl) (fun _ _ _ h => h) (Or.inl ⟨by rfl, ?_⟩) ?_ ?_
                  rotate_left
                  · intro w'
                    go_simp
                    with_reducible rfl
                  rotate_left
                  · simp only [Act.put, List.setIfInBounds_toArray, List.set_cons_zero, List.set_cons_succ, i64_w, i32_w]
                    rfl
                  refine take_ (i := 5) (N := (some 44)) (v := ?_) (a' := ?_) #[true, true, true, true, true, true, false, false, false] rfl rfl (by kernel_rfl) (fun _ _ _ h => h) (Or.inl ⟨by rfl, ?_⟩) hHeld ?_ ?_
                  rotate_left
                  · intro w' s0
                    obtain ⟨s1, s2, s3, s4, s5⟩ := s0
                    go_simp
                    with_reducible rfl
                  rotate_left
                  · simp only [Act.put, List.setIfInBounds_toArray, List.set_cons_zero, List.set_cons_succ, i64_w, i32_w]
                    rfl
                  refine take_ (i := 6) (N := (some 45)) (v := ?_) (a' := ?_) #[true, true, true, true, true, true, true, false, false] rfl rfl (by kernel_rfl) (fun _ _ _ h => h) (Or.inl ⟨by rfl, ?_⟩) hHeld ?_ ?_
                  rotate_left
                  · intro w' s0
                    obtain ⟨s1, s2, s3, s4, s5⟩ := s0
                    go_simp
                    with_reducible rfl
                  rotate_left
                  · simp only [Act.put, List.setIfInBounds_toArray, List.set_cons_zero, List.set_cons_succ, i64_w, i32_w]
                    rfl
                  refine pure_ (i := 7) (N := (some 46)) (v := ?_) (a' := ?_) #[true, true, true, true, true, true, true, true, false] rfl rfl (by kernel_rfl) (fun _ _ _ h => h) (Or.inl ⟨by rfl, ?_⟩) ?_ ?_
                  rotate_left
                  · intro w'
                    go_simp
                    with_reducible rfl
                  rotate_left
                  · simp only [Act.put, List.setIfInBounds_toArray, List.set_cons_zero, List.set_cons_succ, i64_w, i32_w]
                    rfl
                  refine last_ (i := 8) (N := none) #[true, true, true, true, true, true, true, true, true] rfl rfl (by kernel_rfl) (by decide) (fun K hK => ?_)
                  obtain ⟨w10, hrun10, hm10, hg10⟩ := mapI_update HSd.out.mp (Nat.lt_of_lt_of_le (show n' < 10000 by have := HNL.out; have := HNN.out; have := HX.out; omega) (show 10000 ≤ maxLen by decide)) (HN.out.wf d HGd.out) (v := v + 1) (wf_small (by have := HV.out; omega) (by have := HV.out; omega))
                  have hrun11 : (Instr.mapUpdate 84 (.map (some b)) (.agg #[.int .i64 d.f0, .int .i64 d.f1]) (.int .i64 (v + 1))).run Try.prog w9.drew = .ok () w10 := hrun10
                  refine skip_ (w1 := w10) (by rfl) rfl ?hr8 ?_
                  case hr8 => first | (go_simp; done) | (go_simp; rfl)
                  refine hK.out _ _ ?_
                  clear hK K
                  have HS10 := Aside0.mk (HSd.out.put hm10 hg10)
                  have HF10 := Aside0.mk (grown_blk hg10 (blk_below HF9.out (below_drew1 (Below.refl _ _))) (fun e => HS9.out.mp.cells HF9.out e.symm))
                  have hc100 : w10.cell? ⟨g8, 0, none⟩ = some (.int .i64 d.f0) := (blk_cell HF10.out 0).trans rfl
                  have hc101 : w10.cell? ⟨g8, 1, none⟩ = some (.int .i64 d.f1) := (blk_cell HF10.out 1).trans rfl
                  clear hm10 hg10 hrun hrun10 hrun11 hHeld hx0 hx1 hc90 hc91 HSd HF9 HS9 HF10
                  refine done_ (by kernel_rfl) ?_
                  go_wp2_with (first | (at_builtin; refine Kd.Q_append k48 (W := w10) w.heap.size rfl (.tmp 47) (.tmp 49) 27 48 _ 16 rfl Try.underlying27 info48 rfl (by decide) (by decide) _ (c :: q') d [.int .i64 d.f0, .int .i64 d.f1] (fun k => k ≠ b ∧ k ≠ g2) (fun _ => False) rfl rfl (k48_mkM _ _ _ d) (fun _ hk => hk.elim) (fun k hk => ⟨fun e => by have := HS10.out.mp.lt; omega, fun e => by have := blk_lt HS10.out.fl; omega⟩) HS10.out.ln HS10.out.bl HS10.out.bl.size (by have := HQL.out; have := HV.out; have := HX.out; simp only [List.length_cons]; omega) ?_; intro v50 w50 hQ hB hg hat; have HS50 := Aside0.mk (HS10.out.app hQ hB hg hat); clear hQ hB hg hat HS10))
                  go_roundw
                  case measure => simp [intOf]; have := HX1.out; have := HX.out; omega
                  case rel => exact ⟨x + 1, _, _, n' + 1, (by rw [hwx]), HX1, HST, ⟨(upd_other _ _ (fun e => by have h1 := HC.out; have h2 := HD.out; rw [e] at h1; rw [h1] at h2; cases h2)).trans HC.out⟩, ⟨by have := HQL.out; rw [List.length_append, List.length_singleton]; omega⟩, ⟨by have := HNL.out; omega⟩, ⟨fun e he => by rcases List.mem_append.1 he with he | he; exact HGq.out e he; rw [List.mem_singleton] at he; subst he; exact HGd.out⟩, HS50⟩
              · have p0 : decide (x < ((nb c).length : Int)) = false := decide_eq_false hlt
                have hst := HST.out
                rw [List.drop_eq_nil_of_le (by have := HX.out; omega)] at hst
                have HEND := Aside0.mk hst
                clear hst HST
                obtain ⟨A6, c6, e6, hcap6⟩ := Kd.Q_slice HS.out.ln
                subst e6
                obtain ⟨i048, hi48, _, hsz48, _⟩ := info_parts info48
                have hcut := cut_from (P := Try.prog) 27 48 .i64 Try.underlying27 hi48 2 hsz48 A6 (c :: q').length c6 1 (by decide) (by simp only [List.length_cons]; omega)
                obtain ⟨A7, hA7⟩ : ∃ A7, (if c6 = 1 then A6 else A6.map (·.add (1 * 2))) = A7 := ⟨_, rfl⟩
                obtain ⟨c7, hc7⟩ : ∃ c7, c6 - 1 = c7 := ⟨_, rfl⟩
                have hcut2 : ∀ W : World, (Instr.slice 27 (.slice A6 (q'.length + 1) c6) (some (.int .i64 1)) none none).run Try.prog W = .ok (.slice A7 q'.length c7) W := fun W => by
                  rw [← hA7, ← hc7]
                  exact hcut W
                have hs7 : SF w wr #[.int .i64 a0_0, .int .i64 a0_1, .slice A0_2 l0_2.length c0_2] g2 b n' m' (.slice A7 q'.length c7) q' (.slice none 0 0) [] := by
                  rw [← hA7, ← hc7]
                  exact HS.out.next
                have HS7 := Aside0.mk hs7
                clear HS hs7 hcut hA7 hc7
                go_wp2
                go_roundg k1
                case measure => have := HK1.out; omega
                case rel => exact ⟨m', q', n', ⟨by have e := HE.out; rw [← HEND.out] at e; exact e⟩, ⟨by have := HK1.out; omega⟩, ⟨by have := HNN.out; have := HNL.out; have := HX.out; omega⟩, HGq, HS7⟩
          · rw [if_neg hg] at e; exact absurd e (by simp)
end Go.Proofs.Ytbpccdbkaiigcaa.G

/- The table of the numbers of steps: as a list of rows, and what the walks hold of the world while it is built. -/
namespace Go.Proofs.Ytbpccdbkaiigcaa.G
open Go.RowKit Go.Proofs.YtbpccdbkaiigcaaW.PrintWords Go.Proofs.YtbpccdbkaiigcaaW.PrintLast Go.Proofs.YtbpccdbkaiigcaaW.PrintMore
set_option linter.unusedVariables false
set_option linter.unusedSimpArgs false
def rowOf (f : S48 → Int) (y : Int) : Nat → List Int
  | 0 => []
  | x + 1 => rowOf f y x ++ [f ⟨x, y⟩]
def tabOf (f : S48 → Int) (wd : Nat) : Nat → List (List Int)
  | 0 => []
  | y + 1 => tabOf f wd y ++ [rowOf f y wd]
theorem rowOf_len (f : S48 → Int) (y : Int) : ∀ x, (rowOf f y x).length = x
  | 0 => rfl
  | x + 1 => by rw [rowOf, List.length_append, rowOf_len f y x]; rfl
theorem tabOf_len (f : S48 → Int) (wd : Nat) : ∀ y, (tabOf f wd y).length = y
  | 0 => rfl
  | y + 1 => by rw [tabOf, List.length_append, tabOf_len f wd y]; rfl
abbrev SS := Kd.slice 3 (Kd.int .i64)
/-- Rows behind one another, and the row that is built. -/
structure TB (w0 w : World) (ok : Nat → Prop) (v7 : Value) (rows : List (List Int)) (v9 : Value) (row : List Int) : Prop where
  out : Kd.S SS 72 w w0.heap.size (fun k => ok k ∧ some k ≠ v9.ownBlock) v7 rows
  row : Kd.R (Kd.int .i64) 3 w w0.heap.size ok v9 row
  bl : Below w0.heap.size w0 w
section
variable {w0 w w1 : World} {ok : Nat → Prop} {v7 v9 v1 : Value} {rows : List (List Int)} {row row' : List Int}
theorem TB.below (h : TB w0 w ok v7 rows v9 row) (hb : Below w.heap.size w w1) : TB w0 w1 ok v7 rows v9 row := ⟨Kd.S_below h.out hb, Kd.R_below h.row hb, below_step h.bl hb⟩
/-- A new row. -/
theorem TB.new (ho : Kd.S SS 72 w w0.heap.size ok v7 rows) (h0 : Below w0.heap.size w0 w) (hb : Below w.heap.size w w1) (hr : Kd.R (Kd.int .i64) 3 w1 w.heap.size (fun _ => True) v1 row') (hok : ∀ k, w.heap.size ≤ k → ok k) : TB w0 w1 ok v7 rows v1 row' :=
  ⟨Kd.S_elder' ho (Kd.R_base hr) hb, Kd.R_lower (Kd.R_mono (Kd.R_bound hr) (fun k hk => hok k hk.2.1)) h0.size, below_step h0 hb⟩
/-- Behind an append to the row. -/
theorem TB.grow (h : TB w0 w ok v7 rows v9 row) (hr : Kd.R (Kd.int .i64) 3 w1 w0.heap.size ok v1 row') (hb : Below w0.heap.size w0 w1) (hg : w.grownBy w1 v9.ownBlock) (hat : v1.ownBlock = v9.ownBlock ∨ ∃ b, v1.ownBlock = some b ∧ w.heap.size ≤ b) : TB w0 w1 ok v7 rows v1 row' :=
  ⟨Kd.S_after h.out hg hat, hr, hb⟩
theorem TB.apart (h : TB w0 w ok v7 rows v9 row) : ∀ k, some k = v9.ownBlock → ok k ∧ some k ≠ v7.ownBlock := fun k hk => ⟨h.row.1 k hk.symm, fun e => by
  obtain ⟨cells, hc⟩ := Kd.R_typed h.row k hk.symm
  exact Kd.S_ne h.out hc (by decide) e⟩
end
end Go.Proofs.Ytbpccdbkaiigcaa.G

/- The table of the numbers of steps: read at a cell, written at a cell; what the reference's walk holds of the world. -/
namespace Go.Proofs.Ytbpccdbkaiigcaa.G
open Go.RowKit Go.Proofs.YtbpccdbkaiigcaaW.PrintWords Go.Proofs.YtbpccdbkaiigcaaW.PrintLast Go.Proofs.YtbpccdbkaiigcaaW.PrintMore
set_option linter.unusedVariables false
set_option linter.unusedSimpArgs false
theorem rowOf_get (f : S48 → Int) (y : Int) : ∀ (n i : Nat), (rowOf f y n)[i]? = if i < n then some (f ⟨(i : Int), y⟩) else none
  | 0, i => by simp [rowOf]
  | n + 1, i => by
    rw [rowOf]
    by_cases h : i < n
    · rw [List.getElem?_append_left (by rw [rowOf_len]; exact h), rowOf_get f y n i, if_pos h, if_pos (by omega)]
    · rw [List.getElem?_append_right (by rw [rowOf_len]; omega), rowOf_len]
      by_cases e : i = n
      · subst e
        rw [Nat.sub_self, if_pos (by omega)]
        rfl
      · rw [if_neg (by omega), List.getElem?_eq_none (by simp; omega)]
theorem tabOf_get (f : S48 → Int) (wd : Nat) : ∀ (n i : Nat), (tabOf f wd n)[i]? = if i < n then some (rowOf f (i : Int) wd) else none
  | 0, i => by simp [tabOf]
  | n + 1, i => by
    rw [tabOf]
    by_cases h : i < n
    · rw [List.getElem?_append_left (by rw [tabOf_len]; exact h), tabOf_get f wd n i, if_pos h, if_pos (by omega)]
    · rw [List.getElem?_append_right (by rw [tabOf_len]; omega), tabOf_len]
      by_cases e : i = n
      · subst e
        rw [Nat.sub_self, if_pos (by omega)]
        rfl
      · rw [if_neg (by omega), List.getElem?_eq_none (by simp; omega)]
theorem tab_row (f : S48 → Int) (wd n : Nat) (y : Int) (h0 : 0 ≤ y) (h1 : y < (n : Int)) : rd_L5 (tabOf f wd n) y = rowOf f y wd := by
  unfold rd_L5
  rw [List.getD_eq_getElem?_getD, tabOf_get, if_pos (by omega), show ((y.toNat : Nat) : Int) = y from by omega]
  rfl
theorem row_rd (f : S48 → Int) (y : Int) (n : Nat) (x : Int) (h0 : 0 ≤ x) (h1 : x < (n : Int)) : rd (rowOf f y n) x = f ⟨x, y⟩ := by
  unfold rd
  rw [List.getD_eq_getElem?_getD, rowOf_get, if_pos (by omega), show ((x.toNat : Nat) : Int) = x from by omega]
  rfl
/-- The table with one cell written. -/
theorem tab_set (m : Mp) (wd n : Nat) (d : S48) (z : Int) (h0 : 0 ≤ d.f0) (h1 : d.f0 < (wd : Int)) (h2 : 0 ≤ d.f1) (h3 : d.f1 < (n : Int)) :
    (tabOf (fun c => (m c).getD (-1)) wd n).set d.f1.toNat ((rowOf (fun c => (m c).getD (-1)) d.f1 wd).set d.f0.toNat z) = tabOf (fun c => (upd m d z c).getD (-1)) wd n := by
  apply List.ext_getElem?
  intro i
  rw [List.getElem?_set, tabOf_len, tabOf_get, tabOf_get]
  by_cases hi : i < n
  · by_cases e : d.f1.toNat = i
    · rw [if_pos e, if_pos (by omega), if_pos hi]
      congr 1
      apply List.ext_getElem?
      intro j
      rw [List.getElem?_set, rowOf_len, rowOf_get, rowOf_get]
      have ei : (i : Int) = d.f1 := by omega
      by_cases hj : j < wd
      · by_cases e2 : d.f0.toNat = j
        · have ej : (j : Int) = d.f0 := by omega
          rw [if_pos e2, if_pos (by omega), if_pos hj, ei, ej]
          show some z = some ((upd m d z d).getD (-1))
          rw [upd_same]
          rfl
        · rw [if_neg e2, if_pos hj, if_pos hj, upd_other m z (fun e3 => e2 (by have := congrArg S48.f0 e3; dsimp only at this; omega)), ei]
      · have hne : ¬ (d.f0.toNat = j) := by omega
        rw [if_neg hne, if_neg hj, if_neg hj]
    · rw [if_neg e, if_pos hi, if_pos hi]
      congr 1
      apply List.ext_getElem?
      intro j
      rw [rowOf_get, rowOf_get]
      by_cases hj : j < wd
      · rw [if_pos hj, if_pos hj, upd_other m z (fun e3 => e (by have := congrArg S48.f1 e3; dsimp only at this; omega))]
      · rw [if_neg hj, if_neg hj]
  · have hne : ¬ (d.f1.toNat = i) := by omega
    rw [if_neg hne, if_neg hi, if_neg hi]
/-- A cell of a table that is one's own. -/
theorem tab_cell {w : World} {base : Nat} {ok : Nat → Prop} {go co n : Nat} {T : List (List Int)} (h : Kd.S SS 72 w base ok (.slice (some ⟨go, 0, none⟩) n co) T) (y x : Int) (y0 : 0 ≤ y) (y1 : y < (T.length : Int)) (x0 : 0 ≤ x) (x1 : x < ((rd_L5 T y).length : Int)) :
    ∃ gr cr, w.cell? ⟨go, y.toNat, none⟩ = some (.slice (some ⟨gr, 0, none⟩) (rd_L5 T y).length cr) ∧ w.cell? ⟨gr, x.toNat, none⟩ = some (.int .i64 (rd (rd_L5 T y) x)) ∧ w.frozen? ⟨gr, x.toNat, none⟩ = false ∧ base ≤ gr ∧ (∃ cells, w.heap[gr]? = some (.cells cells 3 (0, 0))) ∧
      ∀ z : Int, Kd.S SS 72 (w.setCell ⟨gr, x.toNat, none⟩ (.int .i64 z)) base ok (.slice (some ⟨go, 0, none⟩) n co) (T.set y.toNat ((rd_L5 T y).set x.toNat z)) := by
  have hn : n = T.length := (Kd.S_reads' h).1
  obtain ⟨oki, cl, hcl, hM, hcc, hfz, hoki, hH⟩ := Kd.S_elem h ([] : List Int) y y0 (by omega)
  obtain ⟨vr, rfl, hRow⟩ := hM
  have hRow : Kd.R (Kd.int .i64) 3 w base oki vr (rd_L5 T y) := hRow
  obtain ⟨gr, cr, rfl, hb, hlt, cells, hc⟩ := Kd.R_form hRow (by omega)
  have hx := hcc 0 _ rfl
  rw [show SS.sz = 1 from rfl, Nat.mul_one, Nat.add_zero] at hx
  obtain ⟨adr, er, hzc⟩ := Kd.at_int (Kd.R_reads' hRow).2.2 x x0 (by omega)
  cases er
  rw [show (⟨gr, 0, none⟩ : Addr).add x.toNat = ⟨gr, x.toNat, none⟩ from by rw [add_plain]] at hzc
  refine ⟨gr, cr, hx, hzc, blk_frozen hc _, hb, ⟨cells, hc⟩, fun z => ?_⟩
  have hR3 := Kd.R_seg (c := [.int .i64 (rd (rd_L5 T y) x)]) (seg := [.int .i64 z]) (j := 0) (x' := z) (okp := fun _ => False) hRow x x0 (by omega) rfl (by
    intro j u hu
    cases j with
    | zero =>
      obtain rfl : Value.int .i64 (rd (rd_L5 T y) x) = u := by simpa using hu
      rw [show (Kd.int .i64).sz = 1 from rfl, Nat.mul_one, Nat.add_zero]
      exact hzc
    | succ j => simp at hu) (Nat.le_refl 1) rfl (fun _ h => h.elim)
  rw [show (Kd.int .i64).sz = 1 from rfl, Nat.mul_one, Nat.add_zero] at hR3
  have hH2 := Kd.H_grown hH hR3.2 (fun b hb => by cases hb; exact hRow.1 gr (by simp [Value.ownBlock]))
  exact Kd.H_back hH2 (x' := (rd_L5 T y).set x.toNat z) ⟨_, rfl, hR3.1⟩ (fun _ h => h)
structure SQ (w0 w : World) (fc : Array Value) (g2 : Nat) (v6 : Value) (T : List (List Int)) (v10 : Value) (l : List S48) (vn : Value) (ds : List S48) : Prop where
  fl : w.heap[g2]? = some (.cells fc 29 (0, 0))
  tb : Kd.S SS 72 w w0.heap.size (fun _ => True) v6 T
  qu : Kd.R k48 48 w w0.heap.size (fun _ => True) v10 l
  nx : Kd.R k48 48 w w0.heap.size (fun k => True ∧ some k ≠ v10.ownBlock) vn ds
  bl : Below w0.heap.size w0 w
section
variable {w0 w w1 : World} {fc : Array Value} {g2 : Nat} {v6 v10 v11 vn vn' : Value} {T T' : List (List Int)} {l l' ds ds' : List S48}
theorem SQ.below (h : SQ w0 w fc g2 v6 T v10 l vn ds) (hb : Below w.heap.size w w1) : SQ w0 w1 fc g2 v6 T v10 l vn ds := ⟨blk_below h.fl hb, Kd.S_below h.tb hb, Kd.R_below h.qu hb, Kd.R_below h.nx hb, below_step h.bl hb⟩
theorem SQ.store (h : SQ w0 w fc g2 v6 T v10 l vn ds) {gr j : Nat} {u : Value} {cells : Array Value} (hc : w.heap[gr]? = some (.cells cells 3 (0, 0))) (hb : w0.heap.size ≤ gr) (ht : Kd.S SS 72 (w.setCell ⟨gr, j, none⟩ u) w0.heap.size (fun _ => True) v6 T') : SQ w0 (w.setCell ⟨gr, j, none⟩ u) fc g2 v6 T' v10 l vn ds :=
  ⟨blk_far h.fl (p := ⟨gr, j, none⟩) (fun e => by have e : g2 = gr := e; have := h.fl; rw [e, hc] at this; injection this with this; injection this with _ this; exact absurd this (by decide)) u, ht,
    Kd.R_mono (Kd.R_far (p := ⟨gr, j, none⟩) (Kd.R_types h.qu hc (by decide)) (fun _ hk => hk.2) u) (fun _ hk => hk.1),
    Kd.R_mono (Kd.R_far (p := ⟨gr, j, none⟩) (Kd.R_types h.nx hc (by decide)) (fun _ hk => hk.2) u) (fun _ hk => hk.1), below_set h.bl hb⟩
theorem SQ.app (h : SQ w0 w fc g2 v6 T v10 l vn ds) (hq : Kd.R k48 48 w1 w0.heap.size (fun _ => True) v11 l') (hb : Below w0.heap.size w0 w1) (hg : w.grownBy w1 v10.ownBlock) (hat : v11.ownBlock = v10.ownBlock ∨ ∃ b, v11.ownBlock = some b ∧ w.heap.size ≤ b) : SQ w0 w1 fc g2 v6 T v11 l' vn ds :=
  ⟨(hg.block g2 (blk_lt h.fl) (Kd.R_ne h.qu h.fl (by decide))).trans h.fl, Kd.S_over' h.tb (fun k hk => Kd.R_typed h.qu k hk) (by decide) hg, hq, Kd.R_after h.nx hg hat, hb⟩
theorem SQ.near (h : SQ w0 w fc g2 v6 T v10 l vn ds) (hb : Below w.heap.size w w1) (hr : Kd.R k48 48 w1 w.heap.size (fun _ => True) vn' ds') : SQ w0 w1 fc g2 v6 T v10 l vn' ds' :=
  have h' := h.below hb
  ⟨h'.fl, h'.tb, h'.qu, Kd.R_lower (Kd.R_mono (Kd.R_bound hr) (fun k hk => ⟨trivial, fun e => by have := Kd.R_lt h.qu k e.symm; have := hk.2.1; omega⟩)) h.bl.size, h'.bl⟩
end
end Go.Proofs.Ytbpccdbkaiigcaa.G

-- Written by wip/tools/gen.py out of the translation (the kit's printer, one namespace a seat). Lean checks it.
namespace Go.Proofs.Ytbpccdbkaiigcaa.G
open Go.RowKit Go.Proofs.YtbpccdbkaiigcaaW.PrintWords Go.Proofs.YtbpccdbkaiigcaaW.PrintLast Go.Proofs.YtbpccdbkaiigcaaW.PrintMore
attribute [local go_sem] max2_int min2_int max_two min_two max_three min_three max_four min_four   -- for this text's walks alone
set_option linter.unusedVariables false
set_option linter.unusedSimpArgs false

/-! ### spec_l16Asked: function 63 -/
def spec_l16Asked.f (k : Nat) (a0_0 : Int) (a0_1 : Int) (l0_2 : List (S48)) (a1_0 : Int) (a1_1 : Int) (a2_0 : Int) (a2_1 : Int) : Option (Bool) := (spec_l16Good.f k a0_0 a0_1 l0_2).bind fun t380 => (if t380 = true then ((spec_l16Free.f k a0_0 a0_1 l0_2 a1_0 a1_1).bind fun t381 => (if t381 = true then ((spec_l16Free.f k a0_0 a0_1 l0_2 a2_0 a2_1).bind fun t382 => (some t382)) else (some false))) else (some false))
set_option maxHeartbeats 8000000 in
set_option maxRecDepth 100000 in
theorem spec_l16Asked.calls (k : Nat) (a0_0 : Int) (a0_1 : Int) (A0_2 : Option Addr) (c0_2 : Nat) (l0_2 : List (S48)) (a1_0 : Int) (a1_1 : Int) (a2_0 : Int) (a2_1 : Int) (r : Bool) (w : World) (hr0_2 : Kd.C k48 w A0_2 l0_2.length l0_2) (hc0_2 : l0_2.length ≤ c0_2) (h : spec_l16Asked.f k a0_0 a0_1 l0_2 a1_0 a1_1 a2_0 a2_1 = some r) :
  Calls Try.prog 63 #[.agg #[.int .i64 a0_0, .int .i64 a0_1, .slice A0_2 l0_2.length c0_2], .agg #[.int .i64 a1_0, .int .i64 a1_1], .agg #[.int .i64 a2_0, .int .i64 a2_1]] w fun e w' => e = .returned (.bool r) ∧ Below w.heap.size w w' := by
 have hu29 := Try.underlying29
 have hu48 := Try.underlying48
 have HR0_2 := Aside0.mk hr0_2
 have HC0_2 := Aside0.mk hc0_2
 clear hr0_2 hc0_2
 have HB := Aside0.mk (Below.refl w.heap.size w)
 have H : ((spec_l16Good.f k a0_0 a0_1 l0_2).bind fun t380 => (if t380 = true then ((spec_l16Free.f k a0_0 a0_1 l0_2 a1_0 a1_1).bind fun t381 => (if t381 = true then ((spec_l16Free.f k a0_0 a0_1 l0_2 a2_0 a2_1).bind fun t382 => (some t382)) else (some false))) else (some false))) = some r := h
 clear h
 replace H := Option.bind_eq_some_iff.mp H
 obtain ⟨t380, A40, H⟩ := H
 replace H : (if t380 = true then ((spec_l16Free.f k a0_0 a0_1 l0_2 a1_0 a1_1).bind fun t381 => (if t381 = true then ((spec_l16Free.f k a0_0 a0_1 l0_2 a2_0 a2_1).bind fun t382 => (some t382)) else (some false))) else (some false)) = some r := H
 have A4 := Aside0.mk A40
 clear A40
 by_cases c5 : t380 = true
 ·subst c5
  have H1 : ((spec_l16Free.f k a0_0 a0_1 l0_2 a1_0 a1_1).bind fun t381 => (if t381 = true then ((spec_l16Free.f k a0_0 a0_1 l0_2 a2_0 a2_1).bind fun t382 => (some t382)) else (some false))) = some r := by rw [if_pos rfl] at H; exact H
  clear H
  have H := H1
  clear H1
  replace H := Option.bind_eq_some_iff.mp H
  obtain ⟨t381, A60, H⟩ := H
  replace H : (if t381 = true then ((spec_l16Free.f k a0_0 a0_1 l0_2 a2_0 a2_1).bind fun t382 => (some t382)) else (some false)) = some r := H
  have A6 := Aside0.mk A60
  clear A60
  by_cases c7 : t381 = true
  ·subst c7
   have H1 : ((spec_l16Free.f k a0_0 a0_1 l0_2 a2_0 a2_1).bind fun t382 => (some t382)) = some r := by rw [if_pos rfl] at H; exact H
   clear H
   have H := H1
   clear H1
   replace H := Option.bind_eq_some_iff.mp H
   obtain ⟨t382, A80, H⟩ := H
   replace H : (some t382) = some r := H
   have A8 := Aside0.mk A80
   clear A80
   obtain rfl := Option.some.inj H
   go_enter Try.func63, Try.ntmps63
   go_wp2_with (first | ((with_reducible refine gate_dst (N := 3) rfl ?_); refine box_event ?hg (N := 3) ?hd (cs := #[.int .i64 a0_0, .int .i64 a0_1, .slice A0_2 l0_2.length c0_2]) (t := 29) ?hr ?_; (case hd => rfl); (case hg => rfl); (case hr => first | (go_simp; done) | (go_simp; rfl)); intro gb377 hg w9 hbox hb; have n0_ := Aside0.mk (below_step (by repeat (first | (with_reducible first | exact HB.out | apply below_alloc | apply pw_below_drewN | apply below_drew1) | exact HB.out)) hb); have n1_ := Aside0.mk (hbox); have n2_ := Aside0.mk ((by rw [hg]; exact (below_size (by repeat (first | (with_reducible first | exact HB.out | apply below_alloc | apply pw_below_drewN | apply below_drew1) | exact HB.out))) : w.heap.size ≤ gb377)); have n3_ := Aside0.mk ((by rw [hg]; exact (below_size (by repeat (first | (with_reducible first | exact HB.out | apply below_alloc | apply pw_below_drewN | apply below_drew1) | exact HB.out))) : w.heap.size ≤ gb377)); clear HB; have HB := n0_; have BK377 := n1_; have GW377 := n2_; have GE377 := n3_; clear n0_ n1_ n2_ n3_; clear hb hbox hg) | ((with_reducible refine gate_dst (N := 4) rfl ?_); refine box_event ?hg (N := 4) ?hd (cs := #[.int .i64 a1_0, .int .i64 a1_1]) (t := 48) ?hr ?_; (case hd => rfl); (case hg => rfl); (case hr => first | (go_simp; done) | (go_simp; rfl)); intro gb378 hg w10 hbox hb; have n0_ := Aside0.mk (blk_below (g := gb377) (o := .cells #[.int .i64 a0_0, .int .i64 a0_1, .slice A0_2 l0_2.length c0_2] 29 (0, 0)) (by (with_reducible repeat (first | refine blk_drewN ?_ _ | refine blk_drew ?_ | refine blk_alloc ?_ _)); exact BK377.out) hb); have n1_ := Aside0.mk (below_step (by repeat (first | (with_reducible first | exact HB.out | apply below_alloc | apply pw_below_drewN | apply below_drew1 | refine below_set ?_ GE377.out) | exact HB.out)) hb); have n2_ := Aside0.mk (hbox); have n3_ := Aside0.mk ((by rw [hg]; exact (below_size (by repeat (first | (with_reducible first | exact HB.out | apply below_alloc | apply pw_below_drewN | apply below_drew1 | refine below_set ?_ GE377.out) | exact HB.out))) : w.heap.size ≤ gb378)); have n4_ := Aside0.mk ((by rw [hg]; exact (below_size (by repeat (first | (with_reducible first | exact HB.out | apply below_alloc | apply pw_below_drewN | apply below_drew1 | refine below_set ?_ GE377.out) | exact HB.out))) : w.heap.size ≤ gb378)); have n5_ := Aside0.mk ((by rw [hg]; exact Nat.ne_of_lt (blk_lt (g := gb377) (o := .cells #[.int .i64 a0_0, .int .i64 a0_1, .slice A0_2 l0_2.length c0_2] 29 (0, 0)) (by (with_reducible repeat (first | refine blk_drewN ?_ _ | refine blk_drew ?_ | refine blk_alloc ?_ _)); exact BK377.out)) : gb377 ≠ gb378)); have n6_ := Aside0.mk ((by rw [hg]; exact Nat.ne_of_gt (blk_lt (g := gb377) (o := .cells #[.int .i64 a0_0, .int .i64 a0_1, .slice A0_2 l0_2.length c0_2] 29 (0, 0)) (by (with_reducible repeat (first | refine blk_drewN ?_ _ | refine blk_drew ?_ | refine blk_alloc ?_ _)); exact BK377.out)) : gb378 ≠ gb377)); clear BK377; clear HB; have BK377 := n0_; have HB := n1_; have BK378 := n2_; have GW378 := n3_; have GE378 := n4_; have NB377_378 := n5_; have NB378_377 := n6_; clear n0_ n1_ n2_ n3_ n4_ n5_ n6_; clear hb hbox hg) | ((with_reducible refine gate_dst (N := 5) rfl ?_); refine box_event ?hg (N := 5) ?hd (cs := #[.int .i64 a2_0, .int .i64 a2_1]) (t := 48) ?hr ?_; (case hd => rfl); (case hg => rfl); (case hr => first | (go_simp; done) | (go_simp; rfl)); intro gb379 hg w11 hbox hb; have n0_ := Aside0.mk (blk_below (g := gb377) (o := .cells #[.int .i64 a0_0, .int .i64 a0_1, .slice A0_2 l0_2.length c0_2] 29 (0, 0)) (by (with_reducible repeat (first | refine blk_drewN ?_ _ | refine blk_drew ?_ | refine blk_alloc ?_ _)); exact BK377.out) hb); have n1_ := Aside0.mk (blk_below (g := gb378) (o := .cells #[.int .i64 a1_0, .int .i64 a1_1] 48 (0, 0)) (by (with_reducible repeat (first | refine blk_drewN ?_ _ | refine blk_drew ?_ | refine blk_alloc ?_ _)); exact BK378.out) hb); have n2_ := Aside0.mk (below_step (by repeat (first | (with_reducible first | exact HB.out | apply below_alloc | apply pw_below_drewN | apply below_drew1 | refine below_set ?_ GE377.out | refine below_set ?_ GE378.out) | exact HB.out)) hb); have n3_ := Aside0.mk (hbox); have n4_ := Aside0.mk ((by rw [hg]; exact (below_size (by repeat (first | (with_reducible first | exact HB.out | apply below_alloc | apply pw_below_drewN | apply below_drew1 | refine below_set ?_ GE377.out | refine below_set ?_ GE378.out) | exact HB.out))) : w.heap.size ≤ gb379)); have n5_ := Aside0.mk ((by rw [hg]; exact (below_size (by repeat (first | (with_reducible first | exact HB.out | apply below_alloc | apply pw_below_drewN | apply below_drew1 | refine below_set ?_ GE377.out | refine below_set ?_ GE378.out) | exact HB.out))) : w.heap.size ≤ gb379)); have n6_ := Aside0.mk ((by rw [hg]; exact Nat.ne_of_lt (blk_lt (g := gb377) (o := .cells #[.int .i64 a0_0, .int .i64 a0_1, .slice A0_2 l0_2.length c0_2] 29 (0, 0)) (by (with_reducible repeat (first | refine blk_drewN ?_ _ | refine blk_drew ?_ | refine blk_alloc ?_ _)); exact BK377.out)) : gb377 ≠ gb379)); have n7_ := Aside0.mk ((by rw [hg]; exact Nat.ne_of_gt (blk_lt (g := gb377) (o := .cells #[.int .i64 a0_0, .int .i64 a0_1, .slice A0_2 l0_2.length c0_2] 29 (0, 0)) (by (with_reducible repeat (first | refine blk_drewN ?_ _ | refine blk_drew ?_ | refine blk_alloc ?_ _)); exact BK377.out)) : gb379 ≠ gb377)); have n8_ := Aside0.mk ((by rw [hg]; exact Nat.ne_of_lt (blk_lt (g := gb378) (o := .cells #[.int .i64 a1_0, .int .i64 a1_1] 48 (0, 0)) (by (with_reducible repeat (first | refine blk_drewN ?_ _ | refine blk_drew ?_ | refine blk_alloc ?_ _)); exact BK378.out)) : gb378 ≠ gb379)); have n9_ := Aside0.mk ((by rw [hg]; exact Nat.ne_of_gt (blk_lt (g := gb378) (o := .cells #[.int .i64 a1_0, .int .i64 a1_1] 48 (0, 0)) (by (with_reducible repeat (first | refine blk_drewN ?_ _ | refine blk_drew ?_ | refine blk_alloc ?_ _)); exact BK378.out)) : gb379 ≠ gb378)); clear BK377; clear BK378; clear HB; have BK377 := n0_; have BK378 := n1_; have HB := n2_; have BK379 := n3_; have GW379 := n4_; have GE379 := n5_; have NB377_379 := n6_; have NB379_377 := n7_; have NB378_379 := n8_; have NB379_378 := n9_; clear n0_ n1_ n2_ n3_ n4_ n5_ n6_ n7_ n8_ n9_; clear hb hbox hg; have hnb12 := NB377_378.out; have hnc12 := NB378_377.out; have hnb13 := NB377_379.out; have hnc13 := NB379_377.out; have hcz14_0 : w11.cell? ⟨gb377, 0, none⟩ = some (.int .i64 a0_0) := (blk_cell BK377.out 0).trans rfl; have hcz14_1 : w11.cell? ⟨gb377, 1, none⟩ = some (.int .i64 a0_1) := (blk_cell BK377.out 1).trans rfl; have hcz14_2 : w11.cell? ⟨gb377, 2, none⟩ = some (.slice A0_2 l0_2.length c0_2) := (blk_cell BK377.out 2).trans rfl; have hfz14_0 := blk_frozen BK377.out 0; have hfz14_1 := blk_frozen BK377.out 1; have hfz14_2 := blk_frozen BK377.out 2) | ((with_reducible refine gate_callee (f := 53) rfl ?_); refine goesL_ (some 8) rfl rfl Try.func53 (by kernel_rfl) rfl #[.agg #[.int .i64 a0_0, .int .i64 a0_1, .slice A0_2 l0_2.length c0_2]] rfl (by (try simp only [List.map_toArray, List.map_cons, List.map_nil]); first | done | rfl | (simp only [List.length_drop, List.length_take]; rfl)) ?_; (with_reducible refine (spec_l16Good.calls k a0_0 a0_1 _ _ l0_2 true _ ?side1 ?side2 A4.out).mono ?_); (case side1 => repeat (first | exact (Kd.C_below HR0_2.out HB.out) | (with_reducible refine Kd.C_alloc ?_ _) | (with_reducible refine Kd.C_drewN ?_ _) | (with_reducible refine Kd.C_drew ?_))); (case side2 => exact HC0_2.out); rintro e w15 ⟨rfl, hb⟩; refine ⟨_, rfl, ?_⟩; have n0_ := Aside0.mk (blk_below (g := gb377) (o := .cells #[.int .i64 a0_0, .int .i64 a0_1, .slice A0_2 l0_2.length c0_2] 29 (0, 0)) (by (with_reducible repeat (first | refine blk_drewN ?_ _ | refine blk_drew ?_ | refine blk_alloc ?_ _)); exact BK377.out) hb); have n1_ := Aside0.mk (blk_below (g := gb378) (o := .cells #[.int .i64 a1_0, .int .i64 a1_1] 48 (0, 0)) (by (with_reducible repeat (first | refine blk_drewN ?_ _ | refine blk_drew ?_ | refine blk_alloc ?_ _)); exact BK378.out) hb); have n2_ := Aside0.mk (blk_below (g := gb379) (o := .cells #[.int .i64 a2_0, .int .i64 a2_1] 48 (0, 0)) (by (with_reducible repeat (first | refine blk_drewN ?_ _ | refine blk_drew ?_ | refine blk_alloc ?_ _)); exact BK379.out) hb); have n3_ := Aside0.mk (below_step (by repeat (first | (with_reducible first | exact HB.out | apply below_alloc | apply pw_below_drewN | apply below_drew1 | refine below_set ?_ GE377.out | refine below_set ?_ GE378.out | refine below_set ?_ GE379.out) | exact HB.out)) hb); clear BK377; clear BK378; clear BK379; clear HB; have BK377 := n0_; have BK378 := n1_; have BK379 := n2_; have HB := n3_; clear n0_ n1_ n2_ n3_; (try clear hb); (try clear hb2); (try clear hk); (try clear hi); have hcz16_0 : w15.cell? ⟨gb377, 0, none⟩ = some (.int .i64 a0_0) := (blk_cell BK377.out 0).trans rfl; have hcz16_1 : w15.cell? ⟨gb377, 1, none⟩ = some (.int .i64 a0_1) := (blk_cell BK377.out 1).trans rfl; have hcz16_2 : w15.cell? ⟨gb377, 2, none⟩ = some (.slice A0_2 l0_2.length c0_2) := (blk_cell BK377.out 2).trans rfl; have hfz16_0 := blk_frozen BK377.out 0; have hfz16_1 := blk_frozen BK377.out 1; have hfz16_2 := blk_frozen BK377.out 2; have hnb17 := NB378_379.out; have hnc17 := NB379_378.out; have hcz18_0 : w15.cell? ⟨gb378, 0, none⟩ = some (.int .i64 a1_0) := (blk_cell BK378.out 0).trans rfl; have hcz18_1 : w15.cell? ⟨gb378, 1, none⟩ = some (.int .i64 a1_1) := (blk_cell BK378.out 1).trans rfl; have hfz18_0 := blk_frozen BK378.out 0; have hfz18_1 := blk_frozen BK378.out 1) | (go_at_call 82; (with_reducible refine (spec_l16Free.calls k a0_0 a0_1 _ _ l0_2 a1_0 a1_1 true _ ?side1 ?side2 A6.out).mono ?_); (case side1 => repeat (first | exact (Kd.C_below HR0_2.out HB.out) | (with_reducible refine Kd.C_alloc ?_ _) | (with_reducible refine Kd.C_drewN ?_ _) | (with_reducible refine Kd.C_drew ?_))); (case side2 => exact HC0_2.out); rintro e w19 ⟨rfl, hb⟩; have n0_ := Aside0.mk (blk_below (g := gb377) (o := .cells #[.int .i64 a0_0, .int .i64 a0_1, .slice A0_2 l0_2.length c0_2] 29 (0, 0)) (by (with_reducible repeat (first | refine blk_drewN ?_ _ | refine blk_drew ?_ | refine blk_alloc ?_ _)); exact BK377.out) hb); have n1_ := Aside0.mk (blk_below (g := gb378) (o := .cells #[.int .i64 a1_0, .int .i64 a1_1] 48 (0, 0)) (by (with_reducible repeat (first | refine blk_drewN ?_ _ | refine blk_drew ?_ | refine blk_alloc ?_ _)); exact BK378.out) hb); have n2_ := Aside0.mk (blk_below (g := gb379) (o := .cells #[.int .i64 a2_0, .int .i64 a2_1] 48 (0, 0)) (by (with_reducible repeat (first | refine blk_drewN ?_ _ | refine blk_drew ?_ | refine blk_alloc ?_ _)); exact BK379.out) hb); have n3_ := Aside0.mk (below_step (by repeat (first | (with_reducible first | exact HB.out | apply below_alloc | apply pw_below_drewN | apply below_drew1 | refine below_set ?_ GE377.out | refine below_set ?_ GE378.out | refine below_set ?_ GE379.out) | exact HB.out)) hb); clear BK377; clear BK378; clear BK379; clear HB; have BK377 := n0_; have BK378 := n1_; have BK379 := n2_; have HB := n3_; clear n0_ n1_ n2_ n3_; (try clear hb); (try clear hb2); (try clear hk); (try clear hi); have hcz20_0 : w19.cell? ⟨gb377, 0, none⟩ = some (.int .i64 a0_0) := (blk_cell BK377.out 0).trans rfl; have hcz20_1 : w19.cell? ⟨gb377, 1, none⟩ = some (.int .i64 a0_1) := (blk_cell BK377.out 1).trans rfl; have hcz20_2 : w19.cell? ⟨gb377, 2, none⟩ = some (.slice A0_2 l0_2.length c0_2) := (blk_cell BK377.out 2).trans rfl; have hfz20_0 := blk_frozen BK377.out 0; have hfz20_1 := blk_frozen BK377.out 1; have hfz20_2 := blk_frozen BK377.out 2; have hcz21_0 : w19.cell? ⟨gb379, 0, none⟩ = some (.int .i64 a2_0) := (blk_cell BK379.out 0).trans rfl; have hcz21_1 : w19.cell? ⟨gb379, 1, none⟩ = some (.int .i64 a2_1) := (blk_cell BK379.out 1).trans rfl; have hfz21_0 := blk_frozen BK379.out 0; have hfz21_1 := blk_frozen BK379.out 1) | (go_at_call 82; (with_reducible refine (spec_l16Free.calls k a0_0 a0_1 _ _ l0_2 a2_0 a2_1 t382 _ ?side1 ?side2 A8.out).mono ?_); (case side1 => repeat (first | exact (Kd.C_below HR0_2.out HB.out) | (with_reducible refine Kd.C_alloc ?_ _) | (with_reducible refine Kd.C_drewN ?_ _) | (with_reducible refine Kd.C_drew ?_))); (case side2 => exact HC0_2.out); rintro e w22 ⟨rfl, hb⟩; have n0_ := Aside0.mk (blk_below (g := gb377) (o := .cells #[.int .i64 a0_0, .int .i64 a0_1, .slice A0_2 l0_2.length c0_2] 29 (0, 0)) (by (with_reducible repeat (first | refine blk_drewN ?_ _ | refine blk_drew ?_ | refine blk_alloc ?_ _)); exact BK377.out) hb); have n1_ := Aside0.mk (blk_below (g := gb378) (o := .cells #[.int .i64 a1_0, .int .i64 a1_1] 48 (0, 0)) (by (with_reducible repeat (first | refine blk_drewN ?_ _ | refine blk_drew ?_ | refine blk_alloc ?_ _)); exact BK378.out) hb); have n2_ := Aside0.mk (blk_below (g := gb379) (o := .cells #[.int .i64 a2_0, .int .i64 a2_1] 48 (0, 0)) (by (with_reducible repeat (first | refine blk_drewN ?_ _ | refine blk_drew ?_ | refine blk_alloc ?_ _)); exact BK379.out) hb); have n3_ := Aside0.mk (below_step (by repeat (first | (with_reducible first | exact HB.out | apply below_alloc | apply pw_below_drewN | apply below_drew1 | refine below_set ?_ GE377.out | refine below_set ?_ GE378.out | refine below_set ?_ GE379.out) | exact HB.out)) hb); clear BK377; clear BK378; clear BK379; clear HB; have BK377 := n0_; have BK378 := n1_; have BK379 := n2_; have HB := n3_; clear n0_ n1_ n2_ n3_; (try clear hb); (try clear hb2); (try clear hk); (try clear hi)))
   go_ret
   exact ⟨by first | rfl | (simp [errW_none, errW_some] <;> rfl) | (simp [*, errW_none, errW_some] <;> rfl), by repeat (first | (with_reducible first | exact HB.out | apply below_alloc | apply pw_below_drewN | apply below_drew1 | refine below_set ?_ GE377.out | refine below_set ?_ GE378.out | refine below_set ?_ GE379.out) | exact HB.out)⟩
  ·replace c7 := Bool.eq_false_iff.mpr c7
   subst c7
   have H1 : (some false) = some r := by rw [if_neg (show ¬ (false = true) by decide)] at H; exact H
   clear H
   have H := H1
   clear H1
   obtain rfl := Option.some.inj H
   go_enter Try.func63, Try.ntmps63
   go_wp2_with (first | ((with_reducible refine gate_dst (N := 3) rfl ?_); refine box_event ?hg (N := 3) ?hd (cs := #[.int .i64 a0_0, .int .i64 a0_1, .slice A0_2 l0_2.length c0_2]) (t := 29) ?hr ?_; (case hd => rfl); (case hg => rfl); (case hr => first | (go_simp; done) | (go_simp; rfl)); intro gb377 hg w23 hbox hb; have n0_ := Aside0.mk (below_step (by repeat (first | (with_reducible first | exact HB.out | apply below_alloc | apply pw_below_drewN | apply below_drew1) | exact HB.out)) hb); have n1_ := Aside0.mk (hbox); have n2_ := Aside0.mk ((by rw [hg]; exact (below_size (by repeat (first | (with_reducible first | exact HB.out | apply below_alloc | apply pw_below_drewN | apply below_drew1) | exact HB.out))) : w.heap.size ≤ gb377)); have n3_ := Aside0.mk ((by rw [hg]; exact (below_size (by repeat (first | (with_reducible first | exact HB.out | apply below_alloc | apply pw_below_drewN | apply below_drew1) | exact HB.out))) : w.heap.size ≤ gb377)); clear HB; have HB := n0_; have BK377 := n1_; have GW377 := n2_; have GE377 := n3_; clear n0_ n1_ n2_ n3_; clear hb hbox hg) | ((with_reducible refine gate_dst (N := 4) rfl ?_); refine box_event ?hg (N := 4) ?hd (cs := #[.int .i64 a1_0, .int .i64 a1_1]) (t := 48) ?hr ?_; (case hd => rfl); (case hg => rfl); (case hr => first | (go_simp; done) | (go_simp; rfl)); intro gb378 hg w24 hbox hb; have n0_ := Aside0.mk (blk_below (g := gb377) (o := .cells #[.int .i64 a0_0, .int .i64 a0_1, .slice A0_2 l0_2.length c0_2] 29 (0, 0)) (by (with_reducible repeat (first | refine blk_drewN ?_ _ | refine blk_drew ?_ | refine blk_alloc ?_ _)); exact BK377.out) hb); have n1_ := Aside0.mk (below_step (by repeat (first | (with_reducible first | exact HB.out | apply below_alloc | apply pw_below_drewN | apply below_drew1 | refine below_set ?_ GE377.out) | exact HB.out)) hb); have n2_ := Aside0.mk (hbox); have n3_ := Aside0.mk ((by rw [hg]; exact (below_size (by repeat (first | (with_reducible first | exact HB.out | apply below_alloc | apply pw_below_drewN | apply below_drew1 | refine below_set ?_ GE377.out) | exact HB.out))) : w.heap.size ≤ gb378)); have n4_ := Aside0.mk ((by rw [hg]; exact (below_size (by repeat (first | (with_reducible first | exact HB.out | apply below_alloc | apply pw_below_drewN | apply below_drew1 | refine below_set ?_ GE377.out) | exact HB.out))) : w.heap.size ≤ gb378)); have n5_ := Aside0.mk ((by rw [hg]; exact Nat.ne_of_lt (blk_lt (g := gb377) (o := .cells #[.int .i64 a0_0, .int .i64 a0_1, .slice A0_2 l0_2.length c0_2] 29 (0, 0)) (by (with_reducible repeat (first | refine blk_drewN ?_ _ | refine blk_drew ?_ | refine blk_alloc ?_ _)); exact BK377.out)) : gb377 ≠ gb378)); have n6_ := Aside0.mk ((by rw [hg]; exact Nat.ne_of_gt (blk_lt (g := gb377) (o := .cells #[.int .i64 a0_0, .int .i64 a0_1, .slice A0_2 l0_2.length c0_2] 29 (0, 0)) (by (with_reducible repeat (first | refine blk_drewN ?_ _ | refine blk_drew ?_ | refine blk_alloc ?_ _)); exact BK377.out)) : gb378 ≠ gb377)); clear BK377; clear HB; have BK377 := n0_; have HB := n1_; have BK378 := n2_; have GW378 := n3_; have GE378 := n4_; have NB377_378 := n5_; have NB378_377 := n6_; clear n0_ n1_ n2_ n3_ n4_ n5_ n6_; clear hb hbox hg) | ((with_reducible refine gate_dst (N := 5) rfl ?_); refine box_event ?hg (N := 5) ?hd (cs := #[.int .i64 a2_0, .int .i64 a2_1]) (t := 48) ?hr ?_; (case hd => rfl); (case hg => rfl); (case hr => first | (go_simp; done) | (go_simp; rfl)); intro gb379 hg w25 hbox hb; have n0_ := Aside0.mk (blk_below (g := gb377) (o := .cells #[.int .i64 a0_0, .int .i64 a0_1, .slice A0_2 l0_2.length c0_2] 29 (0, 0)) (by (with_reducible repeat (first | refine blk_drewN ?_ _ | refine blk_drew ?_ | refine blk_alloc ?_ _)); exact BK377.out) hb); have n1_ := Aside0.mk (blk_below (g := gb378) (o := .cells #[.int .i64 a1_0, .int .i64 a1_1] 48 (0, 0)) (by (with_reducible repeat (first | refine blk_drewN ?_ _ | refine blk_drew ?_ | refine blk_alloc ?_ _)); exact BK378.out) hb); have n2_ := Aside0.mk (below_step (by repeat (first | (with_reducible first | exact HB.out | apply below_alloc | apply pw_below_drewN | apply below_drew1 | refine below_set ?_ GE377.out | refine below_set ?_ GE378.out) | exact HB.out)) hb); have n3_ := Aside0.mk (hbox); have n4_ := Aside0.mk ((by rw [hg]; exact (below_size (by repeat (first | (with_reducible first | exact HB.out | apply below_alloc | apply pw_below_drewN | apply below_drew1 | refine below_set ?_ GE377.out | refine below_set ?_ GE378.out) | exact HB.out))) : w.heap.size ≤ gb379)); have n5_ := Aside0.mk ((by rw [hg]; exact (below_size (by repeat (first | (with_reducible first | exact HB.out | apply below_alloc | apply pw_below_drewN | apply below_drew1 | refine below_set ?_ GE377.out | refine below_set ?_ GE378.out) | exact HB.out))) : w.heap.size ≤ gb379)); have n6_ := Aside0.mk ((by rw [hg]; exact Nat.ne_of_lt (blk_lt (g := gb377) (o := .cells #[.int .i64 a0_0, .int .i64 a0_1, .slice A0_2 l0_2.length c0_2] 29 (0, 0)) (by (with_reducible repeat (first | refine blk_drewN ?_ _ | refine blk_drew ?_ | refine blk_alloc ?_ _)); exact BK377.out)) : gb377 ≠ gb379)); have n7_ := Aside0.mk ((by rw [hg]; exact Nat.ne_of_gt (blk_lt (g := gb377) (o := .cells #[.int .i64 a0_0, .int .i64 a0_1, .slice A0_2 l0_2.length c0_2] 29 (0, 0)) (by (with_reducible repeat (first | refine blk_drewN ?_ _ | refine blk_drew ?_ | refine blk_alloc ?_ _)); exact BK377.out)) : gb379 ≠ gb377)); have n8_ := Aside0.mk ((by rw [hg]; exact Nat.ne_of_lt (blk_lt (g := gb378) (o := .cells #[.int .i64 a1_0, .int .i64 a1_1] 48 (0, 0)) (by (with_reducible repeat (first | refine blk_drewN ?_ _ | refine blk_drew ?_ | refine blk_alloc ?_ _)); exact BK378.out)) : gb378 ≠ gb379)); have n9_ := Aside0.mk ((by rw [hg]; exact Nat.ne_of_gt (blk_lt (g := gb378) (o := .cells #[.int .i64 a1_0, .int .i64 a1_1] 48 (0, 0)) (by (with_reducible repeat (first | refine blk_drewN ?_ _ | refine blk_drew ?_ | refine blk_alloc ?_ _)); exact BK378.out)) : gb379 ≠ gb378)); clear BK377; clear BK378; clear HB; have BK377 := n0_; have BK378 := n1_; have HB := n2_; have BK379 := n3_; have GW379 := n4_; have GE379 := n5_; have NB377_379 := n6_; have NB379_377 := n7_; have NB378_379 := n8_; have NB379_378 := n9_; clear n0_ n1_ n2_ n3_ n4_ n5_ n6_ n7_ n8_ n9_; clear hb hbox hg; have hnb26 := NB377_378.out; have hnc26 := NB378_377.out; have hnb27 := NB377_379.out; have hnc27 := NB379_377.out; have hcz28_0 : w25.cell? ⟨gb377, 0, none⟩ = some (.int .i64 a0_0) := (blk_cell BK377.out 0).trans rfl; have hcz28_1 : w25.cell? ⟨gb377, 1, none⟩ = some (.int .i64 a0_1) := (blk_cell BK377.out 1).trans rfl; have hcz28_2 : w25.cell? ⟨gb377, 2, none⟩ = some (.slice A0_2 l0_2.length c0_2) := (blk_cell BK377.out 2).trans rfl; have hfz28_0 := blk_frozen BK377.out 0; have hfz28_1 := blk_frozen BK377.out 1; have hfz28_2 := blk_frozen BK377.out 2) | ((with_reducible refine gate_callee (f := 53) rfl ?_); refine goesL_ (some 8) rfl rfl Try.func53 (by kernel_rfl) rfl #[.agg #[.int .i64 a0_0, .int .i64 a0_1, .slice A0_2 l0_2.length c0_2]] rfl (by (try simp only [List.map_toArray, List.map_cons, List.map_nil]); first | done | rfl | (simp only [List.length_drop, List.length_take]; rfl)) ?_; (with_reducible refine (spec_l16Good.calls k a0_0 a0_1 _ _ l0_2 true _ ?side1 ?side2 A4.out).mono ?_); (case side1 => repeat (first | exact (Kd.C_below HR0_2.out HB.out) | (with_reducible refine Kd.C_alloc ?_ _) | (with_reducible refine Kd.C_drewN ?_ _) | (with_reducible refine Kd.C_drew ?_))); (case side2 => exact HC0_2.out); rintro e w29 ⟨rfl, hb⟩; refine ⟨_, rfl, ?_⟩; have n0_ := Aside0.mk (blk_below (g := gb377) (o := .cells #[.int .i64 a0_0, .int .i64 a0_1, .slice A0_2 l0_2.length c0_2] 29 (0, 0)) (by (with_reducible repeat (first | refine blk_drewN ?_ _ | refine blk_drew ?_ | refine blk_alloc ?_ _)); exact BK377.out) hb); have n1_ := Aside0.mk (blk_below (g := gb378) (o := .cells #[.int .i64 a1_0, .int .i64 a1_1] 48 (0, 0)) (by (with_reducible repeat (first | refine blk_drewN ?_ _ | refine blk_drew ?_ | refine blk_alloc ?_ _)); exact BK378.out) hb); have n2_ := Aside0.mk (blk_below (g := gb379) (o := .cells #[.int .i64 a2_0, .int .i64 a2_1] 48 (0, 0)) (by (with_reducible repeat (first | refine blk_drewN ?_ _ | refine blk_drew ?_ | refine blk_alloc ?_ _)); exact BK379.out) hb); have n3_ := Aside0.mk (below_step (by repeat (first | (with_reducible first | exact HB.out | apply below_alloc | apply pw_below_drewN | apply below_drew1 | refine below_set ?_ GE377.out | refine below_set ?_ GE378.out | refine below_set ?_ GE379.out) | exact HB.out)) hb); clear BK377; clear BK378; clear BK379; clear HB; have BK377 := n0_; have BK378 := n1_; have BK379 := n2_; have HB := n3_; clear n0_ n1_ n2_ n3_; (try clear hb); (try clear hb2); (try clear hk); (try clear hi); have hcz30_0 : w29.cell? ⟨gb377, 0, none⟩ = some (.int .i64 a0_0) := (blk_cell BK377.out 0).trans rfl; have hcz30_1 : w29.cell? ⟨gb377, 1, none⟩ = some (.int .i64 a0_1) := (blk_cell BK377.out 1).trans rfl; have hcz30_2 : w29.cell? ⟨gb377, 2, none⟩ = some (.slice A0_2 l0_2.length c0_2) := (blk_cell BK377.out 2).trans rfl; have hfz30_0 := blk_frozen BK377.out 0; have hfz30_1 := blk_frozen BK377.out 1; have hfz30_2 := blk_frozen BK377.out 2; have hnb31 := NB378_379.out; have hnc31 := NB379_378.out; have hcz32_0 : w29.cell? ⟨gb378, 0, none⟩ = some (.int .i64 a1_0) := (blk_cell BK378.out 0).trans rfl; have hcz32_1 : w29.cell? ⟨gb378, 1, none⟩ = some (.int .i64 a1_1) := (blk_cell BK378.out 1).trans rfl; have hfz32_0 := blk_frozen BK378.out 0; have hfz32_1 := blk_frozen BK378.out 1) | (go_at_call 82; (with_reducible refine (spec_l16Free.calls k a0_0 a0_1 _ _ l0_2 a1_0 a1_1 false _ ?side1 ?side2 A6.out).mono ?_); (case side1 => repeat (first | exact (Kd.C_below HR0_2.out HB.out) | (with_reducible refine Kd.C_alloc ?_ _) | (with_reducible refine Kd.C_drewN ?_ _) | (with_reducible refine Kd.C_drew ?_))); (case side2 => exact HC0_2.out); rintro e w33 ⟨rfl, hb⟩; have n0_ := Aside0.mk (blk_below (g := gb377) (o := .cells #[.int .i64 a0_0, .int .i64 a0_1, .slice A0_2 l0_2.length c0_2] 29 (0, 0)) (by (with_reducible repeat (first | refine blk_drewN ?_ _ | refine blk_drew ?_ | refine blk_alloc ?_ _)); exact BK377.out) hb); have n1_ := Aside0.mk (blk_below (g := gb378) (o := .cells #[.int .i64 a1_0, .int .i64 a1_1] 48 (0, 0)) (by (with_reducible repeat (first | refine blk_drewN ?_ _ | refine blk_drew ?_ | refine blk_alloc ?_ _)); exact BK378.out) hb); have n2_ := Aside0.mk (blk_below (g := gb379) (o := .cells #[.int .i64 a2_0, .int .i64 a2_1] 48 (0, 0)) (by (with_reducible repeat (first | refine blk_drewN ?_ _ | refine blk_drew ?_ | refine blk_alloc ?_ _)); exact BK379.out) hb); have n3_ := Aside0.mk (below_step (by repeat (first | (with_reducible first | exact HB.out | apply below_alloc | apply pw_below_drewN | apply below_drew1 | refine below_set ?_ GE377.out | refine below_set ?_ GE378.out | refine below_set ?_ GE379.out) | exact HB.out)) hb); clear BK377; clear BK378; clear BK379; clear HB; have BK377 := n0_; have BK378 := n1_; have BK379 := n2_; have HB := n3_; clear n0_ n1_ n2_ n3_; (try clear hb); (try clear hb2); (try clear hk); (try clear hi)))
   go_ret
   exact ⟨by first | rfl | (simp [errW_none, errW_some] <;> rfl) | (simp [*, errW_none, errW_some] <;> rfl), by repeat (first | (with_reducible first | exact HB.out | apply below_alloc | apply pw_below_drewN | apply below_drew1 | refine below_set ?_ GE377.out | refine below_set ?_ GE378.out | refine below_set ?_ GE379.out) | exact HB.out)⟩
 ·replace c5 := Bool.eq_false_iff.mpr c5
  subst c5
  have H1 : (some false) = some r := by rw [if_neg (show ¬ (false = true) by decide)] at H; exact H
  clear H
  have H := H1
  clear H1
  obtain rfl := Option.some.inj H
  go_enter Try.func63, Try.ntmps63
  go_wp2_with (first | ((with_reducible refine gate_dst (N := 3) rfl ?_); refine box_event ?hg (N := 3) ?hd (cs := #[.int .i64 a0_0, .int .i64 a0_1, .slice A0_2 l0_2.length c0_2]) (t := 29) ?hr ?_; (case hd => rfl); (case hg => rfl); (case hr => first | (go_simp; done) | (go_simp; rfl)); intro gb377 hg w34 hbox hb; have n0_ := Aside0.mk (below_step (by repeat (first | (with_reducible first | exact HB.out | apply below_alloc | apply pw_below_drewN | apply below_drew1) | exact HB.out)) hb); have n1_ := Aside0.mk (hbox); have n2_ := Aside0.mk ((by rw [hg]; exact (below_size (by repeat (first | (with_reducible first | exact HB.out | apply below_alloc | apply pw_below_drewN | apply below_drew1) | exact HB.out))) : w.heap.size ≤ gb377)); have n3_ := Aside0.mk ((by rw [hg]; exact (below_size (by repeat (first | (with_reducible first | exact HB.out | apply below_alloc | apply pw_below_drewN | apply below_drew1) | exact HB.out))) : w.heap.size ≤ gb377)); clear HB; have HB := n0_; have BK377 := n1_; have GW377 := n2_; have GE377 := n3_; clear n0_ n1_ n2_ n3_; clear hb hbox hg) | ((with_reducible refine gate_dst (N := 4) rfl ?_); refine box_event ?hg (N := 4) ?hd (cs := #[.int .i64 a1_0, .int .i64 a1_1]) (t := 48) ?hr ?_; (case hd => rfl); (case hg => rfl); (case hr => first | (go_simp; done) | (go_simp; rfl)); intro gb378 hg w35 hbox hb; have n0_ := Aside0.mk (blk_below (g := gb377) (o := .cells #[.int .i64 a0_0, .int .i64 a0_1, .slice A0_2 l0_2.length c0_2] 29 (0, 0)) (by (with_reducible repeat (first | refine blk_drewN ?_ _ | refine blk_drew ?_ | refine blk_alloc ?_ _)); exact BK377.out) hb); have n1_ := Aside0.mk (below_step (by repeat (first | (with_reducible first | exact HB.out | apply below_alloc | apply pw_below_drewN | apply below_drew1 | refine below_set ?_ GE377.out) | exact HB.out)) hb); have n2_ := Aside0.mk (hbox); have n3_ := Aside0.mk ((by rw [hg]; exact (below_size (by repeat (first | (with_reducible first | exact HB.out | apply below_alloc | apply pw_below_drewN | apply below_drew1 | refine below_set ?_ GE377.out) | exact HB.out))) : w.heap.size ≤ gb378)); have n4_ := Aside0.mk ((by rw [hg]; exact (below_size (by repeat (first | (with_reducible first | exact HB.out | apply below_alloc | apply pw_below_drewN | apply below_drew1 | refine below_set ?_ GE377.out) | exact HB.out))) : w.heap.size ≤ gb378)); have n5_ := Aside0.mk ((by rw [hg]; exact Nat.ne_of_lt (blk_lt (g := gb377) (o := .cells #[.int .i64 a0_0, .int .i64 a0_1, .slice A0_2 l0_2.length c0_2] 29 (0, 0)) (by (with_reducible repeat (first | refine blk_drewN ?_ _ | refine blk_drew ?_ | refine blk_alloc ?_ _)); exact BK377.out)) : gb377 ≠ gb378)); have n6_ := Aside0.mk ((by rw [hg]; exact Nat.ne_of_gt (blk_lt (g := gb377) (o := .cells #[.int .i64 a0_0, .int .i64 a0_1, .slice A0_2 l0_2.length c0_2] 29 (0, 0)) (by (with_reducible repeat (first | refine blk_drewN ?_ _ | refine blk_drew ?_ | refine blk_alloc ?_ _)); exact BK377.out)) : gb378 ≠ gb377)); clear BK377; clear HB; have BK377 := n0_; have HB := n1_; have BK378 := n2_; have GW378 := n3_; have GE378 := n4_; have NB377_378 := n5_; have NB378_377 := n6_; clear n0_ n1_ n2_ n3_ n4_ n5_ n6_; clear hb hbox hg) | ((with_reducible refine gate_dst (N := 5) rfl ?_); refine box_event ?hg (N := 5) ?hd (cs := #[.int .i64 a2_0, .int .i64 a2_1]) (t := 48) ?hr ?_; (case hd => rfl); (case hg => rfl); (case hr => first | (go_simp; done) | (go_simp; rfl)); intro gb379 hg w36 hbox hb; have n0_ := Aside0.mk (blk_below (g := gb377) (o := .cells #[.int .i64 a0_0, .int .i64 a0_1, .slice A0_2 l0_2.length c0_2] 29 (0, 0)) (by (with_reducible repeat (first | refine blk_drewN ?_ _ | refine blk_drew ?_ | refine blk_alloc ?_ _)); exact BK377.out) hb); have n1_ := Aside0.mk (blk_below (g := gb378) (o := .cells #[.int .i64 a1_0, .int .i64 a1_1] 48 (0, 0)) (by (with_reducible repeat (first | refine blk_drewN ?_ _ | refine blk_drew ?_ | refine blk_alloc ?_ _)); exact BK378.out) hb); have n2_ := Aside0.mk (below_step (by repeat (first | (with_reducible first | exact HB.out | apply below_alloc | apply pw_below_drewN | apply below_drew1 | refine below_set ?_ GE377.out | refine below_set ?_ GE378.out) | exact HB.out)) hb); have n3_ := Aside0.mk (hbox); have n4_ := Aside0.mk ((by rw [hg]; exact (below_size (by repeat (first | (with_reducible first | exact HB.out | apply below_alloc | apply pw_below_drewN | apply below_drew1 | refine below_set ?_ GE377.out | refine below_set ?_ GE378.out) | exact HB.out))) : w.heap.size ≤ gb379)); have n5_ := Aside0.mk ((by rw [hg]; exact (below_size (by repeat (first | (with_reducible first | exact HB.out | apply below_alloc | apply pw_below_drewN | apply below_drew1 | refine below_set ?_ GE377.out | refine below_set ?_ GE378.out) | exact HB.out))) : w.heap.size ≤ gb379)); have n6_ := Aside0.mk ((by rw [hg]; exact Nat.ne_of_lt (blk_lt (g := gb377) (o := .cells #[.int .i64 a0_0, .int .i64 a0_1, .slice A0_2 l0_2.length c0_2] 29 (0, 0)) (by (with_reducible repeat (first | refine blk_drewN ?_ _ | refine blk_drew ?_ | refine blk_alloc ?_ _)); exact BK377.out)) : gb377 ≠ gb379)); have n7_ := Aside0.mk ((by rw [hg]; exact Nat.ne_of_gt (blk_lt (g := gb377) (o := .cells #[.int .i64 a0_0, .int .i64 a0_1, .slice A0_2 l0_2.length c0_2] 29 (0, 0)) (by (with_reducible repeat (first | refine blk_drewN ?_ _ | refine blk_drew ?_ | refine blk_alloc ?_ _)); exact BK377.out)) : gb379 ≠ gb377)); have n8_ := Aside0.mk ((by rw [hg]; exact Nat.ne_of_lt (blk_lt (g := gb378) (o := .cells #[.int .i64 a1_0, .int .i64 a1_1] 48 (0, 0)) (by (with_reducible repeat (first | refine blk_drewN ?_ _ | refine blk_drew ?_ | refine blk_alloc ?_ _)); exact BK378.out)) : gb378 ≠ gb379)); have n9_ := Aside0.mk ((by rw [hg]; exact Nat.ne_of_gt (blk_lt (g := gb378) (o := .cells #[.int .i64 a1_0, .int .i64 a1_1] 48 (0, 0)) (by (with_reducible repeat (first | refine blk_drewN ?_ _ | refine blk_drew ?_ | refine blk_alloc ?_ _)); exact BK378.out)) : gb379 ≠ gb378)); clear BK377; clear BK378; clear HB; have BK377 := n0_; have BK378 := n1_; have HB := n2_; have BK379 := n3_; have GW379 := n4_; have GE379 := n5_; have NB377_379 := n6_; have NB379_377 := n7_; have NB378_379 := n8_; have NB379_378 := n9_; clear n0_ n1_ n2_ n3_ n4_ n5_ n6_ n7_ n8_ n9_; clear hb hbox hg; have hnb37 := NB377_378.out; have hnc37 := NB378_377.out; have hnb38 := NB377_379.out; have hnc38 := NB379_377.out; have hcz39_0 : w36.cell? ⟨gb377, 0, none⟩ = some (.int .i64 a0_0) := (blk_cell BK377.out 0).trans rfl; have hcz39_1 : w36.cell? ⟨gb377, 1, none⟩ = some (.int .i64 a0_1) := (blk_cell BK377.out 1).trans rfl; have hcz39_2 : w36.cell? ⟨gb377, 2, none⟩ = some (.slice A0_2 l0_2.length c0_2) := (blk_cell BK377.out 2).trans rfl; have hfz39_0 := blk_frozen BK377.out 0; have hfz39_1 := blk_frozen BK377.out 1; have hfz39_2 := blk_frozen BK377.out 2) | ((with_reducible refine gate_callee (f := 53) rfl ?_); refine goesL_ (some 8) rfl rfl Try.func53 (by kernel_rfl) rfl #[.agg #[.int .i64 a0_0, .int .i64 a0_1, .slice A0_2 l0_2.length c0_2]] rfl (by (try simp only [List.map_toArray, List.map_cons, List.map_nil]); first | done | rfl | (simp only [List.length_drop, List.length_take]; rfl)) ?_; (with_reducible refine (spec_l16Good.calls k a0_0 a0_1 _ _ l0_2 false _ ?side1 ?side2 A4.out).mono ?_); (case side1 => repeat (first | exact (Kd.C_below HR0_2.out HB.out) | (with_reducible refine Kd.C_alloc ?_ _) | (with_reducible refine Kd.C_drewN ?_ _) | (with_reducible refine Kd.C_drew ?_))); (case side2 => exact HC0_2.out); rintro e w40 ⟨rfl, hb⟩; refine ⟨_, rfl, ?_⟩; have n0_ := Aside0.mk (blk_below (g := gb377) (o := .cells #[.int .i64 a0_0, .int .i64 a0_1, .slice A0_2 l0_2.length c0_2] 29 (0, 0)) (by (with_reducible repeat (first | refine blk_drewN ?_ _ | refine blk_drew ?_ | refine blk_alloc ?_ _)); exact BK377.out) hb); have n1_ := Aside0.mk (blk_below (g := gb378) (o := .cells #[.int .i64 a1_0, .int .i64 a1_1] 48 (0, 0)) (by (with_reducible repeat (first | refine blk_drewN ?_ _ | refine blk_drew ?_ | refine blk_alloc ?_ _)); exact BK378.out) hb); have n2_ := Aside0.mk (blk_below (g := gb379) (o := .cells #[.int .i64 a2_0, .int .i64 a2_1] 48 (0, 0)) (by (with_reducible repeat (first | refine blk_drewN ?_ _ | refine blk_drew ?_ | refine blk_alloc ?_ _)); exact BK379.out) hb); have n3_ := Aside0.mk (below_step (by repeat (first | (with_reducible first | exact HB.out | apply below_alloc | apply pw_below_drewN | apply below_drew1 | refine below_set ?_ GE377.out | refine below_set ?_ GE378.out | refine below_set ?_ GE379.out) | exact HB.out)) hb); clear BK377; clear BK378; clear BK379; clear HB; have BK377 := n0_; have BK378 := n1_; have BK379 := n2_; have HB := n3_; clear n0_ n1_ n2_ n3_; (try clear hb); (try clear hb2); (try clear hk); (try clear hi)))
  go_ret
  exact ⟨by first | rfl | (simp [errW_none, errW_some] <;> rfl) | (simp [*, errW_none, errW_some] <;> rfl), by repeat (first | (with_reducible first | exact HB.out | apply below_alloc | apply pw_below_drewN | apply below_drew1 | refine below_set ?_ GE377.out | refine below_set ?_ GE378.out | refine below_set ?_ GE379.out) | exact HB.out)⟩

end Go.Proofs.Ytbpccdbkaiigcaa.G

-- Written by wip/tools/gen.py out of the translation (the kit's printer, one namespace a seat). Lean checks it.
namespace Go.Proofs.Ytbpccdbkaiigcaa.G
open Go.RowKit Go.Proofs.YtbpccdbkaiigcaaW.PrintWords Go.Proofs.YtbpccdbkaiigcaaW.PrintLast Go.Proofs.YtbpccdbkaiigcaaW.PrintMore
attribute [local go_sem] max2_int min2_int max_two min_two max_three min_three max_four min_four   -- for this text's walks alone
set_option linter.unusedVariables false
set_option linter.unusedSimpArgs false

/-! ### spec_l16Next: function 64 -/
def spec_l16Next.l0 : Nat → List (S48) → List (S48) → Int → Int → Int → List (S48) → Option ((List (S48)))
 | 0, _, _, _, _, _, _ => none
 | k + 1, x5, x6, x7, x384000, x384001, x384002 => if x7 < (x5.length : Int) then (if 0 ≤ x7 then ((spec_l16Free.f k x384000 x384001 x384002 ((rd_T48 x5 x7).f0) ((rd_T48 x5 x7).f1)).bind fun t392 => (if t392 = true then (if x6.length < 8796093022208 then (spec_l16Next.l0 k x5 (x6 ++ [(⟨(rd_T48 x5 x7).f0, (rd_T48 x5 x7).f1⟩ : S48)]) (wrap64 (x7 + 1)) x384000 x384001 x384002) else (none)) else (spec_l16Next.l0 k x5 x6 (wrap64 (x7 + 1)) x384000 x384001 x384002))) else (none)) else (some x6)
def spec_l16Next.f (k : Nat) (a0_0 : Int) (a0_1 : Int) (l0_2 : List (S48)) (a1_0 : Int) (a1_1 : Int) : Option ((List (S48))) := spec_l16Next.l0 k (([(⟨a1_0, wrap64 (a1_1 - 1)⟩ : S48), (⟨wrap64 (a1_0 - 1), a1_1⟩ : S48), (⟨a1_0, a1_1⟩ : S48), (⟨wrap64 (a1_0 + 1), a1_1⟩ : S48), (⟨a1_0, wrap64 (a1_1 + 1)⟩ : S48)] : List (S48))) (([] : List (S48))) 0 a0_0 a0_1 l0_2
set_option maxHeartbeats 8000000 in
set_option maxRecDepth 100000 in
theorem spec_l16Next.calls (k : Nat) (a0_0 : Int) (a0_1 : Int) (A0_2 : Option Addr) (c0_2 : Nat) (l0_2 : List (S48)) (a1_0 : Int) (a1_1 : Int) (r : List (S48)) (w : World) (hr0_2 : Kd.C k48 w A0_2 l0_2.length l0_2) (hc0_2 : l0_2.length ≤ c0_2) (h : spec_l16Next.f k a0_0 a0_1 l0_2 a1_0 a1_1 = some r) :
  Calls Try.prog 64 #[.agg #[.int .i64 a0_0, .int .i64 a0_1, .slice A0_2 l0_2.length c0_2], .agg #[.int .i64 a1_0, .int .i64 a1_1]] w fun e w' => ∃ v0_ : Value, e = .returned (v0_) ∧ Kd.R k48 48 w' w.heap.size (fun _ => True) v0_ r ∧ Below w.heap.size w w' := by
 have hu29 := Try.underlying29
 have hu48 := Try.underlying48
 have HR0_2 := Aside0.mk hr0_2
 have HC0_2 := Aside0.mk hc0_2
 clear hr0_2 hc0_2
 have HB := Aside0.mk (Below.refl w.heap.size w)
 have H : (spec_l16Next.l0 k (([(⟨a1_0, wrap64 (a1_1 - 1)⟩ : S48), (⟨wrap64 (a1_0 - 1), a1_1⟩ : S48), (⟨a1_0, a1_1⟩ : S48), (⟨wrap64 (a1_0 + 1), a1_1⟩ : S48), (⟨a1_0, wrap64 (a1_1 + 1)⟩ : S48)] : List (S48))) (([] : List (S48))) 0 a0_0 a0_1 l0_2) = some r := h
 clear h
 obtain ⟨y385, hy385⟩ : ∃ y_ : List (S48), y_ = (([(⟨a1_0, wrap64 (a1_1 - 1)⟩ : S48), (⟨wrap64 (a1_0 - 1), a1_1⟩ : S48), (⟨a1_0, a1_1⟩ : S48), (⟨wrap64 (a1_0 + 1), a1_1⟩ : S48), (⟨a1_0, wrap64 (a1_1 + 1)⟩ : S48)] : List (S48))) := ⟨_, rfl⟩
 replace H : (spec_l16Next.l0 k y385 (([] : List (S48))) 0 a0_0 a0_1 l0_2) = some r := by first | (rw [hy385]; with_reducible exact H) | (have H2_ := (Option.bind_some _ _).symm.trans H; rw [hy385]; with_reducible exact H2_) | (have H2_ := (Option.bind_some _ _).symm.trans H; with_reducible exact H2_) | with_reducible exact H | (rw [hy385]; exact H) | exact H
 have Ny385 := Aside0.mk hy385
 clear hy385
 obtain ⟨y388, hy388⟩ : ∃ y_ : List (S48), y_ = (([] : List (S48))) := ⟨_, rfl⟩
 replace H : (spec_l16Next.l0 k y385 y388 0 a0_0 a0_1 l0_2) = some r := by first | (rw [hy388]; with_reducible exact H) | (have H2_ := (Option.bind_some _ _).symm.trans H; rw [hy388]; with_reducible exact H2_) | (have H2_ := (Option.bind_some _ _).symm.trans H; with_reducible exact H2_) | with_reducible exact H | (rw [hy388]; exact H) | exact H
 have Ny388 := Aside0.mk hy388
 clear hy388
 have H' := Aside0.mk H
 clear H
 go_enter Try.func64, Try.ntmps64
 go_wp2_with (first | ((with_reducible refine gate_dst (N := 2) rfl ?_); refine box_event ?hg (N := 2) ?hd (cs := #[.int .i64 a0_0, .int .i64 a0_1, .slice A0_2 l0_2.length c0_2]) (t := 29) ?hr ?_; (case hd => rfl); (case hg => rfl); (case hr => first | (go_simp; done) | (go_simp; rfl)); intro gb383 hg w3 hbox hb; have n0_ := Aside0.mk (below_step (by repeat (first | (with_reducible first | exact HB.out | apply below_alloc | apply pw_below_drewN | apply below_drew1) | exact HB.out)) hb); have n1_ := Aside0.mk (hbox); have n2_ := Aside0.mk ((by rw [hg]; exact (below_size (by repeat (first | (with_reducible first | exact HB.out | apply below_alloc | apply pw_below_drewN | apply below_drew1) | exact HB.out))) : w.heap.size ≤ gb383)); have n3_ := Aside0.mk ((by rw [hg]; exact (below_size (by repeat (first | (with_reducible first | exact HB.out | apply below_alloc | apply pw_below_drewN | apply below_drew1) | exact HB.out))) : w.heap.size ≤ gb383)); clear HB; have HB := n0_; have BK383 := n1_; have GW383 := n2_; have GE383 := n3_; clear n0_ n1_ n2_ n3_; clear hb hbox hg) | ((with_reducible refine gate_dst (N := 3) rfl ?_); refine box_event ?hg (N := 3) ?hd (cs := #[.int .i64 a1_0, .int .i64 a1_1]) (t := 48) ?hr ?_; (case hd => rfl); (case hg => rfl); (case hr => first | (go_simp; done) | (go_simp; rfl)); intro gb384 hg w4 hbox hb; have n0_ := Aside0.mk (blk_below (g := gb383) (o := .cells #[.int .i64 a0_0, .int .i64 a0_1, .slice A0_2 l0_2.length c0_2] 29 (0, 0)) (by (with_reducible repeat (first | refine blk_drewN ?_ _ | refine blk_drew ?_ | refine blk_alloc ?_ _)); exact BK383.out) hb); have n1_ := Aside0.mk (below_step (by repeat (first | (with_reducible first | exact HB.out | apply below_alloc | apply pw_below_drewN | apply below_drew1 | refine below_set ?_ GE383.out) | exact HB.out)) hb); have n2_ := Aside0.mk (hbox); have n3_ := Aside0.mk ((by rw [hg]; exact (below_size (by repeat (first | (with_reducible first | exact HB.out | apply below_alloc | apply pw_below_drewN | apply below_drew1 | refine below_set ?_ GE383.out) | exact HB.out))) : w.heap.size ≤ gb384)); have n4_ := Aside0.mk ((by rw [hg]; exact (below_size (by repeat (first | (with_reducible first | exact HB.out | apply below_alloc | apply pw_below_drewN | apply below_drew1 | refine below_set ?_ GE383.out) | exact HB.out))) : w.heap.size ≤ gb384)); have n5_ := Aside0.mk ((by rw [hg]; exact Nat.ne_of_lt (blk_lt (g := gb383) (o := .cells #[.int .i64 a0_0, .int .i64 a0_1, .slice A0_2 l0_2.length c0_2] 29 (0, 0)) (by (with_reducible repeat (first | refine blk_drewN ?_ _ | refine blk_drew ?_ | refine blk_alloc ?_ _)); exact BK383.out)) : gb383 ≠ gb384)); have n6_ := Aside0.mk ((by rw [hg]; exact Nat.ne_of_gt (blk_lt (g := gb383) (o := .cells #[.int .i64 a0_0, .int .i64 a0_1, .slice A0_2 l0_2.length c0_2] 29 (0, 0)) (by (with_reducible repeat (first | refine blk_drewN ?_ _ | refine blk_drew ?_ | refine blk_alloc ?_ _)); exact BK383.out)) : gb384 ≠ gb383)); clear BK383; clear HB; have BK383 := n0_; have HB := n1_; have BK384 := n2_; have GW384 := n3_; have GE384 := n4_; have NB383_384 := n5_; have NB384_383 := n6_; clear n0_ n1_ n2_ n3_ n4_ n5_ n6_; clear hb hbox hg; have hnb5 := NB384_383.out; have hnc5 := NB383_384.out; have hcz6_0 : w4.cell? ⟨gb384, 0, none⟩ = some (.int .i64 a1_0) := (blk_cell BK384.out 0).trans rfl; have hcz6_1 : w4.cell? ⟨gb384, 1, none⟩ = some (.int .i64 a1_1) := (blk_cell BK384.out 1).trans rfl; have hfz6_0 := blk_frozen BK384.out 0; have hfz6_1 := blk_frozen BK384.out 1) | ((with_reducible refine gate_dst (N := 33) rfl ?_); refine Kd.R_lit k48 _ 48 ?hg (N := 33) ?hd (xs := ([(⟨a1_0, wrap64 (a1_1 - 1)⟩ : S48), (⟨wrap64 (a1_0 - 1), a1_1⟩ : S48), (⟨a1_0, a1_1⟩ : S48), (⟨wrap64 (a1_0 + 1), a1_1⟩ : S48), (⟨a1_0, wrap64 (a1_1 + 1)⟩ : S48)] : List (S48))) (inner := [.int .i64 a1_0, .int .i64 (wrap64 (a1_1 - 1)), .int .i64 (wrap64 (a1_0 - 1)), .int .i64 a1_1, .int .i64 a1_0, .int .i64 a1_1, .int .i64 (wrap64 (a1_0 + 1)), .int .i64 a1_1, .int .i64 a1_0, .int .i64 (wrap64 (a1_1 + 1))]) (ok := fun _ => True) (okp := fun _ => True) ?hr ?hp (fun _ hk => hk) trivial (Below.refl _ _) (Nat.le_refl _) (by simp) ?_; (case hd => rfl); (case hg => rfl); (case hr => first | (go_simp; done) | (go_simp; rfl)); (case hp => exact (Reps.c2 (show Kd.M k48 _ _ _ (⟨a1_0, wrap64 (a1_1 - 1)⟩ : S48) [.int .i64 a1_0, .int .i64 (wrap64 (a1_1 - 1))] from (k48_mkM _ _ _ (⟨a1_0, wrap64 (a1_1 - 1)⟩ : S48) )) (Reps.c2 (show Kd.M k48 _ _ _ (⟨wrap64 (a1_0 - 1), a1_1⟩ : S48) [.int .i64 (wrap64 (a1_0 - 1)), .int .i64 a1_1] from (k48_mkM _ _ _ (⟨wrap64 (a1_0 - 1), a1_1⟩ : S48) )) (Reps.c2 (show Kd.M k48 _ _ _ (⟨a1_0, a1_1⟩ : S48) [.int .i64 a1_0, .int .i64 a1_1] from (k48_mkM _ _ _ (⟨a1_0, a1_1⟩ : S48) )) (Reps.c2 (show Kd.M k48 _ _ _ (⟨wrap64 (a1_0 + 1), a1_1⟩ : S48) [.int .i64 (wrap64 (a1_0 + 1)), .int .i64 a1_1] from (k48_mkM _ _ _ (⟨wrap64 (a1_0 + 1), a1_1⟩ : S48) )) (Reps.c2 (show Kd.M k48 _ _ _ (⟨a1_0, wrap64 (a1_1 + 1)⟩ : S48) [.int .i64 a1_0, .int .i64 (wrap64 (a1_1 + 1))] from (k48_mkM _ _ _ (⟨a1_0, wrap64 (a1_1 + 1)⟩ : S48) )) (Reps.none _ _))))))); intro v386 w7 ho8 hb hg_ hnew_; clear hg_ hnew_; (first | rw [← Ny385.out] at ho8 | (simp only [Int.reduceToNat] at ho8; rw [← Ny385.out] at ho8)); have n0_ := Aside0.mk (Kd.R_lower (Kd.R_newB ho8 (g := gb384) (o := .cells #[.int .i64 a1_0, .int .i64 a1_1] 48 (0, 0)) (by (with_reducible repeat (first | refine blk_drewN ?_ _ | refine blk_drew ?_ | refine blk_alloc ?_ _)); exact BK384.out)) (below_size (by repeat (first | (with_reducible first | exact HB.out | apply below_alloc | apply pw_below_drewN | apply below_drew1 | refine below_set ?_ GE383.out | refine below_set ?_ GE384.out) | exact HB.out)))); have n1_ := Aside0.mk (blk_below (g := gb383) (o := .cells #[.int .i64 a0_0, .int .i64 a0_1, .slice A0_2 l0_2.length c0_2] 29 (0, 0)) (by (with_reducible repeat (first | refine blk_drewN ?_ _ | refine blk_drew ?_ | refine blk_alloc ?_ _)); exact BK383.out) hb); have n2_ := Aside0.mk (blk_below (g := gb384) (o := .cells #[.int .i64 a1_0, .int .i64 a1_1] 48 (0, 0)) (by (with_reducible repeat (first | refine blk_drewN ?_ _ | refine blk_drew ?_ | refine blk_alloc ?_ _)); exact BK384.out) hb); have n3_ := Aside0.mk (below_step (by repeat (first | (with_reducible first | exact HB.out | apply below_alloc | apply pw_below_drewN | apply below_drew1 | refine below_set ?_ GE383.out | refine below_set ?_ GE384.out) | exact HB.out)) hb); clear BK383; clear BK384; clear HB; have HO387 := n0_; have BK383 := n1_; have BK384 := n2_; have HB := n3_; clear n0_ n1_ n2_ n3_; clear hb ho8) | ((with_reducible refine gate_dst (N := 34) rfl ?_); refine Kd.R_lit k48 _ 48 ?hg (N := 34) ?hd (xs := ([] : List (S48))) (inner := []) (ok := fun _ => True) (okp := fun _ => True) ?hr ?hp (fun _ hk => hk) trivial (Below.refl _ _) (Nat.le_refl _) (by simp) ?_; (case hd => rfl); (case hg => rfl); (case hr => first | (go_simp; done) | (go_simp; rfl)); (case hp => exact (Reps.none _ _)); intro v389 w9 ho10 hb hg_ hnew_; clear hg_ hnew_; (first | rw [← Ny388.out] at ho10 | (simp only [Int.reduceToNat] at ho10; rw [← Ny388.out] at ho10)); have n0_ := Aside0.mk (Kd.R_elder' (by (with_reducible repeat (first | apply Kd.R_alloc | apply Kd.R_drewN | apply Kd.R_drew)); exact HO387.out) (Kd.R_base ho10) hb); have n1_ := Aside0.mk (Kd.R_lower (Kd.R_newB (Kd.R_new' ho10 (Kd.R_lt (by (with_reducible repeat (first | apply Kd.R_alloc | apply Kd.R_drewN | apply Kd.R_drew)); exact HO387.out))) (g := gb384) (o := .cells #[.int .i64 a1_0, .int .i64 a1_1] 48 (0, 0)) (by (with_reducible repeat (first | refine blk_drewN ?_ _ | refine blk_drew ?_ | refine blk_alloc ?_ _)); exact BK384.out)) (below_size (by repeat (first | (with_reducible first | exact HB.out | apply below_alloc | apply pw_below_drewN | apply below_drew1 | refine below_set ?_ GE383.out | refine below_set ?_ GE384.out) | exact HB.out)))); have n2_ := Aside0.mk (blk_below (g := gb383) (o := .cells #[.int .i64 a0_0, .int .i64 a0_1, .slice A0_2 l0_2.length c0_2] 29 (0, 0)) (by (with_reducible repeat (first | refine blk_drewN ?_ _ | refine blk_drew ?_ | refine blk_alloc ?_ _)); exact BK383.out) hb); have n3_ := Aside0.mk (blk_below (g := gb384) (o := .cells #[.int .i64 a1_0, .int .i64 a1_1] 48 (0, 0)) (by (with_reducible repeat (first | refine blk_drewN ?_ _ | refine blk_drew ?_ | refine blk_alloc ?_ _)); exact BK384.out) hb); have n4_ := Aside0.mk (below_step (by repeat (first | (with_reducible first | exact HB.out | apply below_alloc | apply pw_below_drewN | apply below_drew1 | refine below_set ?_ GE383.out | refine below_set ?_ GE384.out) | exact HB.out)) hb); clear HO387; clear BK383; clear BK384; clear HB; have HO387 := n0_; have HO390 := n1_; have BK383 := n2_; have BK384 := n3_; have HB := n4_; clear n0_ n1_ n2_ n3_ n4_; clear hb ho10))
 go_loopg [6, 7] k (fun kq v6 v7 w' => ∃ (x6_1 : List (S48)) (x7_1 : Int), v7 = .int .i64 x7_1 ∧ Aside0 (spec_l16Next.l0 kq y385 x6_1 x7_1 a0_0 a0_1 l0_2 = some r) ∧ Aside0 (kq ≤ k) ∧ Aside0 (Kd.R k48 48 w' w.heap.size (fun k_ => some k_ ≠ (v6 : Value).ownBlock ∧ k_ ≠ gb384) v386 y385) ∧ Aside0 (Kd.R k48 48 w' w.heap.size (fun k_ => some k_ ≠ (v386 : Value).ownBlock ∧ k_ ≠ gb384) v6 x6_1) ∧ Aside0 (w'.heap[gb383]? = some (.cells #[.int .i64 a0_0, .int .i64 a0_1, (.slice A0_2 l0_2.length c0_2)] 29 (0, 0))) ∧ Aside0 (w'.heap[gb384]? = some (.cells #[.int .i64 a1_0, .int .i64 a1_1] 48 (0, 0))) ∧ Aside0 (Below w.heap.size w w'))
 case atStart => exact ⟨(y388), (0), (by first | rfl | (simp; done) | (simp [*]; done)), H', ⟨Nat.le_refl _⟩, ⟨by (with_reducible repeat (first | apply Kd.R_alloc | apply Kd.R_drewN | apply Kd.R_drew)); exact Kd.R_mono HO387.out (fun _ hk => ⟨hk.2, hk.1.2⟩)⟩, ⟨by (with_reducible repeat (first | apply Kd.R_alloc | apply Kd.R_drewN | apply Kd.R_drew)); exact Kd.R_mono HO390.out (fun _ hk => ⟨hk.1.2, hk.2⟩)⟩, ⟨by (with_reducible repeat (first | refine blk_drewN ?_ _ | refine blk_drew ?_ | refine blk_alloc ?_ _)); exact BK383.out⟩, ⟨by (with_reducible repeat (first | refine blk_drewN ?_ _ | refine blk_drew ?_ | refine blk_alloc ?_ _)); exact BK384.out⟩, ⟨by repeat (first | (with_reducible first | exact HB.out | apply below_alloc | apply pw_below_drewN | apply below_drew1 | refine below_set ?_ GE383.out | refine below_set ?_ GE384.out) | exact HB.out)⟩⟩
 case round =>
  clear H'
  try clear c2
  try clear p2
  try clear c5
  try clear c6
  try clear p6
  try clear hcz6_0
  try clear hcz6_1
  try clear hfz6_0
  try clear hfz6_1
  obtain ⟨x6_1, x7_1, rfl, HA, HK1, HO_5, HO_6, BK383, BK384, HB⟩ := hrel
  cases gk with
  | zero => exact absurd HA.out (by simp [spec_l16Next.l0])
  | succ k1 =>
   have H := HA.out
   clear HA
   simp only [spec_l16Next.l0] at H
   by_cases c11 : x7_1 < (y385.length : Int)
   ·rw [if_pos c11] at H
    have c11b0 : decide (x7_1 < (y385.length : Int)) = true := decide_eq_true c11
    clear c11
    by_cases c12 : 0 ≤ x7_1
    ·rw [if_pos c12] at H
     have c12b0 : decide (0 ≤ x7_1) = true := decide_eq_true c12
     clear c12
     replace H := Option.bind_eq_some_iff.mp H
     obtain ⟨t392, A130, H⟩ := H
     replace H : (if t392 = true then (if x6_1.length < 8796093022208 then (spec_l16Next.l0 k1 y385 (x6_1 ++ [(⟨(rd_T48 y385 x7_1).f0, (rd_T48 y385 x7_1).f1⟩ : S48)]) (wrap64 (x7_1 + 1)) a0_0 a0_1 l0_2) else (none)) else (spec_l16Next.l0 k1 y385 x6_1 (wrap64 (x7_1 + 1)) a0_0 a0_1 l0_2)) = some r := H
     have A13 := Aside0.mk A130
     clear A130
     by_cases c14 : t392 = true
     ·subst c14
      have H1 : (if x6_1.length < 8796093022208 then (spec_l16Next.l0 k1 y385 (x6_1 ++ [(⟨(rd_T48 y385 x7_1).f0, (rd_T48 y385 x7_1).f1⟩ : S48)]) (wrap64 (x7_1 + 1)) a0_0 a0_1 l0_2) else (none)) = some r := by rw [if_pos rfl] at H; exact H
      clear H
      have H := H1
      clear H1
      by_cases c15 : x6_1.length < 8796093022208
      ·rw [if_pos c15] at H
       have LMc15 := Aside0.mk c15
       clear c15
       obtain ⟨y394, hy394⟩ : ∃ y_ : List (S48), y_ = (x6_1 ++ [(⟨(rd_T48 y385 x7_1).f0, (rd_T48 y385 x7_1).f1⟩ : S48)]) := ⟨_, rfl⟩
       replace H : (spec_l16Next.l0 k1 y385 y394 (wrap64 (x7_1 + 1)) a0_0 a0_1 l0_2) = some r := by first | (rw [hy394]; with_reducible exact H) | (have H2_ := (Option.bind_some _ _).symm.trans H; rw [hy394]; with_reducible exact H2_) | (have H2_ := (Option.bind_some _ _).symm.trans H; with_reducible exact H2_) | with_reducible exact H | (rw [hy394]; exact H) | exact H
       have Ny394 := Aside0.mk hy394
       clear hy394
       have H' := Aside0.mk H
       clear H
       obtain ⟨Ao16, co16, eo16⟩ := Kd.R_slice HO_5.out
       subst eo16
       try go_wp2
       have n0_ := Aside0.mk (Kd.R_drew HO_5.out)
       have n1_ := Aside0.mk (Kd.R_drew HO_6.out)
       have n2_ := Aside0.mk (blk_drew BK383.out)
       have n3_ := Aside0.mk (blk_drew BK384.out)
       have n4_ := Aside0.mk (below_drew1 HB.out)
       clear HO_5
       clear HO_6
       clear BK383
       clear BK384
       clear HB
       have HO_5 := n0_
       have HO_6 := n1_
       have BK383 := n2_
       have BK384 := n3_
       have HB := n4_
       clear n0_ n1_ n2_ n3_ n4_
       have p391 : 0 ≤ (x7_1 : Int) := of_decide_eq_true (by first | (with_reducible assumption) | assumption)
       have q391 : x7_1 < (y385.length : Int) := of_decide_eq_true (by first | (with_reducible assumption) | assumption)
       obtain ⟨ad391, e391, hx391_0, hx391_1⟩ := at_T48 (Kd.R_reads' HO_5.out).2.2 x7_1 p391 q391
       cases e391
       replace p391 := eq_true p391
       replace q391 := eq_true q391
       refine start_ (n := 6) (S := fun w' => w'.cell? ⟨gb383, 0, none⟩ = some (.int .i64 a0_0) ∧ w'.cell? ⟨gb383, 1, none⟩ = some (.int .i64 a0_1) ∧ w'.cell? ⟨gb383, 2, none⟩ = some (.slice A0_2 l0_2.length c0_2) ∧ w'.cell? (ad391.add ((x7_1).toNat * 2)) = some (.int .i64 ((rd_T48 y385 x7_1).f0)) ∧ w'.cell? ⟨(ad391.add ((x7_1).toNat * 2)).block, (ad391.add ((x7_1).toNat * 2)).off + 1, none⟩ = some (.int .i64 ((rd_T48 y385 x7_1).f1))) (ds := []) #[false, false, false, false, false, false] (by kernel_rfl) rfl rfl ⟨(blk_cell BK383.out 0).trans rfl, (blk_cell BK383.out 1).trans rfl, (blk_cell BK383.out 2).trans rfl, hx391_0, hx391_1⟩ (fun hHeld => ?_)
       generalize wr.drew = w17 at HO_5 HO_6 BK383 BK384 HB hx391_0 hx391_1 hHeld ⊢
       refine pure_ (i := 1) (N := some 42) (v := ?_) (a' := ?_) #[false, true, false, false, false, false] rfl rfl (by kernel_rfl) (fun _ _ _ h => h) (Or.inl ⟨by rfl, ?_⟩) ?_ ?_
       rotate_left
       ·intro w'
        go_simp
        with_reducible rfl
       rotate_left
       ·simp only [Act.put, List.setIfInBounds_toArray, List.set_cons_zero, List.set_cons_succ, i64_w, i32_w]
        rfl
       refine pure_ (i := 2) (N := some 43) (v := ?_) (a' := ?_) #[false, true, true, false, false, false] rfl rfl (by kernel_rfl) (fun _ _ _ h => h) (Or.inl ⟨by rfl, ?_⟩) ?_ ?_
       rotate_left
       ·intro w'
        go_simp
        with_reducible rfl
       rotate_left
       ·simp only [Act.put, List.setIfInBounds_toArray, List.set_cons_zero, List.set_cons_succ, i64_w, i32_w]
        rfl
       refine pure_ (i := 3) (N := some 44) (v := ?_) (a' := ?_) #[false, true, true, true, false, false] rfl rfl (by kernel_rfl) (fun _ _ _ h => h) (Or.inl ⟨by rfl, ?_⟩) ?_ ?_
       rotate_left
       ·intro w'
        go_simp
        with_reducible rfl
       rotate_left
       ·simp only [Act.put, List.setIfInBounds_toArray, List.set_cons_zero, List.set_cons_succ, i64_w, i32_w]
        rfl
       refine take_ (i := 0) (N := some 41) (v := ?_) (a' := ?_) #[true, true, true, true, false, false] rfl rfl (by kernel_rfl) (fun _ _ _ h => h) (Or.inl ⟨by rfl, ?_⟩) hHeld ?_ ?_
       rotate_left
       ·rintro w' ⟨s0, s1, s2, s3, s4⟩
        go_simp
        with_reducible rfl
       rotate_left
       ·simp only [Act.put, List.setIfInBounds_toArray, List.set_cons_zero, List.set_cons_succ, i64_w, i32_w]
        rfl
       refine take_ (i := 4) (N := some 45) (v := ?_) (a' := ?_) #[true, true, true, true, true, false] rfl rfl (by kernel_rfl) (fun _ _ _ h => h) (Or.inl ⟨by rfl, ?_⟩) hHeld ?_ ?_
       rotate_left
       ·rintro w' ⟨s0, s1, s2, s3, s4⟩
        go_simp
        with_reducible rfl
       rotate_left
       ·simp only [Act.put, List.setIfInBounds_toArray, List.set_cons_zero, List.set_cons_succ, i64_w, i32_w]
        rfl
       refine one_ (i := 5) (N := some 46) #[true, true, true, true, true, true] rfl rfl (by kernel_rfl) (by decide) (fun K hK => ?_)
       refine goes_ Try.func82 (by kernel_rfl) rfl #[.agg #[.int .i64 a0_0, .int .i64 a0_1, .slice A0_2 l0_2.length c0_2], .agg #[.int .i64 ((rd_T48 y385 x7_1).f0), .int .i64 ((rd_T48 y385 x7_1).f1)]] (by rfl) rfl rfl (by (try simp only [List.map_toArray, List.map_cons, List.map_nil]); first | done | rfl | (simp only [List.length_drop, List.length_take]; rfl)) ?_
       with_reducible refine (spec_l16Free.calls k1 a0_0 a0_1 _ _ l0_2 ((rd_T48 y385 x7_1).f0) ((rd_T48 y385 x7_1).f1) true _ ?side1 ?side2 A13.out).mono ?_
       (case side1 => repeat (first | exact (Kd.C_below HR0_2.out HB.out) | (with_reducible refine Kd.C_alloc ?_ _) | (with_reducible refine Kd.C_drewN ?_ _) | (with_reducible refine Kd.C_drew ?_)))
       (case side2 => exact HC0_2.out)
       rintro e w18 ⟨rfl, hb⟩
       have HS3_ := (hb.cell (World.block_lt_of_cell? _ _ (hHeld.2.2.2.1))).trans (hHeld.2.2.2.1)
       have HS4_ := (hb.cell (World.block_lt_of_cell? _ _ (hHeld.2.2.2.2))).trans (hHeld.2.2.2.2)
       refine ⟨_, rfl, ?_⟩
       have n0_ := Aside0.mk (Kd.R_below (by (with_reducible repeat (first | apply Kd.R_alloc | apply Kd.R_drewN | apply Kd.R_drew)); exact HO_5.out) hb)
       have n1_ := Aside0.mk (Kd.R_below (by (with_reducible repeat (first | apply Kd.R_alloc | apply Kd.R_drewN | apply Kd.R_drew)); exact HO_6.out) hb)
       have n2_ := Aside0.mk (blk_below (g := gb383) (o := .cells #[.int .i64 a0_0, .int .i64 a0_1, .slice A0_2 l0_2.length c0_2] 29 (0, 0)) (by (with_reducible repeat (first | refine blk_drewN ?_ _ | refine blk_drew ?_ | refine blk_alloc ?_ _)); exact BK383.out) hb)
       have n3_ := Aside0.mk (blk_below (g := gb384) (o := .cells #[.int .i64 a1_0, .int .i64 a1_1] 48 (0, 0)) (by (with_reducible repeat (first | refine blk_drewN ?_ _ | refine blk_drew ?_ | refine blk_alloc ?_ _)); exact BK384.out) hb)
       have n4_ := Aside0.mk (below_step (by repeat (first | (with_reducible first | exact HB.out | apply below_alloc | apply pw_below_drewN | apply below_drew1 | refine below_set ?_ GE383.out | refine below_set ?_ GE384.out) | exact HB.out)) hb)
       clear HO_5
       clear HO_6
       clear BK383
       clear BK384
       clear HB
       have HO_5 := n0_
       have HO_6 := n1_
       have BK383 := n2_
       have BK384 := n3_
       have HB := n4_
       clear n0_ n1_ n2_ n3_ n4_
       (try clear hb)
       (try clear hb2)
       (try clear hk)
       (try clear hi)
       refine hK.out _ _ ⟨(blk_cell BK383.out 0).trans rfl, (blk_cell BK383.out 1).trans rfl, (blk_cell BK383.out 2).trans rfl, HS3_, HS4_⟩ (fun hHeld => ?_)
       clear hK K
       refine norm_ (a' := ?_) ?_ ?_
       rotate_left
       ·show Act.put _ (some 46) _ = _
        simp only [Act.put, List.setIfInBounds_toArray, List.set_cons_zero, List.set_cons_succ, i64_w, i32_w]
        rfl
       refine done_ (by kernel_rfl) ?_
       have p393 : 0 ≤ (x7_1 : Int) := of_decide_eq_true (by first | (with_reducible assumption) | assumption)
       have q393 : x7_1 < (y385.length : Int) := of_decide_eq_true (by first | (with_reducible assumption) | assumption)
       obtain ⟨ad393, e393, hx393_0, hx393_1⟩ := at_T48 (Kd.R_reads' HO_5.out).2.2 x7_1 p393 q393
       obtain rfl : ad391 = ad393 := (by injection e393)
       replace p393 := eq_true p393
       replace q393 := eq_true q393
       try go_wp2_with (first | ((with_reducible refine gate_builtin (b := .append) (xs := #[.tmp 47, .tmp 52]) rfl ?_); at_builtin; refine Kd.R_append k48 (w0 := w) w.heap.size rfl (.tmp 47) (.tmp 52) 27 48 (.agg #[(.int .i64 0), (.int .i64 0)]) 16 rfl Try.underlying27 info48 rfl (by decide) (by omega) u6 x6_1 (⟨(rd_T48 y385 x7_1).f0, (rd_T48 y385 x7_1).f1⟩ : S48) [.int .i64 ((rd_T48 y385 x7_1).f0), .int .i64 ((rd_T48 y385 x7_1).f1)] (fun k_ => some k_ ≠ (.slice (some ad391) y385.length co16 : Value).ownBlock ∧ k_ ≠ gb384) (fun _ => False) rfl rfl ?aP (fun _ hk => hk.elim) ?aF ?aO ?aB ?aS ?aL ?_; (case aP => exact k48_mkM _ _ _ (⟨(rd_T48 y385 x7_1).f0, (rd_T48 y385 x7_1).f1⟩ : S48)); (case aB => exact (by repeat (first | (with_reducible first | exact HB.out | apply below_alloc | apply pw_below_drewN | apply below_drew1 | refine below_set ?_ GE383.out | refine below_set ?_ GE384.out) | exact HB.out))); (case aF => exact (fun k_ hk => ⟨Kd.fresh' (Kd.R_lt (by (with_reducible repeat (first | apply Kd.R_alloc | apply Kd.R_drewN | apply Kd.R_drew)); exact HO_5.out)) k_ hk, Kd.freshB (g := gb384) (o := .cells #[.int .i64 a1_0, .int .i64 a1_1] 48 (0, 0)) (by (with_reducible repeat (first | refine blk_drewN ?_ _ | refine blk_drew ?_ | refine blk_alloc ?_ _)); exact BK384.out) k_ hk⟩)); (case aO => exact (by (with_reducible repeat (first | apply Kd.R_alloc | apply Kd.R_drewN | apply Kd.R_drew)); exact HO_6.out)); (case aS => exact (below_size (by repeat (first | (with_reducible first | exact HB.out | apply below_alloc | apply pw_below_drewN | apply below_drew1 | refine below_set ?_ GE383.out | refine below_set ?_ GE384.out) | exact HB.out)))); (case aL => have := LMc15.out; omega); intro v395 w19 ho hb hg hat; rw [← Ny394.out] at ho; have n0_ := Aside0.mk (Kd.R_after (ok := (fun k_ => k_ ≠ gb384)) (by (with_reducible repeat (first | apply Kd.R_alloc | apply Kd.R_drewN | apply Kd.R_drew)); exact Kd.R_mono HO_5.out (fun _ hk => ⟨hk.2, hk.1⟩)) hg hat); have n1_ := Aside0.mk (blk_grown (g := gb383) (o := .cells #[.int .i64 a0_0, .int .i64 a0_1, .slice A0_2 l0_2.length c0_2] 29 (0, 0)) (by (with_reducible repeat (first | refine blk_drewN ?_ _ | refine blk_drew ?_ | refine blk_alloc ?_ _)); exact BK383.out) hg (Kd.R_ne HO_6.out BK383.out (by decide))); have n2_ := Aside0.mk (blk_grown (g := gb384) (o := .cells #[.int .i64 a1_0, .int .i64 a1_1] 48 (0, 0)) (by (with_reducible repeat (first | refine blk_drewN ?_ _ | refine blk_drew ?_ | refine blk_alloc ?_ _)); exact BK384.out) hg (Kd.R_away HO_6.out (fun _ hk => hk.2))); have n3_ := Aside0.mk (hb); have n4_ := Aside0.mk (ho); clear HO_5; clear BK383; clear BK384; clear HB; clear HO_6; have HO_5 := n0_; have BK383 := n1_; have BK384 := n2_; have HB := n3_; have HO396 := n4_; clear n0_ n1_ n2_ n3_ n4_; clear ho hb hg hat))
       go_roundg k1
       case measure => have := HK1.out; omega
       case rel => exact ⟨(y394), (wrap64 (x7_1 + 1)), (by first | rfl | (simp; done) | (simp [*]; done)), H', ⟨by have := HK1.out; omega⟩, ⟨by (with_reducible repeat (first | apply Kd.R_alloc | apply Kd.R_drewN | apply Kd.R_drew)); exact Kd.R_mono HO_5.out (fun _ hk => ⟨hk.2, hk.1⟩)⟩, ⟨by (with_reducible repeat (first | apply Kd.R_alloc | apply Kd.R_drewN | apply Kd.R_drew)); exact HO396.out⟩, ⟨by (with_reducible repeat (first | refine blk_drewN ?_ _ | refine blk_drew ?_ | refine blk_alloc ?_ _)); exact BK383.out⟩, ⟨by (with_reducible repeat (first | refine blk_drewN ?_ _ | refine blk_drew ?_ | refine blk_alloc ?_ _)); exact BK384.out⟩, ⟨by repeat (first | (with_reducible first | exact HB.out | apply below_alloc | apply pw_below_drewN | apply below_drew1 | refine below_set ?_ GE383.out | refine below_set ?_ GE384.out) | exact HB.out)⟩⟩
      ·rw [if_neg c15] at H
       exact absurd H (by simp)
     ·replace c14 := Bool.eq_false_iff.mpr c14
      subst c14
      have H1 : (spec_l16Next.l0 k1 y385 x6_1 (wrap64 (x7_1 + 1)) a0_0 a0_1 l0_2) = some r := by rw [if_neg (show ¬ (false = true) by decide)] at H; exact H
      clear H
      have H := H1
      clear H1
      have H' := Aside0.mk H
      clear H
      obtain ⟨Ao20, co20, eo20⟩ := Kd.R_slice HO_5.out
      subst eo20
      try go_wp2
      have n0_ := Aside0.mk (Kd.R_drew HO_5.out)
      have n1_ := Aside0.mk (Kd.R_drew HO_6.out)
      have n2_ := Aside0.mk (blk_drew BK383.out)
      have n3_ := Aside0.mk (blk_drew BK384.out)
      have n4_ := Aside0.mk (below_drew1 HB.out)
      clear HO_5
      clear HO_6
      clear BK383
      clear BK384
      clear HB
      have HO_5 := n0_
      have HO_6 := n1_
      have BK383 := n2_
      have BK384 := n3_
      have HB := n4_
      clear n0_ n1_ n2_ n3_ n4_
      have p391 : 0 ≤ (x7_1 : Int) := of_decide_eq_true (by first | (with_reducible assumption) | assumption)
      have q391 : x7_1 < (y385.length : Int) := of_decide_eq_true (by first | (with_reducible assumption) | assumption)
      obtain ⟨ad391, e391, hx391_0, hx391_1⟩ := at_T48 (Kd.R_reads' HO_5.out).2.2 x7_1 p391 q391
      cases e391
      replace p391 := eq_true p391
      replace q391 := eq_true q391
      refine start_ (n := 6) (S := fun w' => w'.cell? ⟨gb383, 0, none⟩ = some (.int .i64 a0_0) ∧ w'.cell? ⟨gb383, 1, none⟩ = some (.int .i64 a0_1) ∧ w'.cell? ⟨gb383, 2, none⟩ = some (.slice A0_2 l0_2.length c0_2) ∧ w'.cell? (ad391.add ((x7_1).toNat * 2)) = some (.int .i64 ((rd_T48 y385 x7_1).f0)) ∧ w'.cell? ⟨(ad391.add ((x7_1).toNat * 2)).block, (ad391.add ((x7_1).toNat * 2)).off + 1, none⟩ = some (.int .i64 ((rd_T48 y385 x7_1).f1))) (ds := []) #[false, false, false, false, false, false] (by kernel_rfl) rfl rfl ⟨(blk_cell BK383.out 0).trans rfl, (blk_cell BK383.out 1).trans rfl, (blk_cell BK383.out 2).trans rfl, hx391_0, hx391_1⟩ (fun hHeld => ?_)
      generalize wr.drew = w21 at HO_5 HO_6 BK383 BK384 HB hx391_0 hx391_1 hHeld ⊢
      refine pure_ (i := 1) (N := some 42) (v := ?_) (a' := ?_) #[false, true, false, false, false, false] rfl rfl (by kernel_rfl) (fun _ _ _ h => h) (Or.inl ⟨by rfl, ?_⟩) ?_ ?_
      rotate_left
      ·intro w'
       go_simp
       with_reducible rfl
      rotate_left
      ·simp only [Act.put, List.setIfInBounds_toArray, List.set_cons_zero, List.set_cons_succ, i64_w, i32_w]
       rfl
      refine pure_ (i := 2) (N := some 43) (v := ?_) (a' := ?_) #[false, true, true, false, false, false] rfl rfl (by kernel_rfl) (fun _ _ _ h => h) (Or.inl ⟨by rfl, ?_⟩) ?_ ?_
      rotate_left
      ·intro w'
       go_simp
       with_reducible rfl
      rotate_left
      ·simp only [Act.put, List.setIfInBounds_toArray, List.set_cons_zero, List.set_cons_succ, i64_w, i32_w]
       rfl
      refine pure_ (i := 3) (N := some 44) (v := ?_) (a' := ?_) #[false, true, true, true, false, false] rfl rfl (by kernel_rfl) (fun _ _ _ h => h) (Or.inl ⟨by rfl, ?_⟩) ?_ ?_
      rotate_left
      ·intro w'
       go_simp
       with_reducible rfl
      rotate_left
      ·simp only [Act.put, List.setIfInBounds_toArray, List.set_cons_zero, List.set_cons_succ, i64_w, i32_w]
       rfl
      refine take_ (i := 0) (N := some 41) (v := ?_) (a' := ?_) #[true, true, true, true, false, false] rfl rfl (by kernel_rfl) (fun _ _ _ h => h) (Or.inl ⟨by rfl, ?_⟩) hHeld ?_ ?_
      rotate_left
      ·rintro w' ⟨s0, s1, s2, s3, s4⟩
       go_simp
       with_reducible rfl
      rotate_left
      ·simp only [Act.put, List.setIfInBounds_toArray, List.set_cons_zero, List.set_cons_succ, i64_w, i32_w]
       rfl
      refine take_ (i := 4) (N := some 45) (v := ?_) (a' := ?_) #[true, true, true, true, true, false] rfl rfl (by kernel_rfl) (fun _ _ _ h => h) (Or.inl ⟨by rfl, ?_⟩) hHeld ?_ ?_
      rotate_left
      ·rintro w' ⟨s0, s1, s2, s3, s4⟩
       go_simp
       with_reducible rfl
      rotate_left
      ·simp only [Act.put, List.setIfInBounds_toArray, List.set_cons_zero, List.set_cons_succ, i64_w, i32_w]
       rfl
      refine one_ (i := 5) (N := some 46) #[true, true, true, true, true, true] rfl rfl (by kernel_rfl) (by decide) (fun K hK => ?_)
      refine goes_ Try.func82 (by kernel_rfl) rfl #[.agg #[.int .i64 a0_0, .int .i64 a0_1, .slice A0_2 l0_2.length c0_2], .agg #[.int .i64 ((rd_T48 y385 x7_1).f0), .int .i64 ((rd_T48 y385 x7_1).f1)]] (by rfl) rfl rfl (by (try simp only [List.map_toArray, List.map_cons, List.map_nil]); first | done | rfl | (simp only [List.length_drop, List.length_take]; rfl)) ?_
      with_reducible refine (spec_l16Free.calls k1 a0_0 a0_1 _ _ l0_2 ((rd_T48 y385 x7_1).f0) ((rd_T48 y385 x7_1).f1) false _ ?side1 ?side2 A13.out).mono ?_
      (case side1 => repeat (first | exact (Kd.C_below HR0_2.out HB.out) | (with_reducible refine Kd.C_alloc ?_ _) | (with_reducible refine Kd.C_drewN ?_ _) | (with_reducible refine Kd.C_drew ?_)))
      (case side2 => exact HC0_2.out)
      rintro e w22 ⟨rfl, hb⟩
      have HS3_ := (hb.cell (World.block_lt_of_cell? _ _ (hHeld.2.2.2.1))).trans (hHeld.2.2.2.1)
      have HS4_ := (hb.cell (World.block_lt_of_cell? _ _ (hHeld.2.2.2.2))).trans (hHeld.2.2.2.2)
      refine ⟨_, rfl, ?_⟩
      have n0_ := Aside0.mk (Kd.R_below (by (with_reducible repeat (first | apply Kd.R_alloc | apply Kd.R_drewN | apply Kd.R_drew)); exact HO_5.out) hb)
      have n1_ := Aside0.mk (Kd.R_below (by (with_reducible repeat (first | apply Kd.R_alloc | apply Kd.R_drewN | apply Kd.R_drew)); exact HO_6.out) hb)
      have n2_ := Aside0.mk (blk_below (g := gb383) (o := .cells #[.int .i64 a0_0, .int .i64 a0_1, .slice A0_2 l0_2.length c0_2] 29 (0, 0)) (by (with_reducible repeat (first | refine blk_drewN ?_ _ | refine blk_drew ?_ | refine blk_alloc ?_ _)); exact BK383.out) hb)
      have n3_ := Aside0.mk (blk_below (g := gb384) (o := .cells #[.int .i64 a1_0, .int .i64 a1_1] 48 (0, 0)) (by (with_reducible repeat (first | refine blk_drewN ?_ _ | refine blk_drew ?_ | refine blk_alloc ?_ _)); exact BK384.out) hb)
      have n4_ := Aside0.mk (below_step (by repeat (first | (with_reducible first | exact HB.out | apply below_alloc | apply pw_below_drewN | apply below_drew1 | refine below_set ?_ GE383.out | refine below_set ?_ GE384.out) | exact HB.out)) hb)
      clear HO_5
      clear HO_6
      clear BK383
      clear BK384
      clear HB
      have HO_5 := n0_
      have HO_6 := n1_
      have BK383 := n2_
      have BK384 := n3_
      have HB := n4_
      clear n0_ n1_ n2_ n3_ n4_
      (try clear hb)
      (try clear hb2)
      (try clear hk)
      (try clear hi)
      refine hK.out _ _ ⟨(blk_cell BK383.out 0).trans rfl, (blk_cell BK383.out 1).trans rfl, (blk_cell BK383.out 2).trans rfl, HS3_, HS4_⟩ (fun hHeld => ?_)
      clear hK K
      refine norm_ (a' := ?_) ?_ ?_
      rotate_left
      ·show Act.put _ (some 46) _ = _
       simp only [Act.put, List.setIfInBounds_toArray, List.set_cons_zero, List.set_cons_succ, i64_w, i32_w]
       rfl
      refine done_ (by kernel_rfl) ?_
      try go_wp2
      go_roundg k1
      case measure => have := HK1.out; omega
      case rel => exact ⟨(x6_1), (wrap64 (x7_1 + 1)), (by first | rfl | (simp; done) | (simp [*]; done)), H', ⟨by have := HK1.out; omega⟩, ⟨by (with_reducible repeat (first | apply Kd.R_alloc | apply Kd.R_drewN | apply Kd.R_drew)); exact HO_5.out⟩, ⟨by (with_reducible repeat (first | apply Kd.R_alloc | apply Kd.R_drewN | apply Kd.R_drew)); exact HO_6.out⟩, ⟨by (with_reducible repeat (first | refine blk_drewN ?_ _ | refine blk_drew ?_ | refine blk_alloc ?_ _)); exact BK383.out⟩, ⟨by (with_reducible repeat (first | refine blk_drewN ?_ _ | refine blk_drew ?_ | refine blk_alloc ?_ _)); exact BK384.out⟩, ⟨by repeat (first | (with_reducible first | exact HB.out | apply below_alloc | apply pw_below_drewN | apply below_drew1 | refine below_set ?_ GE383.out | refine below_set ?_ GE384.out) | exact HB.out)⟩⟩
    ·rw [if_neg c12] at H
     exact absurd H (by simp)
   ·rw [if_neg c11] at H
    have c11b0 : decide (x7_1 < (y385.length : Int)) = false := decide_eq_false c11
    clear c11
    obtain rfl := Option.some.inj H
    obtain ⟨Ao23, co23, eo23⟩ := Kd.R_slice HO_5.out
    subst eo23
    go_wp2
    go_ret
    exact ⟨_, by first | rfl | (simp [errW_none, errW_some] <;> rfl) | (simp [*, errW_none, errW_some] <;> rfl), by (with_reducible repeat (first | apply Kd.R_alloc | apply Kd.R_drewN | apply Kd.R_drew)); exact Kd.R_mono HO_6.out (fun _ hk => trivial), by repeat (first | (with_reducible first | exact HB.out | apply below_alloc | apply pw_below_drewN | apply below_drew1 | refine below_set ?_ GE383.out | refine below_set ?_ GE384.out) | exact HB.out)⟩

end Go.Proofs.Ytbpccdbkaiigcaa.G

/- The walks of spec.PathLengthTo. -/
namespace Go.Proofs.Ytbpccdbkaiigcaa.G
open Go.RowKit Go.Proofs.YtbpccdbkaiigcaaW.PrintWords Go.Proofs.YtbpccdbkaiigcaaW.PrintLast Go.Proofs.YtbpccdbkaiigcaaW.PrintMore
set_option linter.unusedVariables false
set_option linter.unusedSimpArgs false
theorem SQ.close {w0 w : World} {fc : Array Value} {g2 : Nat} {v6 v10 vn : Value} {T : List (List Int)} {pre q ds : List S48} {c : S48} (h : SQ w0 w fc g2 v6 T v10 (pre ++ c :: q) vn ds) : SQ w0 w fc g2 v6 T v10 (pre ++ [c] ++ q) (.slice none 0 0) [] := by
  rw [List.append_assoc]
  exact ⟨h.fl, h.tb, h.qu, Kd.R_nil _ _ _ _ _, h.bl⟩
theorem fresh_ne {w : World} {g : Nat} {v v1 : Value} (hat : v1.ownBlock = v.ownBlock ∨ ∃ b, v1.ownBlock = some b ∧ w.heap.size ≤ b) (hne : some g ≠ v.ownBlock) (hlt : g < w.heap.size) : some g ≠ v1.ownBlock := fun e => by
  rcases hat with h | ⟨b, h, hb⟩
  · exact hne (e.trans h)
  · rw [h] at e
    have e := Option.some.inj e
    omega
/-- The reference's neighbours among the cells G. -/
structure Nbs' (a0_0 a0_1 : Int) (l0_2 : List S48) (G : S48 → Prop) (nb : S48 → List S48) : Prop where
  inn : ∀ d, G d → (0 ≤ d.f0 ∧ d.f0 < a0_0) ∧ (0 ≤ d.f1 ∧ d.f1 < a0_1)
  len : ∀ d, G d → (nb d).length ≤ 5
  cl : ∀ d, G d → ∀ e ∈ nb d, G e
  run : ∀ d, G d → ∃ k, spec_l16Next.f k a0_0 a0_1 l0_2 d.f0 d.f1 = some (nb d)
set_option maxHeartbeats 8000000 in
set_option maxRecDepth 100000 in
theorem spec_PathLengthTo.bad (a0_0 a0_1 : Int) (A0_2 : Option Addr) (c0_2 : Nat) (l0_2 : List S48) (c1 : S48) (kv : Nat) (w : World) (hr0_2 : Kd.C k48 w A0_2 l0_2.length l0_2) (hc0_2 : l0_2.length ≤ c0_2) (hv : spec_l16Asked.f kv a0_0 a0_1 l0_2 c1.f0 c1.f1 c1.f0 c1.f1 = some false) :
    Calls Try.prog 27 #[.agg #[.int .i64 a0_0, .int .i64 a0_1, .slice A0_2 l0_2.length c0_2], .agg #[.int .i64 c1.f0, .int .i64 c1.f1]] w fun e w' => ∃ v : Value, e = .returned (.tuple #[v, .bool false]) ∧ Kd.S SS 72 w' w.heap.size (fun _ => True) v [] ∧ Below w.heap.size w w' := by
  have hu29 := Try.underlying29
  have hu48 := Try.underlying48
  have HR0 := Aside0.mk hr0_2
  have HC0 := Aside0.mk hc0_2
  have HV := Aside0.mk hv
  clear hr0_2 hc0_2 hv
  go_enter Try.func27, Try.ntmps27
  go_wp2_with (first | ((with_reducible refine gate_dst (N := 2) rfl ?_); refine box_event ?hg (N := 2) ?hd (cs := #[.int .i64 a0_0, .int .i64 a0_1, .slice A0_2 l0_2.length c0_2]) (t := 29) ?hr ?_; (case hd => rfl); (case hg => rfl); (case hr => first | (go_simp; done) | (go_simp; rfl)); intro g2 hgg2 w2 hbox hb; have HF2 := Aside0.mk hbox; have HB := Aside0.mk hb; have HG2 : Aside0 (w.heap.size ≤ g2) := Aside0.mk (Nat.le_of_eq hgg2.symm); clear hbox hb hgg2; have f20_2 : w2.cell? ⟨g2, 0, none⟩ = some (.int .i64 a0_0) := (blk_cell HF2.out 0).trans rfl; have f21_2 : w2.cell? ⟨g2, 1, none⟩ = some (.int .i64 a0_1) := (blk_cell HF2.out 1).trans rfl; have f22_2 : w2.cell? ⟨g2, 2, none⟩ = some (.slice A0_2 l0_2.length c0_2) := (blk_cell HF2.out 2).trans rfl) | ((with_reducible refine gate_dst (N := 3) rfl ?_); refine box_event ?hg (N := 3) ?hd (cs := #[.int .i64 c1.f0, .int .i64 c1.f1]) (t := 48) ?hr ?_; (case hd => rfl); (case hg => rfl); (case hr => first | (go_simp; done) | (go_simp; rfl)); intro g3 hgg3 w3 hbox hb; have HF3 := Aside0.mk hbox; have HF2' := Aside0.mk (blk_below HF2.out hb); have HB' := Aside0.mk (below_step HB.out hb); clear HF2 HB hbox hb hgg3; have HF2 := HF2'; have HB := HB'; clear HF2' HB'; have f20_3 : w3.cell? ⟨g2, 0, none⟩ = some (.int .i64 a0_0) := (blk_cell HF2.out 0).trans rfl; have f21_3 : w3.cell? ⟨g2, 1, none⟩ = some (.int .i64 a0_1) := (blk_cell HF2.out 1).trans rfl; have f22_3 : w3.cell? ⟨g2, 2, none⟩ = some (.slice A0_2 l0_2.length c0_2) := (blk_cell HF2.out 2).trans rfl; have f30_3 : w3.cell? ⟨g3, 0, none⟩ = some (.int .i64 c1.f0) := (blk_cell HF3.out 0).trans rfl; have f31_3 : w3.cell? ⟨g3, 1, none⟩ = some (.int .i64 c1.f1) := (blk_cell HF3.out 1).trans rfl) | ((with_reducible refine gate_dst (N := 15) rfl ?_); refine Kd.S_lit SS _ 72 ?hg (N := 15) ?hd (xs := ([] : List (List Int))) (inner := []) (ok := fun _ => True) (okp := fun _ => True) ?hr ?hp (fun _ hk => hk) trivial (Below.refl _ _) (Nat.le_refl _) (by simp) ?_; (case hd => rfl); (case hg => rfl); (case hr => first | (go_simp; done) | (go_simp; rfl)); (case hp => exact (Reps.none _ _)); intro v15 w15 hS hB hg_ hnew_; clear hg_ hnew_; have HS : Aside0 (Kd.S SS 72 w15 w.heap.size (fun _ => True) v15 []) := Aside0.mk (Kd.S_lower hS HB.out.size); have HF2' := Aside0.mk (blk_below HF2.out hB); have HF3' := Aside0.mk (blk_below HF3.out hB); have HB' := Aside0.mk (below_step HB.out hB); clear HF2 HF3 HB; have HF2 := HF2'; have HF3 := HF3'; have HB := HB'; clear HF2' HF3' HB'; have f20_15 : w15.cell? ⟨g2, 0, none⟩ = some (.int .i64 a0_0) := (blk_cell HF2.out 0).trans rfl; have f21_15 : w15.cell? ⟨g2, 1, none⟩ = some (.int .i64 a0_1) := (blk_cell HF2.out 1).trans rfl; have f22_15 : w15.cell? ⟨g2, 2, none⟩ = some (.slice A0_2 l0_2.length c0_2) := (blk_cell HF2.out 2).trans rfl; have f30_15 : w15.cell? ⟨g3, 0, none⟩ = some (.int .i64 c1.f0) := (blk_cell HF3.out 0).trans rfl; have f31_15 : w15.cell? ⟨g3, 1, none⟩ = some (.int .i64 c1.f1) := (blk_cell HF3.out 1).trans rfl; clear hB hS) | (go_at_call 63; (with_reducible refine (spec_l16Asked.calls kv a0_0 a0_1 A0_2 c0_2 l0_2 c1.f0 c1.f1 c1.f0 c1.f1 false _ (Kd.C_below HR0.out HB.out) HC0.out HV.out).mono ?_); rintro e w19 ⟨rfl, hB⟩; have HS19 := Aside0.mk (Kd.S_below HS.out hB); clear HS; have HS := HS19; clear HS19; have HF2' := Aside0.mk (blk_below HF2.out hB); have HF3' := Aside0.mk (blk_below HF3.out hB); have HB' := Aside0.mk (below_step HB.out hB); clear HF2 HF3 HB; have HF2 := HF2'; have HF3 := HF3'; have HB := HB'; clear HF2' HF3' HB'; have f20_19 : w19.cell? ⟨g2, 0, none⟩ = some (.int .i64 a0_0) := (blk_cell HF2.out 0).trans rfl; have f21_19 : w19.cell? ⟨g2, 1, none⟩ = some (.int .i64 a0_1) := (blk_cell HF2.out 1).trans rfl; have f22_19 : w19.cell? ⟨g2, 2, none⟩ = some (.slice A0_2 l0_2.length c0_2) := (blk_cell HF2.out 2).trans rfl; have f30_19 : w19.cell? ⟨g3, 0, none⟩ = some (.int .i64 c1.f0) := (blk_cell HF3.out 0).trans rfl; have f31_19 : w19.cell? ⟨g3, 1, none⟩ = some (.int .i64 c1.f1) := (blk_cell HF3.out 1).trans rfl; clear hB))
  go_ret2
  exact ⟨_, rfl, HS.out, HB.out⟩
set_option maxHeartbeats 8000000 in
set_option maxRecDepth 100000 in
theorem spec_PathLengthTo.good (a0_0 a0_1 : Int) (A0_2 : Option Addr) (c0_2 : Nat) (l0_2 : List S48) (c1 : S48) (G : S48 → Prop) (nb : S48 → List S48) (K : Nat) (r : Mp) (kv : Nat) (w : World) (hr0_2 : Kd.C k48 w A0_2 l0_2.length l0_2) (hc0_2 : l0_2.length ≤ c0_2) (hv : spec_l16Asked.f kv a0_0 a0_1 l0_2 c1.f0 c1.f1 c1.f0 c1.f1 = some true) (hd0 : 0 ≤ a0_0 ∧ a0_0 ≤ 6) (hd1 : 0 ≤ a0_1 ∧ a0_1 ≤ 6) (hnb : Nbs' a0_0 a0_1 l0_2 G nb) (hG : G c1) (hK : K ≤ 1000) (h : bfs nb K (upd (fun _ => none) c1 0) [c1] = some r) :
    Calls Try.prog 27 #[.agg #[.int .i64 a0_0, .int .i64 a0_1, .slice A0_2 l0_2.length c0_2], .agg #[.int .i64 c1.f0, .int .i64 c1.f1]] w fun e w' => ∃ v : Value, e = .returned (.tuple #[v, .bool true]) ∧ Kd.S SS 72 w' w.heap.size (fun _ => True) v (tabOf (fun c => (r c).getD (-1)) a0_0.toNat a0_1.toNat) ∧ Below w.heap.size w w' := by
  have hu29 := Try.underlying29
  have hu48 := Try.underlying48
  have HR0 := Aside0.mk hr0_2
  have HC0 := Aside0.mk hc0_2
  have HN := Aside0.mk hnb
  have HH := Aside0.mk h
  have HG := Aside0.mk hG
  have HV := Aside0.mk hv
  have HD := Aside0.mk (And.intro hd0 hd1)
  clear hr0_2 hc0_2 hnb h hv hG hd0 hd1
  go_enter Try.func27, Try.ntmps27
  go_wp2_with (first | ((with_reducible refine gate_dst (N := 2) rfl ?_); refine box_event ?hg (N := 2) ?hd (cs := #[.int .i64 a0_0, .int .i64 a0_1, .slice A0_2 l0_2.length c0_2]) (t := 29) ?hr ?_; (case hd => rfl); (case hg => rfl); (case hr => first | (go_simp; done) | (go_simp; rfl)); intro g2 hgg2 w2 hbox hb; have HF2 := Aside0.mk hbox; have HB := Aside0.mk hb; have HG2 : Aside0 (w.heap.size ≤ g2) := Aside0.mk (Nat.le_of_eq hgg2.symm); clear hbox hb hgg2; have f20_2 : w2.cell? ⟨g2, 0, none⟩ = some (.int .i64 a0_0) := (blk_cell HF2.out 0).trans rfl; have f21_2 : w2.cell? ⟨g2, 1, none⟩ = some (.int .i64 a0_1) := (blk_cell HF2.out 1).trans rfl; have f22_2 : w2.cell? ⟨g2, 2, none⟩ = some (.slice A0_2 l0_2.length c0_2) := (blk_cell HF2.out 2).trans rfl) | ((with_reducible refine gate_dst (N := 3) rfl ?_); refine box_event ?hg (N := 3) ?hd (cs := #[.int .i64 c1.f0, .int .i64 c1.f1]) (t := 48) ?hr ?_; (case hd => rfl); (case hg => rfl); (case hr => first | (go_simp; done) | (go_simp; rfl)); intro g3 hgg3 w3 hbox hb; have HF3 := Aside0.mk hbox; have HF2' := Aside0.mk (blk_below HF2.out hb); have HB' := Aside0.mk (below_step HB.out hb); clear HF2 HB hbox hb hgg3; have HF2 := HF2'; have HB := HB'; clear HF2' HB'; have f20_3 : w3.cell? ⟨g2, 0, none⟩ = some (.int .i64 a0_0) := (blk_cell HF2.out 0).trans rfl; have f21_3 : w3.cell? ⟨g2, 1, none⟩ = some (.int .i64 a0_1) := (blk_cell HF2.out 1).trans rfl; have f22_3 : w3.cell? ⟨g2, 2, none⟩ = some (.slice A0_2 l0_2.length c0_2) := (blk_cell HF2.out 2).trans rfl; have f30_3 : w3.cell? ⟨g3, 0, none⟩ = some (.int .i64 c1.f0) := (blk_cell HF3.out 0).trans rfl; have f31_3 : w3.cell? ⟨g3, 1, none⟩ = some (.int .i64 c1.f1) := (blk_cell HF3.out 1).trans rfl) | ((with_reducible refine gate_dst (N := 15) rfl ?_); refine Kd.S_lit SS _ 72 ?hg (N := 15) ?hd (xs := ([] : List (List Int))) (inner := []) (ok := fun _ => True) (okp := fun _ => True) ?hr ?hp (fun _ hk => hk) trivial (Below.refl _ _) (Nat.le_refl _) (by simp) ?_; (case hd => rfl); (case hg => rfl); (case hr => first | (go_simp; done) | (go_simp; rfl)); (case hp => exact (Reps.none _ _)); intro v15 w15 hS hB hg_ hnew_; clear hg_ hnew_; have HS : Aside0 (Kd.S SS 72 w15 w.heap.size (fun _ => True) v15 []) := Aside0.mk (Kd.S_lower hS HB.out.size); have HF2' := Aside0.mk (blk_below HF2.out hB); have HF3' := Aside0.mk (blk_below HF3.out hB); have HB' := Aside0.mk (below_step HB.out hB); clear HF2 HF3 HB; have HF2 := HF2'; have HF3 := HF3'; have HB := HB'; clear HF2' HF3' HB'; have f20_15 : w15.cell? ⟨g2, 0, none⟩ = some (.int .i64 a0_0) := (blk_cell HF2.out 0).trans rfl; have f21_15 : w15.cell? ⟨g2, 1, none⟩ = some (.int .i64 a0_1) := (blk_cell HF2.out 1).trans rfl; have f22_15 : w15.cell? ⟨g2, 2, none⟩ = some (.slice A0_2 l0_2.length c0_2) := (blk_cell HF2.out 2).trans rfl; have f30_15 : w15.cell? ⟨g3, 0, none⟩ = some (.int .i64 c1.f0) := (blk_cell HF3.out 0).trans rfl; have f31_15 : w15.cell? ⟨g3, 1, none⟩ = some (.int .i64 c1.f1) := (blk_cell HF3.out 1).trans rfl; clear hB hS) | (go_at_call 63; (with_reducible refine (spec_l16Asked.calls kv a0_0 a0_1 A0_2 c0_2 l0_2 c1.f0 c1.f1 c1.f0 c1.f1 true _ (Kd.C_below HR0.out HB.out) HC0.out HV.out).mono ?_); rintro e w19 ⟨rfl, hB⟩; have HS19 := Aside0.mk (Kd.S_below HS.out hB); clear HS; have HS := HS19; clear HS19; have HF2' := Aside0.mk (blk_below HF2.out hB); have HF3' := Aside0.mk (blk_below HF3.out hB); have HB' := Aside0.mk (below_step HB.out hB); clear HF2 HF3 HB; have HF2 := HF2'; have HF3 := HF3'; have HB := HB'; clear HF2' HF3' HB'; have f20_19 : w19.cell? ⟨g2, 0, none⟩ = some (.int .i64 a0_0) := (blk_cell HF2.out 0).trans rfl; have f21_19 : w19.cell? ⟨g2, 1, none⟩ = some (.int .i64 a0_1) := (blk_cell HF2.out 1).trans rfl; have f22_19 : w19.cell? ⟨g2, 2, none⟩ = some (.slice A0_2 l0_2.length c0_2) := (blk_cell HF2.out 2).trans rfl; have f30_19 : w19.cell? ⟨g3, 0, none⟩ = some (.int .i64 c1.f0) := (blk_cell HF3.out 0).trans rfl; have f31_19 : w19.cell? ⟨g3, 1, none⟩ = some (.int .i64 c1.f1) := (blk_cell HF3.out 1).trans rfl; clear hB))
  go_loopw [6, 7] (fun v6 v7 w' => ∃ y : Nat, y ≤ a0_1.toNat ∧ v7 = .int .i64 y ∧ Aside0 (w'.heap[g2]? = some (.cells #[.int .i64 a0_0, .int .i64 a0_1, .slice A0_2 l0_2.length c0_2] 29 (0, 0))) ∧ Aside0 (w'.heap[g3]? = some (.cells #[.int .i64 c1.f0, .int .i64 c1.f1] 48 (0, 0))) ∧ Aside0 (Kd.S SS 72 w' w.heap.size (fun _ => True) v6 (tabOf (fun c => ((none : Option Int)).getD (-1)) a0_0.toNat y)) ∧ Aside0 (Below w.heap.size w w')) (fun _ v7 _ => a0_1.toNat - (intOf v7).toNat)
  case atStart => exact ⟨0, Nat.zero_le _, rfl, HF2, HF3, HS, HB⟩
  case round =>
    clear HF2 HF3 HS HB
    obtain ⟨y, hy, rfl, HF2, HF3, HS, HB⟩ := hrel
    have f20_r : wr.cell? ⟨g2, 0, none⟩ = some (.int .i64 a0_0) := (blk_cell HF2.out 0).trans rfl; have f21_r : wr.cell? ⟨g2, 1, none⟩ = some (.int .i64 a0_1) := (blk_cell HF2.out 1).trans rfl; have f22_r : wr.cell? ⟨g2, 2, none⟩ = some (.slice A0_2 l0_2.length c0_2) := (blk_cell HF2.out 2).trans rfl
    by_cases hlt : y < a0_1.toNat
    · have hy6 : y < 6 := by have := HD.out; omega
      have hx6 : a0_0.toNat ≤ 6 := by have := HD.out; omega
      have c0 : decide ((y : Int) < a0_1) = true := decide_eq_true (by omega)
      go_wp2_with (first | ((with_reducible refine gate_dst (N := 28) rfl ?_); refine Kd.R_lit (Kd.int .i64) _ 3 ?hg (N := 28) ?hd (xs := ([] : List Int)) (inner := []) (ok := fun _ => True) (okp := fun _ => True) ?hr ?hp (fun _ hk => hk) trivial (Below.refl _ _) (Nat.le_refl _) (by simp) ?_; (case hd => rfl); (case hg => rfl); (case hr => first | (go_simp; done) | (go_simp; rfl)); (case hp => exact (Reps.none _ _)); intro v28 w28 hR hB hg_ hnew_; clear hg_ hnew_; have HTB := Aside0.mk (TB.new (Kd.S_mono HS.out (fun k hk => hk)) HB.out hB hR (fun k hk => trivial)); have HFa := Aside0.mk (blk_below HF2.out hB); have HFb := Aside0.mk (blk_below HF3.out hB); clear HF2 HF3 HB HS hB hR; have f20_28 : w28.cell? ⟨g2, 0, none⟩ = some (.int .i64 a0_0) := (blk_cell HFa.out 0).trans rfl; have f21_28 : w28.cell? ⟨g2, 1, none⟩ = some (.int .i64 a0_1) := (blk_cell HFa.out 1).trans rfl; have f22_28 : w28.cell? ⟨g2, 2, none⟩ = some (.slice A0_2 l0_2.length c0_2) := (blk_cell HFa.out 2).trans rfl))
      go_loopw [8, 9] (fun v8 v9 w' => ∃ x : Nat, x ≤ a0_0.toNat ∧ v9 = .int .i64 x ∧ Aside0 (w'.heap[g2]? = some (.cells #[.int .i64 a0_0, .int .i64 a0_1, .slice A0_2 l0_2.length c0_2] 29 (0, 0))) ∧ Aside0 (w'.heap[g3]? = some (.cells #[.int .i64 c1.f0, .int .i64 c1.f1] 48 (0, 0))) ∧ Aside0 (TB w w' (fun _ => True) u6 (tabOf (fun c => ((none : Option Int)).getD (-1)) a0_0.toNat y) v8 (rowOf (fun c => ((none : Option Int)).getD (-1)) (y : Int) x))) (fun _ v9 _ => a0_0.toNat - (intOf v9).toNat)
      case atStart => exact ⟨0, Nat.zero_le _, rfl, HFa, HFb, HTB⟩
      case round =>
        clear HFa HFb HTB
        obtain ⟨x, hx, rfl, HF2, HF3, HTB⟩ := hrel
        have f20_r : wr.cell? ⟨g2, 0, none⟩ = some (.int .i64 a0_0) := (blk_cell HF2.out 0).trans rfl; have f21_r : wr.cell? ⟨g2, 1, none⟩ = some (.int .i64 a0_1) := (blk_cell HF2.out 1).trans rfl; have f22_r : wr.cell? ⟨g2, 2, none⟩ = some (.slice A0_2 l0_2.length c0_2) := (blk_cell HF2.out 2).trans rfl
        by_cases hlx : x < a0_0.toNat
        · have c1b : decide ((x : Int) < a0_0) = true := decide_eq_true (by omega)
          go_wp2_with (first | ((with_reducible refine gate_builtin (b := .append) (xs := #[.tmp 35, .tmp 36]) rfl ?_); at_builtin; refine Kd.R_append (Kd.int .i64) (W := wr) w.heap.size rfl (.tmp 35) (.tmp 36) 72 3 (.int .i64 0) 8 rfl Try.underlying72 info3 rfl (by decide) (by omega) _ (rowOf (fun c => ((none : Option Int)).getD (-1)) (y : Int) x) (-1) [.int .i64 (-1)] (fun _ => True) (fun _ => False) rfl rfl rfl (fun _ hk => hk.elim) (fun k hk => trivial) HTB.out.row HTB.out.bl HTB.out.bl.size (by rw [rowOf_len]; omega) ?_; intro v37 w37 hR hB hg hat; have HTB50 := Aside0.mk (HTB.out.grow hR hB hg hat); have HFa := Aside0.mk ((hg.block g2 (blk_lt HF2.out) (fun e => Kd.R_ne HTB.out.row HF2.out (by decide) e)).trans HF2.out); have HFb := Aside0.mk ((hg.block g3 (blk_lt HF3.out) (fun e => Kd.R_ne HTB.out.row HF3.out (by decide) e)).trans HF3.out); clear hR hB hg hat HTB HF2 HF3))
          go_roundw
          case measure => simp [intOf]; omega
          case rel => exact ⟨x + 1, by omega, by go_num, HFa, HFb, HTB50⟩
        · have c1b : decide ((x : Int) < a0_0) = false := decide_eq_false (by have := HD.out; omega)
          obtain rfl : x = a0_0.toNat := by omega
          obtain ⟨A9, c9, e9⟩ := Kd.R_slice HTB.out.row
          subst e9
          go_wp2_with (first | ((with_reducible refine gate_builtin (b := .append) (xs := #[.tmp 38, .tmp 40]) rfl ?_); at_builtin; refine Kd.S_append SS (w0 := w) (W := wr) w.heap.size rfl (.tmp 38) (.tmp 40) 45 72 (.slice none 0 0) 24 rfl Try.underlying45 info72 rfl (by decide) (by omega) u6 (tabOf (fun c => ((none : Option Int)).getD (-1)) a0_0.toNat y) (rowOf (fun c => ((none : Option Int)).getD (-1)) (y : Int) a0_0.toNat) [.slice A9 (rowOf (fun c => ((none : Option Int)).getD (-1)) (y : Int) a0_0.toNat).length c9] (fun _ => True) (fun k => some k = (Value.slice A9 (rowOf (fun c => ((none : Option Int)).getD (-1)) (y : Int) a0_0.toNat).length c9).ownBlock) rfl rfl (Kd.M_row (Kd.R_tight rfl HTB.out.row)) HTB.out.apart (fun k hk => trivial) HTB.out.out HTB.out.bl HTB.out.bl.size (by rw [tabOf_len]; omega) ?_; intro v41 w41 hS hB hg hat; have HS41 := Aside0.mk hS; have HB41 := Aside0.mk hB; have HFa := Aside0.mk ((hg.block g2 (blk_lt HF2.out) (fun e => Kd.S_ne HTB.out.out HF2.out (by decide) e)).trans HF2.out); have HFb := Aside0.mk ((hg.block g3 (blk_lt HF3.out) (fun e => Kd.S_ne HTB.out.out HF3.out (by decide) e)).trans HF3.out); clear hS hB hg hat HTB HF2 HF3))
          go_roundw
          case measure => simp [intOf]; omega
          case rel => exact ⟨y + 1, by omega, by go_num, HFa, HFb, HS41, HB41⟩
    · have c0 : decide ((y : Int) < a0_1) = false := decide_eq_false (by have := HD.out; omega)
      obtain rfl : y = a0_1.toNat := by omega
      have hin := HN.out.inn c1 HG.out
      have hdd := HD.out
      obtain ⟨go, co, e6, _⟩ := Kd.S_form HS.out (by rw [tabOf_len]; omega)
      subst e6
      have HSd := Aside0.mk (Kd.S_drew HS.out)
      have HF2d := Aside0.mk (blk_below HF2.out (below_drew1 (Below.refl _ _)))
      have HF3d := Aside0.mk (blk_below HF3.out (below_drew1 (Below.refl _ _)))
      have HBd := Aside0.mk (below_drew1 HB.out)
      have hrow0 := tab_row (fun c => ((none : Option Int)).getD (-1)) a0_0.toNat a0_1.toNat c1.f1 hin.2.1 (by omega)
      have hlen := tabOf_len (fun c => ((none : Option Int)).getD (-1)) a0_0.toNat a0_1.toNat
      obtain ⟨gr, cr, hrow, hval, hzf, hbr, ⟨cells, hcr⟩, hset⟩ := tab_cell HSd.out c1.f1 c1.f0 hin.2.1 (by omega) hin.1.1 (by rw [hrow0, rowOf_len]; omega)
      rw [hrow0] at hset
      rw [hrow0, rowOf_len] at hrow
      have hset0 := hset 0
      rw [tab_set (fun _ => none) a0_0.toNat a0_1.toNat c1 0 hin.1.1 (by omega) hin.2.1 (by omega)] at hset0
      have HSET := Aside0.mk hset0
      have HCR := Aside0.mk hcr
      have HBR := Aside0.mk hbr
      have h30 : wr.drew.cell? ⟨g3, 0, none⟩ = some (.int .i64 c1.f0) := (blk_cell HF3d.out 0).trans rfl
      have h31 : wr.drew.cell? ⟨g3, 1, none⟩ = some (.int .i64 c1.f1) := (blk_cell HF3d.out 1).trans rfl
      obtain ⟨N0, hN0⟩ : ∃ n, a0_0.toNat = n := ⟨_, rfl⟩
      obtain ⟨N1, hN1⟩ : ∃ n, (tabOf (fun c => ((none : Option Int)).getD (-1)) a0_0.toNat a0_1.toNat).length = n := ⟨_, rfl⟩
      rw [hN0] at hrow
      have p0 := eq_true hin.2.1
      have p1 : (c1.f1 < (N1 : Int)) = True := eq_true (by omega)
      have p2 := eq_true hin.1.1
      have p3 : (c1.f0 < (N0 : Int)) = True := eq_true (by omega)
      rw [hN1]
      clear hset hset0 hcr hbr hin hdd hlen hrow0 HS HF2 HF3 HB
      go_wp2
      refine start_ (n := 9) (S := fun w' => w'.cell? ⟨g3, 0, none⟩ = some (.int .i64 c1.f0) ∧ w'.cell? ⟨g3, 1, none⟩ = some (.int .i64 c1.f1) ∧ w'.cell? ⟨go, c1.f1.toNat, none⟩ = some (.slice (some ⟨gr, 0, none⟩) N0 cr)) (ds := [8]) #[false, false, false, false, false, false, false, false, false] (by kernel_rfl) rfl rfl ⟨h30, h31, hrow⟩ (fun hHeld => ?_)
      refine pure_ (i := 0) (N := (some 42)) (v := ?_) (a' := ?_) #[true, false, false, false, false, false, false, false, false] rfl rfl (by kernel_rfl) (fun _ _ _ h => h) (Or.inl ⟨by rfl, ?_⟩) ?_ ?_
      rotate_left
      · intro w'
        go_simp
        with_reducible rfl
      rotate_left
      · simp only [Act.put, List.setIfInBounds_toArray, List.set_cons_zero, List.set_cons_succ, i64_w, i32_w]
        rfl
      refine pure_ (i := 1) (N := (some 43)) (v := ?_) (a' := ?_) #[true, true, false, false, false, false, false, false, false] rfl rfl (by kernel_rfl) (fun _ _ _ h => h) (Or.inl ⟨by rfl, ?_⟩) ?_ ?_
      rotate_left
      · intro w'
        go_simp
        with_reducible rfl
      rotate_left
      · simp only [Act.put, List.setIfInBounds_toArray, List.set_cons_zero, List.set_cons_succ, i64_w, i32_w]
        rfl
      refine take_ (i := 2) (N := (some 44)) (v := ?_) (a' := ?_) #[true, true, true, false, false, false, false, false, false] rfl rfl (by kernel_rfl) (fun _ _ _ h => h) (Or.inl ⟨by rfl, ?_⟩) hHeld ?_ ?_
      rotate_left
      · intro w' s0
        obtain ⟨s1, s2, s3⟩ := s0
        go_simp
        with_reducible rfl
      rotate_left
      · simp only [Act.put, List.setIfInBounds_toArray, List.set_cons_zero, List.set_cons_succ, i64_w, i32_w]
        rfl
      refine pure_ (i := 3) (N := (some 45)) (v := ?_) (a' := ?_) #[true, true, true, true, false, false, false, false, false] rfl rfl (by kernel_rfl) (fun _ _ _ h => h) (Or.inl ⟨by rfl, ?_⟩) ?_ ?_
      rotate_left
      · intro w'
        go_simp
        with_reducible rfl
      rotate_left
      · simp only [Act.put, List.setIfInBounds_toArray, List.set_cons_zero, List.set_cons_succ, i64_w, i32_w]
        rfl
      refine take_ (i := 4) (N := (some 46)) (v := ?_) (a' := ?_) #[true, true, true, true, true, false, false, false, false] rfl rfl (by kernel_rfl) (fun _ _ _ h => h) (Or.inl ⟨by rfl, ?_⟩) hHeld ?_ ?_
      rotate_left
      · intro w' s0
        obtain ⟨s1, s2, s3⟩ := s0
        go_simp
        with_reducible rfl
      rotate_left
      · simp only [Act.put, List.setIfInBounds_toArray, List.set_cons_zero, List.set_cons_succ, i64_w, i32_w]
        rfl
      refine pure_ (i := 5) (N := (some 47)) (v := ?_) (a' := ?_) #[true, true, true, true, true, true, false, false, false] rfl rfl (by kernel_rfl) (fun _ _ _ h => h) (Or.inl ⟨by rfl, ?_⟩) ?_ ?_
      rotate_left
      · intro w'
        go_simp
        with_reducible rfl
      rotate_left
      · simp only [Act.put, List.setIfInBounds_toArray, List.set_cons_zero, List.set_cons_succ, i64_w, i32_w]
        rfl
      refine take_ (i := 6) (N := (some 48)) (v := ?_) (a' := ?_) #[true, true, true, true, true, true, true, false, false] rfl rfl (by kernel_rfl) (fun _ _ _ h => h) (Or.inl ⟨by rfl, ?_⟩) hHeld ?_ ?_
      rotate_left
      · intro w' s0
        obtain ⟨s1, s2, s3⟩ := s0
        go_simp
        with_reducible rfl
      rotate_left
      · simp only [Act.put, List.setIfInBounds_toArray, List.set_cons_zero, List.set_cons_succ, i64_w, i32_w]
        rfl
      refine pure_ (i := 7) (N := (some 49)) (v := ?_) (a' := ?_) #[true, true, true, true, true, true, true, true, false] rfl rfl (by kernel_rfl) (fun _ _ _ h => h) (Or.inl ⟨by rfl, ?_⟩) ?_ ?_
      rotate_left
      · intro w'
        go_simp
        with_reducible rfl
      rotate_left
      · simp only [Act.put, List.setIfInBounds_toArray, List.set_cons_zero, List.set_cons_succ, i64_w, i32_w]
        rfl
      refine last_ (i := 8) (N := none) #[true, true, true, true, true, true, true, true, true] rfl rfl (by kernel_rfl) (by decide) (fun K hK => ?_)
      generalize wr.drew = wd at HSd HF2d HF3d HBd HSET HCR hHeld hrow hval hzf h30 h31 ⊢
      refine skip_ (w1 := wd.setCell ⟨gr, c1.f0.toNat, none⟩ (.int .i64 0)) (by rfl) rfl ?hr8 ?_
      case hr8 => first | (go_simp; done) | (go_simp; rfl)
      refine hK.out _ _ ?_
      clear hK K
      have hne : ∀ {g t : Nat} {cs : Array Value}, wd.heap[g]? = some (.cells cs t (0, 0)) → t ≠ 3 → g ≠ gr := fun h ht e => by
        rw [e, HCR.out] at h
        injection h with h
        injection h with _ h
        exact ht h.symm
      have HF2 := Aside0.mk (blk_far HF2d.out (p := ⟨gr, c1.f0.toNat, none⟩) (hne HF2d.out (by decide)) (.int .i64 0))
      have HF3 := Aside0.mk (blk_far HF3d.out (p := ⟨gr, c1.f0.toNat, none⟩) (hne HF3d.out (by decide)) (.int .i64 0))
      have HB := Aside0.mk (below_set (j := c1.f0.toNat) (v := .int .i64 0) HBd.out HBR.out)
      clear hne HSd HF2d HF3d HBd HCR HBR hHeld hrow hval hzf h30 h31
      generalize wd.setCell ⟨gr, c1.f0.toNat, none⟩ (.int .i64 0) = w13 at HSET HF2 HF3 HB ⊢
      have HS := Aside0.mk (show Kd.S SS 72 w13 w.heap.size (fun _ => True) (.slice (some ⟨go, 0, none⟩) N1 co) (tabOf (fun c => (upd (fun _ => none) c1 0 c).getD (-1)) a0_0.toNat a0_1.toNat) from by rw [← hN1]; exact HSET.out)
      have h30 : w13.cell? ⟨g3, 0, none⟩ = some (.int .i64 c1.f0) := (blk_cell HF3.out 0).trans rfl
      have h31 : w13.cell? ⟨g3, 1, none⟩ = some (.int .i64 c1.f1) := (blk_cell HF3.out 1).trans rfl
      have HNN1 : Aside0 (N1 = a0_1.toNat) := Aside0.mk (by rw [← hN1, tabOf_len])
      clear HSET p0 p1 p2 p3 hN0 hN1
      refine done_ (by kernel_rfl) ?_
      go_wp2_with (first | ((with_reducible refine gate_dst (N := 51) rfl ?_); refine Kd.R_lit k48 _ 48 ?hg (N := 51) ?hd (xs := ([c1] : List S48)) (inner := [.int .i64 c1.f0, .int .i64 c1.f1]) (ok := fun _ => True) (okp := fun _ => True) ?hr ?hp (fun _ hk => hk) trivial (Below.refl _ _) (Nat.le_refl _) (by simp) ?_; (case hd => rfl); (case hg => rfl); (case hr => first | (go_simp; done) | (go_simp; rfl)); (case hp => exact (Reps.c2 (show Kd.M k48 _ _ _ c1 [.int .i64 c1.f0, .int .i64 c1.f1] from k48_mkM _ _ _ c1) (Reps.none _ _))); intro v51 w51 hR hB hg_ hnew_; clear hg_ hnew_; have HQ : Aside0 (SQ w w51 #[.int .i64 a0_0, .int .i64 a0_1, .slice A0_2 l0_2.length c0_2] g2 (.slice (some ⟨go, 0, none⟩) N1 co) (tabOf (fun c => (upd (fun _ => none) c1 0 c).getD (-1)) a0_0.toNat a0_1.toNat) v51 [c1] (.slice none 0 0) []) := Aside0.mk ⟨blk_below HF2.out hB, Kd.S_below HS.out hB, Kd.R_lower (Kd.R_mono hR (fun _ _ => trivial)) HB.out.size, Kd.R_nil _ _ _ _ _, below_step HB.out hB⟩; clear hR hB))
      go_loopg [10, 11] K (fun kq v10 v11 w' => ∃ (m : Mp) (pre q : List S48) (p : Int), v11 = .int .i64 p ∧ Aside0 (p = (pre.length : Int)) ∧ Aside0 (bfs nb kq m q = some r) ∧ Aside0 (pre.length + kq ≤ K) ∧ Aside0 (∀ d ∈ q, G d) ∧ Aside0 (∀ c v, m c = some v → 0 ≤ v) ∧ Aside0 (SQ w w' #[.int .i64 a0_0, .int .i64 a0_1, .slice A0_2 l0_2.length c0_2] g2 (.slice (some ⟨go, 0, none⟩) N1 co) (tabOf (fun c => (m c).getD (-1)) a0_0.toNat a0_1.toNat) v10 (pre ++ q) (.slice none 0 0) []))
      case atStart => exact ⟨_, [], [c1], 0, rfl, ⟨rfl⟩, HH, ⟨by simp⟩, ⟨fun d hd => by rw [List.mem_singleton] at hd; subst hd; exact HG.out⟩, ⟨fun c v e => by
        unfold upd at e
        split at e
        · injection e with e; omega
        · cases e⟩, HQ⟩
      case round =>
        clear HH HQ HS HF2 HF3 HB
        obtain ⟨m, pre, q, p, rfl, HP, HA, HK1, HGq, HPOS, HQ⟩ := hrel
        cases gk with
        | zero => exact absurd HA.out (by simp [bfs])
        | succ k1 =>
          cases q with
          | nil =>
            have e := HA.out
            rw [bfs] at e
            obtain rfl := Option.some.inj e
            obtain ⟨A10, c10, e10⟩ := Kd.R_slice HQ.out.qu
            rw [List.append_nil] at e10
            subst e10
            have c0 : decide (p < (pre.length : Int)) = false := decide_eq_false (by have := HP.out; omega)
            clear HA e
            go_wp2
            go_ret2
            exact ⟨_, rfl, HQ.out.tb, HQ.out.bl⟩
          | cons c q =>
            have e := HA.out
            rw [bfs] at e
            cases hc : m c with
            | none => rw [hc] at e; exact absurd e (by simp)
            | some v =>
              rw [hc] at e
              dsimp only at e
              by_cases hg : q.length < 1000 ∧ 0 ≤ v ∧ v < 1000
              · rw [if_pos hg] at e
                have HE := Aside0.mk e
                have HVv := Aside0.mk hg
                have HC := Aside0.mk hc
                have HGc := Aside0.mk (HGq.out c List.mem_cons_self)
                have HGr : Aside0 (∀ d ∈ q, G d) := Aside0.mk (fun d hd => HGq.out d (List.mem_cons_of_mem _ hd))
                clear e hg hc HA HGq
                obtain ⟨A10, c10, e10⟩ := Kd.R_slice HQ.out.qu
                obtain ⟨N10, hN10⟩ : ∃ n, (pre ++ c :: q).length = n := ⟨_, rfl⟩
                have hl10 : N10 = pre.length + q.length + 1 := by rw [← hN10]; simp; omega
                rw [hN10] at e10
                subst e10
                obtain ⟨ad10, ea, hx0, hx1⟩ := at_T48 (Kd.R_reads' HQ.out.qu).2.2 p (by have := HP.out; omega) (by have := HP.out; omega)
                cases ea
                have hrd : rd_T48 (pre ++ c :: q) p = c := by
                  unfold rd_T48
                  rw [List.getD_eq_getElem?_getD, HP.out, Int.toNat_natCast, List.getElem?_append_right (Nat.le_refl _), Nat.sub_self]
                  rfl
                rw [hrd] at hx0 hx1
                have HX10 := Aside0.mk hl10
                have HN10 := Aside0.mk hN10
                have p0 : (0 ≤ p) = True := eq_true (by have := HP.out; omega)
                have p1 : (p < (N10 : Int)) = True := eq_true (by have := HP.out; omega)
                have c0 : decide (p < (N10 : Int)) = true := decide_eq_true (by have := HP.out; omega)
                obtain ⟨ka, hka⟩ := HN.out.run c HGc.out
                have HKA := Aside0.mk hka
                clear hka hrd hl10 hN10
                go_wp2_with (first | ((with_reducible refine gate_dst (N := 12) rfl ?_); refine box_event ?hg (N := 12) ?hd (cs := #[.int .i64 0, .int .i64 0]) (t := 48) ?hr ?_; (case hd => rfl); (case hg => rfl); (case hr => first | (go_simp; done) | (go_simp; rfl)); intro g12 hgg12 w12 hbox hb; have HF12 := Aside0.mk hbox; have HB12 := Aside0.mk hb; have HG12 := Aside0.mk hgg12; clear hbox hb hgg12; have hz0 : w12.cell? ⟨g12, 0, none⟩ = some (.int .i64 0) := (blk_cell HF12.out 0).trans rfl; have hz1 : w12.cell? ⟨g12, 1, none⟩ = some (.int .i64 0) := (blk_cell HF12.out 1).trans rfl; have hzf0 := blk_frozen HF12.out 0; have hzf1 := blk_frozen HF12.out 1; have HQ9 := Aside0.mk (HQ.out.below (below_set (j := 1) (v := .int .i64 c.f1) (below_set (j := 0) (v := .int .i64 c.f0) HB12.out (Nat.le_of_eq HG12.out.symm)) (Nat.le_of_eq HG12.out.symm))); have HF9 : Aside0 (((w12.setCell ⟨g12, 0, none⟩ (.int .i64 c.f0)).setCell ⟨g12, 1, none⟩ (.int .i64 c.f1)).heap[g12]? = some (.cells #[.int .i64 c.f0, .int .i64 c.f1] 48 (0, 0))) := Aside0.mk (blk_put (cs := #[.int .i64 c.f0, .int .i64 0]) (blk_put (cs := #[.int .i64 0, .int .i64 0]) HF12.out 0 _ rfl) 1 _ rfl); have f29 : ((w12.setCell ⟨g12, 0, none⟩ (.int .i64 c.f0)).setCell ⟨g12, 1, none⟩ (.int .i64 c.f1)).cell? ⟨g2, 0, none⟩ = some (.int .i64 a0_0) := (blk_cell HQ9.out.fl 0).trans rfl; have f291 : ((w12.setCell ⟨g12, 0, none⟩ (.int .i64 c.f0)).setCell ⟨g12, 1, none⟩ (.int .i64 c.f1)).cell? ⟨g2, 1, none⟩ = some (.int .i64 a0_1) := (blk_cell HQ9.out.fl 1).trans rfl; have f292 : ((w12.setCell ⟨g12, 0, none⟩ (.int .i64 c.f0)).setCell ⟨g12, 1, none⟩ (.int .i64 c.f1)).cell? ⟨g2, 2, none⟩ = some (.slice A0_2 l0_2.length c0_2) := (blk_cell HQ9.out.fl 2).trans rfl; have f2x : w12.cell? ⟨g2, 0, none⟩ = some (.int .i64 a0_0) := (blk_cell (HQ.out.below HB12.out).fl 0).trans rfl; have f2y : w12.cell? ⟨g2, 1, none⟩ = some (.int .i64 a0_1) := (blk_cell (HQ.out.below HB12.out).fl 1).trans rfl; have f2z : w12.cell? ⟨g2, 2, none⟩ = some (.slice A0_2 l0_2.length c0_2) := (blk_cell (HQ.out.below HB12.out).fl 2).trans rfl; have hne12 : g12 ≠ g2 := (fun e => by have := blk_lt HQ.out.fl; have := HG12.out; omega); have hne12b : g2 ≠ g12 := fun e => hne12 e.symm) | (go_at_call 64; (with_reducible refine (spec_l16Next.calls ka a0_0 a0_1 A0_2 c0_2 l0_2 c.f0 c.f1 (nb c) _ (Kd.C_below HR0.out HQ9.out.bl) HC0.out HKA.out).mono ?_); rintro e w64 ⟨v64, rfl, hR, hB⟩; obtain ⟨A13, c13, rfl⟩ := Kd.R_slice hR; have HQ64 := Aside0.mk (HQ9.out.near hB hR); have HF64 := Aside0.mk (blk_below HF9.out hB); have HNE : Aside0 (some g12 ≠ (Value.slice (some ad10) N10 c10).ownBlock) := Aside0.mk (fun e => by have := Kd.R_lt HQ.out.qu g12 e.symm; have := HG12.out; omega); clear hR hB HQ9 HF9 HF12 HB12 HG12 hz0 hz1 hzf0 hzf1 f29 f291 f292))
                go_loopw [10, 14] (fun v10 v14 w' => ∃ (x : Int) (m' : Mp) (q' : List S48), v14 = .int .i64 x ∧ Aside0 (0 ≤ x ∧ x ≤ ((nb c).length : Int)) ∧ Aside0 (stepIn (v + 1) ((nb c).drop x.toNat) m' q' = stepIn (v + 1) (nb c) m q) ∧ Aside0 (m' c = some v) ∧ Aside0 ((q'.length : Int) ≤ q.length + x) ∧ Aside0 (∀ d ∈ q', G d) ∧ Aside0 (∀ c v, m' c = some v → 0 ≤ v) ∧ Aside0 (some g12 ≠ v10.ownBlock) ∧ Aside0 (w'.heap[g12]? = some (.cells #[.int .i64 c.f0, .int .i64 c.f1] 48 (0, 0))) ∧ Aside0 (SQ w w' #[.int .i64 a0_0, .int .i64 a0_1, .slice A0_2 l0_2.length c0_2] g2 (.slice (some ⟨go, 0, none⟩) N1 co) (tabOf (fun c => (m' c).getD (-1)) a0_0.toNat a0_1.toNat) v10 (pre ++ c :: q') (.slice A13 (nb c).length c13) (nb c))) (fun _ v14 _ => (nb c).length - (intOf v14).toNat)
                case atStart => exact ⟨0, m, q, rfl, ⟨Int.le_refl _, by omega⟩, ⟨rfl⟩, HC, ⟨by omega⟩, HGr, HPOS, HNE, HF64, HQ64⟩
                case round =>
                  clear HQ64 HF64 HNE HC HGr HPOS HQ HKA HN10 HX10
                  obtain ⟨x, m', q', rfl, HX, HST, HC, HQL, HGr, HPOS, HNE, HF12, HQ⟩ := hrel
                  have h5 := HN.out.len c HGc.out
                  by_cases hlt : x < ((nb c).length : Int)
                  · have HQd := Aside0.mk (HQ.out.below (below_drew1 (Below.refl _ _)))
                    have HF12d := Aside0.mk (blk_below HF12.out (below_drew1 (Below.refl _ _)))
                    obtain ⟨ad13, ea, hy0, hy1⟩ := at_T48 (Kd.R_reads' HQd.out.nx).2.2 x HX.out.1 hlt
                    cases ea
                    obtain ⟨d, hd⟩ : ∃ d, rd_T48 (nb c) x = d := ⟨_, rfl⟩
                    have hst := HST.out
                    rw [drop48 (nb c) x HX.out.1 hlt, hd] at hst
                    have HGd : Aside0 (G d) := Aside0.mk (HN.out.cl c HGc.out d (by rw [← hd]; exact mem48 _ x HX.out.1 hlt))
                    rw [hd] at hy0 hy1
                    have hX1 : 0 ≤ x + 1 ∧ x + 1 ≤ ((nb c).length : Int) := by have := HX.out; omega
                    have HX1 := Aside0.mk hX1
                    have hwx : wrap64 (x + 1) = x + 1 := wrap64_id (by omega) (by omega)
                    have q0 : decide (x < ((nb c).length : Int)) = true := decide_eq_true hlt
                    have q1 := eq_true HX.out.1
                    have q2 := eq_true hlt
                    have hin := HN.out.inn d HGd.out
                    have hdd := HD.out
                    have hlen := tabOf_len (fun c => (m' c).getD (-1)) a0_0.toNat a0_1.toNat
                    have hrow0 := tab_row (fun c => (m' c).getD (-1)) a0_0.toNat a0_1.toNat d.f1 hin.2.1 (by omega)
                    obtain ⟨gr, cr, hrow, hval, _, _, _, _⟩ := tab_cell HQd.out.tb d.f1 d.f0 hin.2.1 (by omega) hin.1.1 (by rw [hrow0, rowOf_len]; omega)
                    rw [hrow0, row_rd _ _ _ _ hin.1.1 (by omega)] at hval
                    rw [hrow0, rowOf_len] at hrow
                    have hval : wr.drew.cell? ⟨gr, d.f0.toNat, none⟩ = some (.int .i64 ((m' d).getD (-1))) := hval
                    obtain ⟨N0, hN0⟩ : ∃ n, a0_0.toNat = n := ⟨_, rfl⟩
                    rw [hN0] at hrow
                    have t0 := eq_true hin.2.1
                    have t1 : (d.f1 < (N1 : Int)) = True := eq_true (by have := HNN1.out; omega)
                    have t2 := eq_true hin.1.1
                    have t3 : (d.f0 < (N0 : Int)) = True := eq_true (by omega)
                    have HRD := Aside0.mk hd
                    have HLT := Aside0.mk hlt
                    clear hX1 hlt hd HST hin hdd hlen hrow0
                    cases hmd : m' d with
                    | some y =>
                      rw [stepIn_some hmd] at hst
                      rw [hmd] at hval
                      have hval : wr.drew.cell? ⟨gr, d.f0.toNat, none⟩ = some (.int .i64 y) := hval
                      have hy : decide (y < 0) = false := decide_eq_false (by have := HPOS.out d y hmd; omega)
                      have HST := Aside0.mk hst
                      clear hst hmd
                      go_wp2
                      refine start_ (n := 16) (S := fun w' => w'.cell? (ad13.add (x.toNat * 2)) = some (.int .i64 d.f0) ∧ w'.cell? ⟨(ad13.add (x.toNat * 2)).block, (ad13.add (x.toNat * 2)).off + 1, none⟩ = some (.int .i64 d.f1) ∧ w'.cell? ⟨go, d.f1.toNat, none⟩ = some (.slice (some ⟨gr, 0, none⟩) N0 cr) ∧ w'.cell? ⟨gr, d.f0.toNat, none⟩ = some (.int .i64 y)) (ds := []) #[false, false, false, false, false, false, false, false, false, false, false, false, false, false, false, false] (by kernel_rfl) rfl rfl ⟨hy0, hy1, hrow, hval⟩ (fun hHeld => ?_)
                      refine pure_ (i := 0) (N := (some 71)) (v := ?_) (a' := ?_) #[true, false, false, false, false, false, false, false, false, false, false, false, false, false, false, false] rfl rfl (by kernel_rfl) (fun _ _ _ h => h) (Or.inl ⟨by rfl, ?_⟩) ?_ ?_
                      rotate_left
                      · intro w'
                        go_simp
                        with_reducible rfl
                      rotate_left
                      · simp only [Act.put, List.setIfInBounds_toArray, List.set_cons_zero, List.set_cons_succ, i64_w, i32_w]
                        rfl
                      refine pure_ (i := 1) (N := (some 72)) (v := ?_) (a' := ?_) #[true, true, false, false, false, false, false, false, false, false, false, false, false, false, false, false] rfl rfl (by kernel_rfl) (fun _ _ _ h => h) (Or.inl ⟨by rfl, ?_⟩) ?_ ?_
                      rotate_left
                      · intro w'
                        go_simp
                        with_reducible rfl
                      rotate_left
                      · simp only [Act.put, List.setIfInBounds_toArray, List.set_cons_zero, List.set_cons_succ, i64_w, i32_w]
                        rfl
                      refine pure_ (i := 2) (N := (some 73)) (v := ?_) (a' := ?_) #[true, true, true, false, false, false, false, false, false, false, false, false, false, false, false, false] rfl rfl (by kernel_rfl) (fun _ _ _ h => h) (Or.inl ⟨by rfl, ?_⟩) ?_ ?_
                      rotate_left
                      · intro w'
                        go_simp
                        with_reducible rfl
                      rotate_left
                      · simp only [Act.put, List.setIfInBounds_toArray, List.set_cons_zero, List.set_cons_succ, i64_w, i32_w]
                        rfl
                      refine pure_ (i := 3) (N := (some 74)) (v := ?_) (a' := ?_) #[true, true, true, true, false, false, false, false, false, false, false, false, false, false, false, false] rfl rfl (by kernel_rfl) (fun _ _ _ h => h) (Or.inl ⟨by rfl, ?_⟩) ?_ ?_
                      rotate_left
                      · intro w'
                        go_simp
                        with_reducible rfl
                      rotate_left
                      · simp only [Act.put, List.setIfInBounds_toArray, List.set_cons_zero, List.set_cons_succ, i64_w, i32_w]
                        rfl
                      refine pure_ (i := 4) (N := (some 75)) (v := ?_) (a' := ?_) #[true, true, true, true, true, false, false, false, false, false, false, false, false, false, false, false] rfl rfl (by kernel_rfl) (fun _ _ _ h => h) (Or.inl ⟨by rfl, ?_⟩) ?_ ?_
                      rotate_left
                      · intro w'
                        go_simp
                        with_reducible rfl
                      rotate_left
                      · simp only [Act.put, List.setIfInBounds_toArray, List.set_cons_zero, List.set_cons_succ, i64_w, i32_w]
                        rfl
                      refine take_ (i := 5) (N := (some 76)) (v := ?_) (a' := ?_) #[true, true, true, true, true, true, false, false, false, false, false, false, false, false, false, false] rfl rfl (by kernel_rfl) (fun _ _ _ h => h) (Or.inl ⟨by rfl, ?_⟩) hHeld ?_ ?_
                      rotate_left
                      · intro w' s0
                        obtain ⟨s1, s2, s3, s4⟩ := s0
                        go_simp
                        with_reducible rfl
                      rotate_left
                      · simp only [Act.put, List.setIfInBounds_toArray, List.set_cons_zero, List.set_cons_succ, i64_w, i32_w]
                        rfl
                      refine pure_ (i := 6) (N := (some 77)) (v := ?_) (a' := ?_) #[true, true, true, true, true, true, true, false, false, false, false, false, false, false, false, false] rfl rfl (by kernel_rfl) (fun _ _ _ h => h) (Or.inl ⟨by rfl, ?_⟩) ?_ ?_
                      rotate_left
                      · intro w'
                        go_simp
                        with_reducible rfl
                      rotate_left
                      · simp only [Act.put, List.setIfInBounds_toArray, List.set_cons_zero, List.set_cons_succ, i64_w, i32_w]
                        rfl
                      refine take_ (i := 7) (N := (some 78)) (v := ?_) (a' := ?_) #[true, true, true, true, true, true, true, true, false, false, false, false, false, false, false, false] rfl rfl (by kernel_rfl) (fun _ _ _ h => h) (Or.inl ⟨by rfl, ?_⟩) hHeld ?_ ?_
                      rotate_left
                      · intro w' s0
                        obtain ⟨s1, s2, s3, s4⟩ := s0
                        go_simp
                        with_reducible rfl
                      rotate_left
                      · simp only [Act.put, List.setIfInBounds_toArray, List.set_cons_zero, List.set_cons_succ, i64_w, i32_w]
                        rfl
                      refine pure_ (i := 8) (N := (some 79)) (v := ?_) (a' := ?_) #[true, true, true, true, true, true, true, true, true, false, false, false, false, false, false, false] rfl rfl (by kernel_rfl) (fun _ _ _ h => h) (Or.inl ⟨by rfl, ?_⟩) ?_ ?_
                      rotate_left
                      · intro w'
                        go_simp
                        with_reducible rfl
                      rotate_left
                      · simp only [Act.put, List.setIfInBounds_toArray, List.set_cons_zero, List.set_cons_succ, i64_w, i32_w]
                        rfl
                      refine pure_ (i := 9) (N := (some 80)) (v := ?_) (a' := ?_) #[true, true, true, true, true, true, true, true, true, true, false, false, false, false, false, false] rfl rfl (by kernel_rfl) (fun _ _ _ h => h) (Or.inl ⟨by rfl, ?_⟩) ?_ ?_
                      rotate_left
                      · intro w'
                        go_simp
                        with_reducible rfl
                      rotate_left
                      · simp only [Act.put, List.setIfInBounds_toArray, List.set_cons_zero, List.set_cons_succ, i64_w, i32_w]
                        rfl
                      refine pure_ (i := 10) (N := (some 81)) (v := ?_) (a' := ?_) #[true, true, true, true, true, true, true, true, true, true, true, false, false, false, false, false] rfl rfl (by kernel_rfl) (fun _ _ _ h => h) (Or.inl ⟨by rfl, ?_⟩) ?_ ?_
                      rotate_left
                      · intro w'
                        go_simp
                        with_reducible rfl
                      rotate_left
                      · simp only [Act.put, List.setIfInBounds_toArray, List.set_cons_zero, List.set_cons_succ, i64_w, i32_w]
                        rfl
                      refine pure_ (i := 11) (N := (some 82)) (v := ?_) (a' := ?_) #[true, true, true, true, true, true, true, true, true, true, true, true, false, false, false, false] rfl rfl (by kernel_rfl) (fun _ _ _ h => h) (Or.inl ⟨by rfl, ?_⟩) ?_ ?_
                      rotate_left
                      · intro w'
                        go_simp
                        with_reducible rfl
                      rotate_left
                      · simp only [Act.put, List.setIfInBounds_toArray, List.set_cons_zero, List.set_cons_succ, i64_w, i32_w]
                        rfl
                      refine take_ (i := 12) (N := (some 83)) (v := ?_) (a' := ?_) #[true, true, true, true, true, true, true, true, true, true, true, true, true, false, false, false] rfl rfl (by kernel_rfl) (fun _ _ _ h => h) (Or.inl ⟨by rfl, ?_⟩) hHeld ?_ ?_
                      rotate_left
                      · intro w' s0
                        obtain ⟨s1, s2, s3, s4⟩ := s0
                        go_simp
                        with_reducible rfl
                      rotate_left
                      · simp only [Act.put, List.setIfInBounds_toArray, List.set_cons_zero, List.set_cons_succ, i64_w, i32_w]
                        rfl
                      refine pure_ (i := 13) (N := (some 84)) (v := ?_) (a' := ?_) #[true, true, true, true, true, true, true, true, true, true, true, true, true, true, false, false] rfl rfl (by kernel_rfl) (fun _ _ _ h => h) (Or.inl ⟨by rfl, ?_⟩) ?_ ?_
                      rotate_left
                      · intro w'
                        go_simp
                        with_reducible rfl
                      rotate_left
                      · simp only [Act.put, List.setIfInBounds_toArray, List.set_cons_zero, List.set_cons_succ, i64_w, i32_w]
                        rfl
                      refine take_ (i := 14) (N := (some 85)) (v := ?_) (a' := ?_) #[true, true, true, true, true, true, true, true, true, true, true, true, true, true, true, false] rfl rfl (by kernel_rfl) (fun _ _ _ h => h) (Or.inl ⟨by rfl, ?_⟩) hHeld ?_ ?_
                      rotate_left
                      · intro w' s0
                        obtain ⟨s1, s2, s3, s4⟩ := s0
                        go_simp
                        with_reducible rfl
                      rotate_left
                      · simp only [Act.put, List.setIfInBounds_toArray, List.set_cons_zero, List.set_cons_succ, i64_w, i32_w]
                        rfl
                      refine pure_ (i := 15) (N := (some 86)) (v := ?_) (a' := ?_) #[true, true, true, true, true, true, true, true, true, true, true, true, true, true, true, true] rfl rfl (by kernel_rfl) (fun _ _ _ h => h) (Or.inl ⟨by rfl, ?_⟩) ?_ ?_
                      rotate_left
                      · intro w'
                        go_simp
                        with_reducible rfl
                      rotate_left
                      · simp only [Act.put, List.setIfInBounds_toArray, List.set_cons_zero, List.set_cons_succ, i64_w, i32_w]
                        rfl
                      refine done_ (by kernel_rfl) ?_
                      go_wp2
                      go_roundw
                      case measure => simp [intOf]; have := HX1.out; have := HX.out; omega
                      case rel => exact ⟨x + 1, m', q', (by rw [hwx]), HX1, HST, HC, ⟨by have := HQL.out; omega⟩, HGr, HPOS, HNE, HF12d, HQd⟩
                    | none =>
                      rw [stepIn_none hmd] at hst
                      rw [hmd] at hval
                      have hval : wr.drew.cell? ⟨gr, d.f0.toNat, none⟩ = some (.int .i64 (-1)) := hval
                      have HST := Aside0.mk hst
                      have HM0 := Aside0.mk hmd
                      clear hst hmd
                      go_wp2
                      refine start_ (n := 16) (S := fun w' => w'.cell? (ad13.add (x.toNat * 2)) = some (.int .i64 d.f0) ∧ w'.cell? ⟨(ad13.add (x.toNat * 2)).block, (ad13.add (x.toNat * 2)).off + 1, none⟩ = some (.int .i64 d.f1) ∧ w'.cell? ⟨go, d.f1.toNat, none⟩ = some (.slice (some ⟨gr, 0, none⟩) N0 cr) ∧ w'.cell? ⟨gr, d.f0.toNat, none⟩ = some (.int .i64 (-1))) (ds := []) #[false, false, false, false, false, false, false, false, false, false, false, false, false, false, false, false] (by kernel_rfl) rfl rfl ⟨hy0, hy1, hrow, hval⟩ (fun hHeld => ?_)
                      refine pure_ (i := 0) (N := (some 71)) (v := ?_) (a' := ?_) #[true, false, false, false, false, false, false, false, false, false, false, false, false, false, false, false] rfl rfl (by kernel_rfl) (fun _ _ _ h => h) (Or.inl ⟨by rfl, ?_⟩) ?_ ?_
                      rotate_left
                      · intro w'
                        go_simp
                        with_reducible rfl
                      rotate_left
                      · simp only [Act.put, List.setIfInBounds_toArray, List.set_cons_zero, List.set_cons_succ, i64_w, i32_w]
                        rfl
                      refine pure_ (i := 1) (N := (some 72)) (v := ?_) (a' := ?_) #[true, true, false, false, false, false, false, false, false, false, false, false, false, false, false, false] rfl rfl (by kernel_rfl) (fun _ _ _ h => h) (Or.inl ⟨by rfl, ?_⟩) ?_ ?_
                      rotate_left
                      · intro w'
                        go_simp
                        with_reducible rfl
                      rotate_left
                      · simp only [Act.put, List.setIfInBounds_toArray, List.set_cons_zero, List.set_cons_succ, i64_w, i32_w]
                        rfl
                      refine pure_ (i := 2) (N := (some 73)) (v := ?_) (a' := ?_) #[true, true, true, false, false, false, false, false, false, false, false, false, false, false, false, false] rfl rfl (by kernel_rfl) (fun _ _ _ h => h) (Or.inl ⟨by rfl, ?_⟩) ?_ ?_
                      rotate_left
                      · intro w'
                        go_simp
                        with_reducible rfl
                      rotate_left
                      · simp only [Act.put, List.setIfInBounds_toArray, List.set_cons_zero, List.set_cons_succ, i64_w, i32_w]
                        rfl
                      refine pure_ (i := 3) (N := (some 74)) (v := ?_) (a' := ?_) #[true, true, true, true, false, false, false, false, false, false, false, false, false, false, false, false] rfl rfl (by kernel_rfl) (fun _ _ _ h => h) (Or.inl ⟨by rfl, ?_⟩) ?_ ?_
                      rotate_left
                      · intro w'
                        go_simp
                        with_reducible rfl
                      rotate_left
                      · simp only [Act.put, List.setIfInBounds_toArray, List.set_cons_zero, List.set_cons_succ, i64_w, i32_w]
                        rfl
                      refine pure_ (i := 4) (N := (some 75)) (v := ?_) (a' := ?_) #[true, true, true, true, true, false, false, false, false, false, false, false, false, false, false, false] rfl rfl (by kernel_rfl) (fun _ _ _ h => h) (Or.inl ⟨by rfl, ?_⟩) ?_ ?_
                      rotate_left
                      · intro w'
                        go_simp
                        with_reducible rfl
                      rotate_left
                      · simp only [Act.put, List.setIfInBounds_toArray, List.set_cons_zero, List.set_cons_succ, i64_w, i32_w]
                        rfl
                      refine take_ (i := 5) (N := (some 76)) (v := ?_) (a' := ?_) #[true, true, true, true, true, true, false, false, false, false, false, false, false, false, false, false] rfl rfl (by kernel_rfl) (fun _ _ _ h => h) (Or.inl ⟨by rfl, ?_⟩) hHeld ?_ ?_
                      rotate_left
                      · intro w' s0
                        obtain ⟨s1, s2, s3, s4⟩ := s0
                        go_simp
                        with_reducible rfl
                      rotate_left
                      · simp only [Act.put, List.setIfInBounds_toArray, List.set_cons_zero, List.set_cons_succ, i64_w, i32_w]
                        rfl
                      refine pure_ (i := 6) (N := (some 77)) (v := ?_) (a' := ?_) #[true, true, true, true, true, true, true, false, false, false, false, false, false, false, false, false] rfl rfl (by kernel_rfl) (fun _ _ _ h => h) (Or.inl ⟨by rfl, ?_⟩) ?_ ?_
                      rotate_left
                      · intro w'
                        go_simp
                        with_reducible rfl
                      rotate_left
                      · simp only [Act.put, List.setIfInBounds_toArray, List.set_cons_zero, List.set_cons_succ, i64_w, i32_w]
                        rfl
                      refine take_ (i := 7) (N := (some 78)) (v := ?_) (a' := ?_) #[true, true, true, true, true, true, true, true, false, false, false, false, false, false, false, false] rfl rfl (by kernel_rfl) (fun _ _ _ h => h) (Or.inl ⟨by rfl, ?_⟩) hHeld ?_ ?_
                      rotate_left
                      · intro w' s0
                        obtain ⟨s1, s2, s3, s4⟩ := s0
                        go_simp
                        with_reducible rfl
                      rotate_left
                      · simp only [Act.put, List.setIfInBounds_toArray, List.set_cons_zero, List.set_cons_succ, i64_w, i32_w]
                        rfl
                      refine pure_ (i := 8) (N := (some 79)) (v := ?_) (a' := ?_) #[true, true, true, true, true, true, true, true, true, false, false, false, false, false, false, false] rfl rfl (by kernel_rfl) (fun _ _ _ h => h) (Or.inl ⟨by rfl, ?_⟩) ?_ ?_
                      rotate_left
                      · intro w'
                        go_simp
                        with_reducible rfl
                      rotate_left
                      · simp only [Act.put, List.setIfInBounds_toArray, List.set_cons_zero, List.set_cons_succ, i64_w, i32_w]
                        rfl
                      refine pure_ (i := 9) (N := (some 80)) (v := ?_) (a' := ?_) #[true, true, true, true, true, true, true, true, true, true, false, false, false, false, false, false] rfl rfl (by kernel_rfl) (fun _ _ _ h => h) (Or.inl ⟨by rfl, ?_⟩) ?_ ?_
                      rotate_left
                      · intro w'
                        go_simp
                        with_reducible rfl
                      rotate_left
                      · simp only [Act.put, List.setIfInBounds_toArray, List.set_cons_zero, List.set_cons_succ, i64_w, i32_w]
                        rfl
                      refine pure_ (i := 10) (N := (some 81)) (v := ?_) (a' := ?_) #[true, true, true, true, true, true, true, true, true, true, true, false, false, false, false, false] rfl rfl (by kernel_rfl) (fun _ _ _ h => h) (Or.inl ⟨by rfl, ?_⟩) ?_ ?_
                      rotate_left
                      · intro w'
                        go_simp
                        with_reducible rfl
                      rotate_left
                      · simp only [Act.put, List.setIfInBounds_toArray, List.set_cons_zero, List.set_cons_succ, i64_w, i32_w]
                        rfl
                      refine pure_ (i := 11) (N := (some 82)) (v := ?_) (a' := ?_) #[true, true, true, true, true, true, true, true, true, true, true, true, false, false, false, false] rfl rfl (by kernel_rfl) (fun _ _ _ h => h) (Or.inl ⟨by rfl, ?_⟩) ?_ ?_
                      rotate_left
                      · intro w'
                        go_simp
                        with_reducible rfl
                      rotate_left
                      · simp only [Act.put, List.setIfInBounds_toArray, List.set_cons_zero, List.set_cons_succ, i64_w, i32_w]
                        rfl
                      refine take_ (i := 12) (N := (some 83)) (v := ?_) (a' := ?_) #[true, true, true, true, true, true, true, true, true, true, true, true, true, false, false, false] rfl rfl (by kernel_rfl) (fun _ _ _ h => h) (Or.inl ⟨by rfl, ?_⟩) hHeld ?_ ?_
                      rotate_left
                      · intro w' s0
                        obtain ⟨s1, s2, s3, s4⟩ := s0
                        go_simp
                        with_reducible rfl
                      rotate_left
                      · simp only [Act.put, List.setIfInBounds_toArray, List.set_cons_zero, List.set_cons_succ, i64_w, i32_w]
                        rfl
                      refine pure_ (i := 13) (N := (some 84)) (v := ?_) (a' := ?_) #[true, true, true, true, true, true, true, true, true, true, true, true, true, true, false, false] rfl rfl (by kernel_rfl) (fun _ _ _ h => h) (Or.inl ⟨by rfl, ?_⟩) ?_ ?_
                      rotate_left
                      · intro w'
                        go_simp
                        with_reducible rfl
                      rotate_left
                      · simp only [Act.put, List.setIfInBounds_toArray, List.set_cons_zero, List.set_cons_succ, i64_w, i32_w]
                        rfl
                      refine take_ (i := 14) (N := (some 85)) (v := ?_) (a' := ?_) #[true, true, true, true, true, true, true, true, true, true, true, true, true, true, true, false] rfl rfl (by kernel_rfl) (fun _ _ _ h => h) (Or.inl ⟨by rfl, ?_⟩) hHeld ?_ ?_
                      rotate_left
                      · intro w' s0
                        obtain ⟨s1, s2, s3, s4⟩ := s0
                        go_simp
                        with_reducible rfl
                      rotate_left
                      · simp only [Act.put, List.setIfInBounds_toArray, List.set_cons_zero, List.set_cons_succ, i64_w, i32_w]
                        rfl
                      refine pure_ (i := 15) (N := (some 86)) (v := ?_) (a' := ?_) #[true, true, true, true, true, true, true, true, true, true, true, true, true, true, true, true] rfl rfl (by kernel_rfl) (fun _ _ _ h => h) (Or.inl ⟨by rfl, ?_⟩) ?_ ?_
                      rotate_left
                      · intro w'
                        go_simp
                        with_reducible rfl
                      rotate_left
                      · simp only [Act.put, List.setIfInBounds_toArray, List.set_cons_zero, List.set_cons_succ, i64_w, i32_w]
                        rfl
                      refine done_ (by kernel_rfl) ?_
                      clear hy0 hy1 hrow hval hHeld
                      generalize wr.drew = wd at HQd HF12d ⊢
                      have HQ2 := Aside0.mk (HQd.out.below (below_drew1 (Below.refl _ _)))
                      have HF2 := Aside0.mk (blk_below HF12d.out (below_drew1 (Below.refl _ _)))
                      obtain ⟨ad14, ea, hy0, hy1⟩ := at_T48 (Kd.R_reads' HQ2.out.nx).2.2 x HX.out.1 HLT.out
                      cases ea
                      rw [HRD.out] at hy0 hy1
                      have hin := HN.out.inn d HGd.out
                      have hinc := HN.out.inn c HGc.out
                      have hdd := HD.out
                      have hlen := tabOf_len (fun c => (m' c).getD (-1)) a0_0.toNat a0_1.toNat
                      have hrow0 := tab_row (fun c => (m' c).getD (-1)) a0_0.toNat a0_1.toNat d.f1 hin.2.1 (by omega)
                      have hrowc0 := tab_row (fun c => (m' c).getD (-1)) a0_0.toNat a0_1.toNat c.f1 hinc.2.1 (by omega)
                      obtain ⟨grc, crc, hrowc, hvalc, _, _, _, _⟩ := tab_cell HQ2.out.tb c.f1 c.f0 hinc.2.1 (by omega) hinc.1.1 (by rw [hrowc0, rowOf_len]; omega)
                      rw [hrowc0, row_rd _ _ _ _ hinc.1.1 (by omega)] at hvalc
                      rw [hrowc0, rowOf_len, hN0] at hrowc
                      have hvalc : wd.drew.cell? ⟨grc, c.f0.toNat, none⟩ = some (.int .i64 v) := by have e := hvalc; rw [HC.out] at e; exact e
                      obtain ⟨gr2, cr2, hrow, hval, hzf, hbr, ⟨cells, hcr⟩, hset⟩ := tab_cell HQ2.out.tb d.f1 d.f0 hin.2.1 (by omega) hin.1.1 (by rw [hrow0, rowOf_len]; omega)
                      rw [hrow0] at hset
                      rw [hrow0, rowOf_len, hN0] at hrow
                      have hset0 := hset (v + 1)
                      rw [tab_set m' a0_0.toNat a0_1.toNat d (v + 1) hin.1.1 (by omega) hin.2.1 (by omega)] at hset0
                      have HQ3' := Aside0.mk (HQ2.out.store hcr hbr hset0)
                      have HF3' := Aside0.mk (blk_far HF2.out (p := ⟨gr2, d.f0.toNat, none⟩) (fun e => by have e : g12 = gr2 := e; have h := HF2.out; rw [e, hcr] at h; injection h with h; injection h with _ h; exact absurd h (by decide)) (.int .i64 (v + 1)))
                      have h120 : wd.drew.cell? ⟨g12, 0, none⟩ = some (.int .i64 c.f0) := (blk_cell HF2.out 0).trans rfl
                      have h121 : wd.drew.cell? ⟨g12, 1, none⟩ = some (.int .i64 c.f1) := (blk_cell HF2.out 1).trans rfl
                      have u0 := eq_true hinc.2.1
                      have u1 : (c.f1 < (N1 : Int)) = True := eq_true (by have := HNN1.out; omega)
                      have u2 := eq_true hinc.1.1
                      have u3 : (c.f0 < (N0 : Int)) = True := eq_true (by omega)
                      have hwv : wrap64 (v + 1) = v + 1 := wrap64_id (by have := HVv.out; omega) (by have := HVv.out; omega)
                      clear hin hinc hdd hlen hrow0 hrowc0 hset hset0 hcr hbr
                      go_wp2
                      refine start_ (n := 25) (S := fun w' => (w'.cell? (ad13.add (x.toNat * 2)) = some (.int .i64 d.f0) ∧ w'.cell? ⟨(ad13.add (x.toNat * 2)).block, (ad13.add (x.toNat * 2)).off + 1, none⟩ = some (.int .i64 d.f1)) ∧ w'.cell? ⟨go, d.f1.toNat, none⟩ = some (.slice (some ⟨gr2, 0, none⟩) N0 cr2) ∧ w'.cell? ⟨g12, 0, none⟩ = some (.int .i64 c.f0) ∧ w'.cell? ⟨g12, 1, none⟩ = some (.int .i64 c.f1) ∧ w'.cell? ⟨go, c.f1.toNat, none⟩ = some (.slice (some ⟨grc, 0, none⟩) N0 crc) ∧ w'.cell? ⟨grc, c.f0.toNat, none⟩ = some (.int .i64 v)) (ds := [24]) #[false, false, false, false, false, false, false, false, false, false, false, false, false, false, false, false, false, false, false, false, false, false, false, false, false] (by kernel_rfl) rfl rfl ⟨⟨hy0, hy1⟩, hrow, h120, h121, hrowc, hvalc⟩ (fun hHeld => ?_)
                      refine pure_ (i := 0) (N := (some 87)) (v := ?_) (a' := ?_) #[true, false, false, false, false, false, false, false, false, false, false, false, false, false, false, false, false, false, false, false, false, false, false, false, false] rfl rfl (by kernel_rfl) (fun _ _ _ h => h) (Or.inl ⟨by rfl, ?_⟩) ?_ ?_
                      rotate_left
                      · intro w'
                        go_simp
                        with_reducible rfl
                      rotate_left
                      · simp only [Act.put, List.setIfInBounds_toArray, List.set_cons_zero, List.set_cons_succ, i64_w, i32_w]
                        rfl
                      refine pure_ (i := 1) (N := (some 88)) (v := ?_) (a' := ?_) #[true, true, false, false, false, false, false, false, false, false, false, false, false, false, false, false, false, false, false, false, false, false, false, false, false] rfl rfl (by kernel_rfl) (fun _ _ _ h => h) (Or.inl ⟨by rfl, ?_⟩) ?_ ?_
                      rotate_left
                      · intro w'
                        go_simp
                        with_reducible rfl
                      rotate_left
                      · simp only [Act.put, List.setIfInBounds_toArray, List.set_cons_zero, List.set_cons_succ, i64_w, i32_w]
                        rfl
                      refine pure_ (i := 2) (N := (some 89)) (v := ?_) (a' := ?_) #[true, true, true, false, false, false, false, false, false, false, false, false, false, false, false, false, false, false, false, false, false, false, false, false, false] rfl rfl (by kernel_rfl) (fun _ _ _ h => h) (Or.inl ⟨by rfl, ?_⟩) ?_ ?_
                      rotate_left
                      · intro w'
                        go_simp
                        with_reducible rfl
                      rotate_left
                      · simp only [Act.put, List.setIfInBounds_toArray, List.set_cons_zero, List.set_cons_succ, i64_w, i32_w]
                        rfl
                      refine pure_ (i := 3) (N := (some 90)) (v := ?_) (a' := ?_) #[true, true, true, true, false, false, false, false, false, false, false, false, false, false, false, false, false, false, false, false, false, false, false, false, false] rfl rfl (by kernel_rfl) (fun _ _ _ h => h) (Or.inl ⟨by rfl, ?_⟩) ?_ ?_
                      rotate_left
                      · intro w'
                        go_simp
                        with_reducible rfl
                      rotate_left
                      · simp only [Act.put, List.setIfInBounds_toArray, List.set_cons_zero, List.set_cons_succ, i64_w, i32_w]
                        rfl
                      refine pure_ (i := 4) (N := (some 91)) (v := ?_) (a' := ?_) #[true, true, true, true, true, false, false, false, false, false, false, false, false, false, false, false, false, false, false, false, false, false, false, false, false] rfl rfl (by kernel_rfl) (fun _ _ _ h => h) (Or.inl ⟨by rfl, ?_⟩) ?_ ?_
                      rotate_left
                      · intro w'
                        go_simp
                        with_reducible rfl
                      rotate_left
                      · simp only [Act.put, List.setIfInBounds_toArray, List.set_cons_zero, List.set_cons_succ, i64_w, i32_w]
                        rfl
                      refine take_ (i := 5) (N := (some 92)) (v := ?_) (a' := ?_) #[true, true, true, true, true, true, false, false, false, false, false, false, false, false, false, false, false, false, false, false, false, false, false, false, false] rfl rfl (by kernel_rfl) (fun _ _ _ h => h) (Or.inl ⟨by rfl, ?_⟩) hHeld ?_ ?_
                      rotate_left
                      · intro w' s0
                        obtain ⟨⟨s1, s2⟩, s3, s4, s5, s6, s7⟩ := s0
                        go_simp
                        with_reducible rfl
                      rotate_left
                      · simp only [Act.put, List.setIfInBounds_toArray, List.set_cons_zero, List.set_cons_succ, i64_w, i32_w]
                        rfl
                      refine pure_ (i := 6) (N := (some 93)) (v := ?_) (a' := ?_) #[true, true, true, true, true, true, true, false, false, false, false, false, false, false, false, false, false, false, false, false, false, false, false, false, false] rfl rfl (by kernel_rfl) (fun _ _ _ h => h) (Or.inl ⟨by rfl, ?_⟩) ?_ ?_
                      rotate_left
                      · intro w'
                        go_simp
                        with_reducible rfl
                      rotate_left
                      · simp only [Act.put, List.setIfInBounds_toArray, List.set_cons_zero, List.set_cons_succ, i64_w, i32_w]
                        rfl
                      refine take_ (i := 7) (N := (some 94)) (v := ?_) (a' := ?_) #[true, true, true, true, true, true, true, true, false, false, false, false, false, false, false, false, false, false, false, false, false, false, false, false, false] rfl rfl (by kernel_rfl) (fun _ _ _ h => h) (Or.inl ⟨by rfl, ?_⟩) hHeld ?_ ?_
                      rotate_left
                      · intro w' s0
                        obtain ⟨⟨s1, s2⟩, s3, s4, s5, s6, s7⟩ := s0
                        go_simp
                        with_reducible rfl
                      rotate_left
                      · simp only [Act.put, List.setIfInBounds_toArray, List.set_cons_zero, List.set_cons_succ, i64_w, i32_w]
                        rfl
                      refine pure_ (i := 8) (N := (some 95)) (v := ?_) (a' := ?_) #[true, true, true, true, true, true, true, true, true, false, false, false, false, false, false, false, false, false, false, false, false, false, false, false, false] rfl rfl (by kernel_rfl) (fun _ _ _ h => h) (Or.inl ⟨by rfl, ?_⟩) ?_ ?_
                      rotate_left
                      · intro w'
                        go_simp
                        with_reducible rfl
                      rotate_left
                      · simp only [Act.put, List.setIfInBounds_toArray, List.set_cons_zero, List.set_cons_succ, i64_w, i32_w]
                        rfl
                      refine pure_ (i := 9) (N := (some 96)) (v := ?_) (a' := ?_) #[true, true, true, true, true, true, true, true, true, true, false, false, false, false, false, false, false, false, false, false, false, false, false, false, false] rfl rfl (by kernel_rfl) (fun _ _ _ h => h) (Or.inl ⟨by rfl, ?_⟩) ?_ ?_
                      rotate_left
                      · intro w'
                        go_simp
                        with_reducible rfl
                      rotate_left
                      · simp only [Act.put, List.setIfInBounds_toArray, List.set_cons_zero, List.set_cons_succ, i64_w, i32_w]
                        rfl
                      refine pure_ (i := 10) (N := (some 97)) (v := ?_) (a' := ?_) #[true, true, true, true, true, true, true, true, true, true, true, false, false, false, false, false, false, false, false, false, false, false, false, false, false] rfl rfl (by kernel_rfl) (fun _ _ _ h => h) (Or.inl ⟨by rfl, ?_⟩) ?_ ?_
                      rotate_left
                      · intro w'
                        go_simp
                        with_reducible rfl
                      rotate_left
                      · simp only [Act.put, List.setIfInBounds_toArray, List.set_cons_zero, List.set_cons_succ, i64_w, i32_w]
                        rfl
                      refine pure_ (i := 11) (N := (some 98)) (v := ?_) (a' := ?_) #[true, true, true, true, true, true, true, true, true, true, true, true, false, false, false, false, false, false, false, false, false, false, false, false, false] rfl rfl (by kernel_rfl) (fun _ _ _ h => h) (Or.inl ⟨by rfl, ?_⟩) ?_ ?_
                      rotate_left
                      · intro w'
                        go_simp
                        with_reducible rfl
                      rotate_left
                      · simp only [Act.put, List.setIfInBounds_toArray, List.set_cons_zero, List.set_cons_succ, i64_w, i32_w]
                        rfl
                      refine take_ (i := 12) (N := (some 99)) (v := ?_) (a' := ?_) #[true, true, true, true, true, true, true, true, true, true, true, true, true, false, false, false, false, false, false, false, false, false, false, false, false] rfl rfl (by kernel_rfl) (fun _ _ _ h => h) (Or.inl ⟨by rfl, ?_⟩) hHeld ?_ ?_
                      rotate_left
                      · intro w' s0
                        obtain ⟨⟨s1, s2⟩, s3, s4, s5, s6, s7⟩ := s0
                        go_simp
                        with_reducible rfl
                      rotate_left
                      · simp only [Act.put, List.setIfInBounds_toArray, List.set_cons_zero, List.set_cons_succ, i64_w, i32_w]
                        rfl
                      refine pure_ (i := 13) (N := (some 100)) (v := ?_) (a' := ?_) #[true, true, true, true, true, true, true, true, true, true, true, true, true, true, false, false, false, false, false, false, false, false, false, false, false] rfl rfl (by kernel_rfl) (fun _ _ _ h => h) (Or.inl ⟨by rfl, ?_⟩) ?_ ?_
                      rotate_left
                      · intro w'
                        go_simp
                        with_reducible rfl
                      rotate_left
                      · simp only [Act.put, List.setIfInBounds_toArray, List.set_cons_zero, List.set_cons_succ, i64_w, i32_w]
                        rfl
                      refine pure_ (i := 14) (N := (some 101)) (v := ?_) (a' := ?_) #[true, true, true, true, true, true, true, true, true, true, true, true, true, true, true, false, false, false, false, false, false, false, false, false, false] rfl rfl (by kernel_rfl) (fun _ _ _ h => h) (Or.inl ⟨by rfl, ?_⟩) ?_ ?_
                      rotate_left
                      · intro w'
                        go_simp
                        with_reducible rfl
                      rotate_left
                      · simp only [Act.put, List.setIfInBounds_toArray, List.set_cons_zero, List.set_cons_succ, i64_w, i32_w]
                        rfl
                      refine take_ (i := 15) (N := (some 102)) (v := ?_) (a' := ?_) #[true, true, true, true, true, true, true, true, true, true, true, true, true, true, true, true, false, false, false, false, false, false, false, false, false] rfl rfl (by kernel_rfl) (fun _ _ _ h => h) (Or.inl ⟨by rfl, ?_⟩) hHeld ?_ ?_
                      rotate_left
                      · intro w' s0
                        obtain ⟨⟨s1, s2⟩, s3, s4, s5, s6, s7⟩ := s0
                        go_simp
                        with_reducible rfl
                      rotate_left
                      · simp only [Act.put, List.setIfInBounds_toArray, List.set_cons_zero, List.set_cons_succ, i64_w, i32_w]
                        rfl
                      refine pure_ (i := 16) (N := (some 103)) (v := ?_) (a' := ?_) #[true, true, true, true, true, true, true, true, true, true, true, true, true, true, true, true, true, false, false, false, false, false, false, false, false] rfl rfl (by kernel_rfl) (fun _ _ _ h => h) (Or.inl ⟨by rfl, ?_⟩) ?_ ?_
                      rotate_left
                      · intro w'
                        go_simp
                        with_reducible rfl
                      rotate_left
                      · simp only [Act.put, List.setIfInBounds_toArray, List.set_cons_zero, List.set_cons_succ, i64_w, i32_w]
                        rfl
                      refine take_ (i := 17) (N := (some 104)) (v := ?_) (a' := ?_) #[true, true, true, true, true, true, true, true, true, true, true, true, true, true, true, true, true, true, false, false, false, false, false, false, false] rfl rfl (by kernel_rfl) (fun _ _ _ h => h) (Or.inl ⟨by rfl, ?_⟩) hHeld ?_ ?_
                      rotate_left
                      · intro w' s0
                        obtain ⟨⟨s1, s2⟩, s3, s4, s5, s6, s7⟩ := s0
                        go_simp
                        with_reducible rfl
                      rotate_left
                      · simp only [Act.put, List.setIfInBounds_toArray, List.set_cons_zero, List.set_cons_succ, i64_w, i32_w]
                        rfl
                      refine pure_ (i := 18) (N := (some 105)) (v := ?_) (a' := ?_) #[true, true, true, true, true, true, true, true, true, true, true, true, true, true, true, true, true, true, true, false, false, false, false, false, false] rfl rfl (by kernel_rfl) (fun _ _ _ h => h) (Or.inl ⟨by rfl, ?_⟩) ?_ ?_
                      rotate_left
                      · intro w'
                        go_simp
                        with_reducible rfl
                      rotate_left
                      · simp only [Act.put, List.setIfInBounds_toArray, List.set_cons_zero, List.set_cons_succ, i64_w, i32_w]
                        rfl
                      refine take_ (i := 19) (N := (some 106)) (v := ?_) (a' := ?_) #[true, true, true, true, true, true, true, true, true, true, true, true, true, true, true, true, true, true, true, true, false, false, false, false, false] rfl rfl (by kernel_rfl) (fun _ _ _ h => h) (Or.inl ⟨by rfl, ?_⟩) hHeld ?_ ?_
                      rotate_left
                      · intro w' s0
                        obtain ⟨⟨s1, s2⟩, s3, s4, s5, s6, s7⟩ := s0
                        go_simp
                        with_reducible rfl
                      rotate_left
                      · simp only [Act.put, List.setIfInBounds_toArray, List.set_cons_zero, List.set_cons_succ, i64_w, i32_w]
                        rfl
                      refine pure_ (i := 20) (N := (some 107)) (v := ?_) (a' := ?_) #[true, true, true, true, true, true, true, true, true, true, true, true, true, true, true, true, true, true, true, true, true, false, false, false, false] rfl rfl (by kernel_rfl) (fun _ _ _ h => h) (Or.inl ⟨by rfl, ?_⟩) ?_ ?_
                      rotate_left
                      · intro w'
                        go_simp
                        with_reducible rfl
                      rotate_left
                      · simp only [Act.put, List.setIfInBounds_toArray, List.set_cons_zero, List.set_cons_succ, i64_w, i32_w]
                        rfl
                      refine take_ (i := 21) (N := (some 108)) (v := ?_) (a' := ?_) #[true, true, true, true, true, true, true, true, true, true, true, true, true, true, true, true, true, true, true, true, true, true, false, false, false] rfl rfl (by kernel_rfl) (fun _ _ _ h => h) (Or.inl ⟨by rfl, ?_⟩) hHeld ?_ ?_
                      rotate_left
                      · intro w' s0
                        obtain ⟨⟨s1, s2⟩, s3, s4, s5, s6, s7⟩ := s0
                        go_simp
                        with_reducible rfl
                      rotate_left
                      · simp only [Act.put, List.setIfInBounds_toArray, List.set_cons_zero, List.set_cons_succ, i64_w, i32_w]
                        rfl
                      refine pure_ (i := 22) (N := (some 109)) (v := ?_) (a' := ?_) #[true, true, true, true, true, true, true, true, true, true, true, true, true, true, true, true, true, true, true, true, true, true, true, false, false] rfl rfl (by kernel_rfl) (fun _ _ _ h => h) (Or.inl ⟨by rfl, ?_⟩) ?_ ?_
                      rotate_left
                      · intro w'
                        go_simp
                        with_reducible rfl
                      rotate_left
                      · simp only [Act.put, List.setIfInBounds_toArray, List.set_cons_zero, List.set_cons_succ, i64_w, i32_w]
                        rfl
                      refine pure_ (i := 23) (N := (some 110)) (v := ?_) (a' := ?_) #[true, true, true, true, true, true, true, true, true, true, true, true, true, true, true, true, true, true, true, true, true, true, true, true, false] rfl rfl (by kernel_rfl) (fun _ _ _ h => h) (Or.inl ⟨by rfl, ?_⟩) ?_ ?_
                      rotate_left
                      · intro w'
                        go_simp
                        with_reducible rfl
                      rotate_left
                      · simp only [Act.put, List.setIfInBounds_toArray, List.set_cons_zero, List.set_cons_succ, i64_w, i32_w]
                        rfl
                      refine last_ (i := 24) (N := none) #[true, true, true, true, true, true, true, true, true, true, true, true, true, true, true, true, true, true, true, true, true, true, true, true, true] rfl rfl (by kernel_rfl) (by decide) (fun K hK => ?_)
                      generalize wd.drew = we at HQ2 HF2 HQ3' HF3' hy0 hy1 hrow hrowc hval hvalc hzf h120 h121 hHeld ⊢
                      refine skip_ (w1 := we.setCell ⟨gr2, d.f0.toNat, none⟩ (.int .i64 (v + 1))) (by rfl) rfl ?hr24 ?_
                      case hr24 => first | (go_simp; done) | (go_simp; rfl)
                      refine hK.out _ _ ?_
                      clear hK K hy0 hy1 hrow hrowc hval hvalc hzf h120 h121 hHeld HQ2 HF2 HQd HF12d
                      generalize we.setCell ⟨gr2, d.f0.toNat, none⟩ (.int .i64 (v + 1)) = w25 at HQ3' HF3' ⊢
                      have HQ3 := HQ3'
                      have HF3 := HF3'
                      clear HQ3' HF3'
                      obtain ⟨A11, c11, e11⟩ := Kd.R_slice HQ3.out.qu
                      obtain ⟨N11, hN11⟩ : ∃ n, (pre ++ c :: q').length = n := ⟨_, rfl⟩
                      have HN11 : Aside0 (N11 ≤ 3000) := Aside0.mk (by rw [← hN11]; have := HQL.out; have := HVv.out; have := HK1.out; have := HX.out; simp; omega)
                      rw [hN11] at e11
                      subst e11
                      obtain ⟨ad15, ea, hy0, hy1⟩ := at_T48 (Kd.R_reads' HQ3.out.nx).2.2 x HX.out.1 HLT.out
                      cases ea
                      rw [HRD.out] at hy0 hy1
                      have HNL := Aside0.mk hN11
                      clear hN11
                      refine done_ (by kernel_rfl) ?_
                      go_wp2_with (first | (at_builtin; refine Kd.R_append k48 (W := w25) w.heap.size rfl (.tmp 111) (.tmp 116) 27 48 _ 16 rfl Try.underlying27 info48 rfl (by decide) (by decide) (.slice A11 N11 c11) (pre ++ c :: q') d [.int .i64 d.f0, .int .i64 d.f1] (fun _ => True) (fun _ => False) rfl rfl (k48_mkM _ _ _ d) (fun _ hk => hk.elim) (fun _ _ => trivial) HQ3.out.qu HQ3.out.bl HQ3.out.bl.size (by rw [HNL.out]; have := HN11.out; omega) ?_; intro v117 w117 hR hB hg hat; have HQ4 := Aside0.mk (HQ3.out.app hR hB hg hat); have HF4 := Aside0.mk ((hg.block g12 (blk_lt HF3.out) (fun e => HNE.out e)).trans HF3.out); have HNE4 : Aside0 (some g12 ≠ v117.ownBlock) := Aside0.mk (fresh_ne hat HNE.out (blk_lt HF3.out)); clear hR hB hg hat HQ3 HF3))
                      go_roundw
                      case measure => simp [intOf]; have := HX1.out; have := HX.out; omega
                      case rel => exact ⟨x + 1, _, _, (by rw [hwx]), HX1, HST, ⟨(upd_other _ _ (fun e => by have h1 := HC.out; have h2 := HM0.out; rw [e] at h1; rw [h1] at h2; cases h2)).trans HC.out⟩, ⟨by have := HQL.out; rw [List.length_append, List.length_singleton]; omega⟩, ⟨fun e he => by rcases List.mem_append.1 he with he | he; exact HGr.out e he; rw [List.mem_singleton] at he; subst he; exact HGd.out⟩, ⟨fun e y he => by
                        unfold upd at he
                        split at he
                        · injection he with he; have := HVv.out; omega
                        · exact HPOS.out e y he⟩, HNE4, HF4, ⟨by have e := HQ4.out; rw [List.append_assoc] at e; exact e⟩⟩
                  · have c0 : decide (x < ((nb c).length : Int)) = false := decide_eq_false hlt
                    have hst := HST.out
                    rw [List.drop_eq_nil_of_le (by have := HX.out; omega)] at hst
                    have HEND := Aside0.mk hst
                    have hwp : wrap64 (p + 1) = p + 1 := wrap64_id (by have := HP.out; omega) (by have := HP.out; have := HK1.out; omega)
                    clear hst HST hlt
                    go_wp2
                    go_roundg k1
                    case measure => have := HK1.out; omega
                    case rel => exact ⟨m', pre ++ [c], q', p + 1, (by rw [hwp]), ⟨by have := HP.out; rw [List.length_append, List.length_singleton]; omega⟩, ⟨by have e := HE.out; rw [← HEND.out] at e; exact e⟩, ⟨by have := HK1.out; rw [List.length_append, List.length_singleton]; omega⟩, HGr, HPOS, ⟨SQ.close HQ.out⟩⟩
              · rw [if_neg hg] at e; exact absurd e (by simp)
end Go.Proofs.Ytbpccdbkaiigcaa.G
