/- Texts of the proof of FnExactSplitColumns, joined in build order. -/
import Derived.Test.YtcgfedaoimhejaaMgFnExactSplitColumns1
import Derived.WalkSpells
import Derived.Maps.AppendAt
-- Written by wip/tools/gen.py out of the translation (the kit's printer, one namespace a seat). Lean checks it.
namespace Go.Proofs.Ytcgfedaoimhejaa.G
open Go.RowKit Go.Proofs.YtcgfedaoimhejaaW.PrintWords Go.Proofs.YtcgfedaoimhejaaW.PrintLast Go.Proofs.YtcgfedaoimhejaaW.PrintMore
attribute [local go_sem] max2_int min2_int max_two min_two max_three min_three max_four min_four   -- for this text's walks alone
set_option linter.unusedVariables false
set_option linter.unusedSimpArgs false

/-! ### spec_l12Split: function 56 -/
mutual
def spec_l12Split.j0 : Nat → List Int → Int → List Int → Int → Int → Bool → Option (List Int × Int)
 | 0, _, _, _, _, _, _ => none
 | k + 1, x0, x1, x2, x3, x10, x29 => if x29 = true then (some ((([] : List Int)), x3)) else (if (x2.length : Int) = (x0.length : Int) then (some (x2, x10)) else (spec_l12Split.l0 k x0 x1 x2 x3 (([] : List Int)) 0))
def spec_l12Split.l0 : Nat → List Int → Int → List Int → Int → List Int → Int → Option (List Int × Int)
 | 0, _, _, _, _, _, _ => none
 | k + 1, x0, x1, x2, x3, x11, x12 => if x12 < x1 then ((spec_l1Own.f x2).bind fun t436 => (if t436.length < 17592186044416 then ((spec_l12Split.f k x0 x1 (t436 ++ [x12]) x3).bind fun bt442 => (if x3 < 0 then (if bt442.2 ≥ 0 then (spec_l12Split.l0 k x0 x1 x2 bt442.2 bt442.1 (wrap64 (x12 + 1))) else (if bt442.2 < x3 then (spec_l12Split.l0 k x0 x1 x2 bt442.2 bt442.1 (wrap64 (x12 + 1))) else (spec_l12Split.l0 k x0 x1 x2 x3 x11 (wrap64 (x12 + 1))))) else (if bt442.2 < x3 then (spec_l12Split.l0 k x0 x1 x2 bt442.2 bt442.1 (wrap64 (x12 + 1))) else (spec_l12Split.l0 k x0 x1 x2 x3 x11 (wrap64 (x12 + 1)))))) else (none))) else (some (x11, x3))
def spec_l12Split.f : Nat → List Int → Int → List Int → Int → Option (List Int × Int)
 | 0, _, _, _, _ => none
 | k + 1, l0, a1, l2, a3 => (spec_l12Most.f k l0 l2 a1).bind fun t429 => (if t429 < 0 then (spec_l12Split.j0 k l0 a1 l2 a3 t429 true) else (if a3 ≥ 0 then (spec_l12Split.j0 k l0 a1 l2 a3 t429 (decide (t429 ≥ a3))) else (spec_l12Split.j0 k l0 a1 l2 a3 t429 false)))
end
set_option maxHeartbeats 8000000 in
set_option maxRecDepth 100000 in
theorem spec_l12Split.calls (k : Nat) : ∀ (A0 : Option Addr) (c0 : Nat) (l0 : List Int) (a1 : Int) (P2_ : Nat → Prop) (u9000_ : Value) (l2 : List Int) (a3 : Int) (r1 : List Int) (r2 : Int) (w0 w : World) (hB : Below w0.heap.size w0 w) (hr0 : ∀ W_, Kept w W_ (fun k_ => P2_ k_) → Kd.C (Kd.int .i64) W_ A0 l0.length l0) (hc0 : l0.length ≤ c0) (ho2 : Kd.R (Kd.int .i64) 3 w w0.heap.size P2_ u9000_ l2) (h : spec_l12Split.f k l0 a1 l2 a3 = some (r1, r2)),
  Calls Try.prog 56 #[.slice A0 l0.length c0, .int .i64 a1, u9000_, .int .i64 a3] w fun e w' => ∃ v0_ : Value, e = .returned (.tuple #[v0_, .int .i64 r2]) ∧ Kd.R (Kd.int .i64) 3 w' w0.heap.size (fun k_ => (P2_ k_ ∨ w.heap.size ≤ k_)) v0_ r1 ∧ Below w0.heap.size w0 w' ∧ Kept w w' (fun k_ => P2_ k_) := by
 induction k using Nat.strongRecOn with
 | _ k ih =>
 intro A0 c0 l0 a1 P2_ u9000_ l2 a3 r1 r2 w0 w hB hr0 hc0 ho2 h
 cases k with
 | zero => exact absurd h (by simp [spec_l12Split.f])
 | succ k =>
 simp only [spec_l12Split.f] at h
 have HR0 := Aside0.mk hr0
 have HC0 := Aside0.mk hc0
 clear hr0 hc0
 have HO2 := Aside0.mk (show Kd.R (Kd.int .i64) 3 w w0.heap.size (fun k_ => (P2_ k_ ∨ w.heap.size ≤ k_)) u9000_ l2 from Kd.R_mono ho2 (fun k_ hk => (.inl hk)))
 have HK := Aside0.mk (Kept.refl w (fun k_ => P2_ k_))
 have HW0 := Aside0.mk hB.size
 have HB := Aside0.mk hB
 clear hB
 have H : ((spec_l12Most.f k l0 l2 a1).bind fun t429 => (if t429 < 0 then (spec_l12Split.j0 k l0 a1 l2 a3 t429 true) else (if a3 ≥ 0 then (spec_l12Split.j0 k l0 a1 l2 a3 t429 (decide (t429 ≥ a3))) else (spec_l12Split.j0 k l0 a1 l2 a3 t429 false)))) = some (r1, r2) := h
 clear h
 replace H := Option.bind_eq_some_iff.mp H
 obtain ⟨t429, A50, H⟩ := H
 replace H : (if t429 < 0 then (spec_l12Split.j0 k l0 a1 l2 a3 t429 true) else (if a3 ≥ 0 then (spec_l12Split.j0 k l0 a1 l2 a3 t429 (decide (t429 ≥ a3))) else (spec_l12Split.j0 k l0 a1 l2 a3 t429 false))) = some (r1, r2) := H
 have A5 := Aside0.mk A50
 clear A50
 have HC6 := Aside0.mk H
 clear H
 obtain ⟨Ao7, co7, eo7⟩ := Kd.R_slice HO2.out
 subst eo7
 go_enter Try.func56, Try.ntmps56
 go_upto_region 2 with (first | ((with_reducible refine gate_callee (f := 77) rfl ?_); refine goesL_ (some 18) rfl rfl Try.func77 (by kernel_rfl) rfl #[.slice A0 l0.length c0, .slice Ao7 l2.length co7, .int .i64 a1] rfl (by (try simp only [List.map_toArray, List.map_cons, List.map_nil]); first | done | rfl | (simp only [List.length_drop, List.length_take]; rfl)) ?_; (with_reducible refine (spec_l12Most.calls k _ _ l0 _ _ l2 a1 t429 _ ?side1 ?side2 ?side3 ?side4 A5.out).mono ?_); (case side1 => exact Kd.C_kept_now HR0.out (by repeat (first | (with_reducible first | exact HK.out | apply Kept.alloc | apply Kept.drewN | apply Kept.drew) | exact HK.out))); (case side2 => exact HC0.out); (case side3 => repeat (first | exact (Kd.R_reads' HO2.out).2.2 | (with_reducible refine Kd.C_alloc ?_ _) | (with_reducible refine Kd.C_drewN ?_ _) | (with_reducible refine Kd.C_drew ?_))); (case side4 => exact (Kd.R_reads' HO2.out).2.1); rintro e w8 ⟨rfl, hb⟩; refine ⟨_, rfl, ?_⟩; have n0_ := Aside0.mk (Kd.R_below (by (with_reducible repeat (first | apply Kd.R_alloc | apply Kd.R_drewN | apply Kd.R_drew)); exact HO2.out) hb); have n1_ := Aside0.mk (Kept.below (S := (fun k_ => P2_ k_)) (by repeat (first | (with_reducible first | exact HK.out | apply Kept.alloc | apply Kept.drewN | apply Kept.drew) | exact HK.out)) hb); have n2_ := Aside0.mk (below_step (by repeat (first | (with_reducible first | exact HB.out | apply below_alloc | apply pw_below_drewN | apply below_drew1) | exact HB.out)) hb); clear HO2; clear HK; clear HB; have HO2 := n0_; have HK := n1_; have HB := n2_; clear n0_ n1_ n2_; (try clear hb); (try clear hb2); (try clear hk); (try clear hi)))
 (try simp only [Act.put, List.setIfInBounds_toArray, List.set_cons_zero, List.set_cons_succ])
 go_cut [29] (fun v29 wc => ∃ (kq : Nat) (x29_5 : Bool), v29 = .bool x29_5 ∧ Aside0 (spec_l12Split.j0 kq l0 a1 l2 a3 t429 x29_5 = some (r1, r2)) ∧ Aside0 (kq ≤ k) ∧ Aside0 (Kd.R (Kd.int .i64) 3 wc w0.heap.size (fun k_ => (P2_ k_ ∨ w.heap.size ≤ k_)) (.slice Ao7 l2.length co7) l2) ∧ Aside0 (Kept w wc (fun k_ => P2_ k_)) ∧ Aside0 (Below w0.heap.size w0 wc))
 case first =>
  have H := HC6.out
  clear HC6
  by_cases c9 : t429 < 0
  ·rw [if_pos c9] at H
   have c9b0 : decide (t429 < 0) = true := decide_eq_true c9
   clear c9
   (first | rw [c9b0] | (simp only [i64_w, i32_w]; rw [c9b0]) | skip)
   have H' := Aside0.mk H
   clear H
   go_wp2
   go_meet
   case rel => exact ⟨_, (true), (by first | rfl | (simp; done) | (simp [*]; done)), H', ⟨by first | omega | exact Nat.le_refl _⟩, ⟨by (with_reducible repeat (first | apply Kd.R_alloc | apply Kd.R_drewN | apply Kd.R_drew)); exact HO2.out⟩, ⟨by repeat (first | (with_reducible first | exact HK.out | apply Kept.alloc | apply Kept.drewN | apply Kept.drew) | exact HK.out)⟩, ⟨by repeat (first | (with_reducible first | exact HB.out | apply below_alloc | apply pw_below_drewN | apply below_drew1) | exact HB.out)⟩⟩
  ·rw [if_neg c9] at H
   have c9b0 : decide (t429 < 0) = false := decide_eq_false c9
   clear c9
   (first | rw [c9b0] | (simp only [i64_w, i32_w]; rw [c9b0]) | skip)
   by_cases c10 : a3 ≥ 0
   ·rw [if_pos c10] at H
    have c10b0 : decide (0 ≤ a3) = true := decide_eq_true c10
    clear c10
    have H' := Aside0.mk H
    clear H
    go_wp2
    go_meet
    case rel => exact ⟨_, (decide (t429 ≥ a3)), (by first | rfl | (simp; done) | (simp [*]; done)), H', ⟨by first | omega | exact Nat.le_refl _⟩, ⟨by (with_reducible repeat (first | apply Kd.R_alloc | apply Kd.R_drewN | apply Kd.R_drew)); exact HO2.out⟩, ⟨by repeat (first | (with_reducible first | exact HK.out | apply Kept.alloc | apply Kept.drewN | apply Kept.drew) | exact HK.out)⟩, ⟨by repeat (first | (with_reducible first | exact HB.out | apply below_alloc | apply pw_below_drewN | apply below_drew1) | exact HB.out)⟩⟩
   ·rw [if_neg c10] at H
    have c10b0 : decide (0 ≤ a3) = false := decide_eq_false c10
    clear c10
    have H' := Aside0.mk H
    clear H
    go_wp2
    go_meet
    case rel => exact ⟨_, (false), (by first | rfl | (simp; done) | (simp [*]; done)), H', ⟨by first | omega | exact Nat.le_refl _⟩, ⟨by (with_reducible repeat (first | apply Kd.R_alloc | apply Kd.R_drewN | apply Kd.R_drew)); exact HO2.out⟩, ⟨by repeat (first | (with_reducible first | exact HK.out | apply Kept.alloc | apply Kept.drewN | apply Kept.drew) | exact HK.out)⟩, ⟨by repeat (first | (with_reducible first | exact HB.out | apply below_alloc | apply pw_below_drewN | apply below_drew1) | exact HB.out)⟩⟩
 case rest =>
  clear HC6
  try clear c1
  try clear p2
  try clear c5
  try clear c7
  try clear c9
  try clear c9b0
  try clear c10
  try clear c10b0
  obtain ⟨kq, x29_5, rfl, HA, HJ5, HO_2, HK, HB⟩ := hcut
  cases kq with
  | zero => exact absurd HA.out (by simp [spec_l12Split.j0])
  | succ kj5 =>
   have H := HA.out
   clear HA
   simp only [spec_l12Split.j0] at H
   by_cases c11 : x29_5 = true
   ·subst c11
    have H1 : (some ((([] : List Int)), a3)) = some (r1, r2) := by rw [if_pos rfl] at H; exact H
    clear H
    have H := H1
    clear H1
    obtain ⟨y430, hy430⟩ : ∃ y_ : List Int, y_ = (([] : List Int)) := ⟨_, rfl⟩
    replace H : (some (y430, a3)) = some (r1, r2) := by first | (rw [hy430]; with_reducible exact H) | (have H2_ := (Option.bind_some _ _).symm.trans H; rw [hy430]; with_reducible exact H2_) | (have H2_ := (Option.bind_some _ _).symm.trans H; with_reducible exact H2_) | with_reducible exact H | (rw [hy430]; exact H) | exact H
    have Ny430 := Aside0.mk hy430
    clear hy430
    simp only [Option.some.injEq, Prod.mk.injEq] at H
    obtain ⟨rfl, rfl⟩ := H
    go_wp2_with (first | ((with_reducible refine gate_dst (N := 30) rfl ?_); refine Kd.R_lit (Kd.int .i64) _ 3 ?hg (N := 30) ?hd (xs := ([] : List Int)) (inner := []) (ok := fun _ => True) (okp := fun _ => True) ?hr ?hp (fun _ hk => hk) trivial (Below.refl _ _) (Nat.le_refl _) (by simp) ?_; (case hd => rfl); (case hg => rfl); (case hr => first | (go_simp; done) | (go_simp; rfl)); (case hp => exact (Reps.none _ _)); intro v431 w12 ho13 hb hg_ hnew_; clear hg_ hnew_; (first | rw [← Ny430.out] at ho13 | (simp only [Int.reduceToNat] at ho13; rw [← Ny430.out] at ho13)); have n0_ := Aside0.mk (Kd.R_elder' (by (with_reducible repeat (first | apply Kd.R_alloc | apply Kd.R_drewN | apply Kd.R_drew)); exact HO_2.out) (Kd.R_base ho13) hb); have n1_ := Aside0.mk (Kd.R_lower (Kd.R_new' (Kd.R_newM (M := fun k_ => (P2_ k_ ∨ w.heap.size ≤ k_)) ho13 (by first | exact HK.out.1 | exact (show Kept w _ (fun k_ => P2_ k_) from by repeat (first | (with_reducible first | exact HK.out | apply Kept.alloc | apply Kept.drewN | apply Kept.drew) | exact HK.out)).1) (fun k_ h_ => .inr h_)) (Kd.R_lt (by (with_reducible repeat (first | apply Kd.R_alloc | apply Kd.R_drewN | apply Kd.R_drew)); exact HO_2.out))) (below_size (by repeat (first | (with_reducible first | exact HB.out | apply below_alloc | apply pw_below_drewN | apply below_drew1) | exact HB.out)))); have n2_ := Aside0.mk (Kept.below (S := (fun k_ => P2_ k_)) (by repeat (first | (with_reducible first | exact HK.out | apply Kept.alloc | apply Kept.drewN | apply Kept.drew) | exact HK.out)) hb); have n3_ := Aside0.mk (below_step (by repeat (first | (with_reducible first | exact HB.out | apply below_alloc | apply pw_below_drewN | apply below_drew1) | exact HB.out)) hb); clear HO_2; clear HK; clear HB; have HO_2 := n0_; have HO432 := n1_; have HK := n2_; have HB := n3_; clear n0_ n1_ n2_ n3_; clear hb ho13))
    go_ret2
    exact ⟨_, by first | rfl | (simp [errW_none, errW_some] <;> rfl) | (simp [*, errW_none, errW_some] <;> rfl), by (with_reducible repeat (first | apply Kd.R_alloc | apply Kd.R_drewN | apply Kd.R_drew)); exact Kd.R_mono HO432.out (fun _ hk => hk.1.1), by repeat (first | (with_reducible first | exact HB.out | apply below_alloc | apply pw_below_drewN | apply below_drew1) | exact HB.out), by repeat (first | (with_reducible first | exact HK.out | apply Kept.alloc | apply Kept.drewN | apply Kept.drew) | exact HK.out)⟩
   ·replace c11 := Bool.eq_false_iff.mpr c11
    subst c11
    have H1 : (if (l2.length : Int) = (l0.length : Int) then (some (l2, t429)) else (spec_l12Split.l0 kj5 l0 a1 l2 a3 (([] : List Int)) 0)) = some (r1, r2) := by rw [if_neg (show ¬ (false = true) by decide)] at H; exact H
    clear H
    have H := H1
    clear H1
    by_cases c14 : (l2.length : Int) = (l0.length : Int)
    ·rw [if_pos c14] at H
     have c14b0 : ((l2.length : Int) == (l0.length : Int)) = true := beq_iff_eq.mpr c14
     have c14b1 : ((l2.length : Int) != (l0.length : Int)) = false := bne_eq_false_iff_eq.mpr c14
     have c14b2 : (l2.length == l0.length) = true := by first | simpa using c14 | (simp at c14 ⊢; omega)
     clear c14
     simp only [Option.some.injEq, Prod.mk.injEq] at H
     obtain ⟨rfl, rfl⟩ := H
     go_wp2
     go_ret2
     exact ⟨_, by first | rfl | (simp [errW_none, errW_some] <;> rfl) | (simp [*, errW_none, errW_some] <;> rfl), by (with_reducible repeat (first | apply Kd.R_alloc | apply Kd.R_drewN | apply Kd.R_drew)); exact HO_2.out, by repeat (first | (with_reducible first | exact HB.out | apply below_alloc | apply pw_below_drewN | apply below_drew1) | exact HB.out), by repeat (first | (with_reducible first | exact HK.out | apply Kept.alloc | apply Kept.drewN | apply Kept.drew) | exact HK.out)⟩
    ·rw [if_neg c14] at H
     have c14b0 : ((l2.length : Int) == (l0.length : Int)) = false := beq_eq_false_iff_ne.mpr c14
     have c14b1 : ((l2.length : Int) != (l0.length : Int)) = true := bne_iff_ne.mpr c14
     have c14b2 : (l2.length == l0.length) = false := by first | simpa using c14 | (simp at c14 ⊢; omega)
     obtain ⟨y433, hy433⟩ : ∃ y_ : List Int, y_ = (([] : List Int)) := ⟨_, rfl⟩
     replace H : (spec_l12Split.l0 kj5 l0 a1 l2 a3 y433 0) = some (r1, r2) := by first | (rw [hy433]; with_reducible exact H) | (have H2_ := (Option.bind_some _ _).symm.trans H; rw [hy433]; with_reducible exact H2_) | (have H2_ := (Option.bind_some _ _).symm.trans H; with_reducible exact H2_) | with_reducible exact H | (rw [hy433]; exact H) | exact H
     have Ny433 := Aside0.mk hy433
     clear hy433
     have H' := Aside0.mk H
     clear H
     go_wp2_with (first | ((with_reducible refine gate_dst (N := 39) rfl ?_); refine Kd.R_lit (Kd.int .i64) _ 3 ?hg (N := 39) ?hd (xs := ([] : List Int)) (inner := []) (ok := fun _ => True) (okp := fun _ => True) ?hr ?hp (fun _ hk => hk) trivial (Below.refl _ _) (Nat.le_refl _) (by simp) ?_; (case hd => rfl); (case hg => rfl); (case hr => first | (go_simp; done) | (go_simp; rfl)); (case hp => exact (Reps.none _ _)); intro v434 w15 ho16 hb hg_ hnew_; clear hg_ hnew_; (first | rw [← Ny433.out] at ho16 | (simp only [Int.reduceToNat] at ho16; rw [← Ny433.out] at ho16)); have n0_ := Aside0.mk (Kd.R_elder' (by (with_reducible repeat (first | apply Kd.R_alloc | apply Kd.R_drewN | apply Kd.R_drew)); exact HO_2.out) (Kd.R_base ho16) hb); have n1_ := Aside0.mk (Kd.R_lower (Kd.R_new' (Kd.R_newM (M := fun k_ => (P2_ k_ ∨ w.heap.size ≤ k_)) ho16 (by first | exact HK.out.1 | exact (show Kept w _ (fun k_ => P2_ k_) from by repeat (first | (with_reducible first | exact HK.out | apply Kept.alloc | apply Kept.drewN | apply Kept.drew) | exact HK.out)).1) (fun k_ h_ => .inr h_)) (Kd.R_lt (by (with_reducible repeat (first | apply Kd.R_alloc | apply Kd.R_drewN | apply Kd.R_drew)); exact HO_2.out))) (below_size (by repeat (first | (with_reducible first | exact HB.out | apply below_alloc | apply pw_below_drewN | apply below_drew1) | exact HB.out)))); have n2_ := Aside0.mk (Kept.below (S := (fun k_ => P2_ k_)) (by repeat (first | (with_reducible first | exact HK.out | apply Kept.alloc | apply Kept.drewN | apply Kept.drew) | exact HK.out)) hb); have n3_ := Aside0.mk (below_step (by repeat (first | (with_reducible first | exact HB.out | apply below_alloc | apply pw_below_drewN | apply below_drew1) | exact HB.out)) hb); clear HO_2; clear HK; clear HB; have HO_2 := n0_; have HO435 := n1_; have HK := n2_; have HB := n3_; clear n0_ n1_ n2_ n3_; clear hb ho16))
     go_loopg [3, 11, 12] kj5 (fun kq v3 v11 v12 w' => ∃ (x3_2 : Int) (x11_2 : List Int) (x12_2 : Int), v3 = .int .i64 x3_2 ∧ v12 = .int .i64 x12_2 ∧ Aside0 (spec_l12Split.l0 kq l0 a1 l2 x3_2 x11_2 x12_2 = some (r1, r2)) ∧ Aside0 (kq ≤ kj5) ∧ Aside0 (Kd.R (Kd.int .i64) 3 w' w0.heap.size (fun k_ => (P2_ k_ ∨ w.heap.size ≤ k_) ∧ some k_ ≠ (v11 : Value).ownBlock) (.slice Ao7 l2.length co7) l2) ∧ Aside0 (Kd.R (Kd.int .i64) 3 w' w0.heap.size (fun k_ => (P2_ k_ ∨ w.heap.size ≤ k_) ∧ some k_ ≠ ((.slice Ao7 l2.length co7) : Value).ownBlock) v11 x11_2) ∧ Aside0 (Kept w w' (fun k_ => P2_ k_)) ∧ Aside0 (Below w0.heap.size w0 w'))
     case atStart => exact ⟨(a3), (y433), (0), (by first | rfl | (simp; done) | (simp [*]; done)), (by first | rfl | (simp; done) | (simp [*]; done)), H', ⟨Nat.le_refl _⟩, ⟨by (with_reducible repeat (first | apply Kd.R_alloc | apply Kd.R_drewN | apply Kd.R_drew)); exact HO_2.out⟩, ⟨by (with_reducible repeat (first | apply Kd.R_alloc | apply Kd.R_drewN | apply Kd.R_drew)); exact Kd.R_mono HO435.out (fun _ hk => ⟨hk.1.1, hk.2⟩)⟩, ⟨by repeat (first | (with_reducible first | exact HK.out | apply Kept.alloc | apply Kept.drewN | apply Kept.drew) | exact HK.out)⟩, ⟨by repeat (first | (with_reducible first | exact HB.out | apply below_alloc | apply pw_below_drewN | apply below_drew1) | exact HB.out)⟩⟩
     case round =>
      clear H'
      try clear c1
      try clear p2
      try clear c5
      try clear c7
      try clear c9
      try clear c9b0
      try clear c10
      try clear c10b0
      try clear c11
      try clear c14
      try clear c14b0
      try clear c14b1
      try clear c14b2
      try clear p2
      obtain ⟨x3_2, x11_2, x12_2, rfl, rfl, HA, HK2, HO_2, HO_11, HK, HB⟩ := hrel
      cases gk with
      | zero => exact absurd HA.out (by simp [spec_l12Split.l0])
      | succ k2 =>
       have H := HA.out
       clear HA
       simp only [spec_l12Split.l0] at H
       by_cases c17 : x12_2 < a1
       ·rw [if_pos c17] at H
        have c17b0 : decide (x12_2 < a1) = true := decide_eq_true c17
        clear c17
        replace H := Option.bind_eq_some_iff.mp H
        obtain ⟨t436, A180, H⟩ := H
        replace H : (if t436.length < 17592186044416 then ((spec_l12Split.f k2 l0 a1 (t436 ++ [x12_2]) x3_2).bind fun bt442 => (if x3_2 < 0 then (if bt442.2 ≥ 0 then (spec_l12Split.l0 k2 l0 a1 l2 bt442.2 bt442.1 (wrap64 (x12_2 + 1))) else (if bt442.2 < x3_2 then (spec_l12Split.l0 k2 l0 a1 l2 bt442.2 bt442.1 (wrap64 (x12_2 + 1))) else (spec_l12Split.l0 k2 l0 a1 l2 x3_2 x11_2 (wrap64 (x12_2 + 1))))) else (if bt442.2 < x3_2 then (spec_l12Split.l0 k2 l0 a1 l2 bt442.2 bt442.1 (wrap64 (x12_2 + 1))) else (spec_l12Split.l0 k2 l0 a1 l2 x3_2 x11_2 (wrap64 (x12_2 + 1)))))) else (none)) = some (r1, r2) := H
        have A18 := Aside0.mk A180
        clear A180
        by_cases c19 : t436.length < 17592186044416
        ·rw [if_pos c19] at H
         have LMc19 := Aside0.mk c19
         clear c19
         obtain ⟨y439, hy439⟩ : ∃ y_ : List Int, y_ = (t436 ++ [x12_2]) := ⟨_, rfl⟩
         replace H : ((spec_l12Split.f k2 l0 a1 y439 x3_2).bind fun bt442 => (if x3_2 < 0 then (if bt442.2 ≥ 0 then (spec_l12Split.l0 k2 l0 a1 l2 bt442.2 bt442.1 (wrap64 (x12_2 + 1))) else (if bt442.2 < x3_2 then (spec_l12Split.l0 k2 l0 a1 l2 bt442.2 bt442.1 (wrap64 (x12_2 + 1))) else (spec_l12Split.l0 k2 l0 a1 l2 x3_2 x11_2 (wrap64 (x12_2 + 1))))) else (if bt442.2 < x3_2 then (spec_l12Split.l0 k2 l0 a1 l2 bt442.2 bt442.1 (wrap64 (x12_2 + 1))) else (spec_l12Split.l0 k2 l0 a1 l2 x3_2 x11_2 (wrap64 (x12_2 + 1)))))) = some (r1, r2) := by first | (rw [hy439]; with_reducible exact H) | (have H2_ := (Option.bind_some _ _).symm.trans H; rw [hy439]; with_reducible exact H2_) | (have H2_ := (Option.bind_some _ _).symm.trans H; with_reducible exact H2_) | with_reducible exact H | (rw [hy439]; exact H) | exact H
         have Ny439 := Aside0.mk hy439
         clear hy439
         replace H := Option.bind_eq_some_iff.mp H
         obtain ⟨⟨t442, t445⟩, A200, H⟩ := H
         replace H : (if x3_2 < 0 then (if t445 ≥ 0 then (spec_l12Split.l0 k2 l0 a1 l2 t445 t442 (wrap64 (x12_2 + 1))) else (if t445 < x3_2 then (spec_l12Split.l0 k2 l0 a1 l2 t445 t442 (wrap64 (x12_2 + 1))) else (spec_l12Split.l0 k2 l0 a1 l2 x3_2 x11_2 (wrap64 (x12_2 + 1))))) else (if t445 < x3_2 then (spec_l12Split.l0 k2 l0 a1 l2 t445 t442 (wrap64 (x12_2 + 1))) else (spec_l12Split.l0 k2 l0 a1 l2 x3_2 x11_2 (wrap64 (x12_2 + 1))))) = some (r1, r2) := H
         have A20 := Aside0.mk A200
         clear A200
         by_cases c21 : x3_2 < 0
         ·rw [if_pos c21] at H
          have c21b0 : decide (x3_2 < 0) = true := decide_eq_true c21
          clear c21
          by_cases c22 : t445 ≥ 0
          ·rw [if_pos c22] at H
           have c22b0 : decide (0 ≤ t445) = true := decide_eq_true c22
           clear c22
           have H' := Aside0.mk H
           clear H
           go_wp2_with (first | ((with_reducible refine gate_callee (f := 50) rfl ?_); refine goesL_ (some 49) rfl rfl Try.func50 (by kernel_rfl) rfl #[.slice Ao7 l2.length co7] rfl (by (try simp only [List.map_toArray, List.map_cons, List.map_nil]); first | done | rfl | (simp only [List.length_drop, List.length_take]; rfl)) ?_; (with_reducible refine (spec_l1Own.calls _ _ l2 t436 _ ?side1 ?side2 A18.out).mono ?_); (case side1 => repeat (first | exact (Kd.R_reads' HO_2.out).2.2 | (with_reducible refine Kd.C_alloc ?_ _) | (with_reducible refine Kd.C_drewN ?_ _) | (with_reducible refine Kd.C_drew ?_))); (case side2 => exact (Kd.R_reads' HO_2.out).2.1); rintro e w23 ⟨v437, rfl, ho0, hb⟩; refine ⟨_, rfl, ?_⟩; have n0_ := Aside0.mk (Kd.R_elder' (by (with_reducible repeat (first | apply Kd.R_alloc | apply Kd.R_drewN | apply Kd.R_drew)); exact HO_2.out) (Kd.R_base ho0) hb); have n1_ := Aside0.mk (Kd.R_elder' (by (with_reducible repeat (first | apply Kd.R_alloc | apply Kd.R_drewN | apply Kd.R_drew)); exact HO_11.out) (Kd.R_base ho0) hb); have n2_ := Aside0.mk (Kd.R_lower (Kd.R_new' (Kd.R_new' (Kd.R_newM (M := fun k_ => (P2_ k_ ∨ w.heap.size ≤ k_)) ho0 (by first | exact HK.out.1 | exact (show Kept w _ (fun k_ => P2_ k_) from by repeat (first | (with_reducible first | exact HK.out | apply Kept.alloc | apply Kept.drewN | apply Kept.drew) | exact HK.out)).1) (fun k_ h_ => .inr h_)) (Kd.R_lt (by (with_reducible repeat (first | apply Kd.R_alloc | apply Kd.R_drewN | apply Kd.R_drew)); exact HO_2.out))) (Kd.R_lt (by (with_reducible repeat (first | apply Kd.R_alloc | apply Kd.R_drewN | apply Kd.R_drew)); exact HO_11.out))) (below_size (by repeat (first | (with_reducible first | exact HB.out | apply below_alloc | apply pw_below_drewN | apply below_drew1) | exact HB.out)))); have n3_ := Aside0.mk (Kept.below (S := (fun k_ => P2_ k_)) (by repeat (first | (with_reducible first | exact HK.out | apply Kept.alloc | apply Kept.drewN | apply Kept.drew) | exact HK.out)) hb); have n4_ := Aside0.mk (below_step (by repeat (first | (with_reducible first | exact HB.out | apply below_alloc | apply pw_below_drewN | apply below_drew1) | exact HB.out)) hb); clear HO_2; clear HO_11; clear HK; clear HB; have HO_2 := n0_; have HO_11 := n1_; have HO438 := n2_; have HK := n3_; have HB := n4_; clear n0_ n1_ n2_ n3_ n4_; (try clear hb); (try clear hb2); (try clear hk); (try clear hi); (try clear ho0)) | ((with_reducible refine gate_builtin (b := .append) (xs := #[.tmp 49, .tmp 51]) rfl ?_); at_builtin; refine Kd.R_append (Kd.int .i64) (w0 := w0) w0.heap.size rfl (.tmp 49) (.tmp 51) 22 3 (.int .i64 0) 8 rfl Try.underlying22 info3 rfl (by decide) (by omega) v437 t436 x12_2 [.int .i64 x12_2] (fun k_ => (P2_ k_ ∨ w.heap.size ≤ k_) ∧ some k_ ≠ (.slice Ao7 l2.length co7 : Value).ownBlock ∧ some k_ ≠ (u11 : Value).ownBlock) (fun _ => False) rfl rfl ?aP (fun _ hk => hk.elim) ?aF ?aO ?aB ?aS ?aL ?_; (case aP => exact rfl); (case aB => exact (by repeat (first | (with_reducible first | exact HB.out | apply below_alloc | apply pw_below_drewN | apply below_drew1) | exact HB.out))); (case aF => exact (fun k_ hk => ⟨(.inr (Nat.le_trans (by first | exact HK.out.1 | exact (show Kept w _ (fun k_ => P2_ k_) from by repeat (first | (with_reducible first | exact HK.out | apply Kept.alloc | apply Kept.drewN | apply Kept.drew) | exact HK.out)).1) hk)), Kd.fresh' (Kd.R_lt (by (with_reducible repeat (first | apply Kd.R_alloc | apply Kd.R_drewN | apply Kd.R_drew)); exact HO_2.out)) k_ hk, Kd.fresh' (Kd.R_lt (by (with_reducible repeat (first | apply Kd.R_alloc | apply Kd.R_drewN | apply Kd.R_drew)); exact HO_11.out)) k_ hk⟩)); (case aO => exact (by (with_reducible repeat (first | apply Kd.R_alloc | apply Kd.R_drewN | apply Kd.R_drew)); exact Kd.R_mono HO438.out (fun _ hk => ⟨hk.1.1.1, ⟨hk.1.2, hk.2⟩⟩))); (case aS => exact (below_size (by repeat (first | (with_reducible first | exact HB.out | apply below_alloc | apply pw_below_drewN | apply below_drew1) | exact HB.out)))); (case aL => have := LMc19.out; omega); intro v440 w24 ho hb hg hat; rw [← Ny439.out] at ho; have n0_ := Aside0.mk (Kd.R_after (ok := (fun k_ => (P2_ k_ ∨ w.heap.size ≤ k_) ∧ some k_ ≠ (u11 : Value).ownBlock)) (by (with_reducible repeat (first | apply Kd.R_alloc | apply Kd.R_drewN | apply Kd.R_drew)); exact HO_2.out) hg hat); have n1_ := Aside0.mk (Kd.R_after (ok := (fun k_ => (P2_ k_ ∨ w.heap.size ≤ k_) ∧ some k_ ≠ (.slice Ao7 l2.length co7 : Value).ownBlock)) (by (with_reducible repeat (first | apply Kd.R_alloc | apply Kd.R_drewN | apply Kd.R_drew)); exact HO_11.out) hg hat); have n2_ := Aside0.mk (hb); have n3_ := Aside0.mk (Kept.of_grown (S := (fun k_ => P2_ k_)) hg (by repeat (first | (with_reducible first | exact HK.out | apply Kept.alloc | apply Kept.drewN | apply Kept.drew) | exact HK.out)) (fun k_ e_ => (HO438.out.1 k_ e_).1.1.1)); have n4_ := Aside0.mk (ho); clear HO_2; clear HO_11; clear HB; clear HK; clear HO438; have HO_2 := n0_; have HO_11 := n1_; have HB := n2_; have HK := n3_; have HO441 := n4_; clear n0_ n1_ n2_ n3_ n4_; clear ho hb hg hat; obtain ⟨Ao25, co25, eo25⟩ := Kd.R_slice HO441.out; subst eo25) | ((with_reducible refine gate_callee (f := 56) rfl ?_); refine goesL_ (some 54) rfl rfl Try.func56 (by kernel_rfl) rfl #[.slice A0 l0.length c0, .int .i64 a1, .slice Ao25 y439.length co25, .int .i64 x3_2] rfl (by (try simp only [List.map_toArray, List.map_cons, List.map_nil]); first | done | rfl | (simp only [List.length_drop, List.length_take]; rfl)) ?_; (with_reducible refine (ih k2 (by have := HJ5.out; have := HK2.out; omega) _ _ l0 a1 (fun k_ => some k_ = (.slice Ao25 y439.length co25 : Value).ownBlock) (.slice Ao25 y439.length co25) y439 x3_2 t442 t445 w0 _ ?side1 ?side2 ?side3 ?side4 A20.out).mono ?_); (case side1 => repeat (first | (with_reducible first | exact HB.out | apply below_alloc | apply pw_below_drewN | apply below_drew1) | exact HB.out)); (case side2 => exact Kd.C_kept_call HR0.out (by repeat (first | (with_reducible first | exact HK.out | apply Kept.alloc | apply Kept.drewN | apply Kept.drew) | exact HK.out)) (fun k_ hs_ => (fun e_ => (HO441.out.1 k_ e_.symm).1) hs_)); (case side3 => exact HC0.out); (case side4 => exact Kd.R_tight rfl HO441.out); rintro e w26 ⟨v443, rfl, ho0, hb, hkp⟩; refine ⟨_, rfl, ?_⟩; have n0_ := Aside0.mk (Kd.R_mono (ok' := fun k_ => (P2_ k_ ∨ w.heap.size ≤ k_) ∧ some k_ ≠ (u11 : Value).ownBlock ∧ some k_ ≠ (v443 : Value).ownBlock) (Kd.R_keptB (HO_2.out) hkp (fun k_ hk_ hs_ => (hk_.2) hs_)) (fun k_ hk_ => ⟨hk_.1.1.1, hk_.1.1.2, fun e_ => Or.elim (ho0.1 k_ e_.symm) (fun hs_ => hk_.2.1 hs_) (fun hn_ => Nat.not_le.2 hk_.2.2 hn_)⟩)); have n1_ := Aside0.mk (Kd.R_mono (ok' := fun k_ => (P2_ k_ ∨ w.heap.size ≤ k_) ∧ some k_ ≠ (.slice Ao7 l2.length co7 : Value).ownBlock ∧ some k_ ≠ (v443 : Value).ownBlock) (Kd.R_keptB (HO_11.out) hkp (fun k_ hk_ hs_ => (hk_.2) hs_)) (fun k_ hk_ => ⟨hk_.1.1.1, hk_.1.1.2, fun e_ => Or.elim (ho0.1 k_ e_.symm) (fun hs_ => hk_.2.1 hs_) (fun hn_ => Nat.not_le.2 hk_.2.2 hn_)⟩)); have n2_ := Aside0.mk (Kd.R_mono (ok' := fun k_ => (P2_ k_ ∨ w.heap.size ≤ k_) ∧ some k_ ≠ (.slice Ao7 l2.length co7 : Value).ownBlock ∧ some k_ ≠ (u11 : Value).ownBlock) ho0 (fun k_ hk_ => ⟨Or.elim hk_ (fun hs_ => (HO441.out.1 k_ (hs_).symm).1) (fun hn_ => (.inr (Nat.le_trans (by first | exact HK.out.1 | exact (show Kept w _ (fun k_ => P2_ k_) from by repeat (first | (with_reducible first | exact HK.out | apply Kept.alloc | apply Kept.drewN | apply Kept.drew) | exact HK.out)).1) hn_))), Or.elim hk_ (fun hs_ => fun e_ => (((HO_2.out).1 k_ e_.symm).2) hs_) (fun hn_ => (Kd.fresh' (Kd.R_lt (by (with_reducible repeat (first | apply Kd.R_alloc | apply Kd.R_drewN | apply Kd.R_drew)); exact HO_2.out)) k_ hn_)), Or.elim hk_ (fun hs_ => fun e_ => (((HO_11.out).1 k_ e_.symm).2) hs_) (fun hn_ => (Kd.fresh' (Kd.R_lt (by (with_reducible repeat (first | apply Kd.R_alloc | apply Kd.R_drewN | apply Kd.R_drew)); exact HO_11.out)) k_ hn_))⟩)); have n3_ := Aside0.mk (Kept.then_ (S := (fun k_ => P2_ k_)) (by repeat (first | (with_reducible first | exact HK.out | apply Kept.alloc | apply Kept.drewN | apply Kept.drew) | exact HK.out)) hkp (fun k_ hs_ => (fun e_ => (HO441.out.1 k_ e_.symm).1) hs_)); have n4_ := Aside0.mk (hb); clear HO_2; clear HO_11; clear HK; clear HB; clear HO441; have HO_2 := n0_; have HO_11 := n1_; have HO444 := n2_; have HK := n3_; have HB := n4_; clear n0_ n1_ n2_ n3_ n4_; (try clear hb); (try clear hkp); (try clear ho0)))
           go_roundg k2
           case measure => have := HJ5.out; have := HK2.out; omega
           case rel => exact ⟨(t445), (t442), (wrap64 (x12_2 + 1)), (by first | rfl | (simp; done) | (simp [*]; done)), (by first | rfl | (simp; done) | (simp [*]; done)), H', ⟨by have := HJ5.out; have := HK2.out; omega⟩, ⟨by (with_reducible repeat (first | apply Kd.R_alloc | apply Kd.R_drewN | apply Kd.R_drew)); exact Kd.R_mono HO_2.out (fun _ hk => ⟨hk.1, hk.2.2⟩)⟩, ⟨by (with_reducible repeat (first | apply Kd.R_alloc | apply Kd.R_drewN | apply Kd.R_drew)); exact Kd.R_mono HO444.out (fun _ hk => ⟨hk.1, hk.2.1⟩)⟩, ⟨by repeat (first | (with_reducible first | exact HK.out | apply Kept.alloc | apply Kept.drewN | apply Kept.drew) | exact HK.out)⟩, ⟨by repeat (first | (with_reducible first | exact HB.out | apply below_alloc | apply pw_below_drewN | apply below_drew1) | exact HB.out)⟩⟩
          ·rw [if_neg c22] at H
           have c22b0 : decide (0 ≤ t445) = false := decide_eq_false c22
           clear c22
           by_cases c27 : t445 < x3_2
           ·rw [if_pos c27] at H
            have c27b0 : decide (t445 < x3_2) = true := decide_eq_true c27
            clear c27
            have H' := Aside0.mk H
            clear H
            go_wp2_with (first | ((with_reducible refine gate_callee (f := 50) rfl ?_); refine goesL_ (some 49) rfl rfl Try.func50 (by kernel_rfl) rfl #[.slice Ao7 l2.length co7] rfl (by (try simp only [List.map_toArray, List.map_cons, List.map_nil]); first | done | rfl | (simp only [List.length_drop, List.length_take]; rfl)) ?_; (with_reducible refine (spec_l1Own.calls _ _ l2 t436 _ ?side1 ?side2 A18.out).mono ?_); (case side1 => repeat (first | exact (Kd.R_reads' HO_2.out).2.2 | (with_reducible refine Kd.C_alloc ?_ _) | (with_reducible refine Kd.C_drewN ?_ _) | (with_reducible refine Kd.C_drew ?_))); (case side2 => exact (Kd.R_reads' HO_2.out).2.1); rintro e w28 ⟨v437, rfl, ho0, hb⟩; refine ⟨_, rfl, ?_⟩; have n0_ := Aside0.mk (Kd.R_elder' (by (with_reducible repeat (first | apply Kd.R_alloc | apply Kd.R_drewN | apply Kd.R_drew)); exact HO_2.out) (Kd.R_base ho0) hb); have n1_ := Aside0.mk (Kd.R_elder' (by (with_reducible repeat (first | apply Kd.R_alloc | apply Kd.R_drewN | apply Kd.R_drew)); exact HO_11.out) (Kd.R_base ho0) hb); have n2_ := Aside0.mk (Kd.R_lower (Kd.R_new' (Kd.R_new' (Kd.R_newM (M := fun k_ => (P2_ k_ ∨ w.heap.size ≤ k_)) ho0 (by first | exact HK.out.1 | exact (show Kept w _ (fun k_ => P2_ k_) from by repeat (first | (with_reducible first | exact HK.out | apply Kept.alloc | apply Kept.drewN | apply Kept.drew) | exact HK.out)).1) (fun k_ h_ => .inr h_)) (Kd.R_lt (by (with_reducible repeat (first | apply Kd.R_alloc | apply Kd.R_drewN | apply Kd.R_drew)); exact HO_2.out))) (Kd.R_lt (by (with_reducible repeat (first | apply Kd.R_alloc | apply Kd.R_drewN | apply Kd.R_drew)); exact HO_11.out))) (below_size (by repeat (first | (with_reducible first | exact HB.out | apply below_alloc | apply pw_below_drewN | apply below_drew1) | exact HB.out)))); have n3_ := Aside0.mk (Kept.below (S := (fun k_ => P2_ k_)) (by repeat (first | (with_reducible first | exact HK.out | apply Kept.alloc | apply Kept.drewN | apply Kept.drew) | exact HK.out)) hb); have n4_ := Aside0.mk (below_step (by repeat (first | (with_reducible first | exact HB.out | apply below_alloc | apply pw_below_drewN | apply below_drew1) | exact HB.out)) hb); clear HO_2; clear HO_11; clear HK; clear HB; have HO_2 := n0_; have HO_11 := n1_; have HO438 := n2_; have HK := n3_; have HB := n4_; clear n0_ n1_ n2_ n3_ n4_; (try clear hb); (try clear hb2); (try clear hk); (try clear hi); (try clear ho0)) | ((with_reducible refine gate_builtin (b := .append) (xs := #[.tmp 49, .tmp 51]) rfl ?_); at_builtin; refine Kd.R_append (Kd.int .i64) (w0 := w0) w0.heap.size rfl (.tmp 49) (.tmp 51) 22 3 (.int .i64 0) 8 rfl Try.underlying22 info3 rfl (by decide) (by omega) v437 t436 x12_2 [.int .i64 x12_2] (fun k_ => (P2_ k_ ∨ w.heap.size ≤ k_) ∧ some k_ ≠ (.slice Ao7 l2.length co7 : Value).ownBlock ∧ some k_ ≠ (u11 : Value).ownBlock) (fun _ => False) rfl rfl ?aP (fun _ hk => hk.elim) ?aF ?aO ?aB ?aS ?aL ?_; (case aP => exact rfl); (case aB => exact (by repeat (first | (with_reducible first | exact HB.out | apply below_alloc | apply pw_below_drewN | apply below_drew1) | exact HB.out))); (case aF => exact (fun k_ hk => ⟨(.inr (Nat.le_trans (by first | exact HK.out.1 | exact (show Kept w _ (fun k_ => P2_ k_) from by repeat (first | (with_reducible first | exact HK.out | apply Kept.alloc | apply Kept.drewN | apply Kept.drew) | exact HK.out)).1) hk)), Kd.fresh' (Kd.R_lt (by (with_reducible repeat (first | apply Kd.R_alloc | apply Kd.R_drewN | apply Kd.R_drew)); exact HO_2.out)) k_ hk, Kd.fresh' (Kd.R_lt (by (with_reducible repeat (first | apply Kd.R_alloc | apply Kd.R_drewN | apply Kd.R_drew)); exact HO_11.out)) k_ hk⟩)); (case aO => exact (by (with_reducible repeat (first | apply Kd.R_alloc | apply Kd.R_drewN | apply Kd.R_drew)); exact Kd.R_mono HO438.out (fun _ hk => ⟨hk.1.1.1, ⟨hk.1.2, hk.2⟩⟩))); (case aS => exact (below_size (by repeat (first | (with_reducible first | exact HB.out | apply below_alloc | apply pw_below_drewN | apply below_drew1) | exact HB.out)))); (case aL => have := LMc19.out; omega); intro v440 w29 ho hb hg hat; rw [← Ny439.out] at ho; have n0_ := Aside0.mk (Kd.R_after (ok := (fun k_ => (P2_ k_ ∨ w.heap.size ≤ k_) ∧ some k_ ≠ (u11 : Value).ownBlock)) (by (with_reducible repeat (first | apply Kd.R_alloc | apply Kd.R_drewN | apply Kd.R_drew)); exact HO_2.out) hg hat); have n1_ := Aside0.mk (Kd.R_after (ok := (fun k_ => (P2_ k_ ∨ w.heap.size ≤ k_) ∧ some k_ ≠ (.slice Ao7 l2.length co7 : Value).ownBlock)) (by (with_reducible repeat (first | apply Kd.R_alloc | apply Kd.R_drewN | apply Kd.R_drew)); exact HO_11.out) hg hat); have n2_ := Aside0.mk (hb); have n3_ := Aside0.mk (Kept.of_grown (S := (fun k_ => P2_ k_)) hg (by repeat (first | (with_reducible first | exact HK.out | apply Kept.alloc | apply Kept.drewN | apply Kept.drew) | exact HK.out)) (fun k_ e_ => (HO438.out.1 k_ e_).1.1.1)); have n4_ := Aside0.mk (ho); clear HO_2; clear HO_11; clear HB; clear HK; clear HO438; have HO_2 := n0_; have HO_11 := n1_; have HB := n2_; have HK := n3_; have HO441 := n4_; clear n0_ n1_ n2_ n3_ n4_; clear ho hb hg hat; obtain ⟨Ao30, co30, eo30⟩ := Kd.R_slice HO441.out; subst eo30) | ((with_reducible refine gate_callee (f := 56) rfl ?_); refine goesL_ (some 54) rfl rfl Try.func56 (by kernel_rfl) rfl #[.slice A0 l0.length c0, .int .i64 a1, .slice Ao30 y439.length co30, .int .i64 x3_2] rfl (by (try simp only [List.map_toArray, List.map_cons, List.map_nil]); first | done | rfl | (simp only [List.length_drop, List.length_take]; rfl)) ?_; (with_reducible refine (ih k2 (by have := HJ5.out; have := HK2.out; omega) _ _ l0 a1 (fun k_ => some k_ = (.slice Ao30 y439.length co30 : Value).ownBlock) (.slice Ao30 y439.length co30) y439 x3_2 t442 t445 w0 _ ?side1 ?side2 ?side3 ?side4 A20.out).mono ?_); (case side1 => repeat (first | (with_reducible first | exact HB.out | apply below_alloc | apply pw_below_drewN | apply below_drew1) | exact HB.out)); (case side2 => exact Kd.C_kept_call HR0.out (by repeat (first | (with_reducible first | exact HK.out | apply Kept.alloc | apply Kept.drewN | apply Kept.drew) | exact HK.out)) (fun k_ hs_ => (fun e_ => (HO441.out.1 k_ e_.symm).1) hs_)); (case side3 => exact HC0.out); (case side4 => exact Kd.R_tight rfl HO441.out); rintro e w31 ⟨v443, rfl, ho0, hb, hkp⟩; refine ⟨_, rfl, ?_⟩; have n0_ := Aside0.mk (Kd.R_mono (ok' := fun k_ => (P2_ k_ ∨ w.heap.size ≤ k_) ∧ some k_ ≠ (u11 : Value).ownBlock ∧ some k_ ≠ (v443 : Value).ownBlock) (Kd.R_keptB (HO_2.out) hkp (fun k_ hk_ hs_ => (hk_.2) hs_)) (fun k_ hk_ => ⟨hk_.1.1.1, hk_.1.1.2, fun e_ => Or.elim (ho0.1 k_ e_.symm) (fun hs_ => hk_.2.1 hs_) (fun hn_ => Nat.not_le.2 hk_.2.2 hn_)⟩)); have n1_ := Aside0.mk (Kd.R_mono (ok' := fun k_ => (P2_ k_ ∨ w.heap.size ≤ k_) ∧ some k_ ≠ (.slice Ao7 l2.length co7 : Value).ownBlock ∧ some k_ ≠ (v443 : Value).ownBlock) (Kd.R_keptB (HO_11.out) hkp (fun k_ hk_ hs_ => (hk_.2) hs_)) (fun k_ hk_ => ⟨hk_.1.1.1, hk_.1.1.2, fun e_ => Or.elim (ho0.1 k_ e_.symm) (fun hs_ => hk_.2.1 hs_) (fun hn_ => Nat.not_le.2 hk_.2.2 hn_)⟩)); have n2_ := Aside0.mk (Kd.R_mono (ok' := fun k_ => (P2_ k_ ∨ w.heap.size ≤ k_) ∧ some k_ ≠ (.slice Ao7 l2.length co7 : Value).ownBlock ∧ some k_ ≠ (u11 : Value).ownBlock) ho0 (fun k_ hk_ => ⟨Or.elim hk_ (fun hs_ => (HO441.out.1 k_ (hs_).symm).1) (fun hn_ => (.inr (Nat.le_trans (by first | exact HK.out.1 | exact (show Kept w _ (fun k_ => P2_ k_) from by repeat (first | (with_reducible first | exact HK.out | apply Kept.alloc | apply Kept.drewN | apply Kept.drew) | exact HK.out)).1) hn_))), Or.elim hk_ (fun hs_ => fun e_ => (((HO_2.out).1 k_ e_.symm).2) hs_) (fun hn_ => (Kd.fresh' (Kd.R_lt (by (with_reducible repeat (first | apply Kd.R_alloc | apply Kd.R_drewN | apply Kd.R_drew)); exact HO_2.out)) k_ hn_)), Or.elim hk_ (fun hs_ => fun e_ => (((HO_11.out).1 k_ e_.symm).2) hs_) (fun hn_ => (Kd.fresh' (Kd.R_lt (by (with_reducible repeat (first | apply Kd.R_alloc | apply Kd.R_drewN | apply Kd.R_drew)); exact HO_11.out)) k_ hn_))⟩)); have n3_ := Aside0.mk (Kept.then_ (S := (fun k_ => P2_ k_)) (by repeat (first | (with_reducible first | exact HK.out | apply Kept.alloc | apply Kept.drewN | apply Kept.drew) | exact HK.out)) hkp (fun k_ hs_ => (fun e_ => (HO441.out.1 k_ e_.symm).1) hs_)); have n4_ := Aside0.mk (hb); clear HO_2; clear HO_11; clear HK; clear HB; clear HO441; have HO_2 := n0_; have HO_11 := n1_; have HO444 := n2_; have HK := n3_; have HB := n4_; clear n0_ n1_ n2_ n3_ n4_; (try clear hb); (try clear hkp); (try clear ho0)))
            go_roundg k2
            case measure => have := HJ5.out; have := HK2.out; omega
            case rel => exact ⟨(t445), (t442), (wrap64 (x12_2 + 1)), (by first | rfl | (simp; done) | (simp [*]; done)), (by first | rfl | (simp; done) | (simp [*]; done)), H', ⟨by have := HJ5.out; have := HK2.out; omega⟩, ⟨by (with_reducible repeat (first | apply Kd.R_alloc | apply Kd.R_drewN | apply Kd.R_drew)); exact Kd.R_mono HO_2.out (fun _ hk => ⟨hk.1, hk.2.2⟩)⟩, ⟨by (with_reducible repeat (first | apply Kd.R_alloc | apply Kd.R_drewN | apply Kd.R_drew)); exact Kd.R_mono HO444.out (fun _ hk => ⟨hk.1, hk.2.1⟩)⟩, ⟨by repeat (first | (with_reducible first | exact HK.out | apply Kept.alloc | apply Kept.drewN | apply Kept.drew) | exact HK.out)⟩, ⟨by repeat (first | (with_reducible first | exact HB.out | apply below_alloc | apply pw_below_drewN | apply below_drew1) | exact HB.out)⟩⟩
           ·rw [if_neg c27] at H
            have c27b0 : decide (t445 < x3_2) = false := decide_eq_false c27
            clear c27
            have H' := Aside0.mk H
            clear H
            go_wp2_with (first | ((with_reducible refine gate_callee (f := 50) rfl ?_); refine goesL_ (some 49) rfl rfl Try.func50 (by kernel_rfl) rfl #[.slice Ao7 l2.length co7] rfl (by (try simp only [List.map_toArray, List.map_cons, List.map_nil]); first | done | rfl | (simp only [List.length_drop, List.length_take]; rfl)) ?_; (with_reducible refine (spec_l1Own.calls _ _ l2 t436 _ ?side1 ?side2 A18.out).mono ?_); (case side1 => repeat (first | exact (Kd.R_reads' HO_2.out).2.2 | (with_reducible refine Kd.C_alloc ?_ _) | (with_reducible refine Kd.C_drewN ?_ _) | (with_reducible refine Kd.C_drew ?_))); (case side2 => exact (Kd.R_reads' HO_2.out).2.1); rintro e w32 ⟨v437, rfl, ho0, hb⟩; refine ⟨_, rfl, ?_⟩; have n0_ := Aside0.mk (Kd.R_elder' (by (with_reducible repeat (first | apply Kd.R_alloc | apply Kd.R_drewN | apply Kd.R_drew)); exact HO_2.out) (Kd.R_base ho0) hb); have n1_ := Aside0.mk (Kd.R_elder' (by (with_reducible repeat (first | apply Kd.R_alloc | apply Kd.R_drewN | apply Kd.R_drew)); exact HO_11.out) (Kd.R_base ho0) hb); have n2_ := Aside0.mk (Kd.R_lower (Kd.R_new' (Kd.R_new' (Kd.R_newM (M := fun k_ => (P2_ k_ ∨ w.heap.size ≤ k_)) ho0 (by first | exact HK.out.1 | exact (show Kept w _ (fun k_ => P2_ k_) from by repeat (first | (with_reducible first | exact HK.out | apply Kept.alloc | apply Kept.drewN | apply Kept.drew) | exact HK.out)).1) (fun k_ h_ => .inr h_)) (Kd.R_lt (by (with_reducible repeat (first | apply Kd.R_alloc | apply Kd.R_drewN | apply Kd.R_drew)); exact HO_2.out))) (Kd.R_lt (by (with_reducible repeat (first | apply Kd.R_alloc | apply Kd.R_drewN | apply Kd.R_drew)); exact HO_11.out))) (below_size (by repeat (first | (with_reducible first | exact HB.out | apply below_alloc | apply pw_below_drewN | apply below_drew1) | exact HB.out)))); have n3_ := Aside0.mk (Kept.below (S := (fun k_ => P2_ k_)) (by repeat (first | (with_reducible first | exact HK.out | apply Kept.alloc | apply Kept.drewN | apply Kept.drew) | exact HK.out)) hb); have n4_ := Aside0.mk (below_step (by repeat (first | (with_reducible first | exact HB.out | apply below_alloc | apply pw_below_drewN | apply below_drew1) | exact HB.out)) hb); clear HO_2; clear HO_11; clear HK; clear HB; have HO_2 := n0_; have HO_11 := n1_; have HO438 := n2_; have HK := n3_; have HB := n4_; clear n0_ n1_ n2_ n3_ n4_; (try clear hb); (try clear hb2); (try clear hk); (try clear hi); (try clear ho0)) | ((with_reducible refine gate_builtin (b := .append) (xs := #[.tmp 49, .tmp 51]) rfl ?_); at_builtin; refine Kd.R_append (Kd.int .i64) (w0 := w0) w0.heap.size rfl (.tmp 49) (.tmp 51) 22 3 (.int .i64 0) 8 rfl Try.underlying22 info3 rfl (by decide) (by omega) v437 t436 x12_2 [.int .i64 x12_2] (fun k_ => (P2_ k_ ∨ w.heap.size ≤ k_) ∧ some k_ ≠ (.slice Ao7 l2.length co7 : Value).ownBlock ∧ some k_ ≠ (u11 : Value).ownBlock) (fun _ => False) rfl rfl ?aP (fun _ hk => hk.elim) ?aF ?aO ?aB ?aS ?aL ?_; (case aP => exact rfl); (case aB => exact (by repeat (first | (with_reducible first | exact HB.out | apply below_alloc | apply pw_below_drewN | apply below_drew1) | exact HB.out))); (case aF => exact (fun k_ hk => ⟨(.inr (Nat.le_trans (by first | exact HK.out.1 | exact (show Kept w _ (fun k_ => P2_ k_) from by repeat (first | (with_reducible first | exact HK.out | apply Kept.alloc | apply Kept.drewN | apply Kept.drew) | exact HK.out)).1) hk)), Kd.fresh' (Kd.R_lt (by (with_reducible repeat (first | apply Kd.R_alloc | apply Kd.R_drewN | apply Kd.R_drew)); exact HO_2.out)) k_ hk, Kd.fresh' (Kd.R_lt (by (with_reducible repeat (first | apply Kd.R_alloc | apply Kd.R_drewN | apply Kd.R_drew)); exact HO_11.out)) k_ hk⟩)); (case aO => exact (by (with_reducible repeat (first | apply Kd.R_alloc | apply Kd.R_drewN | apply Kd.R_drew)); exact Kd.R_mono HO438.out (fun _ hk => ⟨hk.1.1.1, ⟨hk.1.2, hk.2⟩⟩))); (case aS => exact (below_size (by repeat (first | (with_reducible first | exact HB.out | apply below_alloc | apply pw_below_drewN | apply below_drew1) | exact HB.out)))); (case aL => have := LMc19.out; omega); intro v440 w33 ho hb hg hat; rw [← Ny439.out] at ho; have n0_ := Aside0.mk (Kd.R_after (ok := (fun k_ => (P2_ k_ ∨ w.heap.size ≤ k_) ∧ some k_ ≠ (u11 : Value).ownBlock)) (by (with_reducible repeat (first | apply Kd.R_alloc | apply Kd.R_drewN | apply Kd.R_drew)); exact HO_2.out) hg hat); have n1_ := Aside0.mk (Kd.R_after (ok := (fun k_ => (P2_ k_ ∨ w.heap.size ≤ k_) ∧ some k_ ≠ (.slice Ao7 l2.length co7 : Value).ownBlock)) (by (with_reducible repeat (first | apply Kd.R_alloc | apply Kd.R_drewN | apply Kd.R_drew)); exact HO_11.out) hg hat); have n2_ := Aside0.mk (hb); have n3_ := Aside0.mk (Kept.of_grown (S := (fun k_ => P2_ k_)) hg (by repeat (first | (with_reducible first | exact HK.out | apply Kept.alloc | apply Kept.drewN | apply Kept.drew) | exact HK.out)) (fun k_ e_ => (HO438.out.1 k_ e_).1.1.1)); have n4_ := Aside0.mk (ho); clear HO_2; clear HO_11; clear HB; clear HK; clear HO438; have HO_2 := n0_; have HO_11 := n1_; have HB := n2_; have HK := n3_; have HO441 := n4_; clear n0_ n1_ n2_ n3_ n4_; clear ho hb hg hat; obtain ⟨Ao34, co34, eo34⟩ := Kd.R_slice HO441.out; subst eo34) | ((with_reducible refine gate_callee (f := 56) rfl ?_); refine goesL_ (some 54) rfl rfl Try.func56 (by kernel_rfl) rfl #[.slice A0 l0.length c0, .int .i64 a1, .slice Ao34 y439.length co34, .int .i64 x3_2] rfl (by (try simp only [List.map_toArray, List.map_cons, List.map_nil]); first | done | rfl | (simp only [List.length_drop, List.length_take]; rfl)) ?_; (with_reducible refine (ih k2 (by have := HJ5.out; have := HK2.out; omega) _ _ l0 a1 (fun k_ => some k_ = (.slice Ao34 y439.length co34 : Value).ownBlock) (.slice Ao34 y439.length co34) y439 x3_2 t442 t445 w0 _ ?side1 ?side2 ?side3 ?side4 A20.out).mono ?_); (case side1 => repeat (first | (with_reducible first | exact HB.out | apply below_alloc | apply pw_below_drewN | apply below_drew1) | exact HB.out)); (case side2 => exact Kd.C_kept_call HR0.out (by repeat (first | (with_reducible first | exact HK.out | apply Kept.alloc | apply Kept.drewN | apply Kept.drew) | exact HK.out)) (fun k_ hs_ => (fun e_ => (HO441.out.1 k_ e_.symm).1) hs_)); (case side3 => exact HC0.out); (case side4 => exact Kd.R_tight rfl HO441.out); rintro e w35 ⟨v443, rfl, ho0, hb, hkp⟩; refine ⟨_, rfl, ?_⟩; have n0_ := Aside0.mk (Kd.R_mono (ok' := fun k_ => (P2_ k_ ∨ w.heap.size ≤ k_) ∧ some k_ ≠ (u11 : Value).ownBlock ∧ some k_ ≠ (v443 : Value).ownBlock) (Kd.R_keptB (HO_2.out) hkp (fun k_ hk_ hs_ => (hk_.2) hs_)) (fun k_ hk_ => ⟨hk_.1.1.1, hk_.1.1.2, fun e_ => Or.elim (ho0.1 k_ e_.symm) (fun hs_ => hk_.2.1 hs_) (fun hn_ => Nat.not_le.2 hk_.2.2 hn_)⟩)); have n1_ := Aside0.mk (Kd.R_mono (ok' := fun k_ => (P2_ k_ ∨ w.heap.size ≤ k_) ∧ some k_ ≠ (.slice Ao7 l2.length co7 : Value).ownBlock ∧ some k_ ≠ (v443 : Value).ownBlock) (Kd.R_keptB (HO_11.out) hkp (fun k_ hk_ hs_ => (hk_.2) hs_)) (fun k_ hk_ => ⟨hk_.1.1.1, hk_.1.1.2, fun e_ => Or.elim (ho0.1 k_ e_.symm) (fun hs_ => hk_.2.1 hs_) (fun hn_ => Nat.not_le.2 hk_.2.2 hn_)⟩)); have n2_ := Aside0.mk (Kd.R_mono (ok' := fun k_ => (P2_ k_ ∨ w.heap.size ≤ k_) ∧ some k_ ≠ (.slice Ao7 l2.length co7 : Value).ownBlock ∧ some k_ ≠ (u11 : Value).ownBlock) ho0 (fun k_ hk_ => ⟨Or.elim hk_ (fun hs_ => (HO441.out.1 k_ (hs_).symm).1) (fun hn_ => (.inr (Nat.le_trans (by first | exact HK.out.1 | exact (show Kept w _ (fun k_ => P2_ k_) from by repeat (first | (with_reducible first | exact HK.out | apply Kept.alloc | apply Kept.drewN | apply Kept.drew) | exact HK.out)).1) hn_))), Or.elim hk_ (fun hs_ => fun e_ => (((HO_2.out).1 k_ e_.symm).2) hs_) (fun hn_ => (Kd.fresh' (Kd.R_lt (by (with_reducible repeat (first | apply Kd.R_alloc | apply Kd.R_drewN | apply Kd.R_drew)); exact HO_2.out)) k_ hn_)), Or.elim hk_ (fun hs_ => fun e_ => (((HO_11.out).1 k_ e_.symm).2) hs_) (fun hn_ => (Kd.fresh' (Kd.R_lt (by (with_reducible repeat (first | apply Kd.R_alloc | apply Kd.R_drewN | apply Kd.R_drew)); exact HO_11.out)) k_ hn_))⟩)); have n3_ := Aside0.mk (Kept.then_ (S := (fun k_ => P2_ k_)) (by repeat (first | (with_reducible first | exact HK.out | apply Kept.alloc | apply Kept.drewN | apply Kept.drew) | exact HK.out)) hkp (fun k_ hs_ => (fun e_ => (HO441.out.1 k_ e_.symm).1) hs_)); have n4_ := Aside0.mk (hb); clear HO_2; clear HO_11; clear HK; clear HB; clear HO441; have HO_2 := n0_; have HO_11 := n1_; have HO444 := n2_; have HK := n3_; have HB := n4_; clear n0_ n1_ n2_ n3_ n4_; (try clear hb); (try clear hkp); (try clear ho0)))
            go_roundg k2
            case measure => have := HJ5.out; have := HK2.out; omega
            case rel => exact ⟨(x3_2), (x11_2), (wrap64 (x12_2 + 1)), (by first | rfl | (simp; done) | (simp [*]; done)), (by first | rfl | (simp; done) | (simp [*]; done)), H', ⟨by have := HJ5.out; have := HK2.out; omega⟩, ⟨by (with_reducible repeat (first | apply Kd.R_alloc | apply Kd.R_drewN | apply Kd.R_drew)); exact Kd.R_mono HO_2.out (fun _ hk => ⟨hk.1, hk.2.1⟩)⟩, ⟨by (with_reducible repeat (first | apply Kd.R_alloc | apply Kd.R_drewN | apply Kd.R_drew)); exact Kd.R_mono HO_11.out (fun _ hk => ⟨hk.1, hk.2.1⟩)⟩, ⟨by repeat (first | (with_reducible first | exact HK.out | apply Kept.alloc | apply Kept.drewN | apply Kept.drew) | exact HK.out)⟩, ⟨by repeat (first | (with_reducible first | exact HB.out | apply below_alloc | apply pw_below_drewN | apply below_drew1) | exact HB.out)⟩⟩
         ·rw [if_neg c21] at H
          have c21b0 : decide (x3_2 < 0) = false := decide_eq_false c21
          clear c21
          by_cases c36 : t445 < x3_2
          ·rw [if_pos c36] at H
           have c36b0 : decide (t445 < x3_2) = true := decide_eq_true c36
           clear c36
           have H' := Aside0.mk H
           clear H
           go_wp2_with (first | ((with_reducible refine gate_callee (f := 50) rfl ?_); refine goesL_ (some 49) rfl rfl Try.func50 (by kernel_rfl) rfl #[.slice Ao7 l2.length co7] rfl (by (try simp only [List.map_toArray, List.map_cons, List.map_nil]); first | done | rfl | (simp only [List.length_drop, List.length_take]; rfl)) ?_; (with_reducible refine (spec_l1Own.calls _ _ l2 t436 _ ?side1 ?side2 A18.out).mono ?_); (case side1 => repeat (first | exact (Kd.R_reads' HO_2.out).2.2 | (with_reducible refine Kd.C_alloc ?_ _) | (with_reducible refine Kd.C_drewN ?_ _) | (with_reducible refine Kd.C_drew ?_))); (case side2 => exact (Kd.R_reads' HO_2.out).2.1); rintro e w37 ⟨v437, rfl, ho0, hb⟩; refine ⟨_, rfl, ?_⟩; have n0_ := Aside0.mk (Kd.R_elder' (by (with_reducible repeat (first | apply Kd.R_alloc | apply Kd.R_drewN | apply Kd.R_drew)); exact HO_2.out) (Kd.R_base ho0) hb); have n1_ := Aside0.mk (Kd.R_elder' (by (with_reducible repeat (first | apply Kd.R_alloc | apply Kd.R_drewN | apply Kd.R_drew)); exact HO_11.out) (Kd.R_base ho0) hb); have n2_ := Aside0.mk (Kd.R_lower (Kd.R_new' (Kd.R_new' (Kd.R_newM (M := fun k_ => (P2_ k_ ∨ w.heap.size ≤ k_)) ho0 (by first | exact HK.out.1 | exact (show Kept w _ (fun k_ => P2_ k_) from by repeat (first | (with_reducible first | exact HK.out | apply Kept.alloc | apply Kept.drewN | apply Kept.drew) | exact HK.out)).1) (fun k_ h_ => .inr h_)) (Kd.R_lt (by (with_reducible repeat (first | apply Kd.R_alloc | apply Kd.R_drewN | apply Kd.R_drew)); exact HO_2.out))) (Kd.R_lt (by (with_reducible repeat (first | apply Kd.R_alloc | apply Kd.R_drewN | apply Kd.R_drew)); exact HO_11.out))) (below_size (by repeat (first | (with_reducible first | exact HB.out | apply below_alloc | apply pw_below_drewN | apply below_drew1) | exact HB.out)))); have n3_ := Aside0.mk (Kept.below (S := (fun k_ => P2_ k_)) (by repeat (first | (with_reducible first | exact HK.out | apply Kept.alloc | apply Kept.drewN | apply Kept.drew) | exact HK.out)) hb); have n4_ := Aside0.mk (below_step (by repeat (first | (with_reducible first | exact HB.out | apply below_alloc | apply pw_below_drewN | apply below_drew1) | exact HB.out)) hb); clear HO_2; clear HO_11; clear HK; clear HB; have HO_2 := n0_; have HO_11 := n1_; have HO438 := n2_; have HK := n3_; have HB := n4_; clear n0_ n1_ n2_ n3_ n4_; (try clear hb); (try clear hb2); (try clear hk); (try clear hi); (try clear ho0)) | ((with_reducible refine gate_builtin (b := .append) (xs := #[.tmp 49, .tmp 51]) rfl ?_); at_builtin; refine Kd.R_append (Kd.int .i64) (w0 := w0) w0.heap.size rfl (.tmp 49) (.tmp 51) 22 3 (.int .i64 0) 8 rfl Try.underlying22 info3 rfl (by decide) (by omega) v437 t436 x12_2 [.int .i64 x12_2] (fun k_ => (P2_ k_ ∨ w.heap.size ≤ k_) ∧ some k_ ≠ (.slice Ao7 l2.length co7 : Value).ownBlock ∧ some k_ ≠ (u11 : Value).ownBlock) (fun _ => False) rfl rfl ?aP (fun _ hk => hk.elim) ?aF ?aO ?aB ?aS ?aL ?_; (case aP => exact rfl); (case aB => exact (by repeat (first | (with_reducible first | exact HB.out | apply below_alloc | apply pw_below_drewN | apply below_drew1) | exact HB.out))); (case aF => exact (fun k_ hk => ⟨(.inr (Nat.le_trans (by first | exact HK.out.1 | exact (show Kept w _ (fun k_ => P2_ k_) from by repeat (first | (with_reducible first | exact HK.out | apply Kept.alloc | apply Kept.drewN | apply Kept.drew) | exact HK.out)).1) hk)), Kd.fresh' (Kd.R_lt (by (with_reducible repeat (first | apply Kd.R_alloc | apply Kd.R_drewN | apply Kd.R_drew)); exact HO_2.out)) k_ hk, Kd.fresh' (Kd.R_lt (by (with_reducible repeat (first | apply Kd.R_alloc | apply Kd.R_drewN | apply Kd.R_drew)); exact HO_11.out)) k_ hk⟩)); (case aO => exact (by (with_reducible repeat (first | apply Kd.R_alloc | apply Kd.R_drewN | apply Kd.R_drew)); exact Kd.R_mono HO438.out (fun _ hk => ⟨hk.1.1.1, ⟨hk.1.2, hk.2⟩⟩))); (case aS => exact (below_size (by repeat (first | (with_reducible first | exact HB.out | apply below_alloc | apply pw_below_drewN | apply below_drew1) | exact HB.out)))); (case aL => have := LMc19.out; omega); intro v440 w38 ho hb hg hat; rw [← Ny439.out] at ho; have n0_ := Aside0.mk (Kd.R_after (ok := (fun k_ => (P2_ k_ ∨ w.heap.size ≤ k_) ∧ some k_ ≠ (u11 : Value).ownBlock)) (by (with_reducible repeat (first | apply Kd.R_alloc | apply Kd.R_drewN | apply Kd.R_drew)); exact HO_2.out) hg hat); have n1_ := Aside0.mk (Kd.R_after (ok := (fun k_ => (P2_ k_ ∨ w.heap.size ≤ k_) ∧ some k_ ≠ (.slice Ao7 l2.length co7 : Value).ownBlock)) (by (with_reducible repeat (first | apply Kd.R_alloc | apply Kd.R_drewN | apply Kd.R_drew)); exact HO_11.out) hg hat); have n2_ := Aside0.mk (hb); have n3_ := Aside0.mk (Kept.of_grown (S := (fun k_ => P2_ k_)) hg (by repeat (first | (with_reducible first | exact HK.out | apply Kept.alloc | apply Kept.drewN | apply Kept.drew) | exact HK.out)) (fun k_ e_ => (HO438.out.1 k_ e_).1.1.1)); have n4_ := Aside0.mk (ho); clear HO_2; clear HO_11; clear HB; clear HK; clear HO438; have HO_2 := n0_; have HO_11 := n1_; have HB := n2_; have HK := n3_; have HO441 := n4_; clear n0_ n1_ n2_ n3_ n4_; clear ho hb hg hat; obtain ⟨Ao39, co39, eo39⟩ := Kd.R_slice HO441.out; subst eo39) | ((with_reducible refine gate_callee (f := 56) rfl ?_); refine goesL_ (some 54) rfl rfl Try.func56 (by kernel_rfl) rfl #[.slice A0 l0.length c0, .int .i64 a1, .slice Ao39 y439.length co39, .int .i64 x3_2] rfl (by (try simp only [List.map_toArray, List.map_cons, List.map_nil]); first | done | rfl | (simp only [List.length_drop, List.length_take]; rfl)) ?_; (with_reducible refine (ih k2 (by have := HJ5.out; have := HK2.out; omega) _ _ l0 a1 (fun k_ => some k_ = (.slice Ao39 y439.length co39 : Value).ownBlock) (.slice Ao39 y439.length co39) y439 x3_2 t442 t445 w0 _ ?side1 ?side2 ?side3 ?side4 A20.out).mono ?_); (case side1 => repeat (first | (with_reducible first | exact HB.out | apply below_alloc | apply pw_below_drewN | apply below_drew1) | exact HB.out)); (case side2 => exact Kd.C_kept_call HR0.out (by repeat (first | (with_reducible first | exact HK.out | apply Kept.alloc | apply Kept.drewN | apply Kept.drew) | exact HK.out)) (fun k_ hs_ => (fun e_ => (HO441.out.1 k_ e_.symm).1) hs_)); (case side3 => exact HC0.out); (case side4 => exact Kd.R_tight rfl HO441.out); rintro e w40 ⟨v443, rfl, ho0, hb, hkp⟩; refine ⟨_, rfl, ?_⟩; have n0_ := Aside0.mk (Kd.R_mono (ok' := fun k_ => (P2_ k_ ∨ w.heap.size ≤ k_) ∧ some k_ ≠ (u11 : Value).ownBlock ∧ some k_ ≠ (v443 : Value).ownBlock) (Kd.R_keptB (HO_2.out) hkp (fun k_ hk_ hs_ => (hk_.2) hs_)) (fun k_ hk_ => ⟨hk_.1.1.1, hk_.1.1.2, fun e_ => Or.elim (ho0.1 k_ e_.symm) (fun hs_ => hk_.2.1 hs_) (fun hn_ => Nat.not_le.2 hk_.2.2 hn_)⟩)); have n1_ := Aside0.mk (Kd.R_mono (ok' := fun k_ => (P2_ k_ ∨ w.heap.size ≤ k_) ∧ some k_ ≠ (.slice Ao7 l2.length co7 : Value).ownBlock ∧ some k_ ≠ (v443 : Value).ownBlock) (Kd.R_keptB (HO_11.out) hkp (fun k_ hk_ hs_ => (hk_.2) hs_)) (fun k_ hk_ => ⟨hk_.1.1.1, hk_.1.1.2, fun e_ => Or.elim (ho0.1 k_ e_.symm) (fun hs_ => hk_.2.1 hs_) (fun hn_ => Nat.not_le.2 hk_.2.2 hn_)⟩)); have n2_ := Aside0.mk (Kd.R_mono (ok' := fun k_ => (P2_ k_ ∨ w.heap.size ≤ k_) ∧ some k_ ≠ (.slice Ao7 l2.length co7 : Value).ownBlock ∧ some k_ ≠ (u11 : Value).ownBlock) ho0 (fun k_ hk_ => ⟨Or.elim hk_ (fun hs_ => (HO441.out.1 k_ (hs_).symm).1) (fun hn_ => (.inr (Nat.le_trans (by first | exact HK.out.1 | exact (show Kept w _ (fun k_ => P2_ k_) from by repeat (first | (with_reducible first | exact HK.out | apply Kept.alloc | apply Kept.drewN | apply Kept.drew) | exact HK.out)).1) hn_))), Or.elim hk_ (fun hs_ => fun e_ => (((HO_2.out).1 k_ e_.symm).2) hs_) (fun hn_ => (Kd.fresh' (Kd.R_lt (by (with_reducible repeat (first | apply Kd.R_alloc | apply Kd.R_drewN | apply Kd.R_drew)); exact HO_2.out)) k_ hn_)), Or.elim hk_ (fun hs_ => fun e_ => (((HO_11.out).1 k_ e_.symm).2) hs_) (fun hn_ => (Kd.fresh' (Kd.R_lt (by (with_reducible repeat (first | apply Kd.R_alloc | apply Kd.R_drewN | apply Kd.R_drew)); exact HO_11.out)) k_ hn_))⟩)); have n3_ := Aside0.mk (Kept.then_ (S := (fun k_ => P2_ k_)) (by repeat (first | (with_reducible first | exact HK.out | apply Kept.alloc | apply Kept.drewN | apply Kept.drew) | exact HK.out)) hkp (fun k_ hs_ => (fun e_ => (HO441.out.1 k_ e_.symm).1) hs_)); have n4_ := Aside0.mk (hb); clear HO_2; clear HO_11; clear HK; clear HB; clear HO441; have HO_2 := n0_; have HO_11 := n1_; have HO444 := n2_; have HK := n3_; have HB := n4_; clear n0_ n1_ n2_ n3_ n4_; (try clear hb); (try clear hkp); (try clear ho0)))
           go_roundg k2
           case measure => have := HJ5.out; have := HK2.out; omega
           case rel => exact ⟨(t445), (t442), (wrap64 (x12_2 + 1)), (by first | rfl | (simp; done) | (simp [*]; done)), (by first | rfl | (simp; done) | (simp [*]; done)), H', ⟨by have := HJ5.out; have := HK2.out; omega⟩, ⟨by (with_reducible repeat (first | apply Kd.R_alloc | apply Kd.R_drewN | apply Kd.R_drew)); exact Kd.R_mono HO_2.out (fun _ hk => ⟨hk.1, hk.2.2⟩)⟩, ⟨by (with_reducible repeat (first | apply Kd.R_alloc | apply Kd.R_drewN | apply Kd.R_drew)); exact Kd.R_mono HO444.out (fun _ hk => ⟨hk.1, hk.2.1⟩)⟩, ⟨by repeat (first | (with_reducible first | exact HK.out | apply Kept.alloc | apply Kept.drewN | apply Kept.drew) | exact HK.out)⟩, ⟨by repeat (first | (with_reducible first | exact HB.out | apply below_alloc | apply pw_below_drewN | apply below_drew1) | exact HB.out)⟩⟩
          ·rw [if_neg c36] at H
           have c36b0 : decide (t445 < x3_2) = false := decide_eq_false c36
           clear c36
           have H' := Aside0.mk H
           clear H
           go_wp2_with (first | ((with_reducible refine gate_callee (f := 50) rfl ?_); refine goesL_ (some 49) rfl rfl Try.func50 (by kernel_rfl) rfl #[.slice Ao7 l2.length co7] rfl (by (try simp only [List.map_toArray, List.map_cons, List.map_nil]); first | done | rfl | (simp only [List.length_drop, List.length_take]; rfl)) ?_; (with_reducible refine (spec_l1Own.calls _ _ l2 t436 _ ?side1 ?side2 A18.out).mono ?_); (case side1 => repeat (first | exact (Kd.R_reads' HO_2.out).2.2 | (with_reducible refine Kd.C_alloc ?_ _) | (with_reducible refine Kd.C_drewN ?_ _) | (with_reducible refine Kd.C_drew ?_))); (case side2 => exact (Kd.R_reads' HO_2.out).2.1); rintro e w41 ⟨v437, rfl, ho0, hb⟩; refine ⟨_, rfl, ?_⟩; have n0_ := Aside0.mk (Kd.R_elder' (by (with_reducible repeat (first | apply Kd.R_alloc | apply Kd.R_drewN | apply Kd.R_drew)); exact HO_2.out) (Kd.R_base ho0) hb); have n1_ := Aside0.mk (Kd.R_elder' (by (with_reducible repeat (first | apply Kd.R_alloc | apply Kd.R_drewN | apply Kd.R_drew)); exact HO_11.out) (Kd.R_base ho0) hb); have n2_ := Aside0.mk (Kd.R_lower (Kd.R_new' (Kd.R_new' (Kd.R_newM (M := fun k_ => (P2_ k_ ∨ w.heap.size ≤ k_)) ho0 (by first | exact HK.out.1 | exact (show Kept w _ (fun k_ => P2_ k_) from by repeat (first | (with_reducible first | exact HK.out | apply Kept.alloc | apply Kept.drewN | apply Kept.drew) | exact HK.out)).1) (fun k_ h_ => .inr h_)) (Kd.R_lt (by (with_reducible repeat (first | apply Kd.R_alloc | apply Kd.R_drewN | apply Kd.R_drew)); exact HO_2.out))) (Kd.R_lt (by (with_reducible repeat (first | apply Kd.R_alloc | apply Kd.R_drewN | apply Kd.R_drew)); exact HO_11.out))) (below_size (by repeat (first | (with_reducible first | exact HB.out | apply below_alloc | apply pw_below_drewN | apply below_drew1) | exact HB.out)))); have n3_ := Aside0.mk (Kept.below (S := (fun k_ => P2_ k_)) (by repeat (first | (with_reducible first | exact HK.out | apply Kept.alloc | apply Kept.drewN | apply Kept.drew) | exact HK.out)) hb); have n4_ := Aside0.mk (below_step (by repeat (first | (with_reducible first | exact HB.out | apply below_alloc | apply pw_below_drewN | apply below_drew1) | exact HB.out)) hb); clear HO_2; clear HO_11; clear HK; clear HB; have HO_2 := n0_; have HO_11 := n1_; have HO438 := n2_; have HK := n3_; have HB := n4_; clear n0_ n1_ n2_ n3_ n4_; (try clear hb); (try clear hb2); (try clear hk); (try clear hi); (try clear ho0)) | ((with_reducible refine gate_builtin (b := .append) (xs := #[.tmp 49, .tmp 51]) rfl ?_); at_builtin; refine Kd.R_append (Kd.int .i64) (w0 := w0) w0.heap.size rfl (.tmp 49) (.tmp 51) 22 3 (.int .i64 0) 8 rfl Try.underlying22 info3 rfl (by decide) (by omega) v437 t436 x12_2 [.int .i64 x12_2] (fun k_ => (P2_ k_ ∨ w.heap.size ≤ k_) ∧ some k_ ≠ (.slice Ao7 l2.length co7 : Value).ownBlock ∧ some k_ ≠ (u11 : Value).ownBlock) (fun _ => False) rfl rfl ?aP (fun _ hk => hk.elim) ?aF ?aO ?aB ?aS ?aL ?_; (case aP => exact rfl); (case aB => exact (by repeat (first | (with_reducible first | exact HB.out | apply below_alloc | apply pw_below_drewN | apply below_drew1) | exact HB.out))); (case aF => exact (fun k_ hk => ⟨(.inr (Nat.le_trans (by first | exact HK.out.1 | exact (show Kept w _ (fun k_ => P2_ k_) from by repeat (first | (with_reducible first | exact HK.out | apply Kept.alloc | apply Kept.drewN | apply Kept.drew) | exact HK.out)).1) hk)), Kd.fresh' (Kd.R_lt (by (with_reducible repeat (first | apply Kd.R_alloc | apply Kd.R_drewN | apply Kd.R_drew)); exact HO_2.out)) k_ hk, Kd.fresh' (Kd.R_lt (by (with_reducible repeat (first | apply Kd.R_alloc | apply Kd.R_drewN | apply Kd.R_drew)); exact HO_11.out)) k_ hk⟩)); (case aO => exact (by (with_reducible repeat (first | apply Kd.R_alloc | apply Kd.R_drewN | apply Kd.R_drew)); exact Kd.R_mono HO438.out (fun _ hk => ⟨hk.1.1.1, ⟨hk.1.2, hk.2⟩⟩))); (case aS => exact (below_size (by repeat (first | (with_reducible first | exact HB.out | apply below_alloc | apply pw_below_drewN | apply below_drew1) | exact HB.out)))); (case aL => have := LMc19.out; omega); intro v440 w42 ho hb hg hat; rw [← Ny439.out] at ho; have n0_ := Aside0.mk (Kd.R_after (ok := (fun k_ => (P2_ k_ ∨ w.heap.size ≤ k_) ∧ some k_ ≠ (u11 : Value).ownBlock)) (by (with_reducible repeat (first | apply Kd.R_alloc | apply Kd.R_drewN | apply Kd.R_drew)); exact HO_2.out) hg hat); have n1_ := Aside0.mk (Kd.R_after (ok := (fun k_ => (P2_ k_ ∨ w.heap.size ≤ k_) ∧ some k_ ≠ (.slice Ao7 l2.length co7 : Value).ownBlock)) (by (with_reducible repeat (first | apply Kd.R_alloc | apply Kd.R_drewN | apply Kd.R_drew)); exact HO_11.out) hg hat); have n2_ := Aside0.mk (hb); have n3_ := Aside0.mk (Kept.of_grown (S := (fun k_ => P2_ k_)) hg (by repeat (first | (with_reducible first | exact HK.out | apply Kept.alloc | apply Kept.drewN | apply Kept.drew) | exact HK.out)) (fun k_ e_ => (HO438.out.1 k_ e_).1.1.1)); have n4_ := Aside0.mk (ho); clear HO_2; clear HO_11; clear HB; clear HK; clear HO438; have HO_2 := n0_; have HO_11 := n1_; have HB := n2_; have HK := n3_; have HO441 := n4_; clear n0_ n1_ n2_ n3_ n4_; clear ho hb hg hat; obtain ⟨Ao43, co43, eo43⟩ := Kd.R_slice HO441.out; subst eo43) | ((with_reducible refine gate_callee (f := 56) rfl ?_); refine goesL_ (some 54) rfl rfl Try.func56 (by kernel_rfl) rfl #[.slice A0 l0.length c0, .int .i64 a1, .slice Ao43 y439.length co43, .int .i64 x3_2] rfl (by (try simp only [List.map_toArray, List.map_cons, List.map_nil]); first | done | rfl | (simp only [List.length_drop, List.length_take]; rfl)) ?_; (with_reducible refine (ih k2 (by have := HJ5.out; have := HK2.out; omega) _ _ l0 a1 (fun k_ => some k_ = (.slice Ao43 y439.length co43 : Value).ownBlock) (.slice Ao43 y439.length co43) y439 x3_2 t442 t445 w0 _ ?side1 ?side2 ?side3 ?side4 A20.out).mono ?_); (case side1 => repeat (first | (with_reducible first | exact HB.out | apply below_alloc | apply pw_below_drewN | apply below_drew1) | exact HB.out)); (case side2 => exact Kd.C_kept_call HR0.out (by repeat (first | (with_reducible first | exact HK.out | apply Kept.alloc | apply Kept.drewN | apply Kept.drew) | exact HK.out)) (fun k_ hs_ => (fun e_ => (HO441.out.1 k_ e_.symm).1) hs_)); (case side3 => exact HC0.out); (case side4 => exact Kd.R_tight rfl HO441.out); rintro e w44 ⟨v443, rfl, ho0, hb, hkp⟩; refine ⟨_, rfl, ?_⟩; have n0_ := Aside0.mk (Kd.R_mono (ok' := fun k_ => (P2_ k_ ∨ w.heap.size ≤ k_) ∧ some k_ ≠ (u11 : Value).ownBlock ∧ some k_ ≠ (v443 : Value).ownBlock) (Kd.R_keptB (HO_2.out) hkp (fun k_ hk_ hs_ => (hk_.2) hs_)) (fun k_ hk_ => ⟨hk_.1.1.1, hk_.1.1.2, fun e_ => Or.elim (ho0.1 k_ e_.symm) (fun hs_ => hk_.2.1 hs_) (fun hn_ => Nat.not_le.2 hk_.2.2 hn_)⟩)); have n1_ := Aside0.mk (Kd.R_mono (ok' := fun k_ => (P2_ k_ ∨ w.heap.size ≤ k_) ∧ some k_ ≠ (.slice Ao7 l2.length co7 : Value).ownBlock ∧ some k_ ≠ (v443 : Value).ownBlock) (Kd.R_keptB (HO_11.out) hkp (fun k_ hk_ hs_ => (hk_.2) hs_)) (fun k_ hk_ => ⟨hk_.1.1.1, hk_.1.1.2, fun e_ => Or.elim (ho0.1 k_ e_.symm) (fun hs_ => hk_.2.1 hs_) (fun hn_ => Nat.not_le.2 hk_.2.2 hn_)⟩)); have n2_ := Aside0.mk (Kd.R_mono (ok' := fun k_ => (P2_ k_ ∨ w.heap.size ≤ k_) ∧ some k_ ≠ (.slice Ao7 l2.length co7 : Value).ownBlock ∧ some k_ ≠ (u11 : Value).ownBlock) ho0 (fun k_ hk_ => ⟨Or.elim hk_ (fun hs_ => (HO441.out.1 k_ (hs_).symm).1) (fun hn_ => (.inr (Nat.le_trans (by first | exact HK.out.1 | exact (show Kept w _ (fun k_ => P2_ k_) from by repeat (first | (with_reducible first | exact HK.out | apply Kept.alloc | apply Kept.drewN | apply Kept.drew) | exact HK.out)).1) hn_))), Or.elim hk_ (fun hs_ => fun e_ => (((HO_2.out).1 k_ e_.symm).2) hs_) (fun hn_ => (Kd.fresh' (Kd.R_lt (by (with_reducible repeat (first | apply Kd.R_alloc | apply Kd.R_drewN | apply Kd.R_drew)); exact HO_2.out)) k_ hn_)), Or.elim hk_ (fun hs_ => fun e_ => (((HO_11.out).1 k_ e_.symm).2) hs_) (fun hn_ => (Kd.fresh' (Kd.R_lt (by (with_reducible repeat (first | apply Kd.R_alloc | apply Kd.R_drewN | apply Kd.R_drew)); exact HO_11.out)) k_ hn_))⟩)); have n3_ := Aside0.mk (Kept.then_ (S := (fun k_ => P2_ k_)) (by repeat (first | (with_reducible first | exact HK.out | apply Kept.alloc | apply Kept.drewN | apply Kept.drew) | exact HK.out)) hkp (fun k_ hs_ => (fun e_ => (HO441.out.1 k_ e_.symm).1) hs_)); have n4_ := Aside0.mk (hb); clear HO_2; clear HO_11; clear HK; clear HB; clear HO441; have HO_2 := n0_; have HO_11 := n1_; have HO444 := n2_; have HK := n3_; have HB := n4_; clear n0_ n1_ n2_ n3_ n4_; (try clear hb); (try clear hkp); (try clear ho0)))
           go_roundg k2
           case measure => have := HJ5.out; have := HK2.out; omega
           case rel => exact ⟨(x3_2), (x11_2), (wrap64 (x12_2 + 1)), (by first | rfl | (simp; done) | (simp [*]; done)), (by first | rfl | (simp; done) | (simp [*]; done)), H', ⟨by have := HJ5.out; have := HK2.out; omega⟩, ⟨by (with_reducible repeat (first | apply Kd.R_alloc | apply Kd.R_drewN | apply Kd.R_drew)); exact Kd.R_mono HO_2.out (fun _ hk => ⟨hk.1, hk.2.1⟩)⟩, ⟨by (with_reducible repeat (first | apply Kd.R_alloc | apply Kd.R_drewN | apply Kd.R_drew)); exact Kd.R_mono HO_11.out (fun _ hk => ⟨hk.1, hk.2.1⟩)⟩, ⟨by repeat (first | (with_reducible first | exact HK.out | apply Kept.alloc | apply Kept.drewN | apply Kept.drew) | exact HK.out)⟩, ⟨by repeat (first | (with_reducible first | exact HB.out | apply below_alloc | apply pw_below_drewN | apply below_drew1) | exact HB.out)⟩⟩
        ·rw [if_neg c19] at H
         exact absurd H (by simp)
       ·rw [if_neg c17] at H
        have c17b0 : decide (x12_2 < a1) = false := decide_eq_false c17
        clear c17
        simp only [Option.some.injEq, Prod.mk.injEq] at H
        obtain ⟨rfl, rfl⟩ := H
        go_wp2
        go_ret2
        exact ⟨_, by first | rfl | (simp [errW_none, errW_some] <;> rfl) | (simp [*, errW_none, errW_some] <;> rfl), by (with_reducible repeat (first | apply Kd.R_alloc | apply Kd.R_drewN | apply Kd.R_drew)); exact Kd.R_mono HO_11.out (fun _ hk => hk.1), by repeat (first | (with_reducible first | exact HB.out | apply below_alloc | apply pw_below_drewN | apply below_drew1) | exact HB.out), by repeat (first | (with_reducible first | exact HK.out | apply Kept.alloc | apply Kept.drewN | apply Kept.drew) | exact HK.out)⟩

end Go.Proofs.Ytcgfedaoimhejaa.G

-- Written by wip/tools/gen.py out of the translation (the kit's printer, one namespace a seat). Lean checks it.
namespace Go.Proofs.Ytcgfedaoimhejaa.G
open Go.RowKit Go.Proofs.YtcgfedaoimhejaaW.PrintWords Go.Proofs.YtcgfedaoimhejaaW.PrintLast Go.Proofs.YtcgfedaoimhejaaW.PrintMore
attribute [local go_sem] max2_int min2_int max_two min_two max_three min_three max_four min_four   -- for this text's walks alone
set_option linter.unusedVariables false
set_option linter.unusedSimpArgs false

/-! ### spec_SplitColumns: function 25 -/
def spec_SplitColumns.j0 : Nat → List Int → Int → Bool → Option ((List (List Int)) × Int × Bool)
 | 0, _, _, _ => none
 | k + 1, x0, x1, x23 => if x23 = true then (some ((([] : List (List Int))), 0, false)) else ((spec_l12Split.f k x0 x1 (([] : List Int)) (-1)).bind fun bt454 => ((spec_l12Columns.f k x0 bt454.1 x1).bind fun t458 => (some (t458, bt454.2, true))))
def spec_SplitColumns.f (k : Nat) (l0 : List Int) (a1 : Int) : Option ((List (List Int)) × Int × Bool) := (spec_l12Weights.f k l0 8).bind fun t446 => (if t446 = true then ((spec_l1In.f a1 1 3).bind fun t447 => (if t447 = true then (spec_SplitColumns.j0 k l0 a1 (decide ((l0.length : Int) > (wrap64 (a1 * 4))))) else (spec_SplitColumns.j0 k l0 a1 true))) else (spec_SplitColumns.j0 k l0 a1 true))
set_option maxHeartbeats 8000000 in
set_option maxRecDepth 100000 in
theorem spec_SplitColumns.calls (k : Nat) (A0 : Option Addr) (c0 : Nat) (l0 : List Int) (a1 : Int) (r1 : List (List Int)) (r2 : Int) (r3 : Bool) (w : World) (hr0 : Kd.C (Kd.int .i64) w A0 l0.length l0) (hc0 : l0.length ≤ c0) (h : spec_SplitColumns.f k l0 a1 = some (r1, r2, r3)) :
  Calls Try.prog 25 #[.slice A0 l0.length c0, .int .i64 a1] w fun e w' => ∃ v0_ : Value, e = .returned (.tuple #[v0_, .int .i64 r2, .bool r3]) ∧ Kd.S (Kd.slice 3 (Kd.int .i64)) 22 w' w.heap.size (fun _ => True) v0_ r1 ∧ Below w.heap.size w w' := by
 have HR0 := Aside0.mk hr0
 have HC0 := Aside0.mk hc0
 clear hr0 hc0
 have HB := Aside0.mk (Below.refl w.heap.size w)
 have H : ((spec_l12Weights.f k l0 8).bind fun t446 => (if t446 = true then ((spec_l1In.f a1 1 3).bind fun t447 => (if t447 = true then (spec_SplitColumns.j0 k l0 a1 (decide ((l0.length : Int) > (wrap64 (a1 * 4))))) else (spec_SplitColumns.j0 k l0 a1 true))) else (spec_SplitColumns.j0 k l0 a1 true))) = some (r1, r2, r3) := h
 clear h
 have HC3 := Aside0.mk H
 clear H
 go_enter Try.func25, Try.ntmps25
 go_upto_region 1 with (fail)
 go_cut [23] (fun v23 wc => ∃ (kq : Nat) (x23_2 : Bool), v23 = .bool x23_2 ∧ Aside0 (spec_SplitColumns.j0 kq l0 a1 x23_2 = some (r1, r2, r3)) ∧ Aside0 (kq ≤ k) ∧ Aside0 (Below w.heap.size w wc))
 case first =>
  have H := HC3.out
  clear HC3
  replace H := Option.bind_eq_some_iff.mp H
  obtain ⟨t446, A40, H⟩ := H
  replace H : (if t446 = true then ((spec_l1In.f a1 1 3).bind fun t447 => (if t447 = true then (spec_SplitColumns.j0 k l0 a1 (decide ((l0.length : Int) > (wrap64 (a1 * 4))))) else (spec_SplitColumns.j0 k l0 a1 true))) else (spec_SplitColumns.j0 k l0 a1 true)) = some (r1, r2, r3) := H
  have A4 := Aside0.mk A40
  clear A40
  by_cases c5 : t446 = true
  ·subst c5
   have H1 : ((spec_l1In.f a1 1 3).bind fun t447 => (if t447 = true then (spec_SplitColumns.j0 k l0 a1 (decide ((l0.length : Int) > (wrap64 (a1 * 4))))) else (spec_SplitColumns.j0 k l0 a1 true))) = some (r1, r2, r3) := by rw [if_pos rfl] at H; exact H
   clear H
   have H := H1
   clear H1
   replace H := Option.bind_eq_some_iff.mp H
   obtain ⟨t447, A60, H⟩ := H
   replace H : (if t447 = true then (spec_SplitColumns.j0 k l0 a1 (decide ((l0.length : Int) > (wrap64 (a1 * 4))))) else (spec_SplitColumns.j0 k l0 a1 true)) = some (r1, r2, r3) := H
   have A6 := Aside0.mk A60
   clear A60
   by_cases c7 : t447 = true
   ·subst c7
    have H1 : (spec_SplitColumns.j0 k l0 a1 (decide ((l0.length : Int) > (wrap64 (a1 * 4))))) = some (r1, r2, r3) := by rw [if_pos rfl] at H; exact H
    clear H
    have H := H1
    clear H1
    have H' := Aside0.mk H
    clear H
    go_wp2_with (first | ((with_reducible refine gate_callee (f := 54) rfl ?_); refine goesL_ (some 10) rfl rfl Try.func54 (by kernel_rfl) rfl #[.slice A0 l0.length c0, .int .i64 8] rfl (by (try simp only [List.map_toArray, List.map_cons, List.map_nil]); first | done | rfl | (simp only [List.length_drop, List.length_take]; rfl)) ?_; (with_reducible refine (spec_l12Weights.calls k _ _ l0 8 true _ ?side1 ?side2 A4.out).mono ?_); (case side1 => repeat (first | exact (Kd.C_below HR0.out HB.out) | (with_reducible refine Kd.C_alloc ?_ _) | (with_reducible refine Kd.C_drewN ?_ _) | (with_reducible refine Kd.C_drew ?_))); (case side2 => exact HC0.out); rintro e w' ⟨rfl, ⟨nd, rfl⟩⟩; refine ⟨_, rfl, ?_⟩) | (go_at_call 55; (with_reducible refine (spec_l1In.calls a1 1 3 true _ A6.out).mono ?_); rintro e w' ⟨rfl, ⟨nd, rfl⟩⟩))
    go_meet
    case rel => exact ⟨_, (decide ((l0.length : Int) > (wrap64 (a1 * 4)))), (by first | rfl | (simp; done) | (simp [*]; done)), H', ⟨by first | omega | exact Nat.le_refl _⟩, ⟨by repeat (first | (with_reducible first | exact HB.out | apply below_alloc | apply pw_below_drewN | apply below_drew1) | exact HB.out)⟩⟩
   ·replace c7 := Bool.eq_false_iff.mpr c7
    subst c7
    have H1 : (spec_SplitColumns.j0 k l0 a1 true) = some (r1, r2, r3) := by rw [if_neg (show ¬ (false = true) by decide)] at H; exact H
    clear H
    have H := H1
    clear H1
    have H' := Aside0.mk H
    clear H
    go_wp2_with (first | ((with_reducible refine gate_callee (f := 54) rfl ?_); refine goesL_ (some 10) rfl rfl Try.func54 (by kernel_rfl) rfl #[.slice A0 l0.length c0, .int .i64 8] rfl (by (try simp only [List.map_toArray, List.map_cons, List.map_nil]); first | done | rfl | (simp only [List.length_drop, List.length_take]; rfl)) ?_; (with_reducible refine (spec_l12Weights.calls k _ _ l0 8 true _ ?side1 ?side2 A4.out).mono ?_); (case side1 => repeat (first | exact (Kd.C_below HR0.out HB.out) | (with_reducible refine Kd.C_alloc ?_ _) | (with_reducible refine Kd.C_drewN ?_ _) | (with_reducible refine Kd.C_drew ?_))); (case side2 => exact HC0.out); rintro e w' ⟨rfl, ⟨nd, rfl⟩⟩; refine ⟨_, rfl, ?_⟩) | (go_at_call 55; (with_reducible refine (spec_l1In.calls a1 1 3 false _ A6.out).mono ?_); rintro e w' ⟨rfl, ⟨nd, rfl⟩⟩))
    go_meet
    case rel => exact ⟨_, (true), (by first | rfl | (simp; done) | (simp [*]; done)), H', ⟨by first | omega | exact Nat.le_refl _⟩, ⟨by repeat (first | (with_reducible first | exact HB.out | apply below_alloc | apply pw_below_drewN | apply below_drew1) | exact HB.out)⟩⟩
  ·replace c5 := Bool.eq_false_iff.mpr c5
   subst c5
   have H1 : (spec_SplitColumns.j0 k l0 a1 true) = some (r1, r2, r3) := by rw [if_neg (show ¬ (false = true) by decide)] at H; exact H
   clear H
   have H := H1
   clear H1
   have H' := Aside0.mk H
   clear H
   go_wp2_with (first | ((with_reducible refine gate_callee (f := 54) rfl ?_); refine goesL_ (some 10) rfl rfl Try.func54 (by kernel_rfl) rfl #[.slice A0 l0.length c0, .int .i64 8] rfl (by (try simp only [List.map_toArray, List.map_cons, List.map_nil]); first | done | rfl | (simp only [List.length_drop, List.length_take]; rfl)) ?_; (with_reducible refine (spec_l12Weights.calls k _ _ l0 8 false _ ?side1 ?side2 A4.out).mono ?_); (case side1 => repeat (first | exact (Kd.C_below HR0.out HB.out) | (with_reducible refine Kd.C_alloc ?_ _) | (with_reducible refine Kd.C_drewN ?_ _) | (with_reducible refine Kd.C_drew ?_))); (case side2 => exact HC0.out); rintro e w' ⟨rfl, ⟨nd, rfl⟩⟩; refine ⟨_, rfl, ?_⟩))
   go_meet
   case rel => exact ⟨_, (true), (by first | rfl | (simp; done) | (simp [*]; done)), H', ⟨by first | omega | exact Nat.le_refl _⟩, ⟨by repeat (first | (with_reducible first | exact HB.out | apply below_alloc | apply pw_below_drewN | apply below_drew1) | exact HB.out)⟩⟩
 case rest =>
  clear HC3
  try clear c2
  try clear p2
  try clear c5
  try clear p6
  try clear c7
  obtain ⟨kq, x23_2, rfl, HA, HJ2, HB⟩ := hcut
  cases kq with
  | zero => exact absurd HA.out (by simp [spec_SplitColumns.j0])
  | succ kj2 =>
   have H := HA.out
   clear HA
   simp only [spec_SplitColumns.j0] at H
   by_cases c8 : x23_2 = true
   ·subst c8
    have H1 : (some ((([] : List (List Int))), 0, false)) = some (r1, r2, r3) := by rw [if_pos rfl] at H; exact H
    clear H
    have H := H1
    clear H1
    obtain ⟨y448, hy448⟩ : ∃ y_ : List (List Int), y_ = (([] : List (List Int))) := ⟨_, rfl⟩
    replace H : (some (y448, 0, false)) = some (r1, r2, r3) := by first | (rw [hy448]; with_reducible exact H) | (have H2_ := (Option.bind_some _ _).symm.trans H; rw [hy448]; with_reducible exact H2_) | (have H2_ := (Option.bind_some _ _).symm.trans H; with_reducible exact H2_) | with_reducible exact H | (rw [hy448]; exact H) | exact H
    have Ny448 := Aside0.mk hy448
    clear hy448
    simp only [Option.some.injEq, Prod.mk.injEq] at H
    obtain ⟨rfl, rfl, rfl⟩ := H
    go_wp2_with (first | ((with_reducible refine gate_dst (N := 24) rfl ?_); (try (refine gate_guard (by rfl) ?_; dsimp only)); refine Kd.S_lit (Kd.slice 3 (Kd.int .i64)) _ 22 ?hg (N := 24) ?hd (xs := ([] : List (List Int))) (inner := []) (ok := fun _ => True) (okp := fun _ => True) ?hr ?hp (fun _ hk => hk) trivial (Below.refl _ _) (Nat.le_refl _) (by simp) ?_; (case hd => rfl); (case hg => rfl); (case hr => first | (go_simp; done) | (go_simp; rfl)); (case hp => exact (Reps.none _ _)); intro v449 w9 ho10 hb hg_ hnew_; clear hg_ hnew_; (first | rw [← Ny448.out] at ho10 | (simp only [Int.reduceToNat] at ho10; rw [← Ny448.out] at ho10)); have n0_ := Aside0.mk (Kd.S_lower ho10 (below_size (by repeat (first | (with_reducible first | exact HB.out | apply below_alloc | apply pw_below_drewN | apply below_drew1) | exact HB.out)))); have n1_ := Aside0.mk (below_step (by repeat (first | (with_reducible first | exact HB.out | apply below_alloc | apply pw_below_drewN | apply below_drew1) | exact HB.out)) hb); clear HB; have HO450 := n0_; have HB := n1_; clear n0_ n1_; clear hb ho10))
    go_ret3
    exact ⟨_, by first | rfl | (simp [errW_none, errW_some] <;> rfl) | (simp [*, errW_none, errW_some] <;> rfl), by (with_reducible repeat (first | apply Kd.S_alloc | apply Kd.S_drewN | apply Kd.S_drew)); exact HO450.out, by repeat (first | (with_reducible first | exact HB.out | apply below_alloc | apply pw_below_drewN | apply below_drew1) | exact HB.out)⟩
   ·replace c8 := Bool.eq_false_iff.mpr c8
    subst c8
    have H1 : ((spec_l12Split.f kj2 l0 a1 (([] : List Int)) (-1)).bind fun bt454 => ((spec_l12Columns.f kj2 l0 bt454.1 a1).bind fun t458 => (some (t458, bt454.2, true)))) = some (r1, r2, r3) := by rw [if_neg (show ¬ (false = true) by decide)] at H; exact H
    clear H
    have H := H1
    clear H1
    obtain ⟨y451, hy451⟩ : ∃ y_ : List Int, y_ = (([] : List Int)) := ⟨_, rfl⟩
    replace H : ((spec_l12Split.f kj2 l0 a1 y451 (-1)).bind fun bt454 => ((spec_l12Columns.f kj2 l0 bt454.1 a1).bind fun t458 => (some (t458, bt454.2, true)))) = some (r1, r2, r3) := by first | (rw [hy451]; with_reducible exact H) | (have H2_ := (Option.bind_some _ _).symm.trans H; rw [hy451]; with_reducible exact H2_) | (have H2_ := (Option.bind_some _ _).symm.trans H; with_reducible exact H2_) | with_reducible exact H | (rw [hy451]; exact H) | exact H
    have Ny451 := Aside0.mk hy451
    clear hy451
    replace H := Option.bind_eq_some_iff.mp H
    obtain ⟨⟨t454, t457⟩, A110, H⟩ := H
    replace H : ((spec_l12Columns.f kj2 l0 t454 a1).bind fun t458 => (some (t458, t457, true))) = some (r1, r2, r3) := H
    have A11 := Aside0.mk A110
    clear A110
    replace H := Option.bind_eq_some_iff.mp H
    obtain ⟨t458, A120, H⟩ := H
    replace H : (some (t458, t457, true)) = some (r1, r2, r3) := H
    have A12 := Aside0.mk A120
    clear A120
    simp only [Option.some.injEq, Prod.mk.injEq] at H
    obtain ⟨rfl, rfl, rfl⟩ := H
    go_wp2_with (first | ((with_reducible refine gate_dst (N := 28) rfl ?_); (try (refine gate_guard (by rfl) ?_; dsimp only)); refine Kd.R_lit (Kd.int .i64) _ 3 ?hg (N := 28) ?hd (xs := ([] : List Int)) (inner := []) (ok := fun _ => True) (okp := fun _ => True) ?hr ?hp (fun _ hk => hk) trivial (Below.refl _ _) (Nat.le_refl _) (by simp) ?_; (case hd => rfl); (case hg => rfl); (case hr => first | (go_simp; done) | (go_simp; rfl)); (case hp => exact (Reps.none _ _)); intro v452 w13 ho14 hb hg_ hnew_; clear hg_ hnew_; (first | rw [← Ny451.out] at ho14 | (simp only [Int.reduceToNat] at ho14; rw [← Ny451.out] at ho14)); have n0_ := Aside0.mk (Kd.R_lower ho14 (below_size (by repeat (first | (with_reducible first | exact HB.out | apply below_alloc | apply pw_below_drewN | apply below_drew1) | exact HB.out)))); have n1_ := Aside0.mk (below_step (by repeat (first | (with_reducible first | exact HB.out | apply below_alloc | apply pw_below_drewN | apply below_drew1) | exact HB.out)) hb); clear HB; have HO453 := n0_; have HB := n1_; clear n0_ n1_; clear hb ho14; obtain ⟨Ao15, co15, eo15⟩ := Kd.R_slice HO453.out; subst eo15) | ((with_reducible refine gate_callee (f := 56) rfl ?_); refine goesL_ (some 29) rfl rfl Try.func56 (by kernel_rfl) rfl #[.slice A0 l0.length c0, .int .i64 a1, .slice Ao15 y451.length co15, .int .i64 (-1)] rfl (by (try simp only [List.map_toArray, List.map_cons, List.map_nil]); first | done | rfl | (simp only [List.length_drop, List.length_take]; rfl)) ?_; (with_reducible refine (spec_l12Split.calls kj2 _ _ l0 a1 (fun k_ => some k_ = (.slice Ao15 y451.length co15 : Value).ownBlock) (.slice Ao15 y451.length co15) y451 (-1) t454 t457 w _ ?side1 ?side2 ?side3 ?side4 A11.out).mono ?_); (case side1 => repeat (first | (with_reducible first | exact HB.out | apply below_alloc | apply pw_below_drewN | apply below_drew1) | exact HB.out)); (case side2 => exact Kd.C_kept_came (Kd.heap_int .i64) HR0.out (by repeat (first | (with_reducible first | exact HB.out | apply below_alloc | apply pw_below_drewN | apply below_drew1) | exact HB.out)) (fun k_ hs_ => (fun e_ => Kd.R_base HO453.out k_ e_.symm) hs_)); (case side3 => exact HC0.out); (case side4 => exact Kd.R_tight rfl HO453.out); rintro e w16 ⟨v455, rfl, ho0, hb, hkp⟩; refine ⟨_, rfl, ?_⟩; have n0_ := Aside0.mk (Kd.R_mono (ok' := fun k_ => True) ho0 (fun k_ hk_ => trivial)); have n1_ := Aside0.mk (hb); clear HB; clear HO453; have HO456 := n0_; have HB := n1_; clear n0_ n1_; (try clear hb); (try clear hkp); (try clear ho0); obtain ⟨Ao17, co17, eo17⟩ := Kd.R_slice HO456.out; subst eo17) | ((with_reducible refine gate_callee (f := 57) rfl ?_); refine goesL_ (some 35) rfl rfl Try.func57 (by kernel_rfl) rfl #[.slice A0 l0.length c0, .slice Ao17 t454.length co17, .int .i64 a1] rfl (by (try simp only [List.map_toArray, List.map_cons, List.map_nil]); first | done | rfl | (simp only [List.length_drop, List.length_take]; rfl)) ?_; (with_reducible refine (spec_l12Columns.calls kj2 _ _ l0 _ _ t454 a1 t458 _ ?side1 ?side2 ?side3 ?side4 A12.out).mono ?_); (case side1 => repeat (first | exact (Kd.C_below HR0.out HB.out) | (with_reducible refine Kd.C_alloc ?_ _) | (with_reducible refine Kd.C_drewN ?_ _) | (with_reducible refine Kd.C_drew ?_))); (case side2 => exact HC0.out); (case side3 => repeat (first | exact (Kd.R_reads' HO456.out).2.2 | (with_reducible refine Kd.C_alloc ?_ _) | (with_reducible refine Kd.C_drewN ?_ _) | (with_reducible refine Kd.C_drew ?_))); (case side4 => exact (Kd.R_reads' HO456.out).2.1); rintro e w18 ⟨v459, rfl, ho0, hb⟩; refine ⟨_, rfl, ?_⟩; have n0_ := Aside0.mk (Kd.R_below (by (with_reducible repeat (first | apply Kd.R_alloc | apply Kd.R_drewN | apply Kd.R_drew)); exact HO456.out) hb); have n1_ := Aside0.mk (Kd.S_lower (Kd.S_new' ho0 (Kd.R_lt (by (with_reducible repeat (first | apply Kd.R_alloc | apply Kd.R_drewN | apply Kd.R_drew)); exact HO456.out))) (below_size (by repeat (first | (with_reducible first | exact HB.out | apply below_alloc | apply pw_below_drewN | apply below_drew1) | exact HB.out)))); have n2_ := Aside0.mk (below_step (by repeat (first | (with_reducible first | exact HB.out | apply below_alloc | apply pw_below_drewN | apply below_drew1) | exact HB.out)) hb); clear HO456; clear HB; have HO456 := n0_; have HO460 := n1_; have HB := n2_; clear n0_ n1_ n2_; (try clear hb); (try clear hb2); (try clear hk); (try clear hi); (try clear ho0)))
    go_ret3
    exact ⟨_, by first | rfl | (simp [errW_none, errW_some] <;> rfl) | (simp [*, errW_none, errW_some] <;> rfl), by (with_reducible repeat (first | apply Kd.S_alloc | apply Kd.S_drewN | apply Kd.S_drew)); exact Kd.S_mono HO460.out (fun _ hk => trivial), by repeat (first | (with_reducible first | exact HB.out | apply below_alloc | apply pw_below_drewN | apply below_drew1) | exact HB.out)⟩

end Go.Proofs.Ytcgfedaoimhejaa.G

/- The reference's SplitColumns: the first best division of all. -/
namespace Go.Proofs.Ytcgfedaoimhejaa.G
open Go.RowKit Go.Proofs.YtcgfedaoimhejaaW.PrintWords Go.Proofs.YtcgfedaoimhejaaW.PrintLast
set_option linter.unusedVariables false
set_option linter.unusedSimpArgs false
theorem spec_mostEq (a b : Int) : spec_l1Most.f a b = some (mx a b) := by
  unfold spec_l1Most.f mx
  split <;> split <;> first | rfl | (congr 1; omega)
theorem own_eq (l : List Int) (h : (l.length : Int) ≤ 1048576) : spec_l1Own.f l = some l := by
  unfold spec_l1Own.f
  simp only [Option.bind_some, List.length_nil, List.nil_append]
  rw [if_pos (by omega)]
theorem tot_bd9 {l : List Int} (hb : ∀ x ∈ l, 1 ≤ x ∧ x ≤ 32000) (d : Nat) (hd : d ≤ l.length) : 0 ≤ tot l 0 d ∧ tot l 0 d ≤ 32000 * (d : Int) :=
  ⟨tot_nn l (fun x hx => by have := hb x hx; omega) d hd, tot_up l 32000 (fun x hx => (hb x hx).2) d hd⟩
theorem impl_sumC {l : List Int} (h8 : l.length ≤ 8) (hb : ∀ x ∈ l, 1 ≤ x ∧ x ≤ 32000) : Ev (fun k => impl_sumOf.f k l) (tot l 0 l.length) := by
  unfold impl_sumOf.f
  have main : ∀ (d : Nat) (i : Nat), i + d = l.length → Ev (fun k => impl_sumOf.l0 k (tot l 0 i) l (l.length : Int) (i : Int)) (tot l 0 l.length) := by
    intro d
    induction d with
    | zero =>
      intro i hi
      refine Ev.step (fun k => by rw [impl_sumOf.l0]) ?_
      simp (disch := omega) only [if_neg]
      rw [show i = l.length by omega]
      exact Ev.now _
    | succ d ih =>
      intro i hi
      have r := ih (i + 1) (by omega)
      have b1 := tot_bd9 hb i (by omega)
      have b2 := tot_bd9 hb (i + 1) (by omega)
      rw [tot_succ, show (0 : Int) + (i : Int) = (i : Int) by omega] at r b2
      rw [show ((i + 1 : Nat) : Int) = (i : Int) + 1 by omega] at r
      refine Ev.step (fun k => by rw [impl_sumOf.l0]) ?_
      simp (disch := omega) only [if_pos, wrap64_id]
      exact r
  exact main l.length 0 (by omega)
theorem spec_sumC {l : List Int} (h8 : l.length ≤ 8) (hb : ∀ x ∈ l, 1 ≤ x ∧ x ≤ 32000) : Ev (fun k => spec_l12Sum.f k l 0) (tot l 0 l.length) := by
  unfold spec_l12Sum.f
  have main : ∀ (d : Nat) (i : Nat), i + d = l.length → Ev (fun k => spec_l12Sum.l0 k l (tot l 0 i) (i : Int)) (tot l 0 l.length) := by
    intro d
    induction d with
    | zero =>
      intro i hi
      refine Ev.step (fun k => by rw [spec_l12Sum.l0]) ?_
      simp (disch := omega) only [if_neg]
      rw [show i = l.length by omega]
      exact Ev.now _
    | succ d ih =>
      intro i hi
      have r := ih (i + 1) (by omega)
      have b1 := tot_bd9 hb i (by omega)
      have b2 := tot_bd9 hb (i + 1) (by omega)
      rw [tot_succ, show (0 : Int) + (i : Int) = (i : Int) by omega] at r b2
      rw [show ((i + 1 : Nat) : Int) = (i : Int) + 1 by omega] at r
      refine Ev.step (fun k => by rw [spec_l12Sum.l0]) ?_
      simp (disch := omega) only [if_pos, wrap64_id]
      exact r
  exact main l.length 0 (by omega)
theorem cols_succ (ws dv : List Int) (n i : Nat) : colsTo ws dv (n + 1) i = colsTo ws dv n i ++ [colTo ws dv (n : Int) i] := by
  unfold colsTo
  rw [List.range_succ, List.map_append]
  rfl
theorem cols_len (ws dv : List Int) (n i : Nat) : (colsTo ws dv n i).length = n := by simp [colsTo]
theorem rd_cols (ws dv : List Int) (n i k : Nat) (h : k < n) : rd_L1 (colsTo ws dv n i) (k : Int) = colTo ws dv (k : Int) i := by
  unfold rd_L1 colsTo
  rw [Int.toNat_natCast, List.getD_eq_getElem?_getD, List.getElem?_map, List.getElem?_range h]
  rfl
theorem spec_columns {ws dv : List Int} (h8 : ws.length ≤ 8) (hl : dv.length ≤ ws.length) (n : Nat) (hn : n ≤ 3) : Ev (fun k => spec_l12Columns.f k ws dv (n : Int)) (colsOf ws dv n) := by
  unfold spec_l12Columns.f
  have main : ∀ (d i : Nat), i + d = n → Ev (fun k => spec_l12Columns.l0 k ws dv (n : Int) (colsTo ws dv i dv.length) (i : Int)) (colsOf ws dv n) := by
    intro d
    induction d with
    | zero =>
      intro i hi
      refine Ev.step (fun k => by rw [spec_l12Columns.l0]) ?_
      simp (disch := omega) only [if_neg]
      rw [show i = n by omega]
      exact Ev.now _
    | succ d ih =>
      intro i hi
      have r := ih (i + 1) (by omega)
      rw [cols_succ, show ((i + 1 : Nat) : Int) = (i : Int) + 1 by omega] at r
      have hcl := cols_len ws dv i dv.length
      have inner : ∀ (e j : Nat), j + e = dv.length → Ev (fun k => spec_l12Columns.l1 k ws dv (n : Int) (colsTo ws dv i dv.length) (i : Int) (colTo ws dv (i : Int) j) (j : Int)) (colsOf ws dv n) := by
        intro e
        induction e with
        | zero =>
          intro j hj
          refine Ev.step (fun k => by rw [spec_l12Columns.l1]) ?_
          simp (disch := omega) only [if_neg, if_pos, wrap64_id]
          rw [show j = dv.length by omega]
          exact r
        | succ e ihe =>
          intro j hj
          have q := ihe (j + 1) (by omega)
          have hc := colTo_len ws dv (i : Int) j
          rw [colTo, show ((j + 1 : Nat) : Int) = (j : Int) + 1 by omega] at q
          refine Ev.step (fun k => by rw [spec_l12Columns.l1]) ?_
          simp (disch := omega) only [if_pos, wrap64_id]
          refine Ev.ite (fun g => ?_) (fun g => ?_)
          · rw [if_pos g] at q; exact q
          · rw [if_neg g] at q; exact q
      refine Ev.step (fun k => by rw [spec_l12Columns.l0]) ?_
      simp (disch := omega) only [if_pos]
      exact inner dv.length 0 (by omega)
  exact main n 0 (by omega)
theorem spec_mostD {ws dv : List Int} (hw : Wts ws) (hl : dv.length ≤ ws.length) (n : Nat) (hn : n ≤ 3) : Ev (fun k => spec_l12Most.f k ws dv (n : Int)) (chk (Fits ws dv n) (mostTo ws dv n) (-1)) := by
  have h8 := hw.1
  unfold spec_l12Most.f
  refine Ev.bind (spec_columns h8 hl n hn) ?_
  have hcl := cols_len ws dv n dv.length
  have main : ∀ (d i : Nat), i + d = n → Ev (fun k => spec_l12Most.l0 k (n : Int) (mostTo ws dv i) (colsOf ws dv n) (i : Int)) (chk (∀ k : Nat, i ≤ k → k < n → (colOf ws dv (k : Int)).length ≤ 4) (mostTo ws dv n) (-1)) := by
    intro d
    induction d with
    | zero =>
      intro i hi
      refine Ev.step (fun k => by rw [spec_l12Most.l0]) ?_
      simp (disch := omega) only [if_neg]
      rw [chk_pos (fun k a b => by omega), show i = n by omega]
      exact Ev.now _
    | succ d ih =>
      intro i hi
      have r := ih (i + 1) (by omega)
      rw [show ((i + 1 : Nat) : Int) = (i : Int) + 1 by omega] at r
      have hcol : rd_L1 (colsOf ws dv n) (i : Int) = colOf ws dv (i : Int) := rd_cols ws dv n _ i (by omega)
      have hll : ((colsOf ws dv n).length : Int) = (n : Int) := by unfold colsOf; omega
      refine Ev.step (fun k => by rw [spec_l12Most.l0]) ?_
      simp (disch := omega) only [if_pos, hcol, wrap64_id]
      refine Ev.ite (fun g => ?_) (fun g => ?_)
      · rw [chk_neg (fun m => by have := m i (Nat.le_refl _) (by omega); omega)]
        exact Ev.now _
      · have hb := col_bd hw hl (i : Int)
        refine Ev.bind (spec_sumC (by omega) hb) ?_
        simp only [spec_mostEq, Option.bind_some]
        rw [chk_congr (show (∀ k : Nat, i ≤ k → k < n → (colOf ws dv (k : Int)).length ≤ 4) ↔ (∀ k : Nat, i + 1 ≤ k → k < n → (colOf ws dv (k : Int)).length ≤ 4) from ⟨fun m k a b => m k (by omega) b, fun m k a b => by
          by_cases e : k = i
          · subst e; omega
          · exact m k (by omega) b⟩)]
        exact r
  have m := main n 0 (by omega)
  rw [chk_congr (show (∀ k : Nat, 0 ≤ k → k < n → (colOf ws dv (k : Int)).length ≤ 4) ↔ Fits ws dv n from ⟨fun m k b => m k (Nat.zero_le _) b, fun m k _ b => m k b⟩)] at m
  exact m
theorem spec_split {ws : List Int} (hw : Wts ws) (n : Nat) (hn : n ≤ 3) : ∀ (d : Nat) (dv : List Int) (b : Int), dv.length + d = ws.length → Ev (fun k => spec_l12Split.f k ws (n : Int) dv b) (splitOf ws n d dv b) := by
  have h8 := hw.1
  have outer : ∀ (d : Nat) (dv : List Int) (b : Int) (R : List Int × Int), dv.length + d = ws.length → (¬ Cut ws n dv b → Ev (fun k => spec_l12Split.j0 k ws (n : Int) dv b (mostTo ws dv n) false) R) → Ev (fun k => spec_l12Split.f k ws (n : Int) dv b) (chk (Cut ws n dv b) ([], b) R) := by
    intro d dv b R hd h
    have hnn := most_nn ws dv n
    have yes : ∀ x, Ev (fun k => spec_l12Split.j0 k ws (n : Int) dv b x true) ([], b) := fun x => by
      refine Ev.step (fun k => by rw [spec_l12Split.j0]) ?_
      simp only [if_true]
      exact Ev.now _
    refine Ev.step (fun k => by rw [spec_l12Split.f]) ?_
    refine Ev.bind (spec_mostD hw (by omega) n hn) ?_
    by_cases hf : Fits ws dv n
    · rw [chk_pos hf]
      simp (disch := omega) only [if_neg]
      refine Ev.ite (fun g => ?_) (fun g => ?_)
      · by_cases g2 : mostTo ws dv n ≥ b
        · rw [chk_pos (.inr ⟨g, g2⟩), decide_eq_true g2]; exact yes _
        · have hc : ¬ Cut ws n dv b := fun m => m.elim (fun q => q hf) (fun q => g2 q.2)
          rw [chk_neg hc, decide_eq_false g2]; exact h hc
      · have hc : ¬ Cut ws n dv b := fun m => m.elim (fun q => q hf) (fun q => g q.1)
        rw [chk_neg hc]; exact h hc
    · rw [chk_neg hf, chk_pos (.inl hf)]
      simp (disch := omega) only [if_pos]
      exact yes _
  intro d
  induction d with
  | zero =>
    intro dv b hd
    rw [splitOf]
    refine outer 0 dv b _ hd (fun _ => ?_)
    refine Ev.step (fun k => by rw [spec_l12Split.j0]) ?_
    simp (disch := omega) only [Bool.false_eq_true, if_false, if_pos]
    exact Ev.now _
  | succ d ih =>
    intro dv b hd
    rw [splitOf]
    refine outer (d + 1) dv b _ hd (fun _ => ?_)
    refine Ev.step (fun k => by rw [spec_l12Split.j0]) ?_
    simp (disch := omega) only [Bool.false_eq_true, if_false, if_neg]
    have main : ∀ (r : Nat) (k : Int) (s : List Int × Int), 0 ≤ k → k + r = (n : Int) → Ev (fun m => spec_l12Split.l0 m ws (n : Int) dv s.2 s.1 k) (splitIn (splitOf ws n d) dv r k s) := by
      intro r
      induction r with
      | zero =>
        intro k s k0 hk
        refine Ev.step (fun m => by rw [spec_l12Split.l0]) ?_
        simp (disch := omega) only [if_neg]
        exact Ev.now _
      | succ r ihr =>
        intro k s k0 hk
        refine Ev.step (fun m => by rw [spec_l12Split.l0]) ?_
        rw [own_eq dv (by omega)]
        simp (disch := omega) only [if_pos, Option.bind_some, wrap64_id]
        refine Ev.bind (ih (dv ++ [k]) s.2 (by rw [List.length_append, List.length_singleton]; omega)) ?_
        rw [splitIn]
        refine Ev.ite (fun g1 => ?_) (fun g1 => ?_)
        · refine Ev.ite (fun g2 => ?_) (fun g2 => ?_)
          · rw [if_pos (.inl ⟨g1, g2⟩)]; exact ihr (k + 1) _ (by omega) (by omega)
          · refine Ev.ite (fun g3 => ?_) (fun g3 => ?_)
            · rw [if_pos (.inr g3)]; exact ihr (k + 1) _ (by omega) (by omega)
            · rw [if_neg (fun m => m.elim (fun q => g2 q.2) g3)]; exact ihr (k + 1) _ (by omega) (by omega)
        · refine Ev.ite (fun g3 => ?_) (fun g3 => ?_)
          · rw [if_pos (.inr g3)]; exact ihr (k + 1) _ (by omega) (by omega)
          · rw [if_neg (fun m => m.elim (fun q => g1 q.1) g3)]; exact ihr (k + 1) _ (by omega) (by omega)
    exact main n 0 ([], b) (by omega) (by omega)
theorem spec_wts (ws : List Int) (hl : (ws.length : Int) ≤ 1099511627776) : Ev (fun k => spec_l12Weights.f k ws 8) (chk (Wts ws) true false) := by
  unfold spec_l12Weights.f
  have h := Ev.check (fun k i => spec_l12Weights.l0 k ws 8 i) (ws.length : Int) (okW ws) (decide ((ws.length : Int) ≤ 8)) false 0 (by
    refine Ev.step (fun k => by rw [spec_l12Weights.l0]) ?_
    simp only [Int.lt_irrefl, if_false]
    exact Ev.now _) (by
    intro i h0 hlt r hr
    refine Ev.step (fun k => by rw [spec_l12Weights.l0]) ?_
    simp (disch := omega) only [if_pos, wrap64_id, spec_l1In_eq, Option.bind_some, decide_eq_true_eq]
    refine Ev.ite (fun g => ?_) (fun g => ?_)
    · rw [chk_pos (show okW ws i from g)]; exact hr
    · rw [chk_neg (show ¬ okW ws i from g)]; exact Ev.now _) 0 (by omega) (by omega)
  refine Ev.eq h ?_
  by_cases ha : All (okW ws) 0 (ws.length : Int)
  · rw [chk_pos ha]
    by_cases h4 : (ws.length : Int) ≤ 8
    · rw [decide_eq_true h4, chk_pos (show Wts ws from ⟨by omega, ha⟩)]
    · rw [decide_eq_false h4, chk_neg (fun m : Wts ws => h4 (by have := m.1; omega))]
  · rw [chk_neg ha, chk_neg (fun m : Wts ws => ha m.2)]
theorem spec_splitR (ws : List Int) (hl : (ws.length : Int) ≤ 1099511627776) (n : Int) : Ev (fun k => spec_SplitColumns.f k ws n) (splitR ws n) := by
  have no : ¬ SplitOk ws n → Ev (fun k => spec_SplitColumns.j0 k ws n true) (splitR ws n) := by
    intro h
    unfold splitR
    rw [chk_neg h]
    refine Ev.step (fun k => by rw [spec_SplitColumns.j0]) ?_
    simp only [if_true]
    exact Ev.now _
  unfold spec_SplitColumns.f
  refine Ev.bind (spec_wts ws hl) ?_
  by_cases hw : Wts ws
  · rw [chk_pos hw]
    simp only [if_true, spec_l1In_eq, Option.bind_some, decide_eq_true_eq]
    refine Ev.ite (fun g => ?_) (fun g => no (fun m => g m.2.1))
    rw [wrap64_id (x := n * 4) (by omega) (by omega)]
    by_cases g2 : (ws.length : Int) > n * 4
    · rw [decide_eq_true g2]
      exact no (fun m => by have := m.2.2; omega)
    · rw [decide_eq_false g2]
      have hok : SplitOk ws n := ⟨hw, g, by omega⟩
      have h8 := hw.1
      obtain ⟨m, rfl⟩ : ∃ m : Nat, n = (m : Int) := ⟨n.toNat, by omega⟩
      unfold splitR
      rw [chk_pos hok, Int.toNat_natCast, foldC_eq (by omega)]
      refine Ev.step (fun k => by rw [spec_SplitColumns.j0]) ?_
      simp only [Bool.false_eq_true, if_false]
      refine Ev.bind (spec_split hw m (by omega) ws.length [] (-1) (by simp)) ?_
      rw [split_top hw m]
      have hF := foldD_ok (n := m) (ws := ws) (by omega)
      refine Ev.bind (spec_columns h8 (show (foldD ws m).1.length ≤ ws.length by omega) m (by omega)) ?_
      exact Ev.now _
  · rw [chk_neg hw]
    simp only [Bool.false_eq_true, if_false]
    exact no (fun m => hw m.1)
end Go.Proofs.Ytcgfedaoimhejaa.G

/- The contract of slices.Clone over whole numbers: nil for nil, else a list of its own. -/
namespace Go.Proofs.Ytcgfedaoimhejaa.G
open Go.RowKit Go.Proofs.YtcgfedaoimhejaaW.PrintWords Go.Proofs.YtcgfedaoimhejaaW.PrintLast
set_option linter.unusedVariables false
set_option linter.unusedSimpArgs false
def slices_Clone_int_int.f (l0 : List Int) : Option (List Int) := if ([] : List Int).length + l0.length < 17592186044416 then some l0 else none
set_option maxHeartbeats 8000000 in
set_option maxRecDepth 100000 in
theorem slices_Clone_int_int.calls (A0 : Option Addr) (c0 : Nat) (l0 : List Int) (r : List Int) (w : World) (hr0 : Kd.C (Kd.int .i64) w A0 l0.length l0) (hc0 : l0.length ≤ c0) (h : slices_Clone_int_int.f l0 = some r) :
    Calls Try.prog 52 #[.slice A0 l0.length c0] w fun e w' => ∃ v0_ : Value, e = .returned (v0_) ∧ Kd.R (Kd.int .i64) 3 w' w.heap.size (fun _ => True) v0_ r ∧ Below w.heap.size w w' := by
  have HR0 := Aside0.mk hr0
  have HC0 := Aside0.mk hc0
  clear hr0 hc0
  have HB := Aside0.mk (Below.refl w.heap.size w)
  have q22 : ∀ (w : World) (a : Option Addr) (n c : Nat), (binOp .eql 22 (.slice a n c) (.slice none 0 0)).run Try.prog w = .ok (.bool a.isNone) w := fun w a n c => Lib.run_eql_slice_nil w _ _ a n c 0 0 Try.underlying22
  unfold slices_Clone_int_int.f at h
  by_cases c2 : ([] : List Int).length + l0.length < 17592186044416
  · rw [if_pos c2] at h
    have LMc2 := Aside0.mk c2
    clear c2
    obtain rfl := Option.some.inj h
    clear h
    cases A0 with
    | none =>
      have hz : l0 = [] := by
        cases l0 with
        | nil => rfl
        | cons x xs =>
          obtain ⟨ad, e, _⟩ := Kd.at_int HR0.out 0 (by omega) (by simp)
          cases e
      subst hz
      go_enter Try.func52, Try.ntmps52
      go_wp2
      go_ret
      exact ⟨_, rfl, by first | exact Kd.R_nil _ _ | exact Kd.R_nil .. , by exact HB.out⟩
    | some ad =>
      obtain ⟨y280, hy280⟩ : ∃ y_ : List Int, y_ = (([] : List Int)) := ⟨_, rfl⟩
      have Ny280 := Aside0.mk hy280
      have LM := Aside0.mk (show y280.length + l0.length < 17592186044416 by rw [hy280]; exact LMc2.out)
      obtain ⟨y283, hy283⟩ : ∃ y_ : List Int, y_ = (y280 ++ l0) := ⟨_, rfl⟩
      have Ny283 := Aside0.mk hy283
      have hyy : y283 = l0 := by rw [hy283, hy280]; rfl
      clear hy280 hy283
      go_enter Try.func52, Try.ntmps52
      go_wp2_with (first | ((with_reducible refine gate_dst (N := 5) rfl ?_); refine Kd.R_lit (Kd.int .i64) _ 3 ?hg (N := 5) ?hd (xs := ([] : List Int)) (inner := []) (ok := fun _ => True) (okp := fun _ => True) ?hr ?hp (fun _ hk => hk) trivial (Below.refl _ _) (Nat.le_refl _) (by simp) ?_; (case hd => rfl); (case hg => rfl); (case hr => first | (go_simp; done) | (go_simp; rfl)); (case hp => exact (Reps.none _ _)); intro v281 w3 ho4 hb hg_ hnew_; clear hg_ hnew_; (first | rw [← Ny280.out] at ho4 | (simp only [Int.reduceToNat] at ho4; rw [← Ny280.out] at ho4)); have n0_ := Aside0.mk (Kd.R_lower ho4 (below_size (by repeat (first | (with_reducible first | exact HB.out | apply below_alloc | apply pw_below_drewN | apply below_drew1) | exact HB.out)))); have n1_ := Aside0.mk (below_step (by repeat (first | (with_reducible first | exact HB.out | apply below_alloc | apply pw_below_drewN | apply below_drew1) | exact HB.out)) hb); clear HB; have HO282 := n0_; have HB := n1_; clear n0_ n1_; clear hb ho4) | ((with_reducible refine gate_builtin (b := .append) (xs := #[.tmp 5, .tmp 6]) rfl ?_); at_builtin; refine Kd.R_append_rows (Kd.int .i64) (w0 := w) w.heap.size rfl (.tmp 5) (.tmp 6) 22 3 (.int .i64 0) 8 rfl Try.underlying22 info3 rfl (by decide) (by omega) v281 y280 l0 _ _ _ (fun _ => True) (fun _ => False) rfl rfl ?aO ?aR (fun _ _ h => h) (fun _ h => h.elim) ?aF ?aB ?aS ?aL ?_; (case aR => repeat (first | exact (Kd.C_below HR0.out HB.out) | (with_reducible refine Kd.C_alloc ?_ _) | (with_reducible refine Kd.C_drewN ?_ _) | (with_reducible refine Kd.C_drew ?_))); (case aB => exact (by repeat (first | (with_reducible first | exact HB.out | apply below_alloc | apply pw_below_drewN | apply below_drew1) | exact HB.out))); (case aF => exact (fun _ _ => trivial)); (case aO => exact (by (with_reducible repeat (first | apply Kd.R_alloc | apply Kd.R_drewN | apply Kd.R_drew)); exact HO282.out)); (case aS => exact (below_size (by repeat (first | (with_reducible first | exact HB.out | apply below_alloc | apply pw_below_drewN | apply below_drew1) | exact HB.out)))); (case aL => have := LM.out; omega); intro v284 w5 ho hb hg hat; rw [← Ny283.out] at ho; have n0_ := Aside0.mk (hb); have n1_ := Aside0.mk (ho); clear HB; clear HO282; have HB := n0_; have HO285 := n1_; clear n0_ n1_; clear ho hb hg hat))
      go_ret
      have HZ := HO285.out
      rw [hyy] at HZ
      exact ⟨_, rfl, HZ, HB.out⟩
  · rw [if_neg c2] at h
    cases h
end Go.Proofs.Ytcgfedaoimhejaa.G

/- The contract of choices: what is called back turns its state at each list, in lexicographic order. -/
namespace Go.Proofs.Ytcgfedaoimhejaa.G
open Go.RowKit Go.Proofs.YtcgfedaoimhejaaW.PrintWords Go.Proofs.YtcgfedaoimhejaaW.PrintLast
set_option linter.unusedVariables false
set_option linter.unusedSimpArgs false
/-- Outside the blocks of S the world w' is as w was. -/
structure Keeps (S : Nat → Prop) (w w' : World) : Prop where
  os : w'.os = w.os
  tape : w'.tape = w.tape
  output : w'.output = w.output
  size : w.heap.size ≤ w'.heap.size
  block : ∀ k, k < w.heap.size → ¬ S k → w'.heap[k]? = w.heap[k]?
theorem Keeps.refl (S : Nat → Prop) (w : World) : Keeps S w w := ⟨rfl, rfl, rfl, Nat.le_refl _, fun _ _ _ => rfl⟩
theorem Keeps.trans {S : Nat → Prop} {a b c : World} (h : Keeps S a b) (k : Keeps S b c) : Keeps S a c :=
  ⟨k.os.trans h.os, k.tape.trans h.tape, k.output.trans h.output, Nat.le_trans h.size k.size, fun i hi hn => (k.block i (Nat.lt_of_lt_of_le hi h.size) hn).trans (h.block i hi hn)⟩
theorem Keeps.mono {S S' : Nat → Prop} {w w' : World} (h : Keeps S w w') (hs : ∀ k, k < w.heap.size → S k → S' k) : Keeps S' w w' := ⟨h.os, h.tape, h.output, h.size, fun k hk hn => h.block k hk (fun m => hn (hs k hk m))⟩
theorem Keeps.of_below {S : Nat → Prop} {w w' : World} (h : Below w.heap.size w w') : Keeps S w w' := ⟨h.os, h.tape, h.output, h.size, fun k hk _ => h.block k hk⟩
theorem Keeps.of_grown {w w' : World} {row : Option Nat} (h : w.grownBy w' row) : Keeps (fun k => some k = row) w w' := ⟨h.os, h.tape, h.output, h.size, fun k hk hn => h.block k hk hn⟩
theorem Keeps.cell {S : Nat → Prop} {w w' : World} (h : Keeps S w w') {p : Addr} {v : Value} (hp : w.cell? p = some v) (hn : ¬ S p.block) : w'.cell? p = some v :=
  (World.cell?_of_block (w := w) (h.block p.block (World.block_lt_of_cell? w p hp) hn)).trans hp
/-- What is called back (function F over captured values; its own cells lie below block B): it turns the state by step at each list, and nothing outside S. -/
structure Back {σ : Type} (F : FuncId) (caps : Array Value) (S : Nat → Prop) (B : Nat) (I : (Nat → Prop) → World → σ → Prop) (P : List Int → Prop) (step : σ → List Int → σ) : Prop where
  enters : ∀ (args : Array Value) (w : World), (callFunc F args).run Try.prog w = .ok (.enter F args) w
  call : ∀ (ok : Nat → Prop) (w : World) (s : σ) (v : Value) (l : List Int), I ok w s → P l → (∀ k, w.heap.size ≤ k → ok k) → B ≤ w.heap.size → Kd.R (Kd.int .i64) 3 w B ok v l → Calls Try.prog F (#[v] ++ caps) w fun e w' => e = .returned (.tuple #[]) ∧ I ok w' (step s l) ∧ Keeps S w w'
  stay : ∀ (ok : Nat → Prop) (w w' : World) (s : σ) (T : Nat → Prop), I ok w s → Keeps T w w' → (∀ k, T k → B ≤ k ∧ ¬ ok k) → I ok w' s
  mono : ∀ (ok ok' : Nat → Prop) (w : World) (s : σ), I ok w s → (∀ k, k < w.heap.size → ok k → ok' k) → I ok' w s
  low : ∀ k, S k → k < B
theorem Back.below {σ : Type} {F : FuncId} {caps : Array Value} {S : Nat → Prop} {B : Nat} {I : (Nat → Prop) → World → σ → Prop} {P : List Int → Prop} {step : σ → List Int → σ} (h : Back F caps S B I P step) {ok : Nat → Prop} {w w' : World} {s : σ} (hI : I ok w s) (hb : Below w.heap.size w w') : I ok w' s :=
  h.stay ok w w' s (fun _ => False) hI (Keeps.of_below hb) (fun _ h => h.elim)
/-- An append of one cell to a row of one's own: in place (the very slice, longer), or in a new block. -/
theorem append_two {P : Program} (w : World) (base : Nat) (t ty e : TypeId) (i : TypeInfo) (z : Value) (bytes : Nat) (ht : P.underlying t = some (.slice e)) (hi : P.info? e = some i) (hz : i.zero = some z) (hsize : i.size = 1) (hby : i.bytes = bytes) (hzs : z.cells.size = 1)
    (v : Value) (n : Nat) (xs : List Value) (hown : w.ownsRow base e 1 v n xs) (a : Addr) (c : Nat) (news : List Value) (hl : news.length = 1 * 1) (hnews : ∀ j u, news[j]? = some u → w.cell? (a.add j) = some u) (h1 : ∀ u ∈ news, u.oneCell' = true)
    (h63 : n + 1 ≤ maxLen) (hbytes : (n + 1) * bytes ≤ 140737488355328) (hbase : base ≤ w.heap.size) :
    ∃ v' w', (Builtin.append_ #[t, t] ty #[v, .slice (some a) 1 c]).run P w = .ok v' w' ∧ w'.ownsRow base e 1 v' (n + 1) (xs ++ news) ∧
      ((∃ g cap, v = .slice (some ⟨g, 0, none⟩) n cap ∧ v' = .slice (some ⟨g, 0, none⟩) (n + 1) cap ∧ w.grownBy w' (some g)) ∨ (w.grownBy w' none ∧ v'.ownBlock = some w.heap.size)) := by
  obtain ⟨v', w', hr, ho, hg, _, hat⟩ := run_append_own_at (P := P) w base t ty e i z 1 bytes ht hi hz hsize hby hzs (by decide) v n xs hown a 1 c news hl hnews h1 h63 hbytes hbase
  refine ⟨v', w', hr, ho, ?_⟩
  rcases hown.2 with ⟨rfl, rfl⟩ | ⟨g, cap, cur, rfl, hbg, hh, hnc, hcm, hcs, htake⟩
  · refine .inr ⟨hg, ?_⟩
    rcases hat with hat | hat
    · exfalso
      obtain ⟨_, h2⟩ := ho
      rcases h2 with ⟨rfl, h3⟩ | ⟨g, cap, cur, rfl, _⟩
      · omega
      · simp [Value.ownBlock] at hat
    · exact hat
  · by_cases hroom : n + 1 ≤ cap
    · obtain ⟨w2, hr2, ho2, hg2⟩ := run_append_fits (P := P) w base t ty e i 1 ht hi hsize g n cap xs hown a 1 c news hl hnews h1 hroom
      rw [hr] at hr2
      injection hr2 with e1 e2
      subst e1
      subst e2
      exact .inl ⟨g, cap, rfl, rfl, hg2⟩
    · have holds : ∀ j u, xs[j]? = some u → w.cell? ((⟨g, 0, none⟩ : Addr).add j) = some u := hown.cells (g := g) rfl
      have hr2 := run_append_grow (P := P) w t ty e i z ht hi hz ⟨g, 0, none⟩ n cap xs (by rw [hsize]; exact hown.1) holds a 1 c news (by rw [hsize]; exact hl) hnews (by omega) (by simp only [maxLen] at h63; omega) (growslice_fits (by omega) (by rw [hby]; exact hbytes))
      rw [hr] at hr2
      injection hr2 with e1 e2
      subst e1
      subst e2
      exact .inr ⟨⟨rfl, rfl, rfl, by simp, fun k hk _ => Below.heap_alloc w.drew _ k hk⟩, rfl⟩
/-- A row's beginning, the same block. -/
theorem R_cut {w : World} {base g cap : Nat} {ok : Nat → Prop} {xs : List Int} {x : Int} (h : Kd.R (Kd.int .i64) 3 w base ok (.slice (some ⟨g, 0, none⟩) (xs.length + 1) cap) (xs ++ [x])) : Kd.R (Kd.int .i64) 3 w base ok (.slice (some ⟨g, 0, none⟩) xs.length cap) xs := by
  have h0 := h.1
  have ho := Kd.own_of_R h
  refine Kd.R_of_own ?_ (fun k hk => h0 k hk)
  obtain ⟨hl, hs⟩ := ho
  rcases hs with ⟨e, _⟩ | ⟨g', cap', cur, e, hbg, hh, hnc, hcm, hcs, htake⟩
  · cases e
  · injection e with e1 e2 e3
    injection e1 with e1
    injection e1 with e1
    subst e1
    subst e3
    have hlen : (xs ++ [x]).length = xs.length + 1 := by simp
    rw [hlen] at hnc htake
    refine ⟨by simp [encs], .inr ⟨g, cap, cur, rfl, hbg, hh, by omega, hcm, hcs, ?_⟩⟩
    have h2 := congrArg (List.take (xs.length * 1)) htake
    rw [List.take_take, show min (xs.length * 1) ((xs.length + 1) * 1) = xs.length * 1 from by omega] at h2
    rw [h2]
    simp [encs]
theorem Keeps.trans2 {T T1 T2 : Nat → Prop} {a b c : World} (h : Keeps T1 a b) (k : Keeps T2 b c) (hT : ∀ i, i < a.heap.size → ¬ T i → ¬ T1 i ∧ ¬ T2 i) : Keeps T a c :=
  ⟨k.os.trans h.os, k.tape.trans h.tape, k.output.trans h.output, Nat.le_trans h.size k.size, fun i hi hn => (k.block i (Nat.lt_of_lt_of_le hi h.size) (hT i hi hn).2).trans (h.block i hi (hT i hi hn).1)⟩
/-- The boxes that choices$1 has captured; they lie below block B2. -/
structure Boxes (F : FuncId) (caps : Array Value) (S : Nat → Prop) (B B2 n m Bn Bc Bm Be : Nat) (w : World) : Prop where
  base : B2 ≤ w.heap.size
  bb : B ≤ B2
  lt : Bn < B2 ∧ Bc < B2 ∧ Bm < B2 ∧ Be < B2
  cn : w.cell? ⟨Bn, 0, none⟩ = some (.int .i64 n)
  cc : w.cell? ⟨Bc, 0, none⟩ = some (.func (.func F) #[] caps)
  cm : w.cell? ⟨Bm, 0, none⟩ = some (.int .i64 m)
  ce : w.cell? ⟨Be, 0, none⟩ = some (.func (.func 79) #[] #[.pointer (some ⟨Bn, 0, none⟩), .pointer (some ⟨Bc, 0, none⟩), .pointer (some ⟨Bm, 0, none⟩), .pointer (some ⟨Be, 0, none⟩)])
  st : ¬ S Bn ∧ ¬ S Bc ∧ ¬ S Bm ∧ ¬ S Be
theorem Boxes.keeps {F : FuncId} {caps : Array Value} {S T : Nat → Prop} {B B2 n m Bn Bc Bm Be : Nat} {w w' : World} (h : Boxes F caps S B B2 n m Bn Bc Bm Be w) (k : Keeps T w w') (hT : ∀ i, T i → S i ∨ B2 ≤ i) : Boxes F caps S B B2 n m Bn Bc Bm Be w' := by
  have l := h.lt
  have s := h.st
  have no : ∀ i, i < B2 → ¬ S i → ¬ T i := fun i hi hs ht => by rcases hT i ht with h | h; exact hs h; omega
  exact ⟨Nat.le_trans h.base k.size, h.bb, h.lt, k.cell h.cn (no _ l.1 s.1), k.cell h.cc (no _ l.2.1 s.2.1), k.cell h.cm (no _ l.2.2.1 s.2.2.1), k.cell h.ce (no _ l.2.2.2 s.2.2.2), h.st⟩
set_option maxHeartbeats 8000000 in
set_option maxRecDepth 100000 in
theorem extend_any {σ : Type} {F : FuncId} {caps : Array Value} {S : Nat → Prop} {B : Nat} {I : (Nat → Prop) → World → σ → Prop} {P : List Int → Prop} {step : σ → List Int → σ} (hb : Back F caps S B I P step) (B2 n m Bn Bc Bm Be : Nat) (hn : n ≤ 1000) (hm : m ≤ 1000) :
    ∀ (d : Nat) (jobs : List Int) (w : World) (s : σ) (A : Option Addr) (c : Nat) (ok : Nat → Prop), jobs.length + d = n → (∀ l ∈ chs m d jobs, P l) → Boxes F caps S B B2 n m Bn Bc Bm Be w → I ok w s → Kd.R (Kd.int .i64) 3 w B2 (fun k => B2 ≤ k) (.slice A jobs.length c) jobs →
    (∀ k, ok k → some k ≠ (Value.slice A jobs.length c).ownBlock) → (∀ k, w.heap.size ≤ k → ok k) →
    Calls Try.prog 79 #[.slice A jobs.length c, .pointer (some ⟨Bn, 0, none⟩), .pointer (some ⟨Bc, 0, none⟩), .pointer (some ⟨Bm, 0, none⟩), .pointer (some ⟨Be, 0, none⟩)] w fun e w' => e = .returned (.tuple #[]) ∧ I ok w' ((chs m d jobs).foldl step s) ∧ Kd.R (Kd.int .i64) 3 w' B2 (fun k => B2 ≤ k) (.slice A jobs.length c) jobs ∧ Keeps (fun k => S k ∨ some k = (Value.slice A jobs.length c).ownBlock) w w' := by
  intro d
  induction d with
  | zero =>
    intro jobs w s A c ok hd hP hX hI hC hok hfr
    have hN := hX.cn
    have hCB := hX.cc
    have hc : jobs.length ≤ c := (Kd.R_reads' hC).2.1
    have HR := Aside0.mk hC
    have HC := Aside0.mk (Kd.R_reads' hC).2.2
    have HX := Aside0.mk hX
    have HI := Aside0.mk hI
    have HFR := Aside0.mk hfr
    have HP := Aside0.mk (hP jobs (by simp [chs]))
    have HN : Aside0 (jobs.length = n) := Aside0.mk (by omega)
    have c1 : ((jobs.length : Int) == (n : Int)) = true := beq_iff_eq.2 (by omega)
    clear hC hX hI hP hd hok hfr
    go_enter Try.func79, Try.ntmps79
    go_wp2
    refine start_ (n := 4) (S := fun w' => w'.cell? ⟨Bc, 0, none⟩ = some (.func (.func F) #[] caps)) (ds := [3]) #[false, false, false, false] (by kernel_rfl) rfl rfl hCB (fun hHeld => ?_)
    have HB0 : Aside0 (Below w.heap.size w w.drew) := Aside0.mk (below_drew1 (Below.refl _ _))
    generalize w.drew = w0 at HB0 hHeld ⊢
    refine take_ (i := 0) (N := some 11) (v := ?_) (a' := ?_) #[true, false, false, false] rfl rfl (by kernel_rfl) (fun _ _ _ h => h) (Or.inl ⟨by rfl, ?_⟩) hHeld ?_ ?_
    rotate_left
    · intro w' s0
      go_simp
      with_reducible rfl
    rotate_left
    · simp only [Act.put, List.setIfInBounds_toArray, List.set_cons_zero, List.set_cons_succ, i64_w, i32_w]
      rfl
    refine pure_ (i := 1) (N := some 12) (v := ?_) (a' := ?_) #[true, true, false, false] rfl rfl (by kernel_rfl) (fun _ _ _ h => h) (Or.inl ⟨by rfl, ?_⟩) ?_ ?_
    rotate_left
    · intro w'
      go_simp
      with_reducible rfl
    rotate_left
    · simp only [Act.put, List.setIfInBounds_toArray, List.set_cons_zero, List.set_cons_succ, i64_w, i32_w]
      rfl
    refine one_ (i := 2) (N := some 13) #[true, true, true, false] rfl rfl (by kernel_rfl) (by decide) (fun K hK => ?_)
    refine goes_ Try.func52 (by kernel_rfl) rfl #[.slice A jobs.length c] (by rfl) rfl rfl (by (try simp only [List.map_toArray, List.map_cons, List.map_nil]); first | done | rfl) ?_
    refine (slices_Clone_int_int.calls A c jobs jobs w0 (Kd.C_below HC.out HB0.out) hc (by unfold slices_Clone_int_int.f; exact if_pos (by have := HN.out; simp only [List.length_nil]; omega))).mono ?_
    rintro e w1 ⟨v, rfl, hR, hB⟩
    refine ⟨v, rfl, ?_⟩
    refine hK.out _ _ ((Keeps.of_below (S := S) hB).cell hHeld HX.out.st.2.1) (fun hHeld => ?_)
    clear hK K
    refine norm_ (a' := ?_) ?_ ?_
    rotate_left
    · show Act.put _ (some 13) _ = _
      simp only [Act.put, List.setIfInBounds_toArray, List.set_cons_zero, List.set_cons_succ, i64_w, i32_w]
      rfl
    refine last_ (i := 3) (N := some 14) #[true, true, true, true] rfl rfl (by kernel_rfl) (by decide) (fun K hK => ?_)
    have hB1 := below_step HB0.out hB
    have hI1 := hb.below HI.out hB1
    have hsz := HB0.out.size
    have hR2 : Kd.R (Kd.int .i64) 3 w1 B ok v jobs := Kd.R_lower (Kd.R_mono (Kd.R_bound hR) (fun k hk => HFR.out k (Nat.le_trans hsz hk.2.1))) (by have := HX.out.base; have := HX.out.bb; omega)
    refine call_ F (#[v] ++ caps) (by rfl) rfl ?hrun ?_
    case hrun =>
      unfold execOp
      simp [resolve, Deferred.ofValue, invoke, Act.eval, hb.enters]
    refine (hb.call ok w1 s v jobs hI1 HP.out (fun k hk => HFR.out k (Nat.le_trans hB1.size hk)) (by have := HX.out.base; have := HX.out.bb; have := hB1.size; omega) hR2).mono ?_
    rintro e w2 ⟨rfl, hI2, hK2⟩
    refine ⟨_, rfl, ?_⟩
    refine hK.out _ _ ?_
    clear hK K
    refine norm_ (a' := ?_) ?_ ?_
    rotate_left
    · show Act.put _ (some 14) _ = _
      simp only [Act.put, List.setIfInBounds_toArray, List.set_cons_zero, List.set_cons_succ, i64_w, i32_w]
      rfl
    refine done_ (by kernel_rfl) ?_
    go_wp2
    refine bodyPost_ret (results_none rfl _ _ _) rfl ?_
    have hKK : Keeps S w w2 := (Keeps.of_below hB1).trans hK2
    exact ⟨rfl, hI2, Kd.R_step HR.out (fun k hk hl => hKK.block k hl (fun hs => by have := hb.low k hs; have := HX.out.bb; omega)), hKK.mono (fun k _ h => .inl h)⟩
  | succ d ih =>
    intro jobs w s A c ok hd hP hX hI hC hok hfr
    have hN := hX.cn
    have hMM := hX.cm
    have hc : jobs.length ≤ c := (Kd.R_reads' hC).2.1
    have HR := Aside0.mk hC
    have HX := Aside0.mk hX
    have HI := Aside0.mk hI
    have HOK := Aside0.mk hok
    have HFR := Aside0.mk hfr
    have HP : Aside0 (∀ l ∈ chIn (chs m d) jobs (m - 0) ((0 : Nat) : Int), P l) := Aside0.mk hP
    have HF : Aside0 ((chs m (d + 1) jobs).foldl step s = (chIn (chs m d) jobs (m - 0) ((0 : Nat) : Int)).foldl step s) := Aside0.mk rfl
    have HN : Aside0 (jobs.length + (d + 1) = n) := Aside0.mk hd
    have c1 : ((jobs.length : Int) == (n : Int)) = false := beq_eq_false_iff_ne.2 (by omega)
    clear hC hX hI hP hd hok hfr
    go_enter Try.func79, Try.ntmps79
    go_wp2
    go_loopw [16] (fun i w' => ∃ (k : Nat) (s' : σ), k ≤ m ∧ i = .int .i64 k ∧ Aside0 ((chs m (d + 1) jobs).foldl step s = (chIn (chs m d) jobs (m - k) k).foldl step s') ∧ Aside0 (∀ l ∈ chIn (chs m d) jobs (m - k) k, P l) ∧ Aside0 (I ok w' s') ∧ Aside0 (Kd.R (Kd.int .i64) 3 w' B2 (fun k => B2 ≤ k) (.slice A jobs.length c) jobs) ∧ Aside0 (Keeps (fun k => S k ∨ some k = (Value.slice A jobs.length c).ownBlock) w w')) (fun i _ => m - (intOf i).toNat)
    case atStart => exact ⟨0, s, Nat.zero_le _, rfl, HF, HP, HI, HR, Aside0.mk (Keeps.refl _ _)⟩
    case round =>
      clear HF HP
      obtain ⟨k, s', hk, rfl, hf, hp, hi, HRr, hkp⟩ := hrel
      by_cases hlt : k < m
      · have hown : ∀ b, some b = (Value.slice A jobs.length c).ownBlock → B2 ≤ b := fun b hb2 => Kd.R_base HRr.out b hb2.symm
        have HOWN := Aside0.mk hown
        have HXr : Aside0 (Boxes F caps S B B2 n m Bn Bc Bm Be wr) := Aside0.mk (HX.out.keeps hkp.out (fun i hi => hi.imp id (hown i)))
        have hEr := HXr.out.ce
        have hunf : chIn (chs m d) jobs (m - k) (k : Int) = chs m d (jobs ++ [(k : Int)]) ++ chIn (chs m d) jobs (m - (k + 1)) ((k + 1 : Nat) : Int) := by
          rw [show m - k = (m - (k + 1)) + 1 from by omega, chIn]
          rfl
        have HU := Aside0.mk hunf
        have hs2 : Aside0 ((chs m (d + 1) jobs).foldl step s = (chIn (chs m d) jobs (m - (k + 1)) ((k + 1 : Nat) : Int)).foldl step ((chs m d (jobs ++ [(k : Int)])).foldl step s')) := Aside0.mk (by rw [hf.out, HU.out, List.foldl_append])
        have hp2 : Aside0 (∀ l ∈ chIn (chs m d) jobs (m - (k + 1)) ((k + 1 : Nat) : Int), P l) := Aside0.mk (fun l hl => hp.out l (by rw [HU.out]; exact List.mem_append_right _ hl))
        have hp3 : Aside0 (∀ l ∈ chs m d (jobs ++ [(k : Int)]), P l) := Aside0.mk (fun l hl => hp.out l (by rw [HU.out]; exact List.mem_append_left _ hl))
        clear hunf hf hp hown
        go_wp2
        refine start_ (n := 6) (S := fun w' => w'.cell? ⟨Be, 0, none⟩ = some (.func (.func 79) #[] #[.pointer (some ⟨Bn, 0, none⟩), .pointer (some ⟨Bc, 0, none⟩), .pointer (some ⟨Bm, 0, none⟩), .pointer (some ⟨Be, 0, none⟩)])) (ds := [5]) #[false, false, false, false, false, false] (by kernel_rfl) rfl rfl hEr (fun hHeld => ?_)
        have HB2 : Aside0 (Below wr.heap.size wr wr.drew) := Aside0.mk (below_drew1 (Below.refl _ _))
        generalize wr.drew = w0 at HB2 hHeld ⊢
        refine take_ (i := 0) (N := some 19) (v := ?_) (a' := ?_) #[true, false, false, false, false, false] rfl rfl (by kernel_rfl) (fun _ _ _ h => h) (Or.inl ⟨by rfl, ?_⟩) hHeld ?_ ?_
        rotate_left
        · intro w' s0
          go_simp
          with_reducible rfl
        rotate_left
        · simp only [Act.put, List.setIfInBounds_toArray, List.set_cons_zero, List.set_cons_succ, i64_w, i32_w]
          rfl
        refine pure_ (i := 1) (N := some 20) (v := ?_) (a' := ?_) #[true, true, false, false, false, false] rfl rfl (by kernel_rfl) (fun _ _ _ h => h) (Or.inl ⟨by rfl, ?_⟩) ?_ ?_
        rotate_left
        · intro w'
          go_simp
          with_reducible rfl
        rotate_left
        · simp only [Act.put, List.setIfInBounds_toArray, List.set_cons_zero, List.set_cons_succ, i64_w, i32_w]
          rfl
        refine pure_ (i := 2) (N := some 21) (v := ?_) (a' := ?_) #[true, true, true, false, false, false] rfl rfl (by kernel_rfl) (fun _ _ _ h => h) (Or.inl ⟨by rfl, ?_⟩) ?_ ?_
        rotate_left
        · intro w'
          go_simp
          with_reducible rfl
        rotate_left
        · simp only [Act.put, List.setIfInBounds_toArray, List.set_cons_zero, List.set_cons_succ, i64_w, i32_w]
          rfl
        refine one_ (i := 3) (N := some 22) #[true, true, true, true, false, false] rfl rfl (by kernel_rfl) (by decide) (fun K hK => ?_)
        refine Kd.R_lit_step (Kd.int .i64) _ 3 ?hg1 (N := 22) ?hd1 (xs := [(k : Int)]) (inner := [.int .i64 k]) (ok := fun _ => True) (okp := fun _ => True) ?hr1 ?hp1 (fun _ hk => hk) trivial (Below.refl _ _) (Nat.le_refl _) (by simp) ?_
        case hd1 => rfl
        case hg1 => rfl
        case hr1 => first | (go_simp; done) | (go_simp; rfl)
        case hp1 => exact (Reps.one (show Kd.M (Kd.int .i64) _ _ _ (k : Int) [.int .i64 k] from rfl) (Reps.none _ _))
        intro v1 w3 hR1 hb3 hg_ hnew_
        clear hg_ hnew_
        refine hK.out _ _ ((Keeps.of_below (S := S) hb3).cell hHeld HXr.out.st.2.2.2) (fun hHeld => ?_)
        clear hK K
        obtain ⟨A1, c4, e4⟩ := Kd.R_slice hR1
        subst e4
        refine norm_ (a' := ?_) ?_ ?_
        rotate_left
        · show Act.put _ (some 22) _ = _
          simp only [Act.put, List.setIfInBounds_toArray, List.set_cons_zero, List.set_cons_succ, i64_w, i32_w]
          rfl
        have hB3 := below_step HB2.out hb3
        have hRl : Kd.R (Kd.int .i64) 3 w3 B2 (fun k => B2 ≤ k) (.slice A jobs.length c) jobs := Kd.R_below HRr.out hB3
        obtain ⟨ad1, e5, hx1⟩ := Kd.at_int (Kd.R_reads' hR1).2.2 (0 : Int) (Int.le_refl _) (by simp)
        subst e5
        obtain ⟨i3, hi3, hz3⟩ := Option.map_eq_some_iff.1 info3
        simp only [Prod.mk.injEq] at hz3
        obtain ⟨hz31, hz32, hz33⟩ := hz3
        obtain ⟨v5, w5, hr5, ho5, hcase⟩ := append_two (P := Try.prog) w3 B2 22 22 3 i3 (.int .i64 0) 8 Try.underlying22 hi3 hz31 hz32 hz33 rfl (.slice A jobs.length c) jobs.length _ (Kd.own_of_R hRl) ad1 c4 [.int .i64 (k : Int)] rfl
          (by
            intro j u hj
            cases j with
            | zero =>
              obtain rfl : Value.int .i64 (k : Int) = u := by simpa using hj
              exact hx1
            | succ j => simp at hj)
          (by
            intro u hu
            obtain rfl : u = Value.int .i64 (k : Int) := by simpa using hu
            rfl) (by have := HN.out; simp only [maxLen]; omega) (by have := HN.out; omega) (Nat.le_trans HXr.out.base hB3.size)
        have hk35 : Keeps (fun b => some b = (Value.slice A jobs.length c).ownBlock) w3 w5 := by
          rcases hcase with ⟨g, cap, e1, e2, hg⟩ | ⟨hg, _⟩
          · rw [e1]; exact Keeps.of_grown hg
          · exact (Keeps.of_grown hg).mono (fun _ _ h => by cases h)
        refine one_ (i := 4) (N := some 23) #[true, true, true, true, true, false] rfl rfl (by kernel_rfl) (by decide) (fun K hK => ?_)
        refine value_ (w1 := w5) (v := v5) (by rfl) rfl ?hrun5 ?_
        case hrun5 =>
          unfold execOp
          simp only [resolve, invoke, builtin, Sem.run_bind, Sem.run_pure, Result.andThen_ok, List.map_toArray, List.map_cons, List.map_nil]
          have hr6 := hr5
          simp [Act.eval, hr6]
        have hXw3 := HXr.out.keeps (Keeps.of_below (S := S) hB3) (fun i h => .inl h)
        have hXw5 := hXw3.keeps hk35 (fun i h => .inr (HOWN.out i h))
        refine hK.out _ _ hXw5.ce (fun hHeld => ?_)
        clear hK K
        refine norm_ (a' := ?_) ?_ ?_
        rotate_left
        · show Act.put _ (some 23) _ = _
          simp only [Act.put, List.setIfInBounds_toArray, List.set_cons_zero, List.set_cons_succ, i64_w, i32_w]
          rfl
        have hR5 : Kd.R (Kd.int .i64) 3 w5 B2 (fun k => B2 ≤ k) v5 (jobs ++ [(k : Int)]) := Kd.R_of_own (by
          have e6 : encs (Value.int .i64) (jobs ++ [(k : Int)]) = encs (Value.int .i64) jobs ++ [.int .i64 (k : Int)] := by simp [encs]
          rw [e6, List.length_append]
          exact ho5) (fun b hb5 => (ho5.lt b hb5).1)
        have hlt5 := Kd.R_lt hR5
        have hI3 := hb.below hi.out hB3
        have hI5 : I (fun b => ok b ∧ some b ≠ v5.ownBlock) w5 s' := by
          have h1 : I (fun b => ok b ∧ some b ≠ v5.ownBlock) w3 s' := hb.mono _ _ _ _ hI3 (fun b hl ho => ⟨ho, fun he => by
            rcases hcase with ⟨g, cap, e1, e2, hg⟩ | ⟨hg, e2⟩
            · exact HOK.out b ho (by rw [e1]; rw [e2] at he; exact he)
            · rw [e2] at he; injection he with he; omega⟩)
          exact hb.stay _ _ _ _ _ h1 hk35 (fun b hb5 => ⟨Nat.le_trans HXr.out.bb (HOWN.out b hb5), fun ho => HOK.out b ho.1 hb5⟩)
        have hszr := hkp.out.size
        have hsz3 := hB3.size
        have hsz5 := hk35.size
        obtain ⟨A5, c5, e5⟩ := Kd.R_slice hR5
        subst e5
        refine last_ (i := 5) (N := some 24) #[true, true, true, true, true, true] rfl rfl (by kernel_rfl) (by decide) (fun K hK => ?_)
        refine call_ 79 #[.slice A5 (jobs ++ [(k : Int)]).length c5, .pointer (some ⟨Bn, 0, none⟩), .pointer (some ⟨Bc, 0, none⟩), .pointer (some ⟨Bm, 0, none⟩), .pointer (some ⟨Be, 0, none⟩)] (by rfl) rfl ?hrun ?_
        case hrun =>
          unfold execOp
          simp [resolve, Deferred.ofValue, invoke, Act.eval, enters_ Try.func79 (by kernel_rfl) rfl]
        refine (ih (jobs ++ [(k : Int)]) w5 s' A5 c5 (fun b => ok b ∧ some b ≠ (Value.slice A5 (jobs ++ [(k : Int)]).length c5).ownBlock) (by have := HN.out; simp only [List.length_append, List.length_cons, List.length_nil]; omega) hp3.out hXw5 hI5 hR5 (fun _ h => h.2) (fun b hb5 => ⟨HFR.out b (by omega), fun he => by have := hlt5 b he.symm; omega⟩)).mono ?_
        rintro e w6 ⟨rfl, hI6, hR6, hK6⟩
        refine ⟨_, rfl, ?_⟩
        refine hK.out _ _ ?_
        clear hK K
        refine norm_ (a' := ?_) ?_ ?_
        rotate_left
        · show Act.put _ (some 24) _ = _
          simp only [Act.put, List.setIfInBounds_toArray, List.set_cons_zero, List.set_cons_succ, i64_w, i32_w]
          rfl
        have HI6 := Aside0.mk (hb.mono _ _ _ _ hI6 (fun b _ h => h.1))
        have hk36 : Keeps (fun b => S b ∨ some b = (Value.slice A jobs.length c).ownBlock) w3 w6 := hk35.trans2 hK6 (fun b hl hn => ⟨fun h => hn (.inr h), fun h => by
          rcases h with h | h
          · exact hn (.inl h)
          · rcases hcase with ⟨g, cap, e1, e2, hg⟩ | ⟨hg, e2⟩
            · exact hn (.inr (by rw [e1]; rw [e2] at h; exact h))
            · rw [e2] at h; injection h with h; omega⟩)
        have HK6 := Aside0.mk (hkp.out.trans ((Keeps.of_below hB3).trans hk36))
        have HR6 : Aside0 (Kd.R (Kd.int .i64) 3 w6 B2 (fun k => B2 ≤ k) (.slice A jobs.length c) jobs) := Aside0.mk (by
          rcases hcase with ⟨g, cap, e1, e2, hg⟩ | ⟨hg, e2⟩
          · injection e1 with e11 e12 e13
            subst e11
            subst e13
            injection e2 with e21 e22 e23
            subst e21
            subst e23
            rw [List.length_append, List.length_cons, List.length_nil] at hR6
            exact R_cut hR6
          · refine Kd.R_mono (Kd.R_step (Kd.R_step (Kd.R_bound hRl) (fun b _ hl => hg.block b hl (by simp))) (fun b hb6 hl => hK6.block b hl (fun h => ?_))) (fun _ h => h.1)
            rcases h with h | h
            · have := hb.low b h
              have := HX.out.bb
              have := hb6.1
              omega
            · rw [e2] at h
              injection h with h
              have := hb6.2.2.1
              omega)
        clear hI6 hK6 hR6 hk36 hI5 hR5 hI3 hk35
        refine done_ (by kernel_rfl) ?_
        go_wp2
        go_roundw
        case rel => exact ⟨k + 1, _, by omega, by go_num, hs2, hp2, HI6, HR6, HK6⟩
        case measure => simp [intOf]; omega
      · have hs2 : Aside0 ((chs m (d + 1) jobs).foldl step s = s') := Aside0.mk (by rw [hf.out, show m - k = 0 from by omega]; rfl)
        clear hf hp
        go_wp2
        go_end0
        exact ⟨rfl, by rw [hs2.out]; exact hi.out, HRr.out, hkp.out⟩
theorem st_func {P : Program} (a : Addr) (m : Mode) (f : Fn) (b c : Array Value) (w : World) : (store a (.func f b c) m).run P w = stored P w a (.func f b c) m := run_store P w a _ m rfl
attribute [local go_sem] st_func
theorem cho_boxes {F : FuncId} {caps : Array Value} {S : Nat → Prop} {B : Nat} {w w1 w2 w3 w4 : World} {g1 g2 g3 g4 : Nat} (n m : Nat) (hB0 : B ≤ w.heap.size) (hlow : ∀ k, S k → k < B)
    (h1 : g1 = w.heap.size) (x1 : w1.heap[g1]? = some (.cells #[.int .i64 n] 3 (0, 0))) (b1 : Below w.heap.size w w1)
    (h2 : g2 = w1.heap.size) (x2 : w2.heap[g2]? = some (.cells #[.int .i64 m] 3 (0, 0))) (b2 : Below w1.heap.size w1 w2)
    (h3 : g3 = w2.heap.size) (x3 : w3.heap[g3]? = some (.cells #[.func (.func F) #[] caps] 69 (0, 0))) (b3 : Below w2.heap.size w2 w3)
    (h4 : g4 = w3.heap.size) (x4 : w4.heap[g4]? = some (.cells #[.nilFunc] 69 (0, 0))) (b4 : Below w3.heap.size w3 w4) :
    Boxes F caps S B (w4.setCell ⟨g4, 0, none⟩ (.func (.func 79) #[] #[.pointer (some ⟨g1, 0, none⟩), .pointer (some ⟨g3, 0, none⟩), .pointer (some ⟨g2, 0, none⟩), .pointer (some ⟨g4, 0, none⟩)])).heap.size n m g1 g3 g2 g4 (w4.setCell ⟨g4, 0, none⟩ (.func (.func 79) #[] #[.pointer (some ⟨g1, 0, none⟩), .pointer (some ⟨g3, 0, none⟩), .pointer (some ⟨g2, 0, none⟩), .pointer (some ⟨g4, 0, none⟩)])) ∧ Below w.heap.size w (w4.setCell ⟨g4, 0, none⟩ (.func (.func 79) #[] #[.pointer (some ⟨g1, 0, none⟩), .pointer (some ⟨g3, 0, none⟩), .pointer (some ⟨g2, 0, none⟩), .pointer (some ⟨g4, 0, none⟩)])) := by
  have s1 := b1.size
  have s2 := b2.size
  have s3 := b3.size
  have s4 := b4.size
  have l1 := blk_lt x1
  have l2 := blk_lt x2
  have l3 := blk_lt x3
  have l4 := blk_lt x4
  have hz : (w4.setCell ⟨g4, 0, none⟩ (.func (.func 79) #[] #[.pointer (some ⟨g1, 0, none⟩), .pointer (some ⟨g3, 0, none⟩), .pointer (some ⟨g2, 0, none⟩), .pointer (some ⟨g4, 0, none⟩)])).heap.size = w4.heap.size := by simp [World.setCell]
  have hB : Below w.heap.size w (w4.setCell ⟨g4, 0, none⟩ (.func (.func 79) #[] #[.pointer (some ⟨g1, 0, none⟩), .pointer (some ⟨g3, 0, none⟩), .pointer (some ⟨g2, 0, none⟩), .pointer (some ⟨g4, 0, none⟩)])) := Below.setCell (below_step b1 (below_step b2 (below_step b3 b4))) (by show w.heap.size ≤ g4; omega) _
  have y1 := blk_below (blk_below (blk_below x1 b2) b3) b4
  have y2 := blk_below (blk_below x2 b3) b4
  have y3 := blk_below x3 b4
  refine ⟨⟨Nat.le_refl _, by omega, by omega, ?_, ?_, ?_, (blk_cell (blk_set x4 0 _) 0).trans rfl, fun h => by have := hlow _ h; omega, fun h => by have := hlow _ h; omega, fun h => by have := hlow _ h; omega, fun h => by have := hlow _ h; omega⟩, hB⟩
  · exact (cell_far (p := ⟨g4, 0, none⟩) (by show g1 ≠ g4; omega) _).trans ((blk_cell y1 0).trans rfl)
  · exact (cell_far (p := ⟨g4, 0, none⟩) (by show g3 ≠ g4; omega) _).trans ((blk_cell y3 0).trans rfl)
  · exact (cell_far (p := ⟨g4, 0, none⟩) (by show g2 ≠ g4; omega) _).trans ((blk_cell y2 0).trans rfl)
set_option maxHeartbeats 8000000 in
set_option maxRecDepth 100000 in
theorem choices_any {σ : Type} {F : FuncId} {caps : Array Value} {S : Nat → Prop} {B : Nat} {I : (Nat → Prop) → World → σ → Prop} {P : List Int → Prop} {step : σ → List Int → σ} (hb : Back F caps S B I P step) (n m : Nat) (hn : n ≤ 1000) (hm : m ≤ 1000) (w : World) (s : σ) (ok : Nat → Prop) (hP : ∀ l ∈ chs m n [], P l) (hB0 : B ≤ w.heap.size) (hI : I ok w s) (hfr : ∀ k, w.heap.size ≤ k → ok k) :
    Calls Try.prog 61 #[.int .i64 n, .int .i64 m, .func (.func F) #[] caps] w fun e w' => e = .returned (.tuple #[]) ∧ I ok w' ((chs m n []).foldl step s) ∧ Keeps S w w' := by
  have hlow := hb.low
  have HP := Aside0.mk hP
  have HI := Aside0.mk hI
  have HFR := Aside0.mk hfr
  clear hP hI hfr
  go_enter Try.func61, Try.ntmps61
  go_wp2_with (first | ((with_reducible refine gate_dst (N := 3) rfl ?_); refine box_event ?hg3 (N := 3) ?hd3 (cs := #[.int .i64 n]) (t := 3) ?hr3 ?_; (case hd3 => rfl); (case hg3 => rfl); (case hr3 => first | (go_simp; done) | (go_simp; rfl)); intro g1 hgg1 w1 hboxg1 hbg1; have HG1 := Aside0.mk hgg1; have HX1 := Aside0.mk hboxg1; have HB1 := Aside0.mk hbg1; clear hgg1 hboxg1 hbg1) | ((with_reducible refine gate_dst (N := 4) rfl ?_); refine box_event ?hg4 (N := 4) ?hd4 (cs := #[.int .i64 m]) (t := 3) ?hr4 ?_; (case hd4 => rfl); (case hg4 => rfl); (case hr4 => first | (go_simp; done) | (go_simp; rfl)); intro g2 hgg2 w2 hboxg2 hbg2; have HG2 := Aside0.mk hgg2; have HX2 := Aside0.mk hboxg2; have HB2 := Aside0.mk hbg2; clear hgg2 hboxg2 hbg2) | ((with_reducible refine gate_dst (N := 5) rfl ?_); refine box_event ?hg5 (N := 5) ?hd5 (cs := #[.func (.func F) #[] caps]) (t := 69) ?hr5 ?_; (case hd5 => rfl); (case hg5 => rfl); (case hr5 => first | (go_simp; done) | (go_simp; rfl)); intro g3 hgg3 w3 hboxg3 hbg3; have HG3 := Aside0.mk hgg3; have HX3 := Aside0.mk hboxg3; have HB3 := Aside0.mk hbg3; clear hgg3 hboxg3 hbg3) | ((with_reducible refine gate_dst (N := 6) rfl ?_); refine box_event ?hg6 (N := 6) ?hd6 (cs := #[.nilFunc]) (t := 69) ?hr6 ?_; (case hd6 => rfl); (case hg6 => rfl); (case hr6 => first | (go_simp; done) | (go_simp; rfl)); intro g4 hgg4 w4 hboxg4 hbg4; have hz1 : w4.cell? ⟨g4, 0, none⟩ = some .nilFunc := (blk_cell hboxg4 0).trans rfl; have hz2 := blk_frozen hboxg4 0; have hz4 : (w4.setCell ⟨g4, 0, none⟩ (.func (.func 79) #[] #[.pointer (some ⟨g1, 0, none⟩), .pointer (some ⟨g3, 0, none⟩), .pointer (some ⟨g2, 0, none⟩), .pointer (some ⟨g4, 0, none⟩)])).cell? ⟨g4, 0, none⟩ = some (.func (.func 79) #[] #[.pointer (some ⟨g1, 0, none⟩), .pointer (some ⟨g3, 0, none⟩), .pointer (some ⟨g2, 0, none⟩), .pointer (some ⟨g4, 0, none⟩)]) := (blk_cell (blk_set hboxg4 0 (.func (.func 79) #[] #[.pointer (some ⟨g1, 0, none⟩), .pointer (some ⟨g3, 0, none⟩), .pointer (some ⟨g2, 0, none⟩), .pointer (some ⟨g4, 0, none⟩)])) 0).trans rfl; have HG4 := Aside0.mk hgg4; have HX4 := Aside0.mk hboxg4; have HB4 := Aside0.mk hbg4; clear hgg4 hboxg4 hbg4) | (go_at_call 79; refine (extend_any hb _ n m g1 g3 g2 g4 hn hm n [] _ s none 0 ok (by simp) HP.out (cho_boxes n m hB0 hlow HG1.out HX1.out HB1.out HG2.out HX2.out HB2.out HG3.out HX3.out HB3.out HG4.out HX4.out HB4.out).1 (hb.below HI.out (cho_boxes n m hB0 hlow HG1.out HX1.out HB1.out HG2.out HX2.out HB2.out HG3.out HX3.out HB3.out HG4.out HX4.out HB4.out).2) (Kd.R_nil _ _ _ _ _) (fun k _ h => by simp [Value.ownBlock] at h) (fun k hk => HFR.out k (Nat.le_trans (cho_boxes n m hB0 hlow HG1.out HX1.out HB1.out HG2.out HX2.out HB2.out HG3.out HX3.out HB3.out HG4.out HX4.out HB4.out).2.size hk))).mono ?_; rintro e w5 ⟨rfl, hI5, _, hK5⟩; have HI5 := Aside0.mk hI5; have HK5 := Aside0.mk ((Keeps.of_below (S := S) (cho_boxes n m hB0 hlow HG1.out HX1.out HB1.out HG2.out HX2.out HB2.out HG3.out HX3.out HB3.out HG4.out HX4.out HB4.out).2).trans (hK5.mono (fun k _ h => h.elim id (fun e => by simp [Value.ownBlock] at e)))); clear hI5 hK5))
  go_end0
  exact ⟨rfl, HI5.out, HK5.out⟩
end Go.Proofs.Ytcgfedaoimhejaa.G

/- The callback of SplitColumns: of each division that fits, the first one whose greatest sum is smallest is kept. -/
namespace Go.Proofs.Ytcgfedaoimhejaa.G
open Go.RowKit Go.Proofs.YtcgfedaoimhejaaW.PrintWords Go.Proofs.YtcgfedaoimhejaaW.PrintLast Go.Proofs.YtcgfedaoimhejaaW.PrintMore
set_option linter.unusedVariables false
set_option linter.unusedSimpArgs false
theorem Keeps.of_set (w : World) (g i : Nat) (u : Value) : Keeps (fun k => k = g) w (w.setCell ⟨g, i, none⟩ u) := ⟨rfl, rfl, rfl, by simp [World.setCell], fun k hk hn => Below.heap_setCell w ⟨g, i, none⟩ u k hn⟩
theorem below_cellA {w w' : World} (hb : Below w.heap.size w w') {p : Addr} {v : Value} (h : w.cell? p = some v) : w'.cell? p = some v := (Keeps.of_below (S := fun _ => False) hb).cell h (fun h => h)
theorem below_cell {B j : Nat} {w w' : World} (hb : Below w.heap.size w w') {v : Value} (h : w.cell? ⟨B, j, none⟩ = some v) : w'.cell? ⟨B, j, none⟩ = some v := below_cellA hb h
theorem cols_zero (ws l : List Int) (n : Nat) : colsTo ws l n 0 = List.replicate n [] := by
  unfold colsTo
  simp only [colTo]
  exact List.map_const' ..|>.trans (by rw [List.length_range])
theorem cols_step (ws l : List Int) (n k : Nat) (c : Int) (h : rd l (k : Int) = c) (c0 : 0 ≤ c) (c1 : c < (n : Int)) : colsTo ws l n (k + 1) = (colsTo ws l n k).set c.toNat (colTo ws l c k ++ [rd ws (k : Int)]) := by
  apply List.ext_getElem
  · simp [colsTo]
  · intro i h1 h2
    have hi : i < n := by simpa [colsTo] using h1
    rw [List.getElem_set]
    simp only [colsTo, List.getElem_map, List.getElem_range, colTo]
    by_cases e : c.toNat = i
    · rw [if_pos e, if_pos (by omega), show c = (i : Int) by omega]
    · rw [if_neg e, if_neg (by omega)]
theorem S_formN {w : World} {base : Nat} {ok : Nat → Prop} {v : Value} {xs : List (List Int)} {n : Nat} (h : Kd.S (Kd.slice 3 (Kd.int .i64)) 22 w base ok v xs) (hn : xs.length = n) (hp : 0 < n) : ∃ g cap, v = .slice (some ⟨g, 0, none⟩) n cap ∧ base ≤ g := by
  obtain ⟨g, cap, e, hb, _⟩ := Kd.S_form h (by omega)
  exact ⟨g, cap, by rw [e, hn], hb⟩
/-- How the best columns and their sum stand in their boxes; what was there at wc stays. -/
structure SplitI (wc : World) (ws : List Int) (n : Nat) (Aw : Option Addr) (cw Bn Bw Bl Bb : Nat) (ok : Nat → Prop) (w : World) (s : List (List Int) × Int) : Prop where
  old : Below wc.heap.size wc w
  cn : w.cell? ⟨Bn, 0, none⟩ = some (.int .i64 n)
  cw_ : w.cell? ⟨Bw, 0, none⟩ = some (.slice Aw ws.length cw)
  bl : w.heap[Bl]? = some (.cells #[.int .i64 s.2] 3 (0, 0))
  bb : ∃ v, w.heap[Bb]? = some (.cells #[v] 37 (0, 0)) ∧ Kd.S (Kd.slice 3 (Kd.int .i64)) 22 w wc.heap.size ok v s.1
/-- The boxes' places: below B, from wc on, and told apart. -/
structure Places (wc : World) (B Bn Bw Bl Bb : Nat) : Prop where
  b : wc.heap.size ≤ B
  w : Bw < B
  k : Bn < B
  l : wc.heap.size ≤ Bl ∧ Bl < B
  bb : wc.heap.size ≤ Bb ∧ Bb < B
  n1 : Bw ≠ Bl ∧ Bw ≠ Bb ∧ Bn ≠ Bl ∧ Bn ≠ Bb ∧ Bl ≠ Bb
section
variable {wc : World} {ws : List Int} {n : Nat} {Aw : Option Addr} {cw B Bn Bw Bl Bb : Nat} {ok : Nat → Prop} {w w' : World} {s : List (List Int) × Int}
theorem SplitI.stay (hp : Places wc B Bn Bw Bl Bb) {T : Nat → Prop} (h : SplitI wc ws n Aw cw Bn Bw Bl Bb ok w s) (k : Keeps T w w') (hT : ∀ b, T b → B ≤ b ∧ ¬ ok b) : SplitI wc ws n Aw cw Bn Bw Bl Bb ok w' s := by
  obtain ⟨p1, p2, p3, p4, p5, _⟩ := hp
  have no : ∀ b, b < B → ¬ T b := fun b hb ht => by have := (hT b ht).1; omega
  obtain ⟨v, hv, hr⟩ := h.bb
  exact ⟨⟨k.os.trans h.old.os, k.tape.trans h.old.tape, k.output.trans h.old.output, Nat.le_trans h.old.size k.size, fun i hi => (k.block i (Nat.lt_of_lt_of_le hi h.old.size) (no i (by omega))).trans (h.old.block i hi)⟩,
    k.cell h.cn (no _ p3), k.cell h.cw_ (no _ p2), (k.block _ (blk_lt h.bl) (no _ p4.2)).trans h.bl, v, (k.block _ (blk_lt hv) (no _ p5.2)).trans hv, Kd.S_step hr (fun b ho hl => k.block b hl (fun ht => (hT b ht).2 ho))⟩
theorem SplitI.below (hp : Places wc B Bn Bw Bl Bb) (h : SplitI wc ws n Aw cw Bn Bw Bl Bb ok w s) (hb : Below w.heap.size w w') : SplitI wc ws n Aw cw Bn Bw Bl Bb ok w' s := h.stay hp (Keeps.of_below (S := fun _ => False) hb) (fun _ h => h.elim)
theorem SplitI.put (hp : Places wc B Bn Bw Bl Bb) (h : SplitI wc ws n Aw cw Bn Bw Bl Bb ok w s) {v : Value} {t : List (List Int)} {b0 : Nat} (hb0 : B ≤ b0) (hR : Kd.S (Kd.slice 3 (Kd.int .i64)) 22 w b0 ok v t) (m : Int) :
    SplitI wc ws n Aw cw Bn Bw Bl Bb ok ((w.setCell ⟨Bb, 0, none⟩ v).setCell ⟨Bl, 0, none⟩ (.int .i64 m)) (t, m) ∧ Keeps (fun k => k = Bl ∨ k = Bb) w ((w.setCell ⟨Bb, 0, none⟩ v).setCell ⟨Bl, 0, none⟩ (.int .i64 m)) := by
  obtain ⟨p1, p2, p3, p4, p5, q1, q2, q3, q4, q5⟩ := hp
  have k : Keeps (fun k => k = Bl ∨ k = Bb) w ((w.setCell ⟨Bb, 0, none⟩ v).setCell ⟨Bl, 0, none⟩ (.int .i64 m)) := ((Keeps.of_set w Bb 0 v).mono (fun _ _ h => .inr h)).trans ((Keeps.of_set _ Bl 0 _).mono (fun _ _ h => .inl h))
  obtain ⟨v0, hv, hr⟩ := h.bb
  refine ⟨⟨⟨k.os.trans h.old.os, k.tape.trans h.old.tape, k.output.trans h.old.output, Nat.le_trans h.old.size k.size, fun i hi => (k.block i (Nat.lt_of_lt_of_le hi h.old.size) (fun e => by omega)).trans (h.old.block i hi)⟩,
    k.cell h.cn (fun e => e.elim q3 q4), k.cell h.cw_ (fun e => e.elim q1 q2), ?_, v, ?_, ?_⟩, k⟩
  · exact blk_set ((Below.heap_setCell w ⟨Bb, 0, none⟩ v Bl q5).trans h.bl) 0 _
  · exact (Below.heap_setCell _ ⟨Bl, 0, none⟩ _ Bb (fun e => q5 e.symm)).trans (blk_set hv 0 v)
  · refine Kd.S_lower (Kd.S_mono (Kd.S_step (Kd.S_bound hR) (fun b hb hl => k.block b hl (fun e => by have := hb.2.1; omega))) (fun _ h => h.1)) (by omega)
/-- The cells that the walk reads and writes ahead of the stores. -/
structure Ready (w : World) (Bl Bb : Nat) (m : Int) (u v : Value) : Prop where
  l : w.cell? ⟨Bl, 0, none⟩ = some (.int .i64 m)
  lf : w.frozen? ⟨Bl, 0, none⟩ = false
  b : w.cell? ⟨Bb, 0, none⟩ = some u
  bf : w.frozen? ⟨Bb, 0, none⟩ = false
  l2 : (w.setCell ⟨Bb, 0, none⟩ v).cell? ⟨Bl, 0, none⟩ = some (.int .i64 m)
  l2f : (w.setCell ⟨Bb, 0, none⟩ v).frozen? ⟨Bl, 0, none⟩ = false
theorem SplitI.ready (hp : Places wc B Bn Bw Bl Bb) (h : SplitI wc ws n Aw cw Bn Bw Bl Bb ok w s) (v : Value) : ∃ u, Ready w Bl Bb s.2 u v := by
  obtain ⟨v0, hv, hr⟩ := h.bb
  have hl := (Below.heap_setCell w ⟨Bb, 0, none⟩ v Bl hp.n1.2.2.2.2).trans h.bl
  exact ⟨v0, ⟨(blk_cell h.bl 0).trans rfl, blk_frozen h.bl 0, (blk_cell hv 0).trans rfl, blk_frozen hv 0, (blk_cell hl 0).trans rfl, blk_frozen hl 0⟩⟩
end
theorem at_first {w : World} {A : Option Addr} {xs : List Int} (h : Kd.C (Kd.int .i64) w A xs.length xs) (hp : 0 < xs.length) : ∃ a0, A = some a0 ∧ ∀ k : Nat, k < xs.length → w.cell? (a0.add k) = some (.int .i64 (rd xs (k : Int))) := by
  obtain ⟨a0, e, _⟩ := Kd.at_int h (0 : Int) (Int.le_refl _) (by omega)
  refine ⟨a0, e, fun k hk => ?_⟩
  obtain ⟨a1, e1, hx⟩ := Kd.at_int h (k : Int) (by omega) (by omega)
  rw [e] at e1
  injection e1 with e1
  subst e1
  rw [Int.toNat_natCast] at hx
  exact hx
set_option maxHeartbeats 8000000 in
set_option maxRecDepth 100000 in
theorem split_call {wc : World} {ws : List Int} {n : Nat} (hW : Wts ws) (hn : 1 ≤ n ∧ n ≤ 3) {Aw : Option Addr} {cw B Bn Bw Bl Bb : Nat} (hp : Places wc B Bn Bw Bl Bb) (hCw : Kd.C (Kd.int .i64) wc Aw ws.length ws) (hcw : ws.length ≤ cw) (ok : Nat → Prop) (w : World) (s : List (List Int) × Int) (v : Value) (l : List Int) (hI : SplitI wc ws n Aw cw Bn Bw Bl Bb ok w s) (hP : l.length = ws.length ∧ ∀ x ∈ l, 0 ≤ x ∧ x < (n : Int)) (hfr : ∀ k, w.heap.size ≤ k → ok k) (hBw : B ≤ w.heap.size) (hR : Kd.R (Kd.int .i64) 3 w B ok v l) :
    Calls Try.prog 62 (#[v] ++ #[.pointer (some ⟨Bn, 0, none⟩), .pointer (some ⟨Bw, 0, none⟩), .pointer (some ⟨Bl, 0, none⟩), .pointer (some ⟨Bb, 0, none⟩)]) w fun e w' => e = .returned (.tuple #[]) ∧ SplitI wc ws n Aw cw Bn Bw Bl Bb ok w' (stepC ws n s l) ∧ Keeps (fun k => k = Bl ∨ k = Bb) w w' := by
  obtain ⟨A, c1, rfl⟩ := Kd.R_slice hR
  obtain ⟨best, least⟩ := s
  have hl8 : l.length ≤ 8 := by have := hW.1; omega
  have hn3 : n ≤ 3 := hn.2
  have hn1 : 1 ≤ n := hn.1
  have hcn := hI.cn
  have hw := hI.cw_
  have HI := Aside0.mk hI
  have HR := Aside0.mk hR
  have HP := Aside0.mk hp
  have HPL := Aside0.mk hP
  have HFR := Aside0.mk hfr
  have HBW := Aside0.mk hBw
  have HW := Aside0.mk hW
  have HCW := Aside0.mk (Kd.C_below hCw hI.old)
  have HLW : Aside0 (l.length = ws.length) := Aside0.mk hP.1
  clear hI hR hp hCw hP hfr hW hn hBw
  show Calls Try.prog 62 #[.slice A l.length c1, .pointer (some ⟨Bn, 0, none⟩), .pointer (some ⟨Bw, 0, none⟩), .pointer (some ⟨Bl, 0, none⟩), .pointer (some ⟨Bb, 0, none⟩)] w _
  go_enter Try.func62, Try.ntmps62
  go_wp2_with ((with_reducible refine gate_dst (N := 13) rfl ?_); refine Kd.S_make (Kd.slice 3 (Kd.int .i64)) _ 22 rfl (N := 13) rfl 37 _ _ rfl (n : Int) rfl rfl Try.underlying37 (.slice none 0 0) 24 info22 rfl (by decide) (by omega) [] (ok := fun _ => True) (okp := fun _ => True) ⟨_, rfl, Kd.R_nil _ _ _ _ _⟩ (fun _ hk => hk) trivial (by omega) (by omega) (Below.refl _ _) (Nat.le_refl _) ?_; intro v1 w1 ho1 hb1 hg1_ hnew1_; clear hg1_ hnew1_; rw [Int.toNat_natCast, ← cols_zero ws l n] at ho1; obtain ⟨g, cap, ev, hgb1⟩ := S_formN ho1 (cols_len ws l n 0) (by omega); subst ev; have HO1 := Aside0.mk ho1; have HB1 := Aside0.mk hb1; have HGb := Aside0.mk hgb1; clear ho1 hb1 hgb1)
  go_loopw [16] (fun v16 w' => ∃ k : Nat, k ≤ l.length ∧ v16 = .int .i64 k ∧ Aside0 (Kd.S (Kd.slice 3 (Kd.int .i64)) 22 w' w.heap.size (fun _ => True) (.slice (some ⟨g, 0, none⟩) n cap) (colsTo ws l n k)) ∧ Aside0 (Below w.heap.size w w')) (fun v16 _ => l.length - (intOf v16).toNat)
  case atStart => exact ⟨0, Nat.zero_le _, rfl, HO1, HB1⟩
  case round =>
    clear HO1 HB1
    obtain ⟨k, hk, rfl, ho, hb⟩ := hrel
    have hwr := below_cell hb.out hw
    by_cases hlt : k < l.length
    · have hg := HPL.out.2 _ (rd_mem l (k : Int) (by omega) (by omega))
      obtain ⟨ad, e1, hx⟩ := Kd.at_int (Kd.C_below (Kd.R_reads' HR.out).2.2 hb.out) (k : Int) (by omega) (by omega)
      cases e1
      rw [Int.toNat_natCast] at hx
      obtain ⟨adw0, e2, hxw⟩ := at_first HCW.out (by have := HLW.out; omega)
      subst e2
      have hx3w := hxw k (by have := HLW.out; omega)
      have hx3 := below_cellA hb.out hx3w
      have hkw : k < ws.length := by have := HLW.out; omega
      obtain ⟨oki, cl, hcl, hM, hcc, hfz, hoki, hH⟩ := Kd.S_elem (Kd.S_mono (Kd.S_bound ho.out) (fun b hb => (⟨trivial, by have := hb.2.2.1; omega⟩ : True ∧ ¬ wr.heap.size ≤ b))) ([] : List Int) (rd l (k : Int)) hg.1 hg.2
      obtain ⟨vr, rfl, hRow⟩ := hM
      obtain ⟨row, hrow⟩ : ∃ row, colTo ws l (rd l (k : Int)) k = row := ⟨_, rfl⟩
      have hgd : (colsTo ws l n k).getD (rd l (k : Int)).toNat [] = row := by
        have := rd_cols ws l n k (rd l (k : Int)).toNat (by omega)
        rw [show (((rd l (k : Int)).toNat : Nat) : Int) = rd l (k : Int) by omega, hrow] at this
        exact this
      rw [hgd] at hRow
      have HST : Aside0 (colsTo ws l n (k + 1) = (colsTo ws l n k).set (rd l (k : Int)).toNat (row ++ [rd ws (k : Int)])) := Aside0.mk (by rw [← hrow]; exact cols_step ws l n k _ rfl hg.1 hg.2)
      have HLn : Aside0 (row.length ≤ 8) := Aside0.mk (by have := colTo_len ws l (rd l (k : Int)) k; rw [hrow] at this; omega)
      obtain ⟨Ar, cr, er⟩ := Kd.R_slice hRow
      subst er
      have hx2 : wr.cell? ⟨g, (rd l (k : Int)).toNat, none⟩ = some (.slice Ar row.length cr) := by
        have := hcc 0 _ rfl
        rw [show (Kd.slice 3 (Kd.int .i64)).sz = 1 from rfl, Nat.mul_one, Nat.add_zero] at this
        exact this
      obtain ⟨cells, hgb⟩ := Kd.S_typed ho.out g (by simp [Value.ownBlock])
      have HRow := Aside0.mk hRow
      have HH := Aside0.mk hH
      have HOk := Aside0.mk hoki
      have HG1 := Aside0.mk hg.1
      have HG2 := Aside0.mk hg.2
      have g1 := eq_true hg.1
      have g2 := eq_true hg.2
      clear hg hcl hcc hfz hoki hH hRow hgd hrow hxw
      go_wp2
      refine start_ (n := 14) (S := fun w' => w'.cell? ⟨g, (rd l (k : Int)).toNat, none⟩ = some (.slice Ar row.length cr) ∧ w'.cell? ⟨Bw, 0, none⟩ = some (.slice (some adw0) ws.length cw) ∧ w'.cell? (adw0.add k) = some (.int .i64 (rd ws (k : Int)))) (ds := [13]) #[false, false, false, false, false, false, false, false, false, false, false, false, false, false] (by kernel_rfl) rfl rfl ⟨hx2, hwr, hx3⟩ (fun hHeld => ?_)
      have HBd : Aside0 (Below w.heap.size w wr.drew) := Aside0.mk (below_step hb.out (below_drew1 (Below.refl _ _)))
      have HRd : Aside0 (Kd.R (Kd.int .i64) 3 wr.drew w.heap.size (fun b => oki b ∨ wr.heap.size ≤ b) (.slice Ar row.length cr) row) := Aside0.mk (Kd.R_mono (Kd.R_drew HRow.out) (fun b h => .inl h))
      have HHd : Aside0 (Kd.H (Kd.slice 3 (Kd.int .i64)) 22 wr.drew w.heap.size (fun b => True ∧ ¬ wr.heap.size ≤ b) (.slice (some ⟨g, 0, none⟩) n cap) (colsTo ws l n k) (rd l (k : Int)) oki [.slice Ar row.length cr]) := Aside0.mk (Kd.H_drew HH.out)
      have HGd : Aside0 (wr.drew.heap[g]? = some (.cells cells 22 (0, 0))) := Aside0.mk hgb
      have HSz : Aside0 (wr.drew.heap.size = wr.heap.size) := Aside0.mk rfl
      generalize wr.drew = w0 at HBd HRd HHd HGd HSz hHeld ⊢
      refine pure_ (i := 0) (N := (some 21)) (v := ?_) (a' := ?_) #[true, false, false, false, false, false, false, false, false, false, false, false, false, false] rfl rfl (by kernel_rfl) (fun _ _ _ h => h) (Or.inl ⟨by rfl, ?_⟩) ?_ ?_
      rotate_left
      · intro w'
        go_simp
        with_reducible rfl
      rotate_left
      · simp only [Act.put, List.setIfInBounds_toArray, List.set_cons_zero, List.set_cons_succ, i64_w, i32_w]
        rfl
      refine pure_ (i := 1) (N := (some 22)) (v := ?_) (a' := ?_) #[true, true, false, false, false, false, false, false, false, false, false, false, false, false] rfl rfl (by kernel_rfl) (fun _ _ _ h => h) (Or.inl ⟨by rfl, ?_⟩) ?_ ?_
      rotate_left
      · intro w'
        go_simp
        with_reducible rfl
      rotate_left
      · simp only [Act.put, List.setIfInBounds_toArray, List.set_cons_zero, List.set_cons_succ, i64_w, i32_w]
        rfl
      refine pure_ (i := 2) (N := (some 23)) (v := ?_) (a' := ?_) #[true, true, true, false, false, false, false, false, false, false, false, false, false, false] rfl rfl (by kernel_rfl) (fun _ _ _ h => h) (Or.inl ⟨by rfl, ?_⟩) ?_ ?_
      rotate_left
      · intro w'
        go_simp
        with_reducible rfl
      rotate_left
      · simp only [Act.put, List.setIfInBounds_toArray, List.set_cons_zero, List.set_cons_succ, i64_w, i32_w]
        rfl
      refine pure_ (i := 3) (N := (some 24)) (v := ?_) (a' := ?_) #[true, true, true, true, false, false, false, false, false, false, false, false, false, false] rfl rfl (by kernel_rfl) (fun _ _ _ h => h) (Or.inl ⟨by rfl, ?_⟩) ?_ ?_
      rotate_left
      · intro w'
        go_simp
        with_reducible rfl
      rotate_left
      · simp only [Act.put, List.setIfInBounds_toArray, List.set_cons_zero, List.set_cons_succ, i64_w, i32_w]
        rfl
      refine pure_ (i := 4) (N := (some 25)) (v := ?_) (a' := ?_) #[true, true, true, true, true, false, false, false, false, false, false, false, false, false] rfl rfl (by kernel_rfl) (fun _ _ _ h => h) (Or.inl ⟨by rfl, ?_⟩) ?_ ?_
      rotate_left
      · intro w'
        go_simp
        with_reducible rfl
      rotate_left
      · simp only [Act.put, List.setIfInBounds_toArray, List.set_cons_zero, List.set_cons_succ, i64_w, i32_w]
        rfl
      refine take_ (i := 5) (N := (some 26)) (v := ?_) (a' := ?_) #[true, true, true, true, true, true, false, false, false, false, false, false, false, false] rfl rfl (by kernel_rfl) (fun _ _ _ h => h) (Or.inl ⟨by rfl, ?_⟩) hHeld ?_ ?_
      rotate_left
      · intro w' s0
        obtain ⟨s1, s2, s3⟩ := s0
        go_simp
        with_reducible rfl
      rotate_left
      · simp only [Act.put, List.setIfInBounds_toArray, List.set_cons_zero, List.set_cons_succ, i64_w, i32_w]
        rfl
      refine take_ (i := 6) (N := (some 27)) (v := ?_) (a' := ?_) #[true, true, true, true, true, true, true, false, false, false, false, false, false, false] rfl rfl (by kernel_rfl) (fun _ _ _ h => h) (Or.inl ⟨by rfl, ?_⟩) hHeld ?_ ?_
      rotate_left
      · intro w' s0
        obtain ⟨s1, s2, s3⟩ := s0
        go_simp
        with_reducible rfl
      rotate_left
      · simp only [Act.put, List.setIfInBounds_toArray, List.set_cons_zero, List.set_cons_succ, i64_w, i32_w]
        rfl
      refine pure_ (i := 7) (N := (some 28)) (v := ?_) (a' := ?_) #[true, true, true, true, true, true, true, true, false, false, false, false, false, false] rfl rfl (by kernel_rfl) (fun _ _ _ h => h) (Or.inl ⟨by rfl, ?_⟩) ?_ ?_
      rotate_left
      · intro w'
        go_simp
        with_reducible rfl
      rotate_left
      · simp only [Act.put, List.setIfInBounds_toArray, List.set_cons_zero, List.set_cons_succ, i64_w, i32_w]
        rfl
      refine pure_ (i := 8) (N := (some 29)) (v := ?_) (a' := ?_) #[true, true, true, true, true, true, true, true, true, false, false, false, false, false] rfl rfl (by kernel_rfl) (fun _ _ _ h => h) (Or.inl ⟨by rfl, ?_⟩) ?_ ?_
      rotate_left
      · intro w'
        go_simp
        with_reducible rfl
      rotate_left
      · simp only [Act.put, List.setIfInBounds_toArray, List.set_cons_zero, List.set_cons_succ, i64_w, i32_w]
        rfl
      refine take_ (i := 9) (N := (some 30)) (v := ?_) (a' := ?_) #[true, true, true, true, true, true, true, true, true, true, false, false, false, false] rfl rfl (by kernel_rfl) (fun _ _ _ h => h) (Or.inl ⟨by rfl, ?_⟩) hHeld ?_ ?_
      rotate_left
      · intro w' s0
        obtain ⟨s1, s2, s3⟩ := s0
        go_simp
        with_reducible rfl
      rotate_left
      · simp only [Act.put, List.setIfInBounds_toArray, List.set_cons_zero, List.set_cons_succ, i64_w, i32_w]
        rfl
      refine one_ (i := 10) (N := (some 31)) #[true, true, true, true, true, true, true, true, true, true, true, false, false, false] rfl rfl (by kernel_rfl) (by decide) (fun K hK => ?_)
      refine value_ (w1 := w0.alloc (.cells #[.int .i64 (rd ws (k : Int))] 3)) (v := .slice (some ⟨w0.heap.size, 0, none⟩) 1 1) (by rfl) rfl ?hr10 ?_
      case hr10 => first | (go_simp; done) | (go_simp; rfl)
      have hal := below_alloc (Below.refl w0.heap.size w0) (.cells #[.int .i64 (rd ws (k : Int))] 3)
      refine hK.out _ _ ⟨below_cell hal hHeld.1, below_cell hal hHeld.2.1, below_cellA hal hHeld.2.2⟩ (fun hHeld2 => ?_)
      clear hK K
      refine norm_ (a' := ?_) ?_ ?_
      rotate_left
      · show Act.put _ (some 31) _ = _
        simp only [Act.put, List.setIfInBounds_toArray, List.set_cons_zero, List.set_cons_succ, i64_w, i32_w]
        rfl
      refine one_ (i := 11) (N := (some 32)) #[true, true, true, true, true, true, true, true, true, true, true, true, false, false] rfl rfl (by kernel_rfl) (by decide) (fun K hK => ?_)
      refine Kd.R_append_step (Kd.int .i64) (w0 := w) (W := w0) w.heap.size (by rfl) (.tmp 26) (.tmp 31) 22 3 (.int .i64 0) 8 rfl Try.underlying22 info3 rfl (by decide) (by omega) (.slice Ar row.length cr) row (rd ws (k : Int)) [.int .i64 (rd ws (k : Int))] (fun b => oki b ∨ wr.heap.size ≤ b) (fun _ => False) rfl rfl rfl (fun _ h => h.elim) (fun b h => .inr (by rw [← HSz.out]; exact h)) HRd.out HBd.out HBd.out.size (by have := HLn.out; omega) ?_
      intro v5 w5 hR5 hB5 hg5 hat5
      obtain ⟨A5, c5, e5⟩ := Kd.R_slice hR5
      rw [List.length_append, List.length_singleton] at e5
      subst e5
      have HR5 := Aside0.mk hR5
      have HB5 := Aside0.mk hB5
      have hgne : some g ≠ (Value.slice Ar row.length cr).ownBlock := fun e => by have := (HOk.out g (HRow.out.1 g e.symm)).2; exact this rfl
      have h5g : w5.heap[g]? = some (.cells cells 22 (0, 0)) := (hg5.block g (blk_lt HGd.out) hgne).trans HGd.out
      have HH5 := Aside0.mk (Kd.H_grown HHd.out hg5 (fun b hb => HRow.out.1 b hb))
      have hz1 : w5.cell? ⟨g, (rd l (k : Int)).toNat, none⟩ = some (.slice Ar row.length cr) := (World.cell?_of_block (w := w0) (w' := w5) (a := ⟨g, (rd l (k : Int)).toNat, none⟩) (h5g.trans HGd.out.symm)).trans hHeld.1
      have hz2 : w5.frozen? ⟨g, (rd l (k : Int)).toNat, none⟩ = false := blk_frozen h5g _
      clear hR5 hB5 hg5 hat5 h5g
      refine hK.out _ _ ⟨hz1, below_cell HB5.out hw, below_cellA (Below.refl _ _) (below_cellA HB5.out hx3w)⟩ (fun hHeld3 => ?_)
      clear hK K
      refine norm_ (a' := ?_) ?_ ?_
      rotate_left
      · show Act.put _ (some 32) _ = _
        simp only [Act.put, List.setIfInBounds_toArray, List.set_cons_zero, List.set_cons_succ, i64_w, i32_w]
        rfl
      refine pure_ (i := 12) (N := (some 33)) (v := ?_) (a' := ?_) #[true, true, true, true, true, true, true, true, true, true, true, true, true, false] rfl rfl (by kernel_rfl) (fun _ _ _ h => h) (Or.inl ⟨by rfl, ?_⟩) ?_ ?_
      rotate_left
      · intro w'
        go_simp
        with_reducible rfl
      rotate_left
      · simp only [Act.put, List.setIfInBounds_toArray, List.set_cons_zero, List.set_cons_succ, i64_w, i32_w]
        rfl
      refine last_ (i := 13) (N := none) #[true, true, true, true, true, true, true, true, true, true, true, true, true, true] rfl rfl (by kernel_rfl) (by decide) (fun K hK => ?_)
      refine skip_ (w1 := w5.setCell ⟨g, (rd l (k : Int)).toNat, none⟩ (.slice A5 (row.length + 1) c5)) (by rfl) rfl ?hr13 ?_
      case hr13 => first | (go_simp; done) | (go_simp; rfl)
      refine hK.out _ _ ?_
      clear hK K
      have hS6 := (Kd.S_seg (okg := fun b => wr.heap.size ≤ b) (ok := fun _ => True) HH5.out HG1.out HG2.out (seg := [.slice A5 (row.length + 1) c5]) (j := 0) (Nat.le_refl 1) (x' := row ++ [rd ws (k : Int)]) ⟨_, rfl, HR5.out⟩ (fun b h => h) (fun b h => ⟨trivial, fun e => by have := blk_lt hgb; have h : wr.heap.size ≤ b := h; omega⟩)).1
      rw [show (rd l (k : Int)).toNat * (Kd.slice 3 (Kd.int .i64)).sz + 0 = (rd l (k : Int)).toNat from by rw [show (Kd.slice 3 (Kd.int .i64)).sz = 1 from rfl]; omega, ← HST.out] at hS6
      have HS6 := Aside0.mk (show Kd.S (Kd.slice 3 (Kd.int .i64)) 22 (w5.setCell ⟨g, (rd l (k : Int)).toNat, none⟩ (.slice A5 (row.length + 1) c5)) w.heap.size (fun _ => True) (.slice (some ⟨g, 0, none⟩) n cap) (colsTo ws l n (k + 1)) from hS6)
      have HB6 : Aside0 (Below w.heap.size w (w5.setCell ⟨g, (rd l (k : Int)).toNat, none⟩ (.slice A5 (row.length + 1) c5))) := Aside0.mk (Below.setCell HB5.out HGb.out _)
      clear hS6
      refine done_ (by kernel_rfl) ?_
      go_wp2
      go_roundw
      case rel => exact ⟨k + 1, by omega, by go_num, HS6, HB6⟩
      case measure => simp [intOf]; omega
    · have HO : Aside0 (Kd.S (Kd.slice 3 (Kd.int .i64)) 22 wr w.heap.size (fun _ => True) (.slice (some ⟨g, 0, none⟩) n cap) (colsOf ws l n)) := Aside0.mk (by
        have := ho.out
        rw [show k = l.length by omega] at this
        exact this)
      have HB := hb
      clear ho hb
      have hcl := cols_len ws l n l.length
      go_wp2
      go_loopw [9, 37] (fun v9 v37 w' => ∃ j : Nat, j ≤ n ∧ v37 = .int .i64 j ∧ v9 = .int .i64 (mostTo ws l j) ∧ Aside0 (∀ i : Nat, i < j → (colOf ws l (i : Int)).length ≤ 4) ∧ Aside0 (Below wr.heap.size wr w')) (fun _ v37 _ => n - (intOf v37).toNat)
      case atStart => exact ⟨0, Nat.zero_le _, rfl, rfl, Aside0.mk (fun i h => absurd h (Nat.not_lt_zero i)), Aside0.mk (Below.refl _ _)⟩
      case round =>
        obtain ⟨j, hj, rfl, rfl, hfit, hb2⟩ := hrel
        by_cases hlt2 : j < n
        · obtain ⟨adj, Aj, cj, ej, hxj, hlj, hij⟩ := at_L1 (Kd.S_reads' (Kd.S_below HO.out hb2.out)).2.2 (j : Int) (by omega) (by rw [show (colsOf ws l n).length = n from hcl]; omega)
          cases ej
          rw [show rd_L1 (colsOf ws l n) (j : Int) = colOf ws l (j : Int) from rd_cols ws l n _ j hlt2] at hxj hlj hij
          have hbd := col_bd HW.out (show l.length ≤ ws.length by have := HLW.out; omega) (j : Int)
          have hlen := colTo_len ws l (j : Int) l.length
          have hms : mostTo ws l (j + 1) = mx (mostTo ws l j) (colSum ws l (j : Int)) := rfl
          unfold colSum at hms
          obtain ⟨col, hcol⟩ : ∃ col, colOf ws l (j : Int) = col := ⟨_, rfl⟩
          rw [show colTo ws l (j : Int) l.length = col from hcol] at hlen
          rw [hcol] at hxj hlj hij hbd hms
          rw [Int.toNat_natCast, add_plain] at hxj
          have HCOL := Aside0.mk hcol
          obtain ⟨ks, hks⟩ := Ev.rounds (impl_sumC (show col.length ≤ 8 by omega) hbd)
          obtain ⟨sm, hsm⟩ : ∃ sm, tot col 0 col.length = sm := ⟨_, rfl⟩
          rw [hsm] at hks hms
          have HKS := Aside0.mk hks
          have HMS := Aside0.mk hms
          have HIJ := Aside0.mk hij
          have HLJ := Aside0.mk hlj
          have HFT := hfit
          clear hbd hks hms hsm hij hlj hlen hcol hfit
          by_cases h4 : col.length ≤ 4
          · have d1 : decide (4 < (col.length : Int)) = false := decide_eq_false (by omega)
            have d2 : decide (4 < col.length) = false := decide_eq_false (by omega)
            have HF2 : Aside0 (∀ i : Nat, i < j + 1 → (colOf ws l (i : Int)).length ≤ 4) := Aside0.mk (fun i hi => by
              by_cases e : i = j
              · subst e; rw [HCOL.out]; exact h4
              · exact HFT.out i (by omega))
            by_cases h5 : mostTo ws l j < sm
            · have HM : Aside0 (mostTo ws l (j + 1) = sm) := Aside0.mk (by rw [HMS.out]; exact if_pos h5)
              have d3 : decide (mostTo ws l j < sm) = true := decide_eq_true h5
              have d4 : decide (sm < mostTo ws l j) = false := decide_eq_false (by omega)
              go_wp2_with (go_at_call 53; refine (impl_sumOf.calls ks Aj cj col _ _ HIJ.out HLJ.out HKS.out).mono ?_; rintro e w3 ⟨rfl, hd3⟩; have HB3 := Aside0.mk (below_step hb2.out hd3.below); clear hd3)
              go_roundw
              case rel => exact ⟨j + 1, by omega, by go_num, by rw [HM.out], HF2, HB3⟩
              case measure => simp [intOf]; omega
            · have HM : Aside0 (mostTo ws l (j + 1) = mostTo ws l j) := Aside0.mk (by rw [HMS.out]; exact if_neg h5)
              have d3 : decide (mostTo ws l j < sm) = false := decide_eq_false h5
              go_wp2_with (go_at_call 53; refine (impl_sumOf.calls ks Aj cj col _ _ HIJ.out HLJ.out HKS.out).mono ?_; rintro e w3 ⟨rfl, hd3⟩; have HB3 := Aside0.mk (below_step hb2.out hd3.below); clear hd3)
              go_roundw
              case rel => exact ⟨j + 1, by omega, by go_num, by rw [HM.out], HF2, HB3⟩
              case measure => simp [intOf]; omega
          · have d1 : decide (4 < (col.length : Int)) = true := decide_eq_true (by omega)
            have d2 : decide (4 < col.length) = true := decide_eq_true (by omega)
            have HS : Aside0 (stepC ws n (best, least) l = (best, least)) := Aside0.mk (by
              unfold stepC
              exact chk_neg (fun m => h4 (by have := m j hlt2; rw [HCOL.out] at this; exact this)) _ _)
            go_wp2
            refine bodyPost_ret (results_none rfl _ _ _) rfl ?_
            rw [HS.out]
            exact ⟨rfl, HI.out.below HP.out (below_step HB.out hb2.out), Keeps.of_below (below_step HB.out hb2.out)⟩
        · obtain rfl : j = n := by omega
          have HFit : Aside0 (Fits ws l j) := Aside0.mk (fun i hi => hfit.out i hi)
          obtain ⟨m, hm⟩ : ∃ m, mostTo ws l j = m := ⟨_, rfl⟩
          rw [hm]
          have HBB := Aside0.mk (below_step HB.out hb2.out)
          have HI2 := Aside0.mk (HI.out.below HP.out HBB.out)
          have HST : Aside0 (stepC ws j (best, least) l = if least < 0 ∨ m < least then (colsOf ws l j, m) else (best, least)) := Aside0.mk (by unfold stepC; rw [chk_pos HFit.out, hm])
          obtain ⟨u, hz⟩ := HI2.out.ready HP.out (.slice (some ⟨g, 0, none⟩) j cap)
          have z1 := hz.l
          have z2 := hz.lf
          have z3 := hz.b
          have z4 := hz.bf
          have z5 := hz.l2
          have z6 := hz.l2f
          have HSN : Aside0 (Kd.S (Kd.slice 3 (Kd.int .i64)) 22 wr w.heap.size ok (.slice (some ⟨g, 0, none⟩) j cap) (colsOf ws l j)) := Aside0.mk (Kd.S_mono (Kd.S_bound (Kd.S_below HO.out hb2.out)) (fun b hb => HFR.out b hb.2.1))
          clear hz hm hfit hb2
          by_cases h0 : least < 0
          · have HS : Aside0 (stepC ws j (best, least) l = (colsOf ws l j, m)) := Aside0.mk (by rw [HST.out]; exact if_pos (.inl h0))
            go_wp2
            go_end0
            have r := HI2.out.put HP.out HBW.out HSN.out m
            rw [HS.out]
            exact ⟨rfl, r.1, (Keeps.of_below HBB.out).trans r.2⟩
          · have h0' : 0 ≤ least := by omega
            by_cases h1 : m < least
            · have HS : Aside0 (stepC ws j (best, least) l = (colsOf ws l j, m)) := Aside0.mk (by rw [HST.out]; exact if_pos (.inr h1))
              go_wp2
              go_end0
              have r := HI2.out.put HP.out HBW.out HSN.out m
              rw [HS.out]
              exact ⟨rfl, r.1, (Keeps.of_below HBB.out).trans r.2⟩
            · have h1' : least ≤ m := by omega
              have HS : Aside0 (stepC ws j (best, least) l = (best, least)) := Aside0.mk (by rw [HST.out]; exact if_neg (fun h => h.elim h0 h1))
              go_wp2
              go_end0
              rw [HS.out]
              exact ⟨rfl, HI2.out, Keeps.of_below HBB.out⟩
end Go.Proofs.Ytcgfedaoimhejaa.G

-- Written by wip/tools/gen.py out of the translation (the kit's printer, one namespace a seat). Lean checks it.
namespace Go.Proofs.Ytcgfedaoimhejaa.G
open Go.RowKit Go.Proofs.YtcgfedaoimhejaaW.PrintWords Go.Proofs.YtcgfedaoimhejaaW.PrintLast Go.Proofs.YtcgfedaoimhejaaW.PrintMore
attribute [local go_sem] max2_int min2_int max_two min_two max_three min_three max_four min_four   -- for this text's walks alone
set_option linter.unusedVariables false
set_option linter.unusedSimpArgs false

/-! ### impl_SplitColumns_1: function 60 -/
def impl_SplitColumns_1.f (a0 : Int) : Option (Bool) := (impl_within.f a0 1 32000).bind fun t102 => (some (!t102))
set_option maxHeartbeats 8000000 in
set_option maxRecDepth 100000 in
theorem impl_SplitColumns_1.calls (a0 : Int) (r : Bool) (w : World) (h : impl_SplitColumns_1.f a0 = some r) :
  Calls Try.prog 60 #[.int .i64 a0] w fun e w' => e = .returned (.bool r) ∧ Drawn0 w w' := by
 have H : ((impl_within.f a0 1 32000).bind fun t102 => (some (!t102))) = some r := h
 clear h
 replace H := Option.bind_eq_some_iff.mp H
 obtain ⟨t102, A20, H⟩ := H
 replace H : (some (!t102)) = some r := H
 have A2 := Aside0.mk A20
 clear A20
 obtain rfl := Option.some.inj H
 go_enter Try.func60, Try.ntmps60
 go_wp2_with (first | ((with_reducible refine gate_callee (f := 58) rfl ?_); refine goesL_ (some 4) rfl rfl Try.func58 (by kernel_rfl) rfl #[.int .i64 a0, .int .i64 1, .int .i64 32000] rfl (by (try simp only [List.map_toArray, List.map_cons, List.map_nil]); first | done | rfl | (simp only [List.length_drop, List.length_take]; rfl)) ?_; (with_reducible refine (impl_within.calls a0 1 32000 t102 _ A2.out).mono ?_); rintro e w' ⟨rfl, ⟨nd, rfl⟩⟩; refine ⟨_, rfl, ?_⟩))
 go_ret
 exact ⟨by first | rfl | (simp; done) | (simp [*]; done), by repeat (first | exact Drawn0.refl _ | apply Drawn0.step)⟩

end Go.Proofs.Ytcgfedaoimhejaa.G

/- The contract of slices.ContainsFunc at the test of SplitColumns. -/
namespace Go.Proofs.Ytcgfedaoimhejaa.G
open Go.RowKit Go.Proofs.YtcgfedaoimhejaaW.PrintWords Go.Proofs.YtcgfedaoimhejaaW.PrintLast
set_option linter.unusedVariables false
set_option linter.unusedSimpArgs false
def good60 (n : Int) : Bool := decide (1 ≤ n ∧ n ≤ 32000)
def bad60 (l : List Int) : Nat → Nat → Int
  | 0, _ => -1
  | d + 1, i => if good60 (rd l i) then bad60 l d (i + 1) else i
theorem bad60_iff (l : List Int) : ∀ d i, bad60 l d i ≥ 0 ↔ ¬ ∀ j : Nat, i ≤ j → j < i + d → good60 (rd l j) = true := by
  intro d
  induction d with
  | zero => intro i; simp [bad60]; omega
  | succ d ih =>
    intro i
    unfold bad60
    split
    · rename_i h
      rw [ih (i + 1)]
      constructor
      · intro h1 h2
        exact h1 fun j a b => h2 j (by omega) (by omega)
      · intro h1 h2
        refine h1 fun j a b => ?_
        by_cases e : j = i
        · rw [e]; exact h
        · exact h2 j (by omega) (by omega)
    · rename_i h
      constructor
      · intro _ h2
        exact h (h2 i (by omega) (by omega))
      · intro _; omega
theorem lit60_eq (n : Int) : impl_SplitColumns_1.f n = some (!good60 n) := by
  unfold impl_SplitColumns_1.f impl_within.f good60
  by_cases h : n ≥ 1
  · simp [h]
  · simp [h]
set_option maxHeartbeats 2000000 in
set_option maxRecDepth 100000 in
theorem idx60 (A0 : Option Addr) (c0 : Nat) (l0 : List Int) (w : World) (hr0 : Kd.C (Kd.int .i64) w A0 l0.length l0) (hc0 : l0.length ≤ c0) :
    Calls Try.prog 78 #[.slice A0 l0.length c0, .func (.func 60) #[] #[]] w fun e w' => e = .returned (.int .i64 (bad60 l0 l0.length 0)) ∧ Drawn0 w w' := by
  have hn : l0.length ≤ 9223372036854775807 := hr0.2.1
  have HR := Aside0.mk hr0
  clear hr0
  have HN : Aside0 (bad60 l0 l0.length 0 = bad60 l0 (l0.length - 0) 0) := Aside0.mk rfl
  go_enter Try.func78, Try.ntmps78
  go_wp2
  go_loopw [8] (fun i w' => ∃ k : Nat, k ≤ l0.length ∧ i = .int .i64 k ∧ Aside0 (bad60 l0 l0.length 0 = bad60 l0 (l0.length - k) k) ∧ Drawn0 w w') (fun i _ => l0.length - (intOf i).toNat)
  case atStart => exact ⟨0, Nat.zero_le _, rfl, HN, Drawn0.refl _⟩
  case round =>
    obtain ⟨k, hk, rfl, hb, hd⟩ := hrel
    by_cases hlt : k < l0.length
    · obtain ⟨ad, rfl, hx⟩ := Kd.at_int (Kd.C_below HR.out hd.below) (k : Int) (by omega) (by omega)
      rw [Int.toNat_natCast] at hx
      by_cases hg : good60 (rd l0 k) = true
      · have hs : Aside0 (bad60 l0 l0.length 0 = bad60 l0 (l0.length - (k + 1)) (k + 1)) := Aside0.mk (by
          rw [hb.out, show l0.length - k = (l0.length - (k + 1)) + 1 from by omega]
          conv => lhs; unfold bad60
          rw [if_pos hg])
        have hf : Aside0 (impl_SplitColumns_1.f (rd l0 k) = some false) := Aside0.mk (by rw [lit60_eq, hg]; rfl)
        clear hb hg
        go_wp2_with (go_at_call 60; refine (impl_SplitColumns_1.calls _ false _ hf.out).mono ?_; rintro e w' ⟨rfl, hd2⟩)
        go_roundw
        case rel => exact ⟨k + 1, by omega, by go_num, hs, drawn_two hd hd2⟩
        case measure => simp [intOf]; omega
      · have hs : Aside0 (bad60 l0 l0.length 0 = (k : Int)) := Aside0.mk (by
          rw [hb.out, show l0.length - k = (l0.length - (k + 1)) + 1 from by omega]
          conv => lhs; unfold bad60
          rw [if_neg hg])
        have hf : Aside0 (impl_SplitColumns_1.f (rd l0 k) = some true) := Aside0.mk (by rw [lit60_eq, Bool.eq_false_iff.2 hg]; rfl)
        clear hb hg
        go_wp2_with (go_at_call 60; refine (impl_SplitColumns_1.calls _ true _ hf.out).mono ?_; rintro e w' ⟨rfl, hd2⟩)
        go_ret
        exact ⟨ret_int hs.out.symm, drawn_two hd hd2⟩
    · have hs : Aside0 (bad60 l0 l0.length 0 = -1) := Aside0.mk (by
        rw [hb.out, show l0.length - k = 0 from by omega]; rfl)
      clear hb
      go_wp2
      go_ret
      exact ⟨ret_int hs.out.symm, hd⟩
def slices_ContainsFunc_int_int_60.f (l0 : List Int) : Option Bool := some (decide (bad60 l0 l0.length 0 ≥ 0))
set_option maxHeartbeats 2000000 in
set_option maxRecDepth 100000 in
theorem slices_ContainsFunc_int_int_60.calls (A0 : Option Addr) (c0 : Nat) (l0 : List Int) (r : Bool) (w : World) (hr0 : Kd.C (Kd.int .i64) w A0 l0.length l0) (hc0 : l0.length ≤ c0) (h : slices_ContainsFunc_int_int_60.f l0 = some r) :
    Calls Try.prog 59 #[.slice A0 l0.length c0, .func (.func 60) #[] #[]] w fun e w' => e = .returned (.bool r) ∧ Drawn0 w w' := by
  obtain rfl : decide (bad60 l0 l0.length 0 ≥ 0) = r := Option.some.inj h
  have HR := Aside0.mk hr0
  clear hr0 h
  go_enter Try.func59, Try.ntmps59
  go_wp2_with (go_at_call 78; refine (idx60 A0 c0 l0 _ HR.out hc0).mono ?_; rintro e w' ⟨rfl, hd⟩)
  go_ret
  exact ⟨rfl, hd⟩
end Go.Proofs.Ytcgfedaoimhejaa.G

/- The contract of SplitColumns: of valid weights and a number of columns, the first division whose greatest sum is smallest, and this sum. -/
namespace Go.Proofs.Ytcgfedaoimhejaa.G
open Go.RowKit Go.Proofs.YtcgfedaoimhejaaW.PrintWords Go.Proofs.YtcgfedaoimhejaaW.PrintLast Go.Proofs.YtcgfedaoimhejaaW.PrintMore
set_option linter.unusedVariables false
set_option linter.unusedSimpArgs false
theorem split_back {wc : World} {ws : List Int} {n : Nat} (hW : Wts ws) (hn : 1 ≤ n ∧ n ≤ 3) {Aw : Option Addr} {cw B Bn Bw Bl Bb : Nat} (hp : Places wc B Bn Bw Bl Bb) (hCw : Kd.C (Kd.int .i64) wc Aw ws.length ws) (hcw : ws.length ≤ cw) :
    Back (σ := List (List Int) × Int) 62 #[.pointer (some ⟨Bn, 0, none⟩), .pointer (some ⟨Bw, 0, none⟩), .pointer (some ⟨Bl, 0, none⟩), .pointer (some ⟨Bb, 0, none⟩)] (fun k => k = Bl ∨ k = Bb) B (SplitI wc ws n Aw cw Bn Bw Bl Bb) (fun l => l.length = ws.length ∧ ∀ x ∈ l, 0 ≤ x ∧ x < (n : Int)) (stepC ws n) where
  enters := fun args w => enters_ Try.func62 (by kernel_rfl) rfl args w
  call := fun ok w s v l hI hP hfr hB hR => split_call hW hn hp hCw hcw ok w s v l hI hP hfr hB hR
  stay := fun ok w w' s T hI k hT => hI.stay hp k hT
  mono := fun ok ok' w s hI h => by
    obtain ⟨v, hv, hr⟩ := hI.bb
    exact ⟨hI.old, hI.cn, hI.cw_, hI.bl, v, hv, Kd.S_mono (Kd.S_bound hr) (fun k hk => h k hk.2.2.1 hk.1)⟩
  low := fun k hk => hk.elim (fun e => by rw [e]; exact hp.l.2) (fun e => by rw [e]; exact hp.bb.2)
theorem split_boxes {w w1 w2 w3 w4 : World} {g1 g2 g3 g4 : Nat} (A0 : Option Addr) (c0 : Nat) (l0 : List Int) (n : Nat)
    (h1 : g1 = w.heap.size) (x1 : w1.heap[g1]? = some (.cells #[.slice A0 l0.length c0] 22 (0, 0))) (b1 : Below w.heap.size w w1)
    (h2 : g2 = w1.heap.size) (x2 : w2.heap[g2]? = some (.cells #[.int .i64 (n : Int)] 3 (0, 0))) (b2 : Below w1.heap.size w1 w2)
    (h3 : w2.heap.size ≤ g3) (x3 : w3.heap[g3]? = some (.cells #[.slice none 0 0] 37 (0, 0))) (b3 : Below w2.heap.size w2 w3)
    (h4 : g4 = w3.heap.size) (x4 : w4.heap[g4]? = some (.cells #[.int .i64 0] 3 (0, 0))) (b4 : Below w3.heap.size w3 w4) :
    Places w (w4.setCell ⟨g4, 0, none⟩ (.int .i64 (-1))).heap.size g2 g1 g4 g3 ∧ SplitI w l0 n A0 c0 g2 g1 g4 g3 (fun _ => True) (w4.setCell ⟨g4, 0, none⟩ (.int .i64 (-1))) ([], -1) ∧ Below w.heap.size w (w4.setCell ⟨g4, 0, none⟩ (.int .i64 (-1))) := by
  have s1 := b1.size
  have s2 := b2.size
  have s3 := b3.size
  have s4 := b4.size
  have l1 := blk_lt x1
  have l2 := blk_lt x2
  have l3 := blk_lt x3
  have l4 := blk_lt x4
  have hz : (w4.setCell ⟨g4, 0, none⟩ (.int .i64 (-1))).heap.size = w4.heap.size := by simp [World.setCell]
  have hB : Below w.heap.size w (w4.setCell ⟨g4, 0, none⟩ (.int .i64 (-1))) := Below.setCell (below_step b1 (below_step b2 (below_step b3 b4))) (by show w.heap.size ≤ g4; omega) _
  have y1 := blk_below (blk_below (blk_below x1 b2) b3) b4
  have y2 := blk_below (blk_below x2 b3) b4
  have y3 := blk_below x3 b4
  refine ⟨⟨by omega, by omega, by omega, by omega, by omega, by omega⟩, ⟨hB, ?_, ?_, blk_set x4 0 _, .slice none 0 0, ?_, Kd.S_nil _ _ _ _ _⟩, hB⟩
  · exact (cell_far (p := ⟨g4, 0, none⟩) (by show g2 ≠ g4; omega) _).trans ((blk_cell y2 0).trans rfl)
  · exact (cell_far (p := ⟨g4, 0, none⟩) (by show g1 ≠ g4; omega) _).trans ((blk_cell y1 0).trans rfl)
  · exact (Below.heap_setCell w4 ⟨g4, 0, none⟩ _ g3 (by show g3 ≠ g4; omega)).trans y3
theorem split_below {w w4 w5 : World} {a b : Nat} (h : Below w.heap.size w w4) (k : Keeps (fun k => k = a ∨ k = b) w4 w5) (ha : w.heap.size ≤ a) (hb : w.heap.size ≤ b) : Below w.heap.size w w5 :=
  ⟨k.os.trans h.os, k.tape.trans h.tape, k.output.trans h.output, Nat.le_trans h.size k.size, fun i hi => (k.block i (Nat.lt_of_lt_of_le hi h.size) (fun e => by omega)).trans (h.block i hi)⟩
theorem chs_P {ws : List Int} (n : Nat) : ∀ l ∈ chs n ws.length [], l.length = ws.length ∧ ∀ x ∈ l, 0 ≤ x ∧ x < (n : Int) := fun l hl => by
  obtain ⟨q, e, hq⟩ := chs_begin n _ _ _ hl
  exact ⟨by rw [e, List.nil_append, hq], chs_in n _ _ _ hl (by simp)⟩
theorem cont60_eq (l : List Int) : slices_ContainsFunc_int_int_60.f l = some (chk (All (okW l) 0 (l.length : Int)) false true) := by
  unfold slices_ContainsFunc_int_int_60.f
  congr 1
  have hb : (bad60 l l.length 0 ≥ 0) ↔ ¬ All (okW l) 0 (l.length : Int) := by
    rw [bad60_iff]
    constructor
    · intro h a
      refine h fun j _ hj => ?_
      have := a (j : Int) (by omega) (by omega)
      unfold okW at this
      unfold good60; exact decide_eq_true this
    · intro h a
      refine h fun j h0 hj => ?_
      have := a j.toNat (by omega) (by omega)
      rw [show ((j.toNat : Nat) : Int) = j from by omega] at this
      unfold good60 at this
      have h' := of_decide_eq_true this
      exact h'
  by_cases ha : All (okW l) 0 (l.length : Int)
  · rw [chk_pos ha]; exact decide_eq_false (fun x => hb.1 x ha)
  · rw [chk_neg ha]; exact decide_eq_true (hb.2 ha)
noncomputable def impl_SplitColumns.f (l0 : List Int) (a1 : Int) : Option (List (List Int) × Int × Bool) := some (splitR l0 a1)
set_option maxHeartbeats 4000000 in
set_option maxRecDepth 100000 in
theorem impl_SplitColumns.calls (A0 : Option Addr) (c0 : Nat) (l0 : List Int) (a1 : Int) (r1 : List (List Int)) (r2 : Int) (r3 : Bool) (w : World) (hr0 : Kd.C (Kd.int .i64) w A0 l0.length l0) (hc0 : l0.length ≤ c0) (h : impl_SplitColumns.f l0 a1 = some (r1, r2, r3)) :
    Calls Try.prog 26 #[.slice A0 l0.length c0, .int .i64 a1] w fun e w' => ∃ v0_ : Value, e = .returned (.tuple #[v0_, .int .i64 r2, .bool r3]) ∧ Kd.S (Kd.slice 3 (Kd.int .i64)) 22 w' w.heap.size (fun _ => True) v0_ r1 ∧ Below w.heap.size w w' := by
  have h := Option.some.inj h
  unfold splitR at h
  have HR := Aside0.mk hr0
  clear hr0
  by_cases hok : SplitOk l0 a1
  · rw [chk_pos hok] at h
    obtain ⟨n, rfl⟩ : ∃ n : Nat, a1 = (n : Int) := ⟨a1.toNat, by have := hok.2.1; omega⟩
    rw [Int.toNat_natCast] at h
    have hn : 1 ≤ n ∧ n ≤ 3 := by have := hok.2.1; omega
    have h8 := hok.1.1
    have HW := Aside0.mk hok.1
    have HF : Aside0 ((chs n l0.length []).foldl (stepC l0 n) ([], -1) = (r1, r2)) := Aside0.mk (by
      have e1 := congrArg Prod.fst h
      have e2 := congrArg (fun x => x.2.1) h
      exact Prod.ext e1 e2)
    obtain rfl : true = r3 := congrArg (fun x => x.2.2) h
    have hc : slices_ContainsFunc_int_int_60.f l0 = some false := by rw [cont60_eq, chk_pos hok.1.2]
    have HCF := Aside0.mk hc
    obtain ⟨hw1, hw2, hw3⟩ : decide (8 < (l0.length : Int)) = false ∧ decide (1 ≤ (n : Int)) = true ∧ decide ((n : Int) ≤ 3) = true := ⟨decide_eq_false (by omega), decide_eq_true (by omega), decide_eq_true (by omega)⟩
    have hmul : wrap64 ((n : Int) * 4) = (n : Int) * 4 := wrap64_id (by omega) (by omega)
    have hw4 : decide ((n : Int) * 4 < (l0.length : Int)) = false := decide_eq_false (by have := hok.2.2; omega)
    have hwi : impl_within.f (n : Int) 1 3 = some true := by rw [impl_within_eq]; congr 1; exact decide_eq_true (by omega)
    have HWI := Aside0.mk hwi
    clear h hok hc hwi
    go_enter Try.func26, Try.ntmps26
    go_wp2_with (first | ((with_reducible refine gate_dst (N := 2) rfl ?_); refine box_event ?hg2 (N := 2) ?hd2 (cs := #[.slice A0 l0.length c0]) (t := 22) ?hr2 ?_; (case hd2 => rfl); (case hg2 => rfl); (case hr2 => first | (go_simp; done) | (go_simp; rfl)); intro g1 hgg1 w1 hboxg1 hbg1; have HX1 := Aside0.mk hboxg1; have HG1 := Aside0.mk hgg1; have HB1 := Aside0.mk hbg1; clear hgg1 hboxg1 hbg1) | ((with_reducible refine gate_dst (N := 3) rfl ?_); refine box_event ?hg3 (N := 3) ?hd3 (cs := #[.int .i64 (n : Int)]) (t := 3) ?hr3 ?_; (case hd3 => rfl); (case hg3 => rfl); (case hr3 => first | (go_simp; done) | (go_simp; rfl)); intro g2 hgg2 w2 hboxg2 hbg2; have HX2 := Aside0.mk hboxg2; have HG2 := Aside0.mk hgg2; have HB2 := Aside0.mk hbg2; have hy1 : w2.cell? ⟨g1, 0, none⟩ = some (.slice A0 l0.length c0) := (blk_cell (blk_below HX1.out hbg2) 0).trans rfl; have hy2 : w2.cell? ⟨g2, 0, none⟩ = some (.int .i64 (n : Int)) := (blk_cell hboxg2 0).trans rfl; clear hgg2 hboxg2 hbg2) | (go_at_call 58; refine (impl_within.calls (n : Int) 1 3 true _ HWI.out).mono ?_; rintro e wa ⟨rfl, hda⟩; have HBa := Aside0.mk hda.below; have hya1 := below_cell hda.below hy1; have hya2 := below_cell hda.below hy2; clear hda) | (go_at_call 59; refine (slices_ContainsFunc_int_int_60.calls A0 c0 l0 false _ (Kd.C_below HR.out (below_step HB1.out (below_step HB2.out HBa.out))) hc0 HCF.out).mono ?_; rintro e wb ⟨rfl, hdb⟩; have HBb := Aside0.mk hdb.below; have hyb1 := below_cell hdb.below hya1; have hyb2 := below_cell hdb.below hya2; clear hdb) | ((with_reducible refine gate_dst (N := 7) rfl ?_); refine box_event ?hg7 (N := 7) ?hd7 (cs := #[.slice none 0 0]) (t := 37) ?hr7 ?_; (case hd7 => rfl); (case hg7 => rfl); (case hr7 => first | (go_simp; done) | (go_simp; rfl)); intro g3 hgg3 w3 hboxg3 hbg3; have HX3 := Aside0.mk hboxg3; have HB3 := Aside0.mk (below_step HBa.out (below_step HBb.out hbg3)); have HG3 : Aside0 (w2.heap.size ≤ g3) := Aside0.mk (by rw [hgg3]; exact Nat.le_trans HBa.out.size HBb.out.size); clear hgg3 hboxg3 hbg3) | ((with_reducible refine gate_dst (N := 8) rfl ?_); refine box_event ?hg8 (N := 8) ?hd8 (cs := #[.int .i64 0]) (t := 3) ?hr8 ?_; (case hd8 => rfl); (case hg8 => rfl); (case hr8 => first | (go_simp; done) | (go_simp; rfl)); intro g4 hgg4 w4 hboxg4 hbg4; have HX4 := Aside0.mk hboxg4; have HG4 := Aside0.mk hgg4; have HB4 := Aside0.mk hbg4; have hz1 : w4.cell? ⟨g4, 0, none⟩ = some (.int .i64 0) := (blk_cell hboxg4 0).trans rfl; have hz2 := blk_frozen hboxg4 0; have hz3 := (split_boxes A0 c0 l0 n HG1.out HX1.out HB1.out HG2.out HX2.out HB2.out HG3.out HX3.out HB3.out HG4.out HX4.out HB4.out).2.1.cw_; have hz4 := (split_boxes A0 c0 l0 n HG1.out HX1.out HB1.out HG2.out HX2.out HB2.out HG3.out HX3.out HB3.out HG4.out HX4.out HB4.out).2.1.cn; clear hgg4 hboxg4 hbg4) | (go_at_call 61; refine calls_of_args (args' := #[.int .i64 ((l0.length : Nat) : Int), .int .i64 (n : Int), .func (.func 62) #[] #[.pointer (some ⟨g2, 0, none⟩), .pointer (some ⟨g1, 0, none⟩), .pointer (some ⟨g4, 0, none⟩), .pointer (some ⟨g3, 0, none⟩)]]) ?ca ?_; (case ca => (first | rfl | (simp; done) | (simp; omega))); refine (choices_any (split_back HW.out hn (split_boxes A0 c0 l0 n HG1.out HX1.out HB1.out HG2.out HX2.out HB2.out HG3.out HX3.out HB3.out HG4.out HX4.out HB4.out).1 HR.out hc0) l0.length n (by omega) (by omega) _ ([], -1) (fun _ => True) (chs_P n) (Nat.le_refl _) (split_boxes A0 c0 l0 n HG1.out HX1.out HB1.out HG2.out HX2.out HB2.out HG3.out HX3.out HB3.out HG4.out HX4.out HB4.out).2.1 (fun _ _ => trivial)).mono ?_; rintro e w5 ⟨rfl, hI5, hK5⟩; have HB5 := Aside0.mk (split_below (split_boxes A0 c0 l0 n HG1.out HX1.out HB1.out HG2.out HX2.out HB2.out HG3.out HX3.out HB3.out HG4.out HX4.out HB4.out).2.2 hK5 (split_boxes A0 c0 l0 n HG1.out HX1.out HB1.out HG2.out HX2.out HB2.out HG3.out HX3.out HB3.out HG4.out HX4.out HB4.out).1.l.1 (split_boxes A0 c0 l0 n HG1.out HX1.out HB1.out HG2.out HX2.out HB2.out HG3.out HX3.out HB3.out HG4.out HX4.out HB4.out).1.bb.1); rw [HF.out] at hI5; obtain ⟨v5, hv5, hr5⟩ := hI5.bb; have HR5 := Aside0.mk hr5; have hz5 : w5.cell? ⟨g4, 0, none⟩ = some (.int .i64 r2) := (blk_cell hI5.bl 0).trans rfl; have hz6 : w5.cell? ⟨g3, 0, none⟩ = some v5 := (blk_cell hv5 0).trans rfl; clear hI5 hv5 hr5 hK5))
    repeat (go_quiet (fail); try go_wp2)
    go_ret3
    exact ⟨_, rfl, by (with_reducible repeat (first | apply Kd.S_alloc | apply Kd.S_drewN | apply Kd.S_drew)); exact HR5.out, by repeat (first | (with_reducible first | exact HB5.out | apply below_alloc | apply pw_below_drewN | apply below_drew1) | exact HB5.out)⟩
  · rw [chk_neg hok] at h
    obtain ⟨rfl, h2⟩ := Prod.mk.inj h
    obtain ⟨rfl, rfl⟩ := Prod.mk.inj h2
    clear h h2
    by_cases h1 : 8 < (l0.length : Int)
    · have c1 : decide (8 < (l0.length : Int)) = true := decide_eq_true h1
      clear hok h1
      go_enter Try.func26, Try.ntmps26
      go_wp2_with (first | ((with_reducible refine gate_dst (N := 2) rfl ?_); refine box_event ?hg2 (N := 2) ?hd2 (cs := #[.slice A0 l0.length c0]) (t := 22) ?hr2 ?_; (case hd2 => rfl); (case hg2 => rfl); (case hr2 => first | (go_simp; done) | (go_simp; rfl)); intro g1 hgg1 w1 hboxg1 hbg1; have HX1 := Aside0.mk hboxg1; have HG1 := Aside0.mk hgg1; have HB1 := Aside0.mk hbg1; clear hgg1 hboxg1 hbg1) | ((with_reducible refine gate_dst (N := 3) rfl ?_); refine box_event ?hg3 (N := 3) ?hd3 (cs := #[.int .i64 a1]) (t := 3) ?hr3 ?_; (case hd3 => rfl); (case hg3 => rfl); (case hr3 => first | (go_simp; done) | (go_simp; rfl)); intro g2 hgg2 w2 hboxg2 hbg2; have HX2 := Aside0.mk hboxg2; have HG2 := Aside0.mk hgg2; have HB2 := Aside0.mk hbg2; have hy1 : w2.cell? ⟨g1, 0, none⟩ = some (.slice A0 l0.length c0) := (blk_cell (blk_below HX1.out hbg2) 0).trans rfl; have hy2 : w2.cell? ⟨g2, 0, none⟩ = some (.int .i64 a1) := (blk_cell hboxg2 0).trans rfl; clear hgg2 hboxg2 hbg2))
      go_ret3
      exact ⟨_, rfl, Kd.S_nil _ _ _ _ _, below_step HB1.out HB2.out⟩
    · have c1 : decide (8 < (l0.length : Int)) = false := decide_eq_false h1
      by_cases h2 : 1 ≤ a1 ∧ a1 ≤ 3
      · have hwi : impl_within.f a1 1 3 = some true := by rw [impl_within_eq]; congr 1; exact decide_eq_true h2
        have HWI := Aside0.mk hwi
        have hmul : wrap64 (a1 * 4) = a1 * 4 := wrap64_id (by omega) (by omega)
        clear hwi
        by_cases h3 : a1 * 4 < (l0.length : Int)
        · have c3 : decide (a1 * 4 < (l0.length : Int)) = true := decide_eq_true h3
          clear hok h1 h2 h3
          go_enter Try.func26, Try.ntmps26
          go_wp2_with (first | ((with_reducible refine gate_dst (N := 2) rfl ?_); refine box_event ?hg2 (N := 2) ?hd2 (cs := #[.slice A0 l0.length c0]) (t := 22) ?hr2 ?_; (case hd2 => rfl); (case hg2 => rfl); (case hr2 => first | (go_simp; done) | (go_simp; rfl)); intro g1 hgg1 w1 hboxg1 hbg1; have HX1 := Aside0.mk hboxg1; have HG1 := Aside0.mk hgg1; have HB1 := Aside0.mk hbg1; clear hgg1 hboxg1 hbg1) | ((with_reducible refine gate_dst (N := 3) rfl ?_); refine box_event ?hg3 (N := 3) ?hd3 (cs := #[.int .i64 a1]) (t := 3) ?hr3 ?_; (case hd3 => rfl); (case hg3 => rfl); (case hr3 => first | (go_simp; done) | (go_simp; rfl)); intro g2 hgg2 w2 hboxg2 hbg2; have HX2 := Aside0.mk hboxg2; have HG2 := Aside0.mk hgg2; have HB2 := Aside0.mk hbg2; have hy1 : w2.cell? ⟨g1, 0, none⟩ = some (.slice A0 l0.length c0) := (blk_cell (blk_below HX1.out hbg2) 0).trans rfl; have hy2 : w2.cell? ⟨g2, 0, none⟩ = some (.int .i64 a1) := (blk_cell hboxg2 0).trans rfl; clear hgg2 hboxg2 hbg2) | (go_at_call 58; refine (impl_within.calls a1 1 3 true _ HWI.out).mono ?_; rintro e wa ⟨rfl, hda⟩; have HBa := Aside0.mk hda.below; have hya1 := below_cell hda.below hy1; have hya2 := below_cell hda.below hy2; clear hda))
          go_ret3
          exact ⟨_, rfl, Kd.S_nil _ _ _ _ _, below_step HB1.out (below_step HB2.out HBa.out)⟩
        · have c3 : decide (a1 * 4 < (l0.length : Int)) = false := decide_eq_false h3
          have hcf : slices_ContainsFunc_int_int_60.f l0 = some true := by
            rw [cont60_eq, chk_neg (fun m => hok ⟨⟨by omega, m⟩, h2, by omega⟩)]
          have HCF := Aside0.mk hcf
          clear hok h1 h2 h3 hcf
          go_enter Try.func26, Try.ntmps26
          go_wp2_with (first | ((with_reducible refine gate_dst (N := 2) rfl ?_); refine box_event ?hg2 (N := 2) ?hd2 (cs := #[.slice A0 l0.length c0]) (t := 22) ?hr2 ?_; (case hd2 => rfl); (case hg2 => rfl); (case hr2 => first | (go_simp; done) | (go_simp; rfl)); intro g1 hgg1 w1 hboxg1 hbg1; have HX1 := Aside0.mk hboxg1; have HG1 := Aside0.mk hgg1; have HB1 := Aside0.mk hbg1; clear hgg1 hboxg1 hbg1) | ((with_reducible refine gate_dst (N := 3) rfl ?_); refine box_event ?hg3 (N := 3) ?hd3 (cs := #[.int .i64 a1]) (t := 3) ?hr3 ?_; (case hd3 => rfl); (case hg3 => rfl); (case hr3 => first | (go_simp; done) | (go_simp; rfl)); intro g2 hgg2 w2 hboxg2 hbg2; have HX2 := Aside0.mk hboxg2; have HG2 := Aside0.mk hgg2; have HB2 := Aside0.mk hbg2; have hy1 : w2.cell? ⟨g1, 0, none⟩ = some (.slice A0 l0.length c0) := (blk_cell (blk_below HX1.out hbg2) 0).trans rfl; have hy2 : w2.cell? ⟨g2, 0, none⟩ = some (.int .i64 a1) := (blk_cell hboxg2 0).trans rfl; clear hgg2 hboxg2 hbg2) | (go_at_call 58; refine (impl_within.calls a1 1 3 true _ HWI.out).mono ?_; rintro e wa ⟨rfl, hda⟩; have HBa := Aside0.mk hda.below; have hya1 := below_cell hda.below hy1; have hya2 := below_cell hda.below hy2; clear hda) | (go_at_call 59; refine (slices_ContainsFunc_int_int_60.calls A0 c0 l0 true _ (Kd.C_below HR.out (below_step HB1.out (below_step HB2.out HBa.out))) hc0 HCF.out).mono ?_; rintro e wb ⟨rfl, hdb⟩; have HBb := Aside0.mk hdb.below; have hyb1 := below_cell hdb.below hya1; have hyb2 := below_cell hdb.below hya2; clear hdb))
          go_ret3
          exact ⟨_, rfl, Kd.S_nil _ _ _ _ _, below_step HB1.out (below_step HB2.out (below_step HBa.out HBb.out))⟩
      · have hwi : impl_within.f a1 1 3 = some false := by rw [impl_within_eq]; congr 1; exact decide_eq_false h2
        have HWI := Aside0.mk hwi
        clear hok h1 h2 hwi
        go_enter Try.func26, Try.ntmps26
        go_wp2_with (first | ((with_reducible refine gate_dst (N := 2) rfl ?_); refine box_event ?hg2 (N := 2) ?hd2 (cs := #[.slice A0 l0.length c0]) (t := 22) ?hr2 ?_; (case hd2 => rfl); (case hg2 => rfl); (case hr2 => first | (go_simp; done) | (go_simp; rfl)); intro g1 hgg1 w1 hboxg1 hbg1; have HX1 := Aside0.mk hboxg1; have HG1 := Aside0.mk hgg1; have HB1 := Aside0.mk hbg1; clear hgg1 hboxg1 hbg1) | ((with_reducible refine gate_dst (N := 3) rfl ?_); refine box_event ?hg3 (N := 3) ?hd3 (cs := #[.int .i64 a1]) (t := 3) ?hr3 ?_; (case hd3 => rfl); (case hg3 => rfl); (case hr3 => first | (go_simp; done) | (go_simp; rfl)); intro g2 hgg2 w2 hboxg2 hbg2; have HX2 := Aside0.mk hboxg2; have HG2 := Aside0.mk hgg2; have HB2 := Aside0.mk hbg2; have hy1 : w2.cell? ⟨g1, 0, none⟩ = some (.slice A0 l0.length c0) := (blk_cell (blk_below HX1.out hbg2) 0).trans rfl; have hy2 : w2.cell? ⟨g2, 0, none⟩ = some (.int .i64 a1) := (blk_cell hboxg2 0).trans rfl; clear hgg2 hboxg2 hbg2) | (go_at_call 58; refine (impl_within.calls a1 1 3 false _ HWI.out).mono ?_; rintro e wa ⟨rfl, hda⟩; have HBa := Aside0.mk hda.below; have hya1 := below_cell hda.below hy1; have hya2 := below_cell hda.below hy2; clear hda))
        go_ret3
        exact ⟨_, rfl, Kd.S_nil _ _ _ _ _, below_step HB1.out (below_step HB2.out HBa.out)⟩
end Go.Proofs.Ytcgfedaoimhejaa.G

-- Written by wip/tools/gen.py out of the translation (the kit's printer, one namespace a seat). Lean checks it.
namespace Go.Proofs.Ytcgfedaoimhejaa.G
open Go.RowKit Go.Proofs.YtcgfedaoimhejaaW.PrintWords Go.Proofs.YtcgfedaoimhejaaW.PrintLast Go.Proofs.YtcgfedaoimhejaaW.PrintMore
attribute [local go_sem] max2_int min2_int max_two min_two max_three min_three max_four min_four   -- for this text's walks alone
set_option linter.unusedVariables false
set_option linter.unusedSimpArgs false

/-! ### laws_toIntS: function 13 -/
def laws_toIntS.l0 : Nat → List Int → List Int → Int → Option (List Int)
 | 0, _, _, _ => none
 | k + 1, x0, x3, x4 => if x4 < (x0.length : Int) then (if 0 ≤ x4 then (if x4 < (x3.length : Int) then (laws_toIntS.l0 k x0 (x3.set (x4 : Int).toNat (rd x0 x4)) (wrap64 (x4 + 1))) else (none)) else (none)) else (some x3)
def laws_toIntS.f (k : Nat) (l0 : List Int) : Option (List Int) := if 0 ≤ (l0.length : Int) then (if ((l0.length : Int) : Int).toNat ≤ 35184372088832 then (laws_toIntS.l0 k l0 (List.replicate ((l0.length : Int) : Int).toNat 0) 0) else (none)) else (none)
set_option maxHeartbeats 8000000 in
set_option maxRecDepth 100000 in
theorem laws_toIntS.calls (k : Nat) (A0 : Option Addr) (c0 : Nat) (l0 : List Int) (r : List Int) (w : World) (hr0 : Kd.C (Kd.int .i64) w A0 l0.length l0) (hc0 : l0.length ≤ c0) (h : laws_toIntS.f k l0 = some r) :
  Calls Try.prog 13 #[.slice A0 l0.length c0] w fun e w' => ∃ v0_ : Value, e = .returned (v0_) ∧ Kd.R (Kd.int .i64) 3 w' w.heap.size (fun _ => True) v0_ r ∧ Below w.heap.size w w' := by
 have HR0 := Aside0.mk hr0
 have HC0 := Aside0.mk hc0
 clear hr0 hc0
 have HB := Aside0.mk (Below.refl w.heap.size w)
 have H : (if 0 ≤ (l0.length : Int) then (if ((l0.length : Int) : Int).toNat ≤ 35184372088832 then (laws_toIntS.l0 k l0 (List.replicate ((l0.length : Int) : Int).toNat 0) 0) else (none)) else (none)) = some r := h
 clear h
 by_cases c2 : 0 ≤ (l0.length : Int)
 ·rw [if_pos c2] at H
  have c2b0 := eq_true c2
  have c2b1 : decide (0 ≤ (l0.length : Int)) = true := decide_eq_true c2
  clear c2
  by_cases c3 : ((l0.length : Int) : Int).toNat ≤ 35184372088832
  ·rw [if_pos c3] at H
   have c3b0 := eq_true c3
   have c3b1 : decide (((l0.length : Int) : Int).toNat ≤ 35184372088832) = true := decide_eq_true c3
   clear c3
   obtain ⟨y137, hy137⟩ : ∃ y_ : List Int, y_ = (List.replicate ((l0.length : Int) : Int).toNat 0) := ⟨_, rfl⟩
   replace H : (laws_toIntS.l0 k l0 y137 0) = some r := by first | (rw [hy137]; with_reducible exact H) | (have H2_ := (Option.bind_some _ _).symm.trans H; rw [hy137]; with_reducible exact H2_) | (have H2_ := (Option.bind_some _ _).symm.trans H; with_reducible exact H2_) | with_reducible exact H | (rw [hy137]; exact H) | exact H
   have Ny137 := Aside0.mk hy137
   clear hy137
   have H' := Aside0.mk H
   clear H
   go_enter Try.func13, Try.ntmps13
   go_wp2_with (first | ((with_reducible refine gate_dst (N := 7) rfl ?_); refine Kd.R_make (Kd.int .i64) _ 3 rfl (N := 7) rfl 22 _ _ rfl (l0.length : Int) rfl rfl Try.underlying22 (.int .i64 0) 8 info3 rfl (by decide) (by omega) 0 (ok := fun _ => True) (okp := fun _ => True) rfl (fun _ hk => hk) trivial (of_decide_eq_true (by first | (with_reducible assumption) | assumption)) (Nat.le_trans (Nat.mul_le_mul_right _ (of_decide_eq_true (by first | (with_reducible assumption) | assumption) : (l0.length : Int).toNat ≤ 35184372088832)) (by omega)) (Below.refl _ _) (Nat.le_refl _) ?_; intro v138 w4 ho5 hb hg_ hnew_; clear hg_ hnew_; (first | rw [← Ny137.out] at ho5 | (simp only [Int.reduceToNat] at ho5; rw [← Ny137.out] at ho5)); have n0_ := Aside0.mk (Kd.R_lower ho5 (below_size (by repeat (first | (with_reducible first | exact HB.out | apply below_alloc | apply pw_below_drewN | apply below_drew1) | exact HB.out)))); have n1_ := Aside0.mk (below_step (by repeat (first | (with_reducible first | exact HB.out | apply below_alloc | apply pw_below_drewN | apply below_drew1) | exact HB.out)) hb); clear HB; have HO139 := n0_; have HB := n1_; clear n0_ n1_; clear hb ho5))
   go_loopg [4] k (fun kq v4 w' => ∃ (x3_1 : List Int) (x4_1 : Int), v4 = .int .i64 x4_1 ∧ Aside0 (laws_toIntS.l0 kq l0 x3_1 x4_1 = some r) ∧ Aside0 (kq ≤ k) ∧ Aside0 (Kd.R (Kd.int .i64) 3 w' w.heap.size (fun _ => True) v138 x3_1) ∧ Aside0 (Below w.heap.size w w'))
   case atStart => exact ⟨(y137), (0), (by first | rfl | (simp; done) | (simp [*]; done)), H', ⟨Nat.le_refl _⟩, ⟨by (with_reducible repeat (first | apply Kd.R_alloc | apply Kd.R_drewN | apply Kd.R_drew)); exact HO139.out⟩, ⟨by repeat (first | (with_reducible first | exact HB.out | apply below_alloc | apply pw_below_drewN | apply below_drew1) | exact HB.out)⟩⟩
   case round =>
    clear H'
    try clear c1
    try clear c2
    try clear c2b0
    try clear c2b1
    try clear p2
    try clear c3
    try clear c3b0
    try clear c3b1
    obtain ⟨x3_1, x4_1, rfl, HA, HK1, HO_3, HB⟩ := hrel
    cases gk with
    | zero => exact absurd HA.out (by simp [laws_toIntS.l0])
    | succ k1 =>
     have H := HA.out
     clear HA
     simp only [laws_toIntS.l0] at H
     by_cases c6 : x4_1 < (l0.length : Int)
     ·rw [if_pos c6] at H
      have c6b0 : decide (x4_1 < (l0.length : Int)) = true := decide_eq_true c6
      clear c6
      by_cases c7 : 0 ≤ x4_1
      ·rw [if_pos c7] at H
       have c7b0 : decide (0 ≤ x4_1) = true := decide_eq_true c7
       clear c7
       by_cases c8 : x4_1 < (x3_1.length : Int)
       ·rw [if_pos c8] at H
        have c8b0 : decide (x4_1 < (x3_1.length : Int)) = true := decide_eq_true c8
        clear c8
        obtain ⟨y141, hy141⟩ : ∃ y_ : List Int, y_ = (x3_1.set (x4_1 : Int).toNat (rd l0 x4_1)) := ⟨_, rfl⟩
        replace H : (laws_toIntS.l0 k1 l0 y141 (wrap64 (x4_1 + 1))) = some r := by first | (rw [hy141]; with_reducible exact H) | (have H2_ := (Option.bind_some _ _).symm.trans H; rw [hy141]; with_reducible exact H2_) | (have H2_ := (Option.bind_some _ _).symm.trans H; with_reducible exact H2_) | with_reducible exact H | (rw [hy141]; exact H) | exact H
        have Ny141 := Aside0.mk hy141
        clear hy141
        have H' := Aside0.mk H
        clear H
        have p140 : 0 ≤ (x4_1 : Int) := of_decide_eq_true (by first | (with_reducible assumption) | assumption)
        have q140 : x4_1 < (l0.length : Int) := of_decide_eq_true (by first | (with_reducible assumption) | assumption)
        obtain ⟨ad140, e140, hx140_0⟩ := Kd.at_int HR0.out x4_1 p140 q140
        cases e140
        replace hx140_0 := (HB.out.cell (World.block_lt_of_cell? w _ hx140_0)).trans hx140_0
        replace p140 := eq_true p140
        replace q140 := eq_true q140
        have p9 : 0 ≤ (x4_1 : Int) := of_decide_eq_true (by first | (with_reducible assumption) | assumption)
        have q9 : (x4_1 : Int) < ((x3_1.length : Int) : Int) := of_decide_eq_true (by first | (with_reducible assumption) | assumption)
        obtain ⟨go9, co9, eo9, gb9, gl9, cl9, HG9⟩ := Kd.R_form HO_3.out (by omega)
        (first | cases eo9 | (injection eo9 with ea_ en_ ec_; (first | subst ea_ | (injection ea_ with ea_; subst ea_)); subst ec_; clear en_))
        have GB9 := Aside0.mk gb9
        have GG9 := Aside0.mk HG9
        clear gb9 gl9 HG9
        obtain ⟨hx9_0, hf9_0⟩ := Kd.R_celln 0 HO_3.out (x4_1 : Int) p9 q9
        replace p9 := eq_true p9
        replace q9 := eq_true q9
        have HP10 := Kd.R_putg HO_3.out (x4_1 : Int) (rd l0 x4_1)
        go_wp2_with (first | ((with_reducible refine gate_store (t := 3) (p := 20) rfl ?_); refine store_event (t := 3) (p := 20) (v := ?vo_w11) (w1 := (wr.setCell ⟨go9, (x4_1 : Int).toNat, none⟩ (.int .i64 (rd l0 x4_1)))) ?hg ?ho ?hn ?hr ?_; (case ho => rfl); (case hg => rfl); (case hn => rfl); (case hr => first | (go_simp; done) | (go_simp; rfl)); intro w11 hw; have hg : wr.grownBy w11 (some go9) := (by rw [hw]; exact HP10.2); have hp_ : Kd.R (Kd.int .i64) 3 w11 w.heap.size (fun _ => True) (.slice (some ⟨go9, 0, none⟩) x3_1.length co9) y141 := (by rw [hw, Ny141.out]; exact HP10.1); clear HP10; have n0_ := Aside0.mk (hp_); have n1_ := Aside0.mk ((by rw [hw]; exact below_set (HB.out) GB9.out : Below w.heap.size w w11)); clear HO_3; clear HB; have HO_3 := n0_; have HB := n1_; clear n0_ n1_; clear hg hw hp_))
        go_roundg k1
        case measure => have := HK1.out; omega
        case rel => exact ⟨(y141), (wrap64 (x4_1 + 1)), (by first | rfl | (simp; done) | (simp [*]; done)), H', ⟨by have := HK1.out; omega⟩, ⟨by (with_reducible repeat (first | apply Kd.R_alloc | apply Kd.R_drewN | apply Kd.R_drew)); exact HO_3.out⟩, ⟨by repeat (first | (with_reducible first | exact HB.out | apply below_alloc | apply pw_below_drewN | apply below_drew1) | exact HB.out)⟩⟩
       ·rw [if_neg c8] at H
        exact absurd H (by simp)
      ·rw [if_neg c7] at H
       exact absurd H (by simp)
     ·rw [if_neg c6] at H
      have c6b0 : decide (x4_1 < (l0.length : Int)) = false := decide_eq_false c6
      clear c6
      obtain rfl := Option.some.inj H
      go_wp2
      go_ret
      exact ⟨_, by first | rfl | (simp [errW_none, errW_some] <;> rfl) | (simp [*, errW_none, errW_some] <;> rfl), by (with_reducible repeat (first | apply Kd.R_alloc | apply Kd.R_drewN | apply Kd.R_drew)); exact HO_3.out, by repeat (first | (with_reducible first | exact HB.out | apply below_alloc | apply pw_below_drewN | apply below_drew1) | exact HB.out)⟩
  ·rw [if_neg c3] at H
   exact absurd H (by simp)
 ·rw [if_neg c2] at H
  exact absurd H (by simp)

end Go.Proofs.Ytcgfedaoimhejaa.G

-- Written by wip/tools/gen.py out of the translation (the kit's printer, one namespace a seat). Lean checks it.
namespace Go.Proofs.Ytcgfedaoimhejaa.G
open Go.RowKit Go.Proofs.YtcgfedaoimhejaaW.PrintWords Go.Proofs.YtcgfedaoimhejaaW.PrintLast Go.Proofs.YtcgfedaoimhejaaW.PrintMore
attribute [local go_sem] max2_int min2_int max_two min_two max_three min_three max_four min_four   -- for this text's walks alone
set_option linter.unusedVariables false
set_option linter.unusedSimpArgs false

/-! ### laws_eqIntS: function 16 -/
def laws_eqIntS.l0 : Nat → List Int → List Int → Int → Option (Bool)
 | 0, _, _, _ => none
 | k + 1, x0, x1, x5 => if x5 < (x0.length : Int) then (if 0 ≤ x5 then (if x5 < (x1.length : Int) then (if (rd x0 x5) = (rd x1 x5) then (laws_eqIntS.l0 k x0 x1 (wrap64 (x5 + 1))) else (some false)) else (none)) else (none)) else (some true)
def laws_eqIntS.f (k : Nat) (l0 : List Int) (l1 : List Int) : Option (Bool) := if (l0.length : Int) = (l1.length : Int) then (laws_eqIntS.l0 k l0 l1 0) else (some false)
set_option maxHeartbeats 8000000 in
set_option maxRecDepth 100000 in
theorem laws_eqIntS.calls (k : Nat) (A0 : Option Addr) (c0 : Nat) (l0 : List Int) (A1 : Option Addr) (c1 : Nat) (l1 : List Int) (r : Bool) (w : World) (hr0 : Kd.C (Kd.int .i64) w A0 l0.length l0) (hc0 : l0.length ≤ c0) (hr1 : Kd.C (Kd.int .i64) w A1 l1.length l1) (hc1 : l1.length ≤ c1) (h : laws_eqIntS.f k l0 l1 = some r) :
  Calls Try.prog 16 #[.slice A0 l0.length c0, .slice A1 l1.length c1] w fun e w' => e = .returned (.bool r) ∧ Drawn0 w w' := by
 have HR0 := Aside0.mk hr0
 have HC0 := Aside0.mk hc0
 clear hr0 hc0
 have HR1 := Aside0.mk hr1
 have HC1 := Aside0.mk hc1
 clear hr1 hc1
 have H : (if (l0.length : Int) = (l1.length : Int) then (laws_eqIntS.l0 k l0 l1 0) else (some false)) = some r := h
 clear h
 by_cases c3 : (l0.length : Int) = (l1.length : Int)
 ·rw [if_pos c3] at H
  have c3b0 : ((l0.length : Int) == (l1.length : Int)) = true := beq_iff_eq.mpr c3
  have c3b1 : ((l0.length : Int) != (l1.length : Int)) = false := bne_eq_false_iff_eq.mpr c3
  have c3b2 : (l0.length == l1.length) = true := by first | simpa using c3 | (simp at c3 ⊢; omega)
  clear c3
  have H' := Aside0.mk H
  clear H
  go_enter Try.func16, Try.ntmps16
  go_wp2
  repeat (go_quiet (fail); try go_wp2)
  go_loopg [5] k (fun kq v5 w' => ∃ (x5_1 : Int), v5 = .int .i64 x5_1 ∧ Aside0 (laws_eqIntS.l0 kq l0 l1 x5_1 = some r) ∧ Aside0 (kq ≤ k) ∧ Drawn0 w w')
  case atStart => exact ⟨(0), (by first | rfl | (simp; done) | (simp [*]; done)), H', ⟨Nat.le_refl _⟩, by repeat (first | exact Drawn0.refl _ | apply Drawn0.step)⟩
  case round =>
   clear H'
   try clear c1
   try clear p2
   try clear c3
   try clear c3b0
   try clear c3b1
   try clear c3b2
   obtain ⟨x5_1, rfl, HA, HK1, ⟨m1, rfl⟩⟩ := hrel
   cases gk with
   | zero => exact absurd HA.out (by simp [laws_eqIntS.l0])
   | succ k1 =>
    have H := HA.out
    clear HA
    simp only [laws_eqIntS.l0] at H
    by_cases c4 : x5_1 < (l0.length : Int)
    ·rw [if_pos c4] at H
     have c4b0 : decide (x5_1 < (l0.length : Int)) = true := decide_eq_true c4
     clear c4
     by_cases c5 : 0 ≤ x5_1
     ·rw [if_pos c5] at H
      have c5b0 : decide (0 ≤ x5_1) = true := decide_eq_true c5
      clear c5
      by_cases c6 : x5_1 < (l1.length : Int)
      ·rw [if_pos c6] at H
       have c6b0 : decide (x5_1 < (l1.length : Int)) = true := decide_eq_true c6
       clear c6
       by_cases c7 : (rd l0 x5_1) = (rd l1 x5_1)
       ·rw [if_pos c7] at H
        have c7b0 : ((rd l0 x5_1) == (rd l1 x5_1)) = true := beq_iff_eq.mpr c7
        have c7b1 : ((rd l0 x5_1) != (rd l1 x5_1)) = false := bne_eq_false_iff_eq.mpr c7
        clear c7
        have H' := Aside0.mk H
        clear H
        have p167 : 0 ≤ (x5_1 : Int) := of_decide_eq_true (by first | (with_reducible assumption) | assumption)
        have q167 : x5_1 < (l0.length : Int) := of_decide_eq_true (by first | (with_reducible assumption) | assumption)
        obtain ⟨ad167, e167, hx167_0⟩ := Kd.at_int HR0.out x5_1 p167 q167
        cases e167
        replace p167 := eq_true p167
        replace q167 := eq_true q167
        have p168 : 0 ≤ (x5_1 : Int) := of_decide_eq_true (by first | (with_reducible assumption) | assumption)
        have q168 : x5_1 < (l1.length : Int) := of_decide_eq_true (by first | (with_reducible assumption) | assumption)
        obtain ⟨ad168, e168, hx168_0⟩ := Kd.at_int HR1.out x5_1 p168 q168
        cases e168
        replace p168 := eq_true p168
        replace q168 := eq_true q168
        go_wp2
        repeat (go_quiet (fail); try go_wp2)
        go_roundg k1
        case measure => have := HK1.out; omega
        case rel => exact ⟨(wrap64 (x5_1 + 1)), (by first | rfl | (simp; done) | (simp [*]; done)), H', ⟨by have := HK1.out; omega⟩, by repeat (first | exact Drawn0.refl _ | apply Drawn0.step)⟩
       ·rw [if_neg c7] at H
        have c7b0 : ((rd l0 x5_1) == (rd l1 x5_1)) = false := beq_eq_false_iff_ne.mpr c7
        have c7b1 : ((rd l0 x5_1) != (rd l1 x5_1)) = true := bne_iff_ne.mpr c7
        obtain rfl := Option.some.inj H
        have p167 : 0 ≤ (x5_1 : Int) := of_decide_eq_true (by first | (with_reducible assumption) | assumption)
        have q167 : x5_1 < (l0.length : Int) := of_decide_eq_true (by first | (with_reducible assumption) | assumption)
        obtain ⟨ad167, e167, hx167_0⟩ := Kd.at_int HR0.out x5_1 p167 q167
        cases e167
        replace p167 := eq_true p167
        replace q167 := eq_true q167
        have p168 : 0 ≤ (x5_1 : Int) := of_decide_eq_true (by first | (with_reducible assumption) | assumption)
        have q168 : x5_1 < (l1.length : Int) := of_decide_eq_true (by first | (with_reducible assumption) | assumption)
        obtain ⟨ad168, e168, hx168_0⟩ := Kd.at_int HR1.out x5_1 p168 q168
        cases e168
        replace p168 := eq_true p168
        replace q168 := eq_true q168
        go_wp2
        repeat (go_quiet (fail); try go_wp2)
        go_ret
        exact ⟨by first | rfl | (simp; done) | (simp [*]; done), by repeat (first | exact Drawn0.refl _ | apply Drawn0.step)⟩
      ·rw [if_neg c6] at H
       exact absurd H (by simp)
     ·rw [if_neg c5] at H
      exact absurd H (by simp)
    ·rw [if_neg c4] at H
     have c4b0 : decide (x5_1 < (l0.length : Int)) = false := decide_eq_false c4
     clear c4
     obtain rfl := Option.some.inj H
     go_wp2
     repeat (go_quiet (fail); try go_wp2)
     go_ret
     exact ⟨by first | rfl | (simp; done) | (simp [*]; done), by repeat (first | exact Drawn0.refl _ | apply Drawn0.step)⟩
 ·rw [if_neg c3] at H
  have c3b0 : ((l0.length : Int) == (l1.length : Int)) = false := beq_eq_false_iff_ne.mpr c3
  have c3b1 : ((l0.length : Int) != (l1.length : Int)) = true := bne_iff_ne.mpr c3
  have c3b2 : (l0.length == l1.length) = false := by first | simpa using c3 | (simp at c3 ⊢; omega)
  obtain rfl := Option.some.inj H
  go_enter Try.func16, Try.ntmps16
  go_wp2
  repeat (go_quiet (fail); try go_wp2)
  go_ret
  exact ⟨by first | rfl | (simp; done) | (simp [*]; done), by repeat (first | exact Drawn0.refl _ | apply Drawn0.step)⟩

end Go.Proofs.Ytcgfedaoimhejaa.G

namespace Go.Proofs.Ytcgfedaoimhejaa.G
open Go.RowKit Go.Proofs.YtcgfedaoimhejaaW.PrintWords Go.Proofs.YtcgfedaoimhejaaW.PrintLast
set_option linter.unusedVariables false
set_option linter.unusedSimpArgs false
theorem to_I (xs : List Int) (h : (xs.length : Int) ≤ 1048576) : Ev (fun k => laws_toIntS.f k xs) xs := by
  unfold laws_toIntS.f
  simp (disch := omega) only [if_pos]
  simp only [Int.toNat_natCast]
  have := Ev.fill (fun k out i => laws_toIntS.l0 k xs out i) xs (fun x => x) (0 : Int) (0 : Int) (by
    intro out
    refine Ev.step (fun k => by rw [laws_toIntS.l0]) ?_
    simp only [Int.lt_irrefl, if_false]
    exact Ev.now _) (by
    intro out i hl h0 hlt r hr
    refine Ev.step (fun k => by rw [laws_toIntS.l0]) ?_
    simp (disch := omega) only [wrap64_id, if_pos, Option.bind_some, hl]
    exact hr)
  rwa [List.map_id'] at this
theorem eq_I (xs : List Int) (h : (xs.length : Int) ≤ 1048576) : Ev (fun k => laws_eqIntS.f k xs xs) true := by
  unfold laws_eqIntS.f
  simp only [if_true]
  refine Ev.upc (fun k i => laws_eqIntS.l0 k xs xs i) true (xs.length : Int) 0 ?_ ?_ 0 (by omega) (by omega)
  · refine Ev.step (fun k => by rw [laws_eqIntS.l0]) ?_
    simp only [Int.lt_irrefl, if_false]
    exact Ev.now _
  · intro i h0 hlt hr
    refine Ev.step (fun k => by rw [laws_eqIntS.l0]) ?_
    simp (disch := omega) only [wrap64_id, if_pos, Option.bind_some, if_true]
    exact hr
end Go.Proofs.Ytcgfedaoimhejaa.G

-- Written by wip/tools/gen.py out of the translation (the kit's printer, one namespace a seat). Lean checks it.
namespace Go.Proofs.Ytcgfedaoimhejaa.G
open Go.RowKit Go.Proofs.YtcgfedaoimhejaaW.PrintWords Go.Proofs.YtcgfedaoimhejaaW.PrintLast Go.Proofs.YtcgfedaoimhejaaW.PrintMore
attribute [local go_sem] max2_int min2_int max_two min_two max_three min_three max_four min_four   -- for this text's walks alone
set_option linter.unusedVariables false
set_option linter.unusedSimpArgs false

/-! ### laws_markIntS: function 17 -/
def laws_markIntS.l0 : Nat → List Int → Int → Int → Option (Int × List Int)
 | 0, _, _, _ => none
 | k + 1, x0, x1, x5 => if x5 < (x0.length : Int) then (if 0 ≤ x5 then (laws_markIntS.l0 k (x0.set (x5 : Int).toNat x1) (wrap64 (x1 + 1)) (wrap64 (x5 + 1))) else (none)) else (some (x1, x0))
def laws_markIntS.f (k : Nat) (l0 : List Int) (a1 : Int) : Option (Int × List Int) := laws_markIntS.l0 k l0 a1 0
theorem laws_markIntS.mono_l : ∀ k, (∀ y0 y1 y2, LeO (laws_markIntS.l0 k y0 y1 y2) (laws_markIntS.l0 (k + 1) y0 y1 y2))
 | 0 => fun _ _ _ r h => by simp [laws_markIntS.l0] at h
 | k + 1 => by
  have ih0 := laws_markIntS.mono_l k
  ·intro y0 y1 y2
   unfold laws_markIntS.l0
   repeat' first
   | (with_reducible exact ih0 _ _ _)
   | (with_reducible exact LeO.refl _)
   | (with_reducible exact LeO.none _)
   | (with_reducible refine LeO.ite ?_ ?_)
   | (with_reducible refine LeO.bind ?_ (fun _ => ?_))
   | exact ih0 _ _ _
   | exact LeO.none _
   | refine LeO.ite ?_ ?_
   | refine LeO.bind ?_ (fun _ => ?_)
theorem laws_markIntS.mono : ∀ a0 a1 k, LeO (laws_markIntS.f k a0 a1) (laws_markIntS.f (k + 1) a0 a1) := by
 intro a0 a1 k
 have ih0 := laws_markIntS.mono_l k
 unfold laws_markIntS.f
 repeat' first
   | (with_reducible exact ih0 _ _ _)
   | (with_reducible exact LeO.refl _)
   | (with_reducible exact LeO.none _)
   | (with_reducible refine LeO.ite ?_ ?_)
   | (with_reducible refine LeO.bind ?_ (fun _ => ?_))
   | exact ih0 _ _ _
   | exact LeO.none _
   | refine LeO.ite ?_ ?_
   | refine LeO.bind ?_ (fun _ => ?_)
set_option maxHeartbeats 8000000 in
set_option maxRecDepth 100000 in
theorem laws_markIntS.calls (k : Nat) (P0_ : Nat → Prop) (u9000_ : Value) (l0 : List Int) (a1 : Int) (r1 : Int) (r2 : List Int) (w0 w : World) (hB : Below w0.heap.size w0 w) (ho0 : Kd.R (Kd.int .i64) 3 w w0.heap.size P0_ u9000_ l0) (h : laws_markIntS.f k l0 a1 = some (r1, r2)) :
  Calls Try.prog 17 #[u9000_, .int .i64 a1] w fun e w' => e = .returned (.int .i64 r1) ∧ Kd.R (Kd.int .i64) 3 w' w0.heap.size (fun k_ => (P0_ k_ ∨ w.heap.size ≤ k_)) u9000_ r2 ∧ Below w0.heap.size w0 w' ∧ Kept w w' (fun k_ => P0_ k_) := by
 have HO0 := Aside0.mk (show Kd.R (Kd.int .i64) 3 w w0.heap.size (fun k_ => (P0_ k_ ∨ w.heap.size ≤ k_)) u9000_ l0 from Kd.R_mono ho0 (fun k_ hk => (.inl hk)))
 have HK := Aside0.mk (Kept.refl w (fun k_ => P0_ k_))
 have HW0 := Aside0.mk hB.size
 have HB := Aside0.mk hB
 clear hB
 have H : (laws_markIntS.l0 k l0 a1 0) = some (r1, r2) := h
 clear h
 have H' := Aside0.mk H
 clear H
 go_enter Try.func17, Try.ntmps17
 go_wp2
 go_loopg [1, 5] k (fun kq v1 v5 w' => ∃ (x0_1 : List Int) (x1_1 : Int) (x5_1 : Int), v1 = .int .i64 x1_1 ∧ v5 = .int .i64 x5_1 ∧ Aside0 (laws_markIntS.l0 kq x0_1 x1_1 x5_1 = some (r1, r2)) ∧ Aside0 (kq ≤ k) ∧ Aside0 (Kd.R (Kd.int .i64) 3 w' w0.heap.size (fun k_ => (P0_ k_ ∨ w.heap.size ≤ k_)) u9000_ x0_1) ∧ Aside0 (Kept w w' (fun k_ => P0_ k_)) ∧ Aside0 (Below w0.heap.size w0 w'))
 case atStart => exact ⟨(l0), (a1), (0), (by first | rfl | (simp; done) | (simp [*]; done)), (by first | rfl | (simp; done) | (simp [*]; done)), H', ⟨Nat.le_refl _⟩, ⟨by (with_reducible repeat (first | apply Kd.R_alloc | apply Kd.R_drewN | apply Kd.R_drew)); exact HO0.out⟩, ⟨by repeat (first | (with_reducible first | exact HK.out | apply Kept.alloc | apply Kept.drewN | apply Kept.drew) | exact HK.out)⟩, ⟨by repeat (first | (with_reducible first | exact HB.out | apply below_alloc | apply pw_below_drewN | apply below_drew1) | exact HB.out)⟩⟩
 case round =>
  clear H'
  try clear c1
  try clear p2
  obtain ⟨x0_1, x1_1, x5_1, rfl, rfl, HA, HK1, HO_0, HK, HB⟩ := hrel
  cases gk with
  | zero => exact absurd HA.out (by simp [laws_markIntS.l0])
  | succ k1 =>
   have H := HA.out
   clear HA
   simp only [laws_markIntS.l0] at H
   by_cases c3 : x5_1 < (x0_1.length : Int)
   ·rw [if_pos c3] at H
    have c3b0 : decide (x5_1 < (x0_1.length : Int)) = true := decide_eq_true c3
    clear c3
    by_cases c4 : 0 ≤ x5_1
    ·rw [if_pos c4] at H
     have c4b0 : decide (0 ≤ x5_1) = true := decide_eq_true c4
     clear c4
     obtain ⟨y169, hy169⟩ : ∃ y_ : List Int, y_ = (x0_1.set (x5_1 : Int).toNat x1_1) := ⟨_, rfl⟩
     replace H : (laws_markIntS.l0 k1 y169 (wrap64 (x1_1 + 1)) (wrap64 (x5_1 + 1))) = some (r1, r2) := by first | (rw [hy169]; with_reducible exact H) | (have H2_ := (Option.bind_some _ _).symm.trans H; rw [hy169]; with_reducible exact H2_) | (have H2_ := (Option.bind_some _ _).symm.trans H; with_reducible exact H2_) | with_reducible exact H | (rw [hy169]; exact H) | exact H
     have Ny169 := Aside0.mk hy169
     clear hy169
     have H' := Aside0.mk H
     clear H
     obtain ⟨Ao6, co6, eo6⟩ := Kd.R_slice HO_0.out
     subst eo6
     have p5 : 0 ≤ (x5_1 : Int) := of_decide_eq_true (by first | (with_reducible assumption) | assumption)
     have q5 : (x5_1 : Int) < ((x0_1.length : Int) : Int) := of_decide_eq_true (by first | (with_reducible assumption) | assumption)
     obtain ⟨go5, co5, eo5, gb5, gl5, cl5, HG5⟩ := Kd.R_form HO_0.out (by omega)
     (first | cases eo5 | (injection eo5 with ea_ en_ ec_; (first | subst ea_ | (injection ea_ with ea_; subst ea_)); subst ec_; clear en_))
     have GB5 := Aside0.mk gb5
     have GG5 := Aside0.mk HG5
     clear gb5 gl5 HG5
     have HMgo5 := Aside0.mk (show (P0_ go5 ∨ w.heap.size ≤ go5) from (HO_0.out.1 _ rfl))
     obtain ⟨hx5_0, hf5_0⟩ := Kd.R_celln 0 HO_0.out (x5_1 : Int) p5 q5
     replace p5 := eq_true p5
     replace q5 := eq_true q5
     have HP7 := Kd.R_putg HO_0.out (x5_1 : Int) x1_1
     go_wp2_with (first | ((with_reducible refine gate_store (t := 3) (p := 15) rfl ?_); refine store_event (t := 3) (p := 15) (v := ?vo_w8) (w1 := (wr.setCell ⟨go5, (x5_1 : Int).toNat, none⟩ (.int .i64 x1_1))) ?hg ?ho ?hn ?hr ?_; (case ho => rfl); (case hg => rfl); (case hn => rfl); (case hr => first | (go_simp; done) | (go_simp; rfl)); intro w8 hw; have hg : wr.grownBy w8 (some go5) := (by rw [hw]; exact HP7.2); have hp_ : Kd.R (Kd.int .i64) 3 w8 w0.heap.size (fun k_ => (P0_ k_ ∨ w.heap.size ≤ k_)) (.slice (some ⟨go5, 0, none⟩) x0_1.length co6) y169 := (by rw [hw, Ny169.out]; exact HP7.1); clear HP7; have n0_ := Aside0.mk (hp_); have n1_ := Aside0.mk ((by rw [hw]; exact below_set (HB.out) GB5.out : Below w0.heap.size w0 w8)); have n2_ := Aside0.mk (Kept.of_grown (S := (fun k_ => P0_ k_)) hg (by repeat (first | (with_reducible first | exact HK.out | apply Kept.alloc | apply Kept.drewN | apply Kept.drew) | exact HK.out)) (fun k_ e_ => (HO_0.out.1 k_ e_))); clear HO_0; clear HB; clear HK; have HO_0 := n0_; have HB := n1_; have HK := n2_; clear n0_ n1_ n2_; clear hg hw hp_))
     go_roundg k1
     case measure => have := HK1.out; omega
     case rel => exact ⟨(y169), (wrap64 (x1_1 + 1)), (wrap64 (x5_1 + 1)), (by first | rfl | (simp; done) | (simp [*]; done)), (by first | rfl | (simp; done) | (simp [*]; done)), H', ⟨by have := HK1.out; omega⟩, ⟨by (with_reducible repeat (first | apply Kd.R_alloc | apply Kd.R_drewN | apply Kd.R_drew)); exact HO_0.out⟩, ⟨by repeat (first | (with_reducible first | exact HK.out | apply Kept.alloc | apply Kept.drewN | apply Kept.drew) | exact HK.out)⟩, ⟨by repeat (first | (with_reducible first | exact HB.out | apply below_alloc | apply pw_below_drewN | apply below_drew1) | exact HB.out)⟩⟩
    ·rw [if_neg c4] at H
     exact absurd H (by simp)
   ·rw [if_neg c3] at H
    have c3b0 : decide (x5_1 < (x0_1.length : Int)) = false := decide_eq_false c3
    clear c3
    simp only [Option.some.injEq, Prod.mk.injEq] at H
    obtain ⟨rfl, rfl⟩ := H
    obtain ⟨Ao9, co9, eo9⟩ := Kd.R_slice HO_0.out
    subst eo9
    go_wp2
    go_ret
    exact ⟨by first | rfl | (simp [errW_none, errW_some] <;> rfl) | (simp [*, errW_none, errW_some] <;> rfl), by (with_reducible repeat (first | apply Kd.R_alloc | apply Kd.R_drewN | apply Kd.R_drew)); exact HO_0.out, by repeat (first | (with_reducible first | exact HB.out | apply below_alloc | apply pw_below_drewN | apply below_drew1) | exact HB.out), by repeat (first | (with_reducible first | exact HK.out | apply Kept.alloc | apply Kept.drewN | apply Kept.drew) | exact HK.out)⟩

end Go.Proofs.Ytcgfedaoimhejaa.G

-- Written by wip/tools/gen.py out of the translation (the kit's printer, one namespace a seat). Lean checks it.
namespace Go.Proofs.Ytcgfedaoimhejaa.G
open Go.RowKit Go.Proofs.YtcgfedaoimhejaaW.PrintWords Go.Proofs.YtcgfedaoimhejaaW.PrintLast Go.Proofs.YtcgfedaoimhejaaW.PrintMore
attribute [local go_sem] max2_int min2_int max_two min_two max_three min_three max_four min_four   -- for this text's walks alone
set_option linter.unusedVariables false
set_option linter.unusedSimpArgs false

/-! ### laws_heldIntS: function 18 -/
def laws_heldIntS.l0 : Nat → List Int → Int → Int → Option (Int)
 | 0, _, _, _ => none
 | k + 1, x0, x1, x5 => if x5 < (x0.length : Int) then (if 0 ≤ x5 then (if (rd x0 x5) = x1 then (laws_heldIntS.l0 k x0 (wrap64 (x1 + 1)) (wrap64 (x5 + 1))) else (some (-1))) else (none)) else (some x1)
def laws_heldIntS.f (k : Nat) (l0 : List Int) (a1 : Int) : Option (Int) := laws_heldIntS.l0 k l0 a1 0
set_option maxHeartbeats 8000000 in
set_option maxRecDepth 100000 in
theorem laws_heldIntS.calls (k : Nat) (A0 : Option Addr) (c0 : Nat) (l0 : List Int) (a1 : Int) (r : Int) (w : World) (hr0 : Kd.C (Kd.int .i64) w A0 l0.length l0) (hc0 : l0.length ≤ c0) (h : laws_heldIntS.f k l0 a1 = some r) :
  Calls Try.prog 18 #[.slice A0 l0.length c0, .int .i64 a1] w fun e w' => e = .returned (.int .i64 r) ∧ Drawn0 w w' := by
 have HR0 := Aside0.mk hr0
 have HC0 := Aside0.mk hc0
 clear hr0 hc0
 have H : (laws_heldIntS.l0 k l0 a1 0) = some r := h
 clear h
 have H' := Aside0.mk H
 clear H
 go_enter Try.func18, Try.ntmps18
 go_wp2
 go_loopg [1, 5] k (fun kq v1 v5 w' => ∃ (x1_1 : Int) (x5_1 : Int), v1 = .int .i64 x1_1 ∧ v5 = .int .i64 x5_1 ∧ Aside0 (laws_heldIntS.l0 kq l0 x1_1 x5_1 = some r) ∧ Aside0 (kq ≤ k) ∧ Drawn0 w w')
 case atStart => exact ⟨(a1), (0), (by first | rfl | (simp; done) | (simp [*]; done)), (by first | rfl | (simp; done) | (simp [*]; done)), H', ⟨Nat.le_refl _⟩, by repeat (first | exact Drawn0.refl _ | apply Drawn0.step)⟩
 case round =>
  clear H'
  try clear c1
  try clear p2
  obtain ⟨x1_1, x5_1, rfl, rfl, HA, HK1, ⟨m1, rfl⟩⟩ := hrel
  cases gk with
  | zero => exact absurd HA.out (by simp [laws_heldIntS.l0])
  | succ k1 =>
   have H := HA.out
   clear HA
   simp only [laws_heldIntS.l0] at H
   by_cases c3 : x5_1 < (l0.length : Int)
   ·rw [if_pos c3] at H
    have c3b0 : decide (x5_1 < (l0.length : Int)) = true := decide_eq_true c3
    clear c3
    by_cases c4 : 0 ≤ x5_1
    ·rw [if_pos c4] at H
     have c4b0 : decide (0 ≤ x5_1) = true := decide_eq_true c4
     clear c4
     by_cases c5 : (rd l0 x5_1) = x1_1
     ·rw [if_pos c5] at H
      have c5b0 : ((rd l0 x5_1) == x1_1) = true := beq_iff_eq.mpr c5
      have c5b1 : ((rd l0 x5_1) != x1_1) = false := bne_eq_false_iff_eq.mpr c5
      clear c5
      have H' := Aside0.mk H
      clear H
      have p170 : 0 ≤ (x5_1 : Int) := of_decide_eq_true (by first | (with_reducible assumption) | assumption)
      have q170 : x5_1 < (l0.length : Int) := of_decide_eq_true (by first | (with_reducible assumption) | assumption)
      obtain ⟨ad170, e170, hx170_0⟩ := Kd.at_int HR0.out x5_1 p170 q170
      cases e170
      replace p170 := eq_true p170
      replace q170 := eq_true q170
      go_wp2
      go_roundg k1
      case measure => have := HK1.out; omega
      case rel => exact ⟨(wrap64 (x1_1 + 1)), (wrap64 (x5_1 + 1)), (by first | rfl | (simp; done) | (simp [*]; done)), (by first | rfl | (simp; done) | (simp [*]; done)), H', ⟨by have := HK1.out; omega⟩, by repeat (first | exact Drawn0.refl _ | apply Drawn0.step)⟩
     ·rw [if_neg c5] at H
      have c5b0 : ((rd l0 x5_1) == x1_1) = false := beq_eq_false_iff_ne.mpr c5
      have c5b1 : ((rd l0 x5_1) != x1_1) = true := bne_iff_ne.mpr c5
      obtain rfl := Option.some.inj H
      have p170 : 0 ≤ (x5_1 : Int) := of_decide_eq_true (by first | (with_reducible assumption) | assumption)
      have q170 : x5_1 < (l0.length : Int) := of_decide_eq_true (by first | (with_reducible assumption) | assumption)
      obtain ⟨ad170, e170, hx170_0⟩ := Kd.at_int HR0.out x5_1 p170 q170
      cases e170
      replace p170 := eq_true p170
      replace q170 := eq_true q170
      go_wp2
      go_ret
      exact ⟨by first | rfl | (simp; done) | (simp [*]; done), by repeat (first | exact Drawn0.refl _ | apply Drawn0.step)⟩
    ·rw [if_neg c4] at H
     exact absurd H (by simp)
   ·rw [if_neg c3] at H
    have c3b0 : decide (x5_1 < (l0.length : Int)) = false := decide_eq_false c3
    clear c3
    obtain rfl := Option.some.inj H
    go_wp2
    go_ret
    exact ⟨by first | rfl | (simp; done) | (simp [*]; done), by repeat (first | exact Drawn0.refl _ | apply Drawn0.step)⟩

end Go.Proofs.Ytcgfedaoimhejaa.G

namespace Go.Proofs.Ytcgfedaoimhejaa.G
open Go.RowKit Go.Proofs.YtcgfedaoimhejaaW.PrintWords Go.Proofs.YtcgfedaoimhejaaW.PrintLast
set_option linter.unusedVariables false
set_option linter.unusedSimpArgs false
theorem mark_I (xs : List Int) (h : (xs.length : Int) ≤ 1048576) (s : Int) (s0 : 0 ≤ s) (s1 : s ≤ 1099511627776) : ∃ ys, Ev (fun k => laws_markIntS.f k xs s) (s + 1 * (xs.length : Int), ys) ∧ Ev (fun k => laws_heldIntS.f k ys s) (s + 1 * (xs.length : Int)) ∧ (ys.length : Int) = (xs.length : Int) := by
  obtain ⟨ys, h1, h2, h3⟩ := Ev.markFrom (fun k xs c i => laws_markIntS.l0 k xs c i) (xs.length : Int) 1 s (fun i => s + 1 * i) (0 : Int) (by
      intro ys c hl
      refine Ev.step (fun k => by rw [laws_markIntS.l0]) ?_
      simp only [hl, Int.lt_irrefl, if_false]
      exact Ev.now _) (by
      intro ys c i hl h0 hlt hc r hr
      refine Ev.step (fun k => by rw [laws_markIntS.l0]) ?_
      have e0 : wrap64 (c + 1) = c + 1 := by rw [wrap64_id (by omega) (by omega)]
      have e9 : wrap64 (i + 1) = i + 1 := wrap64_id (by omega) (by omega)
      simp only [hl, if_pos hlt, if_pos h0, Option.bind_some, e0, e9, getD_set _ _ _ _ _ (show i.toNat < ys.length by omega), List.length_set, if_true, List.set_set]
      rw [hc] at hr ⊢
      exact hr) xs rfl
  refine ⟨ys, h1, ?_, h2⟩
  refine Ev.up (fun k (c : Int) i => laws_heldIntS.l0 k ys c i) (fun _ _ => s + 1 * (xs.length : Int)) (fun c i => 0 ≤ i ∧ c = s + 1 * i) (xs.length : Int) ?_ ?_ s 0 ⟨by omega, by omega⟩ (by omega)
  · rintro c ⟨_, rfl⟩
    refine Ev.step (fun k => by rw [laws_heldIntS.l0]) ?_
    simp only [h2, Int.lt_irrefl, if_false]
    exact Ev.now _
  · rintro c i ⟨h0, hc⟩ hlt ih
    refine Ev.step (fun k => by rw [laws_heldIntS.l0]) ?_
    have e0 : wrap64 (c + 1) = c + 1 := by rw [wrap64_id (by omega) (by omega)]
    have e9 : wrap64 (i + 1) = i + 1 := wrap64_id (by omega) (by omega)
    simp only [h2, if_pos hlt, if_pos h0, e0, e9, rd, h3 i h0 hlt, ← hc, if_true]
    exact ih _ ⟨by omega, by omega⟩
end Go.Proofs.Ytcgfedaoimhejaa.G

-- Written by wip/tools/gen.py out of the translation (the kit's printer, one namespace a seat). Lean checks it.
namespace Go.Proofs.Ytcgfedaoimhejaa.G
open Go.RowKit Go.Proofs.YtcgfedaoimhejaaW.PrintWords Go.Proofs.YtcgfedaoimhejaaW.PrintLast Go.Proofs.YtcgfedaoimhejaaW.PrintMore
attribute [local go_sem] max2_int min2_int max_two min_two max_three min_three max_four min_four   -- for this text's walks alone
set_option linter.unusedVariables false
set_option linter.unusedSimpArgs false

/-! ### laws_heldIntSS: function 29 -/
def laws_heldIntSS.l0 : Nat → List (List Int) → Int → Int → Option (Int)
 | 0, _, _, _ => none
 | k + 1, x0, x1, x5 => if x5 < (x0.length : Int) then (if 0 ≤ x5 then ((laws_heldIntS.f k (rd_L1 x0 x5) x1).bind fun t466 => (if t466 < 0 then (some (-1)) else (laws_heldIntSS.l0 k x0 t466 (wrap64 (x5 + 1))))) else (none)) else (some x1)
def laws_heldIntSS.f (k : Nat) (l0 : List (List Int)) (a1 : Int) : Option (Int) := laws_heldIntSS.l0 k l0 a1 0
set_option maxHeartbeats 8000000 in
set_option maxRecDepth 100000 in
theorem laws_heldIntSS.calls (k : Nat) (A0 : Option Addr) (c0 : Nat) (l0 : List (List Int)) (a1 : Int) (r : Int) (w : World) (hr0 : Kd.C (Kd.slice 3 (Kd.int .i64)) w A0 l0.length l0) (hc0 : l0.length ≤ c0) (h : laws_heldIntSS.f k l0 a1 = some r) :
  Calls Try.prog 29 #[.slice A0 l0.length c0, .int .i64 a1] w fun e w' => e = .returned (.int .i64 r) ∧ Drawn0 w w' := by
 have HR0 := Aside0.mk hr0
 have HC0 := Aside0.mk hc0
 clear hr0 hc0
 have H : (laws_heldIntSS.l0 k l0 a1 0) = some r := h
 clear h
 have H' := Aside0.mk H
 clear H
 go_enter Try.func29, Try.ntmps29
 go_wp2
 go_loopg [1, 5] k (fun kq v1 v5 w' => ∃ (x1_1 : Int) (x5_1 : Int), v1 = .int .i64 x1_1 ∧ v5 = .int .i64 x5_1 ∧ Aside0 (laws_heldIntSS.l0 kq l0 x1_1 x5_1 = some r) ∧ Aside0 (kq ≤ k) ∧ Drawn0 w w')
 case atStart => exact ⟨(a1), (0), (by first | rfl | (simp; done) | (simp [*]; done)), (by first | rfl | (simp; done) | (simp [*]; done)), H', ⟨Nat.le_refl _⟩, by repeat (first | exact Drawn0.refl _ | apply Drawn0.step)⟩
 case round =>
  clear H'
  try clear c2
  try clear p2
  obtain ⟨x1_1, x5_1, rfl, rfl, HA, HK1, ⟨m1, rfl⟩⟩ := hrel
  cases gk with
  | zero => exact absurd HA.out (by simp [laws_heldIntSS.l0])
  | succ k1 =>
   have H := HA.out
   clear HA
   simp only [laws_heldIntSS.l0] at H
   by_cases c3 : x5_1 < (l0.length : Int)
   ·rw [if_pos c3] at H
    have c3b0 : decide (x5_1 < (l0.length : Int)) = true := decide_eq_true c3
    clear c3
    by_cases c4 : 0 ≤ x5_1
    ·rw [if_pos c4] at H
     have c4b0 : decide (0 ≤ x5_1) = true := decide_eq_true c4
     clear c4
     replace H := Option.bind_eq_some_iff.mp H
     obtain ⟨t466, A50, H⟩ := H
     replace H : (if t466 < 0 then (some (-1)) else (laws_heldIntSS.l0 k1 l0 t466 (wrap64 (x5_1 + 1)))) = some r := H
     have A5 := Aside0.mk A50
     clear A50
     by_cases c6 : t466 < 0
     ·rw [if_pos c6] at H
      have c6b0 : decide (t466 < 0) = true := decide_eq_true c6
      clear c6
      obtain rfl := Option.some.inj H
      have p465 : 0 ≤ (x5_1 : Int) := of_decide_eq_true (by first | (with_reducible assumption) | assumption)
      have q465 : x5_1 < (l0.length : Int) := of_decide_eq_true (by first | (with_reducible assumption) | assumption)
      obtain ⟨ad465, A465_0, c465_0, e465, hx465_0, hl465_0, hi465_0⟩ := at_L1 HR0.out x5_1 p465 q465
      cases e465
      have HR465_0 := Aside0.mk hi465_0
      have HC465_0 := Aside0.mk hl465_0
      clear hi465_0 hl465_0
      replace p465 := eq_true p465
      replace q465 := eq_true q465
      go_wp2_with (first | ((with_reducible refine gate_callee (f := 18) rfl ?_); refine goesL_ (some 17) rfl rfl Try.func18 (by kernel_rfl) rfl #[.slice A465_0 (rd_L1 l0 x5_1).length c465_0, .int .i64 x1_1] rfl (by (try simp only [List.map_toArray, List.map_cons, List.map_nil]); first | done | rfl | (simp only [List.length_drop, List.length_take]; rfl)) ?_; (with_reducible refine (laws_heldIntS.calls k1 _ _ (rd_L1 l0 x5_1) x1_1 t466 _ ?side1 ?side2 A5.out).mono ?_); (case side1 => repeat (first | exact HR465_0.out | (with_reducible refine Kd.C_alloc ?_ _) | (with_reducible refine Kd.C_drewN ?_ _) | (with_reducible refine Kd.C_drew ?_))); (case side2 => exact HC465_0.out); rintro e w' ⟨rfl, ⟨nd, rfl⟩⟩; refine ⟨_, rfl, ?_⟩))
      go_ret
      exact ⟨by first | rfl | (simp; done) | (simp [*]; done), by repeat (first | exact Drawn0.refl _ | apply Drawn0.step)⟩
     ·rw [if_neg c6] at H
      have c6b0 : decide (t466 < 0) = false := decide_eq_false c6
      clear c6
      have H' := Aside0.mk H
      clear H
      have p465 : 0 ≤ (x5_1 : Int) := of_decide_eq_true (by first | (with_reducible assumption) | assumption)
      have q465 : x5_1 < (l0.length : Int) := of_decide_eq_true (by first | (with_reducible assumption) | assumption)
      obtain ⟨ad465, A465_0, c465_0, e465, hx465_0, hl465_0, hi465_0⟩ := at_L1 HR0.out x5_1 p465 q465
      cases e465
      have HR465_0 := Aside0.mk hi465_0
      have HC465_0 := Aside0.mk hl465_0
      clear hi465_0 hl465_0
      replace p465 := eq_true p465
      replace q465 := eq_true q465
      go_wp2_with (first | ((with_reducible refine gate_callee (f := 18) rfl ?_); refine goesL_ (some 17) rfl rfl Try.func18 (by kernel_rfl) rfl #[.slice A465_0 (rd_L1 l0 x5_1).length c465_0, .int .i64 x1_1] rfl (by (try simp only [List.map_toArray, List.map_cons, List.map_nil]); first | done | rfl | (simp only [List.length_drop, List.length_take]; rfl)) ?_; (with_reducible refine (laws_heldIntS.calls k1 _ _ (rd_L1 l0 x5_1) x1_1 t466 _ ?side1 ?side2 A5.out).mono ?_); (case side1 => repeat (first | exact HR465_0.out | (with_reducible refine Kd.C_alloc ?_ _) | (with_reducible refine Kd.C_drewN ?_ _) | (with_reducible refine Kd.C_drew ?_))); (case side2 => exact HC465_0.out); rintro e w' ⟨rfl, ⟨nd, rfl⟩⟩; refine ⟨_, rfl, ?_⟩))
      go_roundg k1
      case measure => have := HK1.out; omega
      case rel => exact ⟨(t466), (wrap64 (x5_1 + 1)), (by first | rfl | (simp; done) | (simp [*]; done)), (by first | rfl | (simp; done) | (simp [*]; done)), H', ⟨by have := HK1.out; omega⟩, by repeat (first | exact Drawn0.refl _ | apply Drawn0.step)⟩
    ·rw [if_neg c4] at H
     exact absurd H (by simp)
   ·rw [if_neg c3] at H
    have c3b0 : decide (x5_1 < (l0.length : Int)) = false := decide_eq_false c3
    clear c3
    obtain rfl := Option.some.inj H
    go_wp2
    go_ret
    exact ⟨by first | rfl | (simp; done) | (simp [*]; done), by repeat (first | exact Drawn0.refl _ | apply Drawn0.step)⟩

end Go.Proofs.Ytcgfedaoimhejaa.G

-- Written by wip/tools/gen.py out of the translation (the kit's printer, one namespace a seat). Lean checks it.
namespace Go.Proofs.Ytcgfedaoimhejaa.G
open Go.RowKit Go.Proofs.YtcgfedaoimhejaaW.PrintWords Go.Proofs.YtcgfedaoimhejaaW.PrintLast Go.Proofs.YtcgfedaoimhejaaW.PrintMore
attribute [local go_sem] max2_int min2_int max_two min_two max_three min_three max_four min_four   -- for this text's walks alone
set_option linter.unusedVariables false
set_option linter.unusedSimpArgs false

/-! ### laws_eqIntSS: function 27 -/
def laws_eqIntSS.l0 : Nat → List (List Int) → List (List Int) → Int → Option (Bool)
 | 0, _, _, _ => none
 | k + 1, x0, x1, x5 => if x5 < (x0.length : Int) then (if 0 ≤ x5 then (if x5 < (x1.length : Int) then ((laws_eqIntS.f k (rd_L1 x0 x5) (rd_L1 x1 x5)).bind fun t463 => (if t463 = true then (laws_eqIntSS.l0 k x0 x1 (wrap64 (x5 + 1))) else (some false))) else (none)) else (none)) else (some true)
def laws_eqIntSS.f (k : Nat) (l0 : List (List Int)) (l1 : List (List Int)) : Option (Bool) := if (l0.length : Int) = (l1.length : Int) then (laws_eqIntSS.l0 k l0 l1 0) else (some false)
set_option maxHeartbeats 8000000 in
set_option maxRecDepth 100000 in
theorem laws_eqIntSS.calls (k : Nat) (A0 : Option Addr) (c0 : Nat) (l0 : List (List Int)) (A1 : Option Addr) (c1 : Nat) (l1 : List (List Int)) (r : Bool) (w : World) (hr0 : Kd.C (Kd.slice 3 (Kd.int .i64)) w A0 l0.length l0) (hc0 : l0.length ≤ c0) (hr1 : Kd.C (Kd.slice 3 (Kd.int .i64)) w A1 l1.length l1) (hc1 : l1.length ≤ c1) (h : laws_eqIntSS.f k l0 l1 = some r) :
  Calls Try.prog 27 #[.slice A0 l0.length c0, .slice A1 l1.length c1] w fun e w' => e = .returned (.bool r) ∧ Drawn0 w w' := by
 have HR0 := Aside0.mk hr0
 have HC0 := Aside0.mk hc0
 clear hr0 hc0
 have HR1 := Aside0.mk hr1
 have HC1 := Aside0.mk hc1
 clear hr1 hc1
 have H : (if (l0.length : Int) = (l1.length : Int) then (laws_eqIntSS.l0 k l0 l1 0) else (some false)) = some r := h
 clear h
 by_cases c3 : (l0.length : Int) = (l1.length : Int)
 ·rw [if_pos c3] at H
  have c3b0 : ((l0.length : Int) == (l1.length : Int)) = true := beq_iff_eq.mpr c3
  have c3b1 : ((l0.length : Int) != (l1.length : Int)) = false := bne_eq_false_iff_eq.mpr c3
  have c3b2 : (l0.length == l1.length) = true := by first | simpa using c3 | (simp at c3 ⊢; omega)
  clear c3
  have H' := Aside0.mk H
  clear H
  go_enter Try.func27, Try.ntmps27
  go_wp2
  repeat (go_quiet (fail); try go_wp2)
  go_loopg [5] k (fun kq v5 w' => ∃ (x5_1 : Int), v5 = .int .i64 x5_1 ∧ Aside0 (laws_eqIntSS.l0 kq l0 l1 x5_1 = some r) ∧ Aside0 (kq ≤ k) ∧ Drawn0 w w')
  case atStart => exact ⟨(0), (by first | rfl | (simp; done) | (simp [*]; done)), H', ⟨Nat.le_refl _⟩, by repeat (first | exact Drawn0.refl _ | apply Drawn0.step)⟩
  case round =>
   clear H'
   try clear c1
   try clear c2
   try clear p2
   try clear c3
   try clear c3b0
   try clear c3b1
   try clear c3b2
   obtain ⟨x5_1, rfl, HA, HK1, ⟨m1, rfl⟩⟩ := hrel
   cases gk with
   | zero => exact absurd HA.out (by simp [laws_eqIntSS.l0])
   | succ k1 =>
    have H := HA.out
    clear HA
    simp only [laws_eqIntSS.l0] at H
    by_cases c4 : x5_1 < (l0.length : Int)
    ·rw [if_pos c4] at H
     have c4b0 : decide (x5_1 < (l0.length : Int)) = true := decide_eq_true c4
     clear c4
     by_cases c5 : 0 ≤ x5_1
     ·rw [if_pos c5] at H
      have c5b0 : decide (0 ≤ x5_1) = true := decide_eq_true c5
      clear c5
      by_cases c6 : x5_1 < (l1.length : Int)
      ·rw [if_pos c6] at H
       have c6b0 : decide (x5_1 < (l1.length : Int)) = true := decide_eq_true c6
       clear c6
       replace H := Option.bind_eq_some_iff.mp H
       obtain ⟨t463, A70, H⟩ := H
       replace H : (if t463 = true then (laws_eqIntSS.l0 k1 l0 l1 (wrap64 (x5_1 + 1))) else (some false)) = some r := H
       have A7 := Aside0.mk A70
       clear A70
       by_cases c8 : t463 = true
       ·subst c8
        have H1 : (laws_eqIntSS.l0 k1 l0 l1 (wrap64 (x5_1 + 1))) = some r := by rw [if_pos rfl] at H; exact H
        clear H
        have H := H1
        clear H1
        have H' := Aside0.mk H
        clear H
        have p461 : 0 ≤ (x5_1 : Int) := of_decide_eq_true (by first | (with_reducible assumption) | assumption)
        have q461 : x5_1 < (l0.length : Int) := of_decide_eq_true (by first | (with_reducible assumption) | assumption)
        obtain ⟨ad461, A461_0, c461_0, e461, hx461_0, hl461_0, hi461_0⟩ := at_L1 HR0.out x5_1 p461 q461
        cases e461
        have HR461_0 := Aside0.mk hi461_0
        have HC461_0 := Aside0.mk hl461_0
        clear hi461_0 hl461_0
        replace p461 := eq_true p461
        replace q461 := eq_true q461
        have p462 : 0 ≤ (x5_1 : Int) := of_decide_eq_true (by first | (with_reducible assumption) | assumption)
        have q462 : x5_1 < (l1.length : Int) := of_decide_eq_true (by first | (with_reducible assumption) | assumption)
        obtain ⟨ad462, A462_0, c462_0, e462, hx462_0, hl462_0, hi462_0⟩ := at_L1 HR1.out x5_1 p462 q462
        cases e462
        have HR462_0 := Aside0.mk hi462_0
        have HC462_0 := Aside0.mk hl462_0
        clear hi462_0 hl462_0
        replace p462 := eq_true p462
        replace q462 := eq_true q462
        go_wp2_with (first | (go_at_call 16; (with_reducible refine (laws_eqIntS.calls k1 _ _ (rd_L1 l0 x5_1) _ _ (rd_L1 l1 x5_1) true _ ?side1 ?side2 ?side3 ?side4 A7.out).mono ?_); (case side1 => repeat (first | exact HR461_0.out | (with_reducible refine Kd.C_alloc ?_ _) | (with_reducible refine Kd.C_drewN ?_ _) | (with_reducible refine Kd.C_drew ?_))); (case side2 => exact HC461_0.out); (case side3 => repeat (first | exact HR462_0.out | (with_reducible refine Kd.C_alloc ?_ _) | (with_reducible refine Kd.C_drewN ?_ _) | (with_reducible refine Kd.C_drew ?_))); (case side4 => exact HC462_0.out); rintro e w' ⟨rfl, ⟨nd, rfl⟩⟩; (try first | exact ⟨rfl, _, World.drewN_drewN _ _ _⟩ | exact ⟨rfl, _, Eq.trans (World.drewN_drewN _ _ _) (congrArg (World.drewN _) (Nat.add_assoc _ _ _))⟩)))
        repeat (go_quiet (first | (go_at_call 16; (with_reducible refine (laws_eqIntS.calls k1 _ _ (rd_L1 l0 x5_1) _ _ (rd_L1 l1 x5_1) true _ ?side1 ?side2 ?side3 ?side4 A7.out).mono ?_); (case side1 => repeat (first | exact HR461_0.out | (with_reducible refine Kd.C_alloc ?_ _) | (with_reducible refine Kd.C_drewN ?_ _) | (with_reducible refine Kd.C_drew ?_))); (case side2 => exact HC461_0.out); (case side3 => repeat (first | exact HR462_0.out | (with_reducible refine Kd.C_alloc ?_ _) | (with_reducible refine Kd.C_drewN ?_ _) | (with_reducible refine Kd.C_drew ?_))); (case side4 => exact HC462_0.out); rintro e w' ⟨rfl, ⟨nd, rfl⟩⟩; (try first | exact ⟨rfl, _, World.drewN_drewN _ _ _⟩ | exact ⟨rfl, _, Eq.trans (World.drewN_drewN _ _ _) (congrArg (World.drewN _) (Nat.add_assoc _ _ _))⟩))); try go_wp2_with (first | (go_at_call 16; (with_reducible refine (laws_eqIntS.calls k1 _ _ (rd_L1 l0 x5_1) _ _ (rd_L1 l1 x5_1) true _ ?side1 ?side2 ?side3 ?side4 A7.out).mono ?_); (case side1 => repeat (first | exact HR461_0.out | (with_reducible refine Kd.C_alloc ?_ _) | (with_reducible refine Kd.C_drewN ?_ _) | (with_reducible refine Kd.C_drew ?_))); (case side2 => exact HC461_0.out); (case side3 => repeat (first | exact HR462_0.out | (with_reducible refine Kd.C_alloc ?_ _) | (with_reducible refine Kd.C_drewN ?_ _) | (with_reducible refine Kd.C_drew ?_))); (case side4 => exact HC462_0.out); rintro e w' ⟨rfl, ⟨nd, rfl⟩⟩; (try first | exact ⟨rfl, _, World.drewN_drewN _ _ _⟩ | exact ⟨rfl, _, Eq.trans (World.drewN_drewN _ _ _) (congrArg (World.drewN _) (Nat.add_assoc _ _ _))⟩))))
        go_roundg k1
        case measure => have := HK1.out; omega
        case rel => exact ⟨(wrap64 (x5_1 + 1)), (by first | rfl | (simp; done) | (simp [*]; done)), H', ⟨by have := HK1.out; omega⟩, by repeat (first | exact Drawn0.refl _ | apply Drawn0.step)⟩
       ·replace c8 := Bool.eq_false_iff.mpr c8
        subst c8
        have H1 : (some false) = some r := by rw [if_neg (show ¬ (false = true) by decide)] at H; exact H
        clear H
        have H := H1
        clear H1
        obtain rfl := Option.some.inj H
        have p461 : 0 ≤ (x5_1 : Int) := of_decide_eq_true (by first | (with_reducible assumption) | assumption)
        have q461 : x5_1 < (l0.length : Int) := of_decide_eq_true (by first | (with_reducible assumption) | assumption)
        obtain ⟨ad461, A461_0, c461_0, e461, hx461_0, hl461_0, hi461_0⟩ := at_L1 HR0.out x5_1 p461 q461
        cases e461
        have HR461_0 := Aside0.mk hi461_0
        have HC461_0 := Aside0.mk hl461_0
        clear hi461_0 hl461_0
        replace p461 := eq_true p461
        replace q461 := eq_true q461
        have p462 : 0 ≤ (x5_1 : Int) := of_decide_eq_true (by first | (with_reducible assumption) | assumption)
        have q462 : x5_1 < (l1.length : Int) := of_decide_eq_true (by first | (with_reducible assumption) | assumption)
        obtain ⟨ad462, A462_0, c462_0, e462, hx462_0, hl462_0, hi462_0⟩ := at_L1 HR1.out x5_1 p462 q462
        cases e462
        have HR462_0 := Aside0.mk hi462_0
        have HC462_0 := Aside0.mk hl462_0
        clear hi462_0 hl462_0
        replace p462 := eq_true p462
        replace q462 := eq_true q462
        go_wp2_with (first | (go_at_call 16; (with_reducible refine (laws_eqIntS.calls k1 _ _ (rd_L1 l0 x5_1) _ _ (rd_L1 l1 x5_1) false _ ?side1 ?side2 ?side3 ?side4 A7.out).mono ?_); (case side1 => repeat (first | exact HR461_0.out | (with_reducible refine Kd.C_alloc ?_ _) | (with_reducible refine Kd.C_drewN ?_ _) | (with_reducible refine Kd.C_drew ?_))); (case side2 => exact HC461_0.out); (case side3 => repeat (first | exact HR462_0.out | (with_reducible refine Kd.C_alloc ?_ _) | (with_reducible refine Kd.C_drewN ?_ _) | (with_reducible refine Kd.C_drew ?_))); (case side4 => exact HC462_0.out); rintro e w' ⟨rfl, ⟨nd, rfl⟩⟩; (try first | exact ⟨rfl, _, World.drewN_drewN _ _ _⟩ | exact ⟨rfl, _, Eq.trans (World.drewN_drewN _ _ _) (congrArg (World.drewN _) (Nat.add_assoc _ _ _))⟩)))
        repeat (go_quiet (first | (go_at_call 16; (with_reducible refine (laws_eqIntS.calls k1 _ _ (rd_L1 l0 x5_1) _ _ (rd_L1 l1 x5_1) false _ ?side1 ?side2 ?side3 ?side4 A7.out).mono ?_); (case side1 => repeat (first | exact HR461_0.out | (with_reducible refine Kd.C_alloc ?_ _) | (with_reducible refine Kd.C_drewN ?_ _) | (with_reducible refine Kd.C_drew ?_))); (case side2 => exact HC461_0.out); (case side3 => repeat (first | exact HR462_0.out | (with_reducible refine Kd.C_alloc ?_ _) | (with_reducible refine Kd.C_drewN ?_ _) | (with_reducible refine Kd.C_drew ?_))); (case side4 => exact HC462_0.out); rintro e w' ⟨rfl, ⟨nd, rfl⟩⟩; (try first | exact ⟨rfl, _, World.drewN_drewN _ _ _⟩ | exact ⟨rfl, _, Eq.trans (World.drewN_drewN _ _ _) (congrArg (World.drewN _) (Nat.add_assoc _ _ _))⟩))); try go_wp2_with (first | (go_at_call 16; (with_reducible refine (laws_eqIntS.calls k1 _ _ (rd_L1 l0 x5_1) _ _ (rd_L1 l1 x5_1) false _ ?side1 ?side2 ?side3 ?side4 A7.out).mono ?_); (case side1 => repeat (first | exact HR461_0.out | (with_reducible refine Kd.C_alloc ?_ _) | (with_reducible refine Kd.C_drewN ?_ _) | (with_reducible refine Kd.C_drew ?_))); (case side2 => exact HC461_0.out); (case side3 => repeat (first | exact HR462_0.out | (with_reducible refine Kd.C_alloc ?_ _) | (with_reducible refine Kd.C_drewN ?_ _) | (with_reducible refine Kd.C_drew ?_))); (case side4 => exact HC462_0.out); rintro e w' ⟨rfl, ⟨nd, rfl⟩⟩; (try first | exact ⟨rfl, _, World.drewN_drewN _ _ _⟩ | exact ⟨rfl, _, Eq.trans (World.drewN_drewN _ _ _) (congrArg (World.drewN _) (Nat.add_assoc _ _ _))⟩))))
        go_ret
        exact ⟨by first | rfl | (simp; done) | (simp [*]; done), by repeat (first | exact Drawn0.refl _ | apply Drawn0.step)⟩
      ·rw [if_neg c6] at H
       exact absurd H (by simp)
     ·rw [if_neg c5] at H
      exact absurd H (by simp)
    ·rw [if_neg c4] at H
     have c4b0 : decide (x5_1 < (l0.length : Int)) = false := decide_eq_false c4
     clear c4
     obtain rfl := Option.some.inj H
     go_wp2
     repeat (go_quiet (fail); try go_wp2)
     go_ret
     exact ⟨by first | rfl | (simp; done) | (simp [*]; done), by repeat (first | exact Drawn0.refl _ | apply Drawn0.step)⟩
 ·rw [if_neg c3] at H
  have c3b0 : ((l0.length : Int) == (l1.length : Int)) = false := beq_eq_false_iff_ne.mpr c3
  have c3b1 : ((l0.length : Int) != (l1.length : Int)) = true := bne_iff_ne.mpr c3
  have c3b2 : (l0.length == l1.length) = false := by first | simpa using c3 | (simp at c3 ⊢; omega)
  obtain rfl := Option.some.inj H
  go_enter Try.func27, Try.ntmps27
  go_wp2
  repeat (go_quiet (fail); try go_wp2)
  go_ret
  exact ⟨by first | rfl | (simp; done) | (simp [*]; done), by repeat (first | exact Drawn0.refl _ | apply Drawn0.step)⟩

end Go.Proofs.Ytcgfedaoimhejaa.G

/- markIntSS over a slice of slices of one's own whose rows lie apart: what stands in it afterwards. -/
namespace Go.Proofs.Ytcgfedaoimhejaa.G
open Go.RowKit Go.Proofs.YtcgfedaoimhejaaW.PrintWords Go.Proofs.YtcgfedaoimhejaaW.PrintLast Go.Proofs.YtcgfedaoimhejaaW.PrintMore
set_option linter.unusedVariables false
set_option linter.unusedSimpArgs false
def totTo (xs : List (List Int)) : Nat → Int
  | 0 => 0
  | i + 1 => totTo xs i + (rd_L1 xs (i : Int)).length
theorem totTo_mono (xs : List (List Int)) : ∀ i : Nat, 0 ≤ totTo xs i
  | 0 => Int.le_refl _
  | i + 1 => by have := totTo_mono xs i; unfold totTo; omega
theorem totTo_le (xs : List (List Int)) (i : Nat) : ∀ d : Nat, totTo xs i ≤ totTo xs (i + d)
  | 0 => Int.le_refl _
  | d + 1 => by have := totTo_le xs i d; show totTo xs i ≤ totTo xs (i + d) + (rd_L1 xs ((i + d : Nat) : Int)).length; omega
theorem take_set_drop {α : Type} (ys xs : List α) (z : α) (i : Nat) (hl : ys.length = xs.length) (hi : i < xs.length) : (ys.take i ++ xs.drop i).set i (ys.getD i z) = ys.take (i + 1) ++ xs.drop (i + 1) := by
  rw [List.set_append_right _ _ (by rw [List.length_take]; omega), List.length_take, Nat.min_eq_left (by omega), Nat.sub_self]
  have e1 : xs.drop i = xs[i] :: xs.drop (i + 1) := List.drop_eq_getElem_cons hi
  have e2 : ys.take (i + 1) = ys.take i ++ [ys[i]'(by omega)] := by rw [List.take_add_one, List.getElem?_eq_getElem (by omega)]; rfl
  rw [e1, List.set_cons_zero, e2, List.getD_eq_getElem?_getD, List.getElem?_eq_getElem (by omega), List.append_assoc]
  rfl
theorem getD_take_drop {α : Type} (ys xs : List α) (z : α) (i : Nat) (hl : ys.length = xs.length) (hi : i < xs.length) : (ys.take i ++ xs.drop i).getD i z = xs.getD i z := by
  rw [List.getD_eq_getElem?_getD, List.getElem?_append_right (by rw [List.length_take]; omega), List.length_take, Nat.min_eq_left (by omega), Nat.sub_self, List.getElem?_drop, Nat.add_zero, List.getD_eq_getElem?_getD]
set_option maxHeartbeats 4000000 in
set_option maxRecDepth 100000 in
theorem markSS_rows {ok : Nat → Prop} (kf : Nat) (A : Option Addr) (c : Nat) (xs ys : List (List Int)) (k : Int) (w0 w : World) (hB : Below w0.heap.size w0 w) (h : Kd.S (Kd.slice 3 (Kd.int .i64)) 22 w w0.heap.size ok (.slice A xs.length c) xs) (hl : ys.length = xs.length)
    (hm : ∀ i : Nat, i < xs.length → laws_markIntS.f kf (rd_L1 xs (i : Int)) (k + totTo xs i) = some (k + totTo xs (i + 1), rd_L1 ys (i : Int))) :
    Calls Try.prog 28 #[.slice A xs.length c, .int .i64 k] w fun e w' => e = .returned (.int .i64 (k + totTo xs xs.length)) ∧ Kd.S (Kd.slice 3 (Kd.int .i64)) 22 w' w0.heap.size ok (.slice A xs.length c) ys ∧ Below w0.heap.size w0 w' ∧ Kept w w' ok := by
  have hn : xs.length ≤ 9223372036854775807 := (Kd.S_reads' h).2.2.2.1
  have HS := Aside0.mk h
  have HM := Aside0.mk hm
  have HB0 := Aside0.mk hB
  clear h hm hB
  go_enter Try.func28, Try.ntmps28
  go_wp2
  go_loopw [1, 5] (fun kv iv w' => ∃ i : Nat, i ≤ xs.length ∧ iv = .int .i64 i ∧ kv = .int .i64 (k + totTo xs i) ∧ Aside0 (Kd.S (Kd.slice 3 (Kd.int .i64)) 22 w' w0.heap.size ok (.slice A xs.length c) (ys.take i ++ xs.drop i)) ∧ Aside0 (Below w0.heap.size w0 w' ∧ Kept w w' ok)) (fun _ i _ => xs.length - (intOf i).toNat)
  case atStart => exact ⟨0, Nat.zero_le _, rfl, by simp [totTo], Aside0.mk (by simpa using HS.out), Aside0.mk ⟨HB0.out, Kept.refl _ _⟩⟩
  case round =>
    obtain ⟨i, hi, rfl, rfl, hS, hK⟩ := hrel
    by_cases hlt : i < xs.length
    · have hll : (ys.take i ++ xs.drop i).length = xs.length := by simp; omega
      obtain ⟨ad, _, hA, _⟩ := ReadsRow.get_ (Kd.S_reads' hS.out).2.2 ([] : List Int) (i : Int) (by omega) (by omega)
      subst hA
      obtain ⟨g, rfl⟩ := Kd.R_head (Kd.S_R hS.out)
      obtain ⟨oki, cl, hcl, hM, hcc, hoki, hH⟩ := Kd.S_lend hS.out ([] : List Int) (i : Int) (by omega) (by omega)
      obtain ⟨vr, rfl, hR⟩ := hM
      rw [Int.toNat_natCast, getD_take_drop ys xs [] i hl hlt] at hR
      have hrow : xs.getD i ([] : List Int) = rd_L1 xs (i : Int) := rfl
      have hrowy : ys.getD i ([] : List Int) = rd_L1 ys (i : Int) := rfl
      rw [hrow] at hR
      have hcell : wr.cell? ⟨g, i, none⟩ = some vr := by
        have := hcc 0 _ rfl
        rw [Int.toNat_natCast, show (Kd.slice 3 (Kd.int .i64)).sz = 1 from rfl, Nat.mul_one, Nat.add_zero] at this
        exact this
      have HR := Aside0.mk hR
      have HH := Aside0.mk hH
      have HMi := Aside0.mk (HM.out i hlt)
      clear hcl hcc hrow hR hH hll hoki
      go_wp2_with (go_at_call 17; refine (laws_markIntS.calls kf oki vr (rd_L1 xs (i : Int)) (k + totTo xs i) _ (rd_L1 ys (i : Int)) w0 _ hK.out.1 HR.out HMi.out).mono ?_; rintro e w2 ⟨rfl, hR2, hB2, hk2⟩; have HR2 := Aside0.mk hR2; have HB2 := Aside0.mk hB2; have HK2 := Aside0.mk hk2; clear hR2 hB2 hk2)
      have hH2 := Kd.H_kept HH.out HK2.out (fun k _ hn => hn)
      have hR3 := Kd.R_mono (ok' := oki) (Kd.R_tight rfl HR2.out) (fun k hk => HR.out.1 k hk.symm)
      have hS2 := Kd.H_back hH2 (x' := rd_L1 ys (i : Int)) ⟨vr, rfl, hR3⟩ (fun _ h => h)
      rw [Int.toNat_natCast, ← hrowy, take_set_drop ys xs [] i hl hlt] at hS2
      have HS2 := Aside0.mk hS2
      have HK3 : Aside0 (Kept w w2 ok) := Aside0.mk (Kept.then_ hK.out.2 HK2.out (fun k hk => .inl (HH.out.1 k hk)))
      clear hS2 hH2 hR3
      go_roundw
      case rel => exact ⟨i + 1, by omega, by go_num, rfl, HS2, Aside0.mk ⟨HB2.out, HK3.out⟩⟩
      case measure => simp [intOf]; omega
    · obtain rfl : i = xs.length := by omega
      go_wp2
      go_ret
      have h2 := hS.out
      rw [List.take_of_length_le (by omega), List.drop_length, List.append_nil] at h2
      exact ⟨rfl, h2, hK.out⟩
/-- The marked rows. -/
theorem mark_rows (xs : List (List Int)) (hr : ∀ i : Nat, i < xs.length → (rd_L1 xs (i : Int)).length ≤ 1048576) (ht : 1 + totTo xs xs.length ≤ 1099511627776) :
    ∃ ys : List (List Int), ys.length = xs.length ∧ (∃ kf, ∀ i : Nat, i < xs.length → laws_markIntS.f kf (rd_L1 xs (i : Int)) (1 + totTo xs i) = some (1 + totTo xs (i + 1), rd_L1 ys (i : Int))) ∧ (∀ i : Nat, i < xs.length → Ev (fun k => laws_heldIntS.f k (rd_L1 ys (i : Int)) (1 + totTo xs i)) (1 + totTo xs (i + 1))) := by
  have one : ∀ i : Nat, i < xs.length → ∃ r, Ev (fun k => laws_markIntS.f k (rd_L1 xs (i : Int)) (1 + totTo xs i)) (1 + totTo xs (i + 1), r) ∧ Ev (fun k => laws_heldIntS.f k r (1 + totTo xs i)) (1 + totTo xs (i + 1)) := fun i hi => by
    have h0 := totTo_mono xs i
    have h1 := totTo_le xs i (xs.length - i)
    rw [show i + (xs.length - i) = xs.length from by omega] at h1
    obtain ⟨r, m1, m2, _⟩ := mark_I (rd_L1 xs (i : Int)) (by have := hr i hi; omega) (1 + totTo xs i) (by omega) (by omega)
    have e : 1 + totTo xs i + 1 * ((rd_L1 xs (i : Int)).length : Int) = 1 + totTo xs (i + 1) := by rw [show totTo xs (i + 1) = totTo xs i + (rd_L1 xs (i : Int)).length from rfl]; omega
    rw [e] at m1 m2
    exact ⟨r, m1, m2⟩
  have all : ∀ n : Nat, n ≤ xs.length → ∃ (ys : List (List Int)) (kf : Nat), ys.length = n ∧ (∀ i : Nat, i < n → laws_markIntS.f kf (rd_L1 xs (i : Int)) (1 + totTo xs i) = some (1 + totTo xs (i + 1), rd_L1 ys (i : Int))) ∧ (∀ i : Nat, i < n → Ev (fun k => laws_heldIntS.f k (rd_L1 ys (i : Int)) (1 + totTo xs i)) (1 + totTo xs (i + 1))) := by
    intro n
    induction n with
    | zero => exact fun _ => ⟨[], 0, rfl, fun i hi => absurd hi (by omega), fun i hi => absurd hi (by omega)⟩
    | succ n ih =>
      intro hn
      obtain ⟨ys, kf, hl, h1, h2⟩ := ih (by omega)
      obtain ⟨r, m1, m2⟩ := one n (by omega)
      obtain ⟨kr, hkr⟩ := Ev.rounds m1
      have up : ∀ {k : Nat} {a : List Int} {s : Int} {v : Int × List Int} (d : Nat), laws_markIntS.f k a s = some v → laws_markIntS.f (k + d) a s = some v := fun d h => by
        induction d with
        | zero => exact h
        | succ d ih => exact laws_markIntS.mono _ _ _ _ ih
      have lo : ∀ i : Nat, i < n → rd_L1 (ys ++ [r]) (i : Int) = rd_L1 ys (i : Int) := fun i hi => by
        show (ys ++ [r]).getD i [] = ys.getD i []
        rw [List.getD_eq_getElem?_getD, List.getElem?_append_left (by omega), ← List.getD_eq_getElem?_getD]
      have hi' : rd_L1 (ys ++ [r]) (n : Int) = r := by
        show (ys ++ [r]).getD n [] = r
        rw [List.getD_eq_getElem?_getD, List.getElem?_append_right (by omega), hl, Nat.sub_self]
        rfl
      refine ⟨ys ++ [r], kf + kr, by simp [hl], fun i hi => ?_, fun i hi => ?_⟩
      · by_cases h : i < n
        · rw [lo i h]
          exact up kr (h1 i h)
        · obtain rfl : i = n := by omega
          rw [hi', Nat.add_comm]
          exact up kf hkr
      · by_cases h : i < n
        · rw [lo i h]
          exact h2 i h
        · obtain rfl : i = n := by omega
          rw [hi']
          exact m2
  obtain ⟨ys, kf, hl, h1, h2⟩ := all xs.length (Nat.le_refl _)
  exact ⟨ys, hl, ⟨kf, h1⟩, h2⟩
theorem held_rows (xs ys : List (List Int)) (hn : xs.length ≤ 1048576) (hl : ys.length = xs.length) (ht : 1 + totTo xs xs.length ≤ 1099511627776) (h : ∀ i : Nat, i < xs.length → Ev (fun k => laws_heldIntS.f k (rd_L1 ys (i : Int)) (1 + totTo xs i)) (1 + totTo xs (i + 1))) :
    Ev (fun k => laws_heldIntSS.f k ys 1) (1 + totTo xs xs.length) := by
  refine Ev.up (fun k (c : Int) i => laws_heldIntSS.l0 k ys c i) (fun _ _ => 1 + totTo xs xs.length) (fun c i => 0 ≤ i ∧ c = 1 + totTo xs i.toNat) (xs.length : Int) ?_ ?_ 1 0 ⟨by omega, by simp [totTo]⟩ (by omega)
  · rintro c ⟨_, rfl⟩
    refine Ev.step (fun k => by rw [laws_heldIntSS.l0]) ?_
    simp only [if_neg (show ¬ ((xs.length : Int) < (ys.length : Int)) by omega), Int.toNat_natCast]
    exact Ev.now _
  · rintro c i ⟨h0, rfl⟩ hlt ih
    refine Ev.step (fun k => by rw [laws_heldIntSS.l0]) ?_
    have e9 : wrap64 (i + 1) = i + 1 := wrap64_id (by omega) (by omega)
    have e1 : ((i.toNat : Nat) : Int) = i := by omega
    have h1 := h i.toNat (by omega)
    rw [e1] at h1
    have e2 : (i + 1).toNat = i.toNat + 1 := by omega
    have h3 := totTo_mono xs (i.toNat + 1)
    simp only [if_pos (show i < (ys.length : Int) by omega), if_pos h0, e9]
    refine Ev.bind h1 ?_
    simp only [if_neg (show ¬ (1 + totTo xs (i.toNat + 1) < 0) by omega)]
    exact ih _ ⟨by omega, by rw [e2]⟩
/-- What the sizes say: all lists are small, or the count falls below 0. -/
def Small (xs : List (List Int)) : Prop := (xs.length : Int) ≤ 1048576 ∧ All (fun i => ((rd_L1 xs i).length : Int) ≤ 1048576) 0 (xs.length : Int)
theorem eq_SS (xs : List (List Int)) (h : Small xs) : Ev (fun k => laws_eqIntSS.f k xs xs) true := by
  have hl := h.1
  unfold laws_eqIntSS.f
  simp only [if_true]
  refine Ev.upc (fun k i => laws_eqIntSS.l0 k xs xs i) true (xs.length : Int) 0 ?_ ?_ 0 (by omega) (by omega)
  · refine Ev.step (fun k => by rw [laws_eqIntSS.l0]) ?_
    simp only [Int.lt_irrefl, if_false]
    exact Ev.now _
  · intro i h0 hlt hr
    refine Ev.step (fun k => by rw [laws_eqIntSS.l0]) ?_
    simp (disch := omega) only [wrap64_id, if_pos]
    refine Ev.bind (eq_I _ (h.2 i h0 hlt)) ?_
    simp only [if_true]
    exact hr
theorem tot_le {xs : List (List Int)} (hs : Small xs) : ∀ i : Nat, i ≤ xs.length → totTo xs i ≤ (i : Int) * 1048576 := by
  intro i
  induction i with
  | zero => intro _; simp [totTo]
  | succ i ih =>
    intro h
    have h1 := ih (by omega)
    have h2 : ((rd_L1 xs (i : Int)).length : Int) ≤ 1048576 := hs.2 (i : Int) (by omega) (by omega)
    unfold totTo
    omega
theorem heldS_at (k : Nat) (A : Option Addr) (c : Nat) (l : List (List Int)) (n : Nat) (a r : Int) (w : World) (hn : l.length = n) (hC : Kd.C (Kd.slice 3 (Kd.int .i64)) w A l.length l) (hc : n ≤ c) (h : laws_heldIntSS.f k l a = some r) :
    Calls Try.prog 29 #[.slice A n c, .int .i64 a] w fun e w' => e = .returned (.int .i64 r) ∧ Drawn0 w w' := by
  subst hn
  exact laws_heldIntSS.calls k A c l a r w hC hc h
end Go.Proofs.Ytcgfedaoimhejaa.G
