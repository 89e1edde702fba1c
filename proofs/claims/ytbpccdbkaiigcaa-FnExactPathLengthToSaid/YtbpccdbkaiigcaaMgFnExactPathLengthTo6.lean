/- Texts of the proof of FnExactPathLengthTo, joined in build order. -/
import Derived.Test.YtbpccdbkaiigcaaMgFnExactPathLengthTo5
import Derived.Test.YtbpccdbkaiigcaaMgFnExactPathLengthTo1
import Derived.Deep.Slices
import Derived.ChangeArms
import Derived.WideShapes
import Derived.ChangeShapes
/- The walk of FnExactPathLengthTo: on every argument the law answers true. -/
namespace Go.Proofs.Ytbpccdbkaiigcaa.G
open Go.RowKit Go.Proofs.YtbpccdbkaiigcaaW.PrintWords Go.Proofs.YtbpccdbkaiigcaaW.PrintLast Go.Proofs.YtbpccdbkaiigcaaW.PrintMore
set_option linter.unusedVariables false
set_option linter.unusedSimpArgs false
set_option maxHeartbeats 8000000 in
set_option maxRecDepth 100000 in
theorem laws_FnExactPathLengthTo.walk (a0_0 : Int) (a0_1 : Int) (A0_2 : Option Addr) (c0_2 : Nat) (l0_2 : List S44) (a1_0 : Int) (a1_1 : Int) (w : World) (hr0_2 : Kd.C k44 w A0_2 l0_2.length l0_2) (hc0_2 : l0_2.length ≤ c0_2) (hw0 : (Lit.int .i64 a0_0).wf = true) (hw1 : (Lit.int .i64 a0_1).wf = true) (hw2 : (l0_2.length ≤ maxLen ∧ ∀ y ∈ l0_2, W44 y)) (hw3 : (Lit.int .i64 a1_0).wf = true) (hw4 : (Lit.int .i64 a1_1).wf = true) :
    Calls Try.prog 7 #[.agg #[.int .i64 a0_0, .int .i64 a0_1, .slice A0_2 l0_2.length c0_2], .agg #[.int .i64 a1_0, .int .i64 a1_1]] w fun e w' => e = .returned (.bool true) ∧ Below w.heap.size w w' := by
  have hu24 := Try.underlying24
  have hu29 := Try.underlying29
  have hu44 := Try.underlying44
  have hu48 := Try.underlying48
  have CC_0 := Aside0.mk hr0_2
  have HB_0 := Aside0.mk (Below.refl w.heap.size w)
  have hs := szf a0_0 a0_1 l0_2 hw2.1 1048576 (by omega) (by omega)
  obtain ⟨sz, hsz⟩ : ∃ z, (if 1048576 - (l0_2.length : Int) < 0 then -1 else 1048576 - (l0_2.length : Int)) = z := ⟨_, rfl⟩
  rw [hsz] at hs
  have KS := Aside0.mk hs
  clear hs hr0_2 hw0 hw1 hw2 hw3 hw4
  by_cases h0 : sz < 0
  · have c1 : decide (sz < 0) = true := decide_eq_true h0
    clear hsz h0
    go_enter Try.func7, Try.ntmps7
    go_wp2_with (first | ((with_reducible refine gate_dst (N := 2) rfl ?_); refine box_event ?hg (N := 2) ?hd (cs := #[.int .i64 a0_0, .int .i64 a0_1, .slice A0_2 l0_2.length c0_2]) (t := 24) ?hr ?_; (case hd => rfl); (case hg => rfl); (case hr => first | (go_simp; done) | (go_simp; rfl)); intro g2 hgg2 w1 hbox hb; have HB_1 := Aside0.mk (below_step HB_0.out hb); have CC_1 := Aside0.mk (Kd.C_below CC_0.out hb); have Hg2_1 := Aside0.mk hbox; have Gg2 : Aside0 (g2 = _) := Aside0.mk hgg2; have fg20_1 : w1.cell? ⟨g2, 0, none⟩ = some (.int .i64 a0_0) := (blk_cell Hg2_1.out 0).trans rfl; have fg21_1 : w1.cell? ⟨g2, 1, none⟩ = some (.int .i64 a0_1) := (blk_cell Hg2_1.out 1).trans rfl; have fg22_1 : w1.cell? ⟨g2, 2, none⟩ = some (.slice A0_2 l0_2.length c0_2) := (blk_cell Hg2_1.out 2).trans rfl; clear hbox hb hgg2) | ((with_reducible refine gate_dst (N := 3) rfl ?_); refine box_event ?hg (N := 3) ?hd (cs := #[.int .i64 a1_0, .int .i64 a1_1]) (t := 44) ?hr ?_; (case hd => rfl); (case hg => rfl); (case hr => first | (go_simp; done) | (go_simp; rfl)); intro g3 hgg3 w2 hbox hb; have HB_2 := Aside0.mk (below_step HB_1.out hb); have CC_2 := Aside0.mk (Kd.C_below CC_1.out hb); have Hg2_2 := Aside0.mk (blk_below Hg2_1.out hb); have Hg3_2 := Aside0.mk hbox; have Gg3 : Aside0 (g3 = _) := Aside0.mk hgg3; have fg20_2 : w2.cell? ⟨g2, 0, none⟩ = some (.int .i64 a0_0) := (blk_cell Hg2_2.out 0).trans rfl; have fg21_2 : w2.cell? ⟨g2, 1, none⟩ = some (.int .i64 a0_1) := (blk_cell Hg2_2.out 1).trans rfl; have fg22_2 : w2.cell? ⟨g2, 2, none⟩ = some (.slice A0_2 l0_2.length c0_2) := (blk_cell Hg2_2.out 2).trans rfl; have fg30_2 : w2.cell? ⟨g3, 0, none⟩ = some (.int .i64 a1_0) := (blk_cell Hg3_2.out 0).trans rfl; have fg31_2 : w2.cell? ⟨g3, 1, none⟩ = some (.int .i64 a1_1) := (blk_cell Hg3_2.out 1).trans rfl; clear hbox hb hgg3) | (go_at_call 13; (with_reducible refine (laws_szFloor.calls a0_0 a0_1 A0_2 c0_2 l0_2 1048576 sz _ CC_2.out hc0_2 KS.out).mono ?_); rintro e w3 ⟨rfl, hB⟩; have HB_3 := Aside0.mk (below_step HB_2.out hB); have CC_3 := Aside0.mk (Kd.C_below CC_2.out hB); have Hg2_3 := Aside0.mk (blk_below Hg2_2.out hB); have Hg3_3 := Aside0.mk (blk_below Hg3_2.out hB); have fg20_3 : w3.cell? ⟨g2, 0, none⟩ = some (.int .i64 a0_0) := (blk_cell Hg2_3.out 0).trans rfl; have fg21_3 : w3.cell? ⟨g2, 1, none⟩ = some (.int .i64 a0_1) := (blk_cell Hg2_3.out 1).trans rfl; have fg22_3 : w3.cell? ⟨g2, 2, none⟩ = some (.slice A0_2 l0_2.length c0_2) := (blk_cell Hg2_3.out 2).trans rfl; have fg30_3 : w3.cell? ⟨g3, 0, none⟩ = some (.int .i64 a1_0) := (blk_cell Hg3_3.out 0).trans rfl; have fg31_3 : w3.cell? ⟨g3, 1, none⟩ = some (.int .i64 a1_1) := (blk_cell Hg3_3.out 1).trans rfl; clear hB))
    go_ret
    exact ⟨rfl, HB_3.out⟩
  · have c1 : decide (sz < 0) = false := decide_eq_false h0
    have n1 : (l0_2.length : Int) ≤ 1048576 := by split at hsz <;> omega
    obtain ⟨bl, hbl⟩ : ∃ bl, l0_2.map cv_C = bl := ⟨_, rfl⟩
    have nb1 : (bl.length : Int) ≤ 1048576 := by rw [← hbl]; simpa using n1
    obtain ⟨rows, ok, ⟨hq1, hq2⟩, himpl, hspec⟩ := pl_both a0_0 a0_1 bl (by omega) ⟨a1_0, a1_1⟩
    have hsr : Small rows := ⟨by omega, fun i i0 i1 => by
      have h := hq2 i.toNat (by omega)
      rw [show ((i.toNat : Nat) : Int) = i from by omega] at h
      omega⟩
    have htf := to_F a0_0 a0_1 l0_2 n1
    rw [hbl] at htf
    obtain ⟨kt, hkt⟩ := Ev.rounds htf
    obtain ⟨ke, hke⟩ := Ev.rounds (eq_F a0_0 a0_1 bl nb1)
    obtain ⟨kr, hkr⟩ := Ev.rounds (eq_SS rows hsr)
    obtain ⟨xs, hmx⟩ := mark_F a0_0 a0_1 bl nb1
    obtain ⟨km, hkm⟩ := Ev.rounds hmx
    have htr : 1 + totTo rows rows.length ≤ 1099511627776 := by
      have h1 := tot_le hsr rows.length (Nat.le_refl _)
      omega
    obtain ⟨ys, hyl, ⟨kn, hkn⟩, hhe⟩ := mark_rows rows (fun i hi => by have := hq2 i hi; omega) htr
    have hh := held_rows rows ys (by omega) hyl htr hhe
    obtain ⟨kh, hkh⟩ := Ev.rounds hh
    have HYL := Aside0.mk hyl
    have HIMPL := Aside0.mk himpl
    have HSPEC := Aside0.mk hspec
    have KT := Aside0.mk hkt
    have KE := Aside0.mk hke
    have KR := Aside0.mk hkr
    have KM := Aside0.mk hkm
    have KN := Aside0.mk hkn
    have KH := Aside0.mk hkh
    have ht1 := totTo_mono rows rows.length
    have hm0 : decide (1 + 2 * (bl.length : Int) < 0) = false := decide_eq_false (by omega)
    have hm1 : decide (1 + totTo rows rows.length < 0) = false := decide_eq_false (by omega)
    clear hyl hkt hke hkr hkm hmx hkn hkh hh hhe hsr h0 htr hq1 hq2 himpl hspec htf hbl hsz ht1 n1 nb1
    have hok : (ok != ok) = false := bne_self_eq_false ok
    go_enter Try.func7, Try.ntmps7
    go_wp2_with (first | ((with_reducible refine gate_dst (N := 2) rfl ?_); refine box_event ?hg (N := 2) ?hd (cs := #[.int .i64 a0_0, .int .i64 a0_1, .slice A0_2 l0_2.length c0_2]) (t := 24) ?hr ?_; (case hd => rfl); (case hg => rfl); (case hr => first | (go_simp; done) | (go_simp; rfl)); intro g2 hgg2 w1 hbox hb; have HB_1 := Aside0.mk (below_step HB_0.out hb); have CC_1 := Aside0.mk (Kd.C_below CC_0.out hb); have Hg2_1 := Aside0.mk hbox; have Gg2 : Aside0 (g2 = _) := Aside0.mk hgg2; have fg20_1 : w1.cell? ⟨g2, 0, none⟩ = some (.int .i64 a0_0) := (blk_cell Hg2_1.out 0).trans rfl; have fg21_1 : w1.cell? ⟨g2, 1, none⟩ = some (.int .i64 a0_1) := (blk_cell Hg2_1.out 1).trans rfl; have fg22_1 : w1.cell? ⟨g2, 2, none⟩ = some (.slice A0_2 l0_2.length c0_2) := (blk_cell Hg2_1.out 2).trans rfl; clear hbox hb hgg2) | ((with_reducible refine gate_dst (N := 3) rfl ?_); refine box_event ?hg (N := 3) ?hd (cs := #[.int .i64 a1_0, .int .i64 a1_1]) (t := 44) ?hr ?_; (case hd => rfl); (case hg => rfl); (case hr => first | (go_simp; done) | (go_simp; rfl)); intro g3 hgg3 w2 hbox hb; have HB_2 := Aside0.mk (below_step HB_1.out hb); have CC_2 := Aside0.mk (Kd.C_below CC_1.out hb); have Hg2_2 := Aside0.mk (blk_below Hg2_1.out hb); have Hg3_2 := Aside0.mk hbox; have Gg3 : Aside0 (g3 = _) := Aside0.mk hgg3; have fg20_2 : w2.cell? ⟨g2, 0, none⟩ = some (.int .i64 a0_0) := (blk_cell Hg2_2.out 0).trans rfl; have fg21_2 : w2.cell? ⟨g2, 1, none⟩ = some (.int .i64 a0_1) := (blk_cell Hg2_2.out 1).trans rfl; have fg22_2 : w2.cell? ⟨g2, 2, none⟩ = some (.slice A0_2 l0_2.length c0_2) := (blk_cell Hg2_2.out 2).trans rfl; have fg30_2 : w2.cell? ⟨g3, 0, none⟩ = some (.int .i64 a1_0) := (blk_cell Hg3_2.out 0).trans rfl; have fg31_2 : w2.cell? ⟨g3, 1, none⟩ = some (.int .i64 a1_1) := (blk_cell Hg3_2.out 1).trans rfl; clear hbox hb hgg3) | (go_at_call 13; (with_reducible refine (laws_szFloor.calls a0_0 a0_1 A0_2 c0_2 l0_2 1048576 sz _ CC_2.out hc0_2 KS.out).mono ?_); rintro e w3 ⟨rfl, hB⟩; have HB_3 := Aside0.mk (below_step HB_2.out hB); have CC_3 := Aside0.mk (Kd.C_below CC_2.out hB); have Hg2_3 := Aside0.mk (blk_below Hg2_2.out hB); have Hg3_3 := Aside0.mk (blk_below Hg3_2.out hB); have fg20_3 : w3.cell? ⟨g2, 0, none⟩ = some (.int .i64 a0_0) := (blk_cell Hg2_3.out 0).trans rfl; have fg21_3 : w3.cell? ⟨g2, 1, none⟩ = some (.int .i64 a0_1) := (blk_cell Hg2_3.out 1).trans rfl; have fg22_3 : w3.cell? ⟨g2, 2, none⟩ = some (.slice A0_2 l0_2.length c0_2) := (blk_cell Hg2_3.out 2).trans rfl; have fg30_3 : w3.cell? ⟨g3, 0, none⟩ = some (.int .i64 a1_0) := (blk_cell Hg3_3.out 0).trans rfl; have fg31_3 : w3.cell? ⟨g3, 1, none⟩ = some (.int .i64 a1_1) := (blk_cell Hg3_3.out 1).trans rfl; clear hB))
    have HB_4 := Aside0.mk (below_step HB_3.out (below_drew1 (Below.refl _ _)))
    have CC_4 := Aside0.mk (Kd.C_below CC_3.out (below_drew1 (Below.refl _ _)))
    have Hg2_4 := Aside0.mk (blk_below Hg2_3.out (below_drew1 (Below.refl _ _)))
    have Hg3_4 := Aside0.mk (blk_below Hg3_3.out (below_drew1 (Below.refl _ _)))
    have fg20_4 : w3.drew.cell? ⟨g2, 0, none⟩ = some (.int .i64 a0_0) := (blk_cell Hg2_4.out 0).trans rfl
    have fg21_4 : w3.drew.cell? ⟨g2, 1, none⟩ = some (.int .i64 a0_1) := (blk_cell Hg2_4.out 1).trans rfl
    have fg22_4 : w3.drew.cell? ⟨g2, 2, none⟩ = some (.slice A0_2 l0_2.length c0_2) := (blk_cell Hg2_4.out 2).trans rfl
    have fg30_4 : w3.drew.cell? ⟨g3, 0, none⟩ = some (.int .i64 a1_0) := (blk_cell Hg3_4.out 0).trans rfl
    have fg31_4 : w3.drew.cell? ⟨g3, 1, none⟩ = some (.int .i64 a1_1) := (blk_cell Hg3_4.out 1).trans rfl
    refine start_ (n := 10) (S := fun w' => w'.cell? ⟨g2, 0, none⟩ = some (.int .i64 a0_0) ∧ w'.cell? ⟨g2, 1, none⟩ = some (.int .i64 a0_1) ∧ w'.cell? ⟨g2, 2, none⟩ = some (.slice A0_2 l0_2.length c0_2) ∧ w'.cell? ⟨g3, 0, none⟩ = some (.int .i64 a1_0) ∧ w'.cell? ⟨g3, 1, none⟩ = some (.int .i64 a1_1)) (ds := [3, 4]) #[false, false, false, false, false, false, false, false, false, false] (by kernel_rfl) rfl rfl ⟨fg20_4, fg21_4, fg22_4, fg30_4, fg31_4⟩ (fun hHeld => ?_)
    generalize w3.drew = w4 at HB_4 CC_4 Hg2_4 Hg3_4 fg20_4 fg21_4 fg22_4 fg30_4 fg31_4 hHeld ⊢
    refine take_ (i := 0) (N := (some 22)) (v := ?_) (a' := ?_) #[true, false, false, false, false, false, false, false, false, false] rfl rfl (by kernel_rfl) (fun _ _ _ h => h) (Or.inl ⟨by rfl, ?_⟩) hHeld ?_ ?_
    rotate_left
    · intro w' s0
      obtain ⟨q0, q1, q2, q3, q4⟩ := s0
      go_simp
      with_reducible rfl
    rotate_left
    · simp only [Act.put, List.setIfInBounds_toArray, List.set_cons_zero, List.set_cons_succ, i64_w, i32_w]
      rfl
    refine take_ (i := 2) (N := (some 24)) (v := ?_) (a' := ?_) #[true, false, true, false, false, false, false, false, false, false] rfl rfl (by kernel_rfl) (fun _ _ _ h => h) (Or.inl ⟨by rfl, ?_⟩) hHeld ?_ ?_
    rotate_left
    · intro w' s0
      obtain ⟨q0, q1, q2, q3, q4⟩ := s0
      go_simp
      with_reducible rfl
    rotate_left
    · simp only [Act.put, List.setIfInBounds_toArray, List.set_cons_zero, List.set_cons_succ, i64_w, i32_w]
      rfl
    refine one_ (i := 1) (N := (some 23)) #[true, true, true, false, false, false, false, false, false, false] rfl rfl (by kernel_rfl) (by decide) (fun K hK => ?_)
    refine call_ 15 #[.agg #[.int .i64 a0_0, .int .i64 a0_1, .slice A0_2 l0_2.length c0_2]] (by rfl) rfl ?hr23_1 ?_
    case hr23_1 =>
      unfold execOp
      simp [resolve, Deferred.ofValue, invoke, Act.eval, enters_ Try.func15 (by kernel_rfl) rfl]
    refine (laws_toFloor.calls kt a0_0 a0_1 A0_2 c0_2 l0_2 a0_0 a0_1 bl _ CC_4.out hc0_2 KT.out).mono ?_
    rintro e w5 ⟨v4, rfl, hR, hB⟩
    refine ⟨_, rfl, ?_⟩
    have HB_5 := Aside0.mk (below_step HB_4.out hB)
    have CC_5 := Aside0.mk (Kd.C_below CC_4.out hB)
    have Hg2_5 := Aside0.mk (blk_below Hg2_4.out hB)
    have Hg3_5 := Aside0.mk (blk_below Hg3_4.out hB)
    obtain ⟨A4, c4, rfl⟩ := Kd.R_slice hR
    have CX4_5 := Aside0.mk (Kd.R_reads' hR).2.2
    have LX4 := Aside0.mk (Kd.R_reads' hR).2.1
    clear hR
    have fg20_5 : w5.cell? ⟨g2, 0, none⟩ = some (.int .i64 a0_0) := (blk_cell Hg2_5.out 0).trans rfl
    have fg21_5 : w5.cell? ⟨g2, 1, none⟩ = some (.int .i64 a0_1) := (blk_cell Hg2_5.out 1).trans rfl
    have fg22_5 : w5.cell? ⟨g2, 2, none⟩ = some (.slice A0_2 l0_2.length c0_2) := (blk_cell Hg2_5.out 2).trans rfl
    have fg30_5 : w5.cell? ⟨g3, 0, none⟩ = some (.int .i64 a1_0) := (blk_cell Hg3_5.out 0).trans rfl
    have fg31_5 : w5.cell? ⟨g3, 1, none⟩ = some (.int .i64 a1_1) := (blk_cell Hg3_5.out 1).trans rfl
    clear hB
    refine hK.out _ _ ⟨fg20_5, fg21_5, fg22_5, fg30_5, fg31_5⟩ (fun hHeld => ?_)
    clear hK K
    refine norm_ (a' := ?_) ?_ ?_
    rotate_left
    · show Act.put _ (some 23) _ = _
      simp only [Act.put, List.setIfInBounds_toArray, List.set_cons_zero, List.set_cons_succ, i64_w, i32_w]
      rfl
    refine last_ (i := 3) (N := (some 25)) #[true, true, true, true, false, false, false, false, false, false] rfl rfl (by kernel_rfl) (by decide) (fun K hK => ?_)
    refine call_ 28 #[.agg #[.int .i64 a1_0, .int .i64 a1_1]] (by rfl) rfl ?hr25_3 ?_
    case hr25_3 =>
      unfold execOp
      simp [resolve, Deferred.ofValue, invoke, Act.eval, enters_ Try.func28 (by kernel_rfl) rfl]
    refine (laws_toCell.calls a1_0 a1_1 a1_0 a1_1 _ rfl).mono ?_
    rintro e w6 ⟨rfl, hB⟩
    refine ⟨_, rfl, ?_⟩
    have HB_6 := Aside0.mk (below_step HB_5.out hB)
    have CC_6 := Aside0.mk (Kd.C_below CC_5.out hB)
    have Hg2_6 := Aside0.mk (blk_below Hg2_5.out hB)
    have Hg3_6 := Aside0.mk (blk_below Hg3_5.out hB)
    have CX4_6 := Aside0.mk (Kd.C_below CX4_5.out hB)
    have fg20_6 : w6.cell? ⟨g2, 0, none⟩ = some (.int .i64 a0_0) := (blk_cell Hg2_6.out 0).trans rfl
    have fg21_6 : w6.cell? ⟨g2, 1, none⟩ = some (.int .i64 a0_1) := (blk_cell Hg2_6.out 1).trans rfl
    have fg22_6 : w6.cell? ⟨g2, 2, none⟩ = some (.slice A0_2 l0_2.length c0_2) := (blk_cell Hg2_6.out 2).trans rfl
    have fg30_6 : w6.cell? ⟨g3, 0, none⟩ = some (.int .i64 a1_0) := (blk_cell Hg3_6.out 0).trans rfl
    have fg31_6 : w6.cell? ⟨g3, 1, none⟩ = some (.int .i64 a1_1) := (blk_cell Hg3_6.out 1).trans rfl
    clear hB
    refine hK.out _ _ ?_
    clear hK K
    refine norm_ (a' := ?_) ?_ ?_
    rotate_left
    · show Act.put _ (some 25) _ = _
      simp only [Act.put, List.setIfInBounds_toArray, List.set_cons_zero, List.set_cons_succ, i64_w, i32_w]
      rfl
    refine last_ (i := 4) (N := (some 26)) #[true, true, true, true, true, false, false, false, false, false] rfl rfl (by kernel_rfl) (by decide) (fun K hK => ?_)
    refine call_ 27 #[.agg #[.int .i64 a0_0, .int .i64 a0_1, .slice A4 bl.length c4], .agg #[.int .i64 a1_0, .int .i64 a1_1]] (by rfl) rfl ?hr26_4 ?_
    case hr26_4 =>
      unfold execOp
      simp [resolve, Deferred.ofValue, invoke, Act.eval, enters_ Try.func27 (by kernel_rfl) rfl]
    refine (HSPEC.out A4 c4 _ CX4_6.out LX4.out).mono ?_
    rintro e w7 ⟨v6, rfl, hS, hB⟩
    refine ⟨_, rfl, ?_⟩
    have HB_7 := Aside0.mk (below_step HB_6.out hB)
    have CC_7 := Aside0.mk (Kd.C_below CC_6.out hB)
    have Hg2_7 := Aside0.mk (blk_below Hg2_6.out hB)
    have Hg3_7 := Aside0.mk (blk_below Hg3_6.out hB)
    have CX4_7 := Aside0.mk (Kd.C_below CX4_6.out hB)
    obtain ⟨A6, c6, rfl⟩ := Kd.S_slice hS
    have SW_7 := Aside0.mk (Kd.S_mono (Kd.S_bound hS) (fun k hk => (hk.2.2.1 : k < w7.heap.size)))
    clear hS
    have Lg2 : Aside0 (g2 < w7.heap.size) := Aside0.mk (blk_lt Hg2_7.out)
    have Lg3 : Aside0 (g3 < w7.heap.size) := Aside0.mk (blk_lt Hg3_7.out)
    have fg20_7 : w7.cell? ⟨g2, 0, none⟩ = some (.int .i64 a0_0) := (blk_cell Hg2_7.out 0).trans rfl
    have fg21_7 : w7.cell? ⟨g2, 1, none⟩ = some (.int .i64 a0_1) := (blk_cell Hg2_7.out 1).trans rfl
    have fg22_7 : w7.cell? ⟨g2, 2, none⟩ = some (.slice A0_2 l0_2.length c0_2) := (blk_cell Hg2_7.out 2).trans rfl
    have fg30_7 : w7.cell? ⟨g3, 0, none⟩ = some (.int .i64 a1_0) := (blk_cell Hg3_7.out 0).trans rfl
    have fg31_7 : w7.cell? ⟨g3, 1, none⟩ = some (.int .i64 a1_1) := (blk_cell Hg3_7.out 1).trans rfl
    clear hB
    refine hK.out _ _ ?_
    clear hK K
    refine norm_ (a' := ?_) ?_ ?_
    rotate_left
    · show Act.put _ (some 26) _ = _
      simp only [Act.put, List.setIfInBounds_toArray, List.set_cons_zero, List.set_cons_succ, i64_w, i32_w]
      rfl
    refine pure_ (i := 5) (N := (some 21)) (v := ?_) (a' := ?_) #[true, true, true, true, true, true, false, false, false, false] rfl rfl (by kernel_rfl) (fun _ _ _ h => h) (Or.inl ⟨by rfl, ?_⟩) ?_ ?_
    rotate_left
    · intro w'
      go_simp
      with_reducible rfl
    rotate_left
    · simp only [Act.put, List.setIfInBounds_toArray, List.set_cons_zero, List.set_cons_succ, i64_w, i32_w]
      rfl
    refine pure_ (i := 6) (N := (some 27)) (v := ?_) (a' := ?_) #[true, true, true, true, true, true, true, false, false, false] rfl rfl (by kernel_rfl) (fun _ _ _ h => h) (Or.inl ⟨by rfl, ?_⟩) ?_ ?_
    rotate_left
    · intro w'
      go_simp
      with_reducible rfl
    rotate_left
    · simp only [Act.put, List.setIfInBounds_toArray, List.set_cons_zero, List.set_cons_succ, i64_w, i32_w]
      rfl
    refine pure_ (i := 7) (N := (some 28)) (v := ?_) (a' := ?_) #[true, true, true, true, true, true, true, true, false, false] rfl rfl (by kernel_rfl) (fun _ _ _ h => h) (Or.inl ⟨by rfl, ?_⟩) ?_ ?_
    rotate_left
    · intro w'
      go_simp
      with_reducible rfl
    rotate_left
    · simp only [Act.put, List.setIfInBounds_toArray, List.set_cons_zero, List.set_cons_succ, i64_w, i32_w]
      rfl
    refine pure_ (i := 8) (N := (some 6)) (v := ?_) (a' := ?_) #[true, true, true, true, true, true, true, true, true, false] rfl rfl (by kernel_rfl) (fun _ _ _ h => h) (Or.inl ⟨by rfl, ?_⟩) ?_ ?_
    rotate_left
    · intro w'
      go_simp
      with_reducible rfl
    rotate_left
    · simp only [Act.put, List.setIfInBounds_toArray, List.set_cons_zero, List.set_cons_succ, i64_w, i32_w]
      rfl
    refine pure_ (i := 9) (N := (some 7)) (v := ?_) (a' := ?_) #[true, true, true, true, true, true, true, true, true, true] rfl rfl (by kernel_rfl) (fun _ _ _ h => h) (Or.inl ⟨by rfl, ?_⟩) ?_ ?_
    rotate_left
    · intro w'
      go_simp
      with_reducible rfl
    rotate_left
    · simp only [Act.put, List.setIfInBounds_toArray, List.set_cons_zero, List.set_cons_succ, i64_w, i32_w]
      rfl
    refine done_ (by kernel_rfl) ?_
    go_wp2_with (first | (go_at_call 15; (with_reducible refine (laws_toFloor.calls kt a0_0 a0_1 A0_2 c0_2 l0_2 a0_0 a0_1 bl _ CC_7.out hc0_2 KT.out).mono ?_); rintro e w8 ⟨v7, rfl, hR, hB⟩; have HB_8 := Aside0.mk (below_step HB_7.out hB); have CC_8 := Aside0.mk (Kd.C_below CC_7.out hB); have Hg2_8 := Aside0.mk (blk_below Hg2_7.out hB); have Hg3_8 := Aside0.mk (blk_below Hg3_7.out hB); have SW_8 := Aside0.mk (Kd.S_below SW_7.out hB); obtain ⟨A7, c7, rfl⟩ := Kd.R_slice hR; have RX_8 := Aside0.mk (Kd.R_mono (Kd.R_bound hR) (fun k hk => (⟨hk.2.1, hk.2.2.1⟩ : w7.heap.size ≤ k ∧ k < w8.heap.size))); have Z67 : Aside0 (w7.heap.size ≤ w8.heap.size) := Aside0.mk hB.size; clear hR; have fg20_8 : w8.cell? ⟨g2, 0, none⟩ = some (.int .i64 a0_0) := (blk_cell Hg2_8.out 0).trans rfl; have fg21_8 : w8.cell? ⟨g2, 1, none⟩ = some (.int .i64 a0_1) := (blk_cell Hg2_8.out 1).trans rfl; have fg22_8 : w8.cell? ⟨g2, 2, none⟩ = some (.slice A0_2 l0_2.length c0_2) := (blk_cell Hg2_8.out 2).trans rfl; have fg30_8 : w8.cell? ⟨g3, 0, none⟩ = some (.int .i64 a1_0) := (blk_cell Hg3_8.out 0).trans rfl; have fg31_8 : w8.cell? ⟨g3, 1, none⟩ = some (.int .i64 a1_1) := (blk_cell Hg3_8.out 1).trans rfl; clear hB) | ((with_reducible refine gate_dst (N := 8) rfl ?_); refine box_event ?hg (N := 8) ?hd (cs := #[.int .i64 0, .int .i64 0, .slice none 0 0]) (t := 29) ?hr ?_; (case hd => rfl); (case hg => rfl); (case hr => first | (go_simp; done) | (go_simp; rfl)); intro g8 hgg8 w9 hbox hb; have HB_9 := Aside0.mk (below_step HB_8.out hb); have CC_9 := Aside0.mk (Kd.C_below CC_8.out hb); have Hg2_9 := Aside0.mk (blk_below Hg2_8.out hb); have Hg3_9 := Aside0.mk (blk_below Hg3_8.out hb); have SW_9 := Aside0.mk (Kd.S_below SW_8.out hb); have RX_9 := Aside0.mk (Kd.R_below RX_8.out hb); have Hg8_9 := Aside0.mk hbox; have Gg8 : Aside0 (g8 = _) := Aside0.mk hgg8; have hz80 : w9.cell? ⟨g8, 0, none⟩ = some (.int .i64 0) := (blk_cell Hg8_9.out 0).trans rfl; have hy80 := blk_frozen Hg8_9.out 0; have hz81 : w9.cell? ⟨g8, 1, none⟩ = some (.int .i64 0) := (blk_cell Hg8_9.out 1).trans rfl; have hy81 := blk_frozen Hg8_9.out 1; have hz82 : w9.cell? ⟨g8, 2, none⟩ = some (.slice none 0 0) := (blk_cell Hg8_9.out 2).trans rfl; have hy82 := blk_frozen Hg8_9.out 2; have B8 := Aside0.mk (below_set (j := 2) (v := .slice A7 bl.length c7) (below_set (j := 1) (v := .int .i64 a0_1) (below_set (j := 0) (v := .int .i64 a0_0) hb (Nat.le_of_eq Gg8.out.symm)) (Nat.le_of_eq Gg8.out.symm)) (Nat.le_of_eq Gg8.out.symm)); clear hbox hb hgg8))
    have HB_10 := Aside0.mk (below_step HB_8.out B8.out)
    have CC_10 := Aside0.mk (Kd.C_below CC_8.out B8.out)
    have Hg2_10 := Aside0.mk (blk_below Hg2_8.out B8.out)
    have Hg3_10 := Aside0.mk (blk_below Hg3_8.out B8.out)
    have SW_10 := Aside0.mk (Kd.S_below SW_8.out B8.out)
    have RX_10 := Aside0.mk (Kd.R_below RX_8.out B8.out)
    have Hg8_10 : Aside0 ((((w9.setCell ⟨g8, 0, none⟩ (.int .i64 a0_0)).setCell ⟨g8, 1, none⟩ (.int .i64 a0_1)).setCell ⟨g8, 2, none⟩ (.slice A7 bl.length c7)).heap[g8]? = some (.cells #[.int .i64 a0_0, .int .i64 a0_1, .slice A7 bl.length c7] 29 (0, 0))) := Aside0.mk (blk_put (cs := #[.int .i64 a0_0, .int .i64 a0_1, .slice none 0 0]) (blk_put (cs := #[.int .i64 a0_0, .int .i64 0, .slice none 0 0]) (blk_put (cs := #[.int .i64 0, .int .i64 0, .slice none 0 0]) Hg8_9.out 0 _ rfl) 1 _ rfl) 2 _ rfl)
    have Z79 : Aside0 (w8.heap.size ≤ (((w9.setCell ⟨g8, 0, none⟩ (.int .i64 a0_0)).setCell ⟨g8, 1, none⟩ (.int .i64 a0_1)).setCell ⟨g8, 2, none⟩ (.slice A7 bl.length c7)).heap.size) := Aside0.mk B8.out.size
    clear B8
    generalize (((w9.setCell ⟨g8, 0, none⟩ (.int .i64 a0_0)).setCell ⟨g8, 1, none⟩ (.int .i64 a0_1)).setCell ⟨g8, 2, none⟩ (.slice A7 bl.length c7)) = w10 at Z79 HB_10 CC_10 Hg2_10 Hg3_10 SW_10 RX_10 Hg8_10 ⊢
    have fg20_10 : w10.cell? ⟨g2, 0, none⟩ = some (.int .i64 a0_0) := (blk_cell Hg2_10.out 0).trans rfl
    have fg21_10 : w10.cell? ⟨g2, 1, none⟩ = some (.int .i64 a0_1) := (blk_cell Hg2_10.out 1).trans rfl
    have fg22_10 : w10.cell? ⟨g2, 2, none⟩ = some (.slice A0_2 l0_2.length c0_2) := (blk_cell Hg2_10.out 2).trans rfl
    have fg30_10 : w10.cell? ⟨g3, 0, none⟩ = some (.int .i64 a1_0) := (blk_cell Hg3_10.out 0).trans rfl
    have fg31_10 : w10.cell? ⟨g3, 1, none⟩ = some (.int .i64 a1_1) := (blk_cell Hg3_10.out 1).trans rfl
    have fg80_10 : w10.cell? ⟨g8, 0, none⟩ = some (.int .i64 a0_0) := (blk_cell Hg8_10.out 0).trans rfl
    have fg81_10 : w10.cell? ⟨g8, 1, none⟩ = some (.int .i64 a0_1) := (blk_cell Hg8_10.out 1).trans rfl
    have fg82_10 : w10.cell? ⟨g8, 2, none⟩ = some (.slice A7 bl.length c7) := (blk_cell Hg8_10.out 2).trans rfl
    have HB_11 := Aside0.mk (below_step HB_10.out (below_drew1 (Below.refl _ _)))
    have CC_11 := Aside0.mk (Kd.C_below CC_10.out (below_drew1 (Below.refl _ _)))
    have Hg2_11 := Aside0.mk (blk_below Hg2_10.out (below_drew1 (Below.refl _ _)))
    have Hg3_11 := Aside0.mk (blk_below Hg3_10.out (below_drew1 (Below.refl _ _)))
    have SW_11 := Aside0.mk (Kd.S_below SW_10.out (below_drew1 (Below.refl _ _)))
    have RX_11 := Aside0.mk (Kd.R_below RX_10.out (below_drew1 (Below.refl _ _)))
    have Hg8_11 := Aside0.mk (blk_below Hg8_10.out (below_drew1 (Below.refl _ _)))
    have fg20_11 : w10.drew.cell? ⟨g2, 0, none⟩ = some (.int .i64 a0_0) := (blk_cell Hg2_11.out 0).trans rfl
    have fg21_11 : w10.drew.cell? ⟨g2, 1, none⟩ = some (.int .i64 a0_1) := (blk_cell Hg2_11.out 1).trans rfl
    have fg22_11 : w10.drew.cell? ⟨g2, 2, none⟩ = some (.slice A0_2 l0_2.length c0_2) := (blk_cell Hg2_11.out 2).trans rfl
    have fg30_11 : w10.drew.cell? ⟨g3, 0, none⟩ = some (.int .i64 a1_0) := (blk_cell Hg3_11.out 0).trans rfl
    have fg31_11 : w10.drew.cell? ⟨g3, 1, none⟩ = some (.int .i64 a1_1) := (blk_cell Hg3_11.out 1).trans rfl
    have fg80_11 : w10.drew.cell? ⟨g8, 0, none⟩ = some (.int .i64 a0_0) := (blk_cell Hg8_11.out 0).trans rfl
    have fg81_11 : w10.drew.cell? ⟨g8, 1, none⟩ = some (.int .i64 a0_1) := (blk_cell Hg8_11.out 1).trans rfl
    have fg82_11 : w10.drew.cell? ⟨g8, 2, none⟩ = some (.slice A7 bl.length c7) := (blk_cell Hg8_11.out 2).trans rfl
    have Z79b : Aside0 (w8.heap.size ≤ w10.drew.heap.size) := Aside0.mk Z79.out
    refine start_ (n := 9) (S := fun w' => w'.cell? ⟨g8, 0, none⟩ = some (.int .i64 a0_0) ∧ w'.cell? ⟨g8, 1, none⟩ = some (.int .i64 a0_1) ∧ w'.cell? ⟨g8, 2, none⟩ = some (.slice A7 bl.length c7) ∧ w'.cell? ⟨g3, 0, none⟩ = some (.int .i64 a1_0) ∧ w'.cell? ⟨g3, 1, none⟩ = some (.int .i64 a1_1)) (ds := [3]) #[false, false, false, false, false, false, false, false, false] (by kernel_rfl) rfl rfl ⟨fg80_11, fg81_11, fg82_11, fg30_11, fg31_11⟩ (fun hHeld => ?_)
    generalize w10.drew = w11 at HB_11 CC_11 Hg2_11 Hg3_11 SW_11 RX_11 Hg8_11 fg20_11 fg21_11 fg22_11 fg30_11 fg31_11 fg80_11 fg81_11 fg82_11 Z79b hHeld ⊢
    refine take_ (i := 0) (N := (some 32)) (v := ?_) (a' := ?_) #[true, false, false, false, false, false, false, false, false] rfl rfl (by kernel_rfl) (fun _ _ _ h => h) (Or.inl ⟨by rfl, ?_⟩) hHeld ?_ ?_
    rotate_left
    · intro w' s0
      obtain ⟨q0, q1, q2, q3, q4⟩ := s0
      go_simp
      with_reducible rfl
    rotate_left
    · simp only [Act.put, List.setIfInBounds_toArray, List.set_cons_zero, List.set_cons_succ, i64_w, i32_w]
      rfl
    refine take_ (i := 1) (N := (some 33)) (v := ?_) (a' := ?_) #[true, true, false, false, false, false, false, false, false] rfl rfl (by kernel_rfl) (fun _ _ _ h => h) (Or.inl ⟨by rfl, ?_⟩) hHeld ?_ ?_
    rotate_left
    · intro w' s0
      obtain ⟨q0, q1, q2, q3, q4⟩ := s0
      go_simp
      with_reducible rfl
    rotate_left
    · simp only [Act.put, List.setIfInBounds_toArray, List.set_cons_zero, List.set_cons_succ, i64_w, i32_w]
      rfl
    refine one_ (i := 2) (N := (some 34)) #[true, true, true, false, false, false, false, false, false] rfl rfl (by kernel_rfl) (by decide) (fun K hK => ?_)
    refine call_ 28 #[.agg #[.int .i64 a1_0, .int .i64 a1_1]] (by rfl) rfl ?hr34_2 ?_
    case hr34_2 =>
      unfold execOp
      simp [resolve, Deferred.ofValue, invoke, Act.eval, enters_ Try.func28 (by kernel_rfl) rfl]
    refine (laws_toCell.calls a1_0 a1_1 a1_0 a1_1 _ rfl).mono ?_
    rintro e w12 ⟨rfl, hB⟩
    refine ⟨_, rfl, ?_⟩
    have HB_12 := Aside0.mk (below_step HB_11.out hB)
    have CC_12 := Aside0.mk (Kd.C_below CC_11.out hB)
    have Hg2_12 := Aside0.mk (blk_below Hg2_11.out hB)
    have Hg3_12 := Aside0.mk (blk_below Hg3_11.out hB)
    have SW_12 := Aside0.mk (Kd.S_below SW_11.out hB)
    have RX_12 := Aside0.mk (Kd.R_below RX_11.out hB)
    have Hg8_12 := Aside0.mk (blk_below Hg8_11.out hB)
    have Z9 : Aside0 (w8.heap.size ≤ w12.heap.size) := Aside0.mk (Nat.le_trans Z79b.out hB.size)
    have L8 : Aside0 (g8 < w12.heap.size) := Aside0.mk (blk_lt Hg8_12.out)
    have fg20_12 : w12.cell? ⟨g2, 0, none⟩ = some (.int .i64 a0_0) := (blk_cell Hg2_12.out 0).trans rfl
    have fg21_12 : w12.cell? ⟨g2, 1, none⟩ = some (.int .i64 a0_1) := (blk_cell Hg2_12.out 1).trans rfl
    have fg22_12 : w12.cell? ⟨g2, 2, none⟩ = some (.slice A0_2 l0_2.length c0_2) := (blk_cell Hg2_12.out 2).trans rfl
    have fg30_12 : w12.cell? ⟨g3, 0, none⟩ = some (.int .i64 a1_0) := (blk_cell Hg3_12.out 0).trans rfl
    have fg31_12 : w12.cell? ⟨g3, 1, none⟩ = some (.int .i64 a1_1) := (blk_cell Hg3_12.out 1).trans rfl
    have fg80_12 : w12.cell? ⟨g8, 0, none⟩ = some (.int .i64 a0_0) := (blk_cell Hg8_12.out 0).trans rfl
    have fg81_12 : w12.cell? ⟨g8, 1, none⟩ = some (.int .i64 a0_1) := (blk_cell Hg8_12.out 1).trans rfl
    have fg82_12 : w12.cell? ⟨g8, 2, none⟩ = some (.slice A7 bl.length c7) := (blk_cell Hg8_12.out 2).trans rfl
    clear hB
    refine hK.out _ _ ⟨fg80_12, fg81_12, fg82_12, fg30_12, fg31_12⟩ (fun hHeld => ?_)
    clear hK K
    refine norm_ (a' := ?_) ?_ ?_
    rotate_left
    · show Act.put _ (some 34) _ = _
      simp only [Act.put, List.setIfInBounds_toArray, List.set_cons_zero, List.set_cons_succ, i64_w, i32_w]
      rfl
    refine last_ (i := 3) (N := (some 35)) #[true, true, true, true, false, false, false, false, false] rfl rfl (by kernel_rfl) (by decide) (fun K hK => ?_)
    refine call_ 29 #[.agg #[.int .i64 a0_0, .int .i64 a0_1, .slice A7 bl.length c7], .agg #[.int .i64 a1_0, .int .i64 a1_1]] (by rfl) rfl ?hr35_3 ?_
    case hr35_3 =>
      unfold execOp
      simp [resolve, Deferred.ofValue, invoke, Act.eval, enters_ Try.func29 (by kernel_rfl) rfl]
    refine (HIMPL.out A7 c7 _ (Kd.R_reads' RX_12.out).2.2 (Kd.R_reads' RX_12.out).2.1).mono ?_
    rintro e w13 ⟨v10, rfl, hS, hB⟩
    refine ⟨_, rfl, ?_⟩
    have HB_13 := Aside0.mk (below_step HB_12.out hB)
    have CC_13 := Aside0.mk (Kd.C_below CC_12.out hB)
    have Hg2_13 := Aside0.mk (blk_below Hg2_12.out hB)
    have Hg3_13 := Aside0.mk (blk_below Hg3_12.out hB)
    have SW_13 := Aside0.mk (Kd.S_below SW_12.out hB)
    have RX_13 := Aside0.mk (Kd.R_below RX_12.out hB)
    have Hg8_13 := Aside0.mk (blk_below Hg8_12.out hB)
    obtain ⟨A10, c10, rfl⟩ := Kd.S_slice hS
    have SG_13 := Aside0.mk (Kd.S_mono (Kd.S_bound hS) (fun k hk => (hk.2.1 : w12.heap.size ≤ k)))
    clear hS
    have fg20_13 : w13.cell? ⟨g2, 0, none⟩ = some (.int .i64 a0_0) := (blk_cell Hg2_13.out 0).trans rfl
    have fg21_13 : w13.cell? ⟨g2, 1, none⟩ = some (.int .i64 a0_1) := (blk_cell Hg2_13.out 1).trans rfl
    have fg22_13 : w13.cell? ⟨g2, 2, none⟩ = some (.slice A0_2 l0_2.length c0_2) := (blk_cell Hg2_13.out 2).trans rfl
    have fg30_13 : w13.cell? ⟨g3, 0, none⟩ = some (.int .i64 a1_0) := (blk_cell Hg3_13.out 0).trans rfl
    have fg31_13 : w13.cell? ⟨g3, 1, none⟩ = some (.int .i64 a1_1) := (blk_cell Hg3_13.out 1).trans rfl
    have fg80_13 : w13.cell? ⟨g8, 0, none⟩ = some (.int .i64 a0_0) := (blk_cell Hg8_13.out 0).trans rfl
    have fg81_13 : w13.cell? ⟨g8, 1, none⟩ = some (.int .i64 a0_1) := (blk_cell Hg8_13.out 1).trans rfl
    have fg82_13 : w13.cell? ⟨g8, 2, none⟩ = some (.slice A7 bl.length c7) := (blk_cell Hg8_13.out 2).trans rfl
    clear hB
    refine hK.out _ _ ?_
    clear hK K
    refine norm_ (a' := ?_) ?_ ?_
    rotate_left
    · show Act.put _ (some 35) _ = _
      simp only [Act.put, List.setIfInBounds_toArray, List.set_cons_zero, List.set_cons_succ, i64_w, i32_w]
      rfl
    refine pure_ (i := 4) (N := (some 31)) (v := ?_) (a' := ?_) #[true, true, true, true, true, false, false, false, false] rfl rfl (by kernel_rfl) (fun _ _ _ h => h) (Or.inl ⟨by rfl, ?_⟩) ?_ ?_
    rotate_left
    · intro w'
      go_simp
      with_reducible rfl
    rotate_left
    · simp only [Act.put, List.setIfInBounds_toArray, List.set_cons_zero, List.set_cons_succ, i64_w, i32_w]
      rfl
    refine pure_ (i := 5) (N := (some 36)) (v := ?_) (a' := ?_) #[true, true, true, true, true, true, false, false, false] rfl rfl (by kernel_rfl) (fun _ _ _ h => h) (Or.inl ⟨by rfl, ?_⟩) ?_ ?_
    rotate_left
    · intro w'
      go_simp
      with_reducible rfl
    rotate_left
    · simp only [Act.put, List.setIfInBounds_toArray, List.set_cons_zero, List.set_cons_succ, i64_w, i32_w]
      rfl
    refine pure_ (i := 6) (N := (some 37)) (v := ?_) (a' := ?_) #[true, true, true, true, true, true, true, false, false] rfl rfl (by kernel_rfl) (fun _ _ _ h => h) (Or.inl ⟨by rfl, ?_⟩) ?_ ?_
    rotate_left
    · intro w'
      go_simp
      with_reducible rfl
    rotate_left
    · simp only [Act.put, List.setIfInBounds_toArray, List.set_cons_zero, List.set_cons_succ, i64_w, i32_w]
      rfl
    refine pure_ (i := 7) (N := (some 9)) (v := ?_) (a' := ?_) #[true, true, true, true, true, true, true, true, false] rfl rfl (by kernel_rfl) (fun _ _ _ h => h) (Or.inl ⟨by rfl, ?_⟩) ?_ ?_
    rotate_left
    · intro w'
      go_simp
      with_reducible rfl
    rotate_left
    · simp only [Act.put, List.setIfInBounds_toArray, List.set_cons_zero, List.set_cons_succ, i64_w, i32_w]
      rfl
    refine pure_ (i := 8) (N := (some 10)) (v := ?_) (a' := ?_) #[true, true, true, true, true, true, true, true, true] rfl rfl (by kernel_rfl) (fun _ _ _ h => h) (Or.inl ⟨by rfl, ?_⟩) ?_ ?_
    rotate_left
    · intro w'
      go_simp
      with_reducible rfl
    rotate_left
    · simp only [Act.put, List.setIfInBounds_toArray, List.set_cons_zero, List.set_cons_succ, i64_w, i32_w]
      rfl
    refine done_ (by kernel_rfl) ?_
    go_wp2_with (first | (go_at_call 30; (with_reducible refine (laws_eqIntSS.calls kr A10 c10 rows A6 c6 rows true _ (Kd.S_reads' SG_13.out).2.2 (Kd.S_reads' SG_13.out).2.1 (Kd.S_reads' SW_13.out).2.2 (Kd.S_reads' SW_13.out).2.1 KR.out).mono ?_); rintro e w14 ⟨rfl, hd⟩; have hB := hd.below; clear hd; have HB_14 := Aside0.mk (below_step HB_13.out hB); have CC_14 := Aside0.mk (Kd.C_below CC_13.out hB); have Hg2_14 := Aside0.mk (blk_below Hg2_13.out hB); have Hg3_14 := Aside0.mk (blk_below Hg3_13.out hB); have SW_14 := Aside0.mk (Kd.S_below SW_13.out hB); have RX_14 := Aside0.mk (Kd.R_below RX_13.out hB); have Hg8_14 := Aside0.mk (blk_below Hg8_13.out hB); have SG_14 := Aside0.mk (Kd.S_below SG_13.out hB); have fg20_14 : w14.cell? ⟨g2, 0, none⟩ = some (.int .i64 a0_0) := (blk_cell Hg2_14.out 0).trans rfl; have fg21_14 : w14.cell? ⟨g2, 1, none⟩ = some (.int .i64 a0_1) := (blk_cell Hg2_14.out 1).trans rfl; have fg22_14 : w14.cell? ⟨g2, 2, none⟩ = some (.slice A0_2 l0_2.length c0_2) := (blk_cell Hg2_14.out 2).trans rfl; have fg30_14 : w14.cell? ⟨g3, 0, none⟩ = some (.int .i64 a1_0) := (blk_cell Hg3_14.out 0).trans rfl; have fg31_14 : w14.cell? ⟨g3, 1, none⟩ = some (.int .i64 a1_1) := (blk_cell Hg3_14.out 1).trans rfl; have fg80_14 : w14.cell? ⟨g8, 0, none⟩ = some (.int .i64 a0_0) := (blk_cell Hg8_14.out 0).trans rfl; have fg81_14 : w14.cell? ⟨g8, 1, none⟩ = some (.int .i64 a0_1) := (blk_cell Hg8_14.out 1).trans rfl; have fg82_14 : w14.cell? ⟨g8, 2, none⟩ = some (.slice A7 bl.length c7) := (blk_cell Hg8_14.out 2).trans rfl; clear hB))
    have HB_15 := Aside0.mk (below_step HB_14.out (below_drew1 (Below.refl _ _)))
    have CC_15 := Aside0.mk (Kd.C_below CC_14.out (below_drew1 (Below.refl _ _)))
    have Hg2_15 := Aside0.mk (blk_below Hg2_14.out (below_drew1 (Below.refl _ _)))
    have Hg3_15 := Aside0.mk (blk_below Hg3_14.out (below_drew1 (Below.refl _ _)))
    have SW_15 := Aside0.mk (Kd.S_below SW_14.out (below_drew1 (Below.refl _ _)))
    have RX_15 := Aside0.mk (Kd.R_below RX_14.out (below_drew1 (Below.refl _ _)))
    have Hg8_15 := Aside0.mk (blk_below Hg8_14.out (below_drew1 (Below.refl _ _)))
    have SG_15 := Aside0.mk (Kd.S_below SG_14.out (below_drew1 (Below.refl _ _)))
    have fg20_15 : w14.drew.cell? ⟨g2, 0, none⟩ = some (.int .i64 a0_0) := (blk_cell Hg2_15.out 0).trans rfl
    have fg21_15 : w14.drew.cell? ⟨g2, 1, none⟩ = some (.int .i64 a0_1) := (blk_cell Hg2_15.out 1).trans rfl
    have fg22_15 : w14.drew.cell? ⟨g2, 2, none⟩ = some (.slice A0_2 l0_2.length c0_2) := (blk_cell Hg2_15.out 2).trans rfl
    have fg30_15 : w14.drew.cell? ⟨g3, 0, none⟩ = some (.int .i64 a1_0) := (blk_cell Hg3_15.out 0).trans rfl
    have fg31_15 : w14.drew.cell? ⟨g3, 1, none⟩ = some (.int .i64 a1_1) := (blk_cell Hg3_15.out 1).trans rfl
    have fg80_15 : w14.drew.cell? ⟨g8, 0, none⟩ = some (.int .i64 a0_0) := (blk_cell Hg8_15.out 0).trans rfl
    have fg81_15 : w14.drew.cell? ⟨g8, 1, none⟩ = some (.int .i64 a0_1) := (blk_cell Hg8_15.out 1).trans rfl
    have fg82_15 : w14.drew.cell? ⟨g8, 2, none⟩ = some (.slice A7 bl.length c7) := (blk_cell Hg8_15.out 2).trans rfl
    refine start_ (n := 5) (S := fun w' => w'.cell? ⟨g8, 0, none⟩ = some (.int .i64 a0_0) ∧ w'.cell? ⟨g8, 1, none⟩ = some (.int .i64 a0_1) ∧ w'.cell? ⟨g8, 2, none⟩ = some (.slice A7 bl.length c7) ∧ w'.cell? ⟨g2, 0, none⟩ = some (.int .i64 a0_0) ∧ w'.cell? ⟨g2, 1, none⟩ = some (.int .i64 a0_1) ∧ w'.cell? ⟨g2, 2, none⟩ = some (.slice A0_2 l0_2.length c0_2)) (ds := [3]) #[false, false, false, false, false] (by kernel_rfl) rfl rfl ⟨fg80_15, fg81_15, fg82_15, fg20_15, fg21_15, fg22_15⟩ (fun hHeld => ?_)
    generalize w14.drew = w15 at HB_15 CC_15 Hg2_15 Hg3_15 SW_15 RX_15 Hg8_15 SG_15 fg20_15 fg21_15 fg22_15 fg30_15 fg31_15 fg80_15 fg81_15 fg82_15 hHeld ⊢
    refine take_ (i := 0) (N := (some 47)) (v := ?_) (a' := ?_) #[true, false, false, false, false] rfl rfl (by kernel_rfl) (fun _ _ _ h => h) (Or.inl ⟨by rfl, ?_⟩) hHeld ?_ ?_
    rotate_left
    · intro w' s0
      obtain ⟨q0, q1, q2, q3, q4, q5⟩ := s0
      go_simp
      with_reducible rfl
    rotate_left
    · simp only [Act.put, List.setIfInBounds_toArray, List.set_cons_zero, List.set_cons_succ, i64_w, i32_w]
      rfl
    refine take_ (i := 1) (N := (some 48)) (v := ?_) (a' := ?_) #[true, true, false, false, false] rfl rfl (by kernel_rfl) (fun _ _ _ h => h) (Or.inl ⟨by rfl, ?_⟩) hHeld ?_ ?_
    rotate_left
    · intro w' s0
      obtain ⟨q0, q1, q2, q3, q4, q5⟩ := s0
      go_simp
      with_reducible rfl
    rotate_left
    · simp only [Act.put, List.setIfInBounds_toArray, List.set_cons_zero, List.set_cons_succ, i64_w, i32_w]
      rfl
    refine one_ (i := 2) (N := (some 49)) #[true, true, true, false, false] rfl rfl (by kernel_rfl) (by decide) (fun K hK => ?_)
    refine call_ 15 #[.agg #[.int .i64 a0_0, .int .i64 a0_1, .slice A0_2 l0_2.length c0_2]] (by rfl) rfl ?hr49_2 ?_
    case hr49_2 =>
      unfold execOp
      simp [resolve, Deferred.ofValue, invoke, Act.eval, enters_ Try.func15 (by kernel_rfl) rfl]
    refine (laws_toFloor.calls kt a0_0 a0_1 A0_2 c0_2 l0_2 a0_0 a0_1 bl _ CC_15.out hc0_2 KT.out).mono ?_
    rintro e w16 ⟨v12, rfl, hR, hB⟩
    refine ⟨_, rfl, ?_⟩
    have HB_16 := Aside0.mk (below_step HB_15.out hB)
    have CC_16 := Aside0.mk (Kd.C_below CC_15.out hB)
    have Hg2_16 := Aside0.mk (blk_below Hg2_15.out hB)
    have Hg3_16 := Aside0.mk (blk_below Hg3_15.out hB)
    have SW_16 := Aside0.mk (Kd.S_below SW_15.out hB)
    have RX_16 := Aside0.mk (Kd.R_below RX_15.out hB)
    have Hg8_16 := Aside0.mk (blk_below Hg8_15.out hB)
    have SG_16 := Aside0.mk (Kd.S_below SG_15.out hB)
    obtain ⟨A12, c12, rfl⟩ := Kd.R_slice hR
    have CX12_16 := Aside0.mk (Kd.R_reads' hR).2.2
    have LX12 := Aside0.mk (Kd.R_reads' hR).2.1
    clear hR
    have fg20_16 : w16.cell? ⟨g2, 0, none⟩ = some (.int .i64 a0_0) := (blk_cell Hg2_16.out 0).trans rfl
    have fg21_16 : w16.cell? ⟨g2, 1, none⟩ = some (.int .i64 a0_1) := (blk_cell Hg2_16.out 1).trans rfl
    have fg22_16 : w16.cell? ⟨g2, 2, none⟩ = some (.slice A0_2 l0_2.length c0_2) := (blk_cell Hg2_16.out 2).trans rfl
    have fg30_16 : w16.cell? ⟨g3, 0, none⟩ = some (.int .i64 a1_0) := (blk_cell Hg3_16.out 0).trans rfl
    have fg31_16 : w16.cell? ⟨g3, 1, none⟩ = some (.int .i64 a1_1) := (blk_cell Hg3_16.out 1).trans rfl
    have fg80_16 : w16.cell? ⟨g8, 0, none⟩ = some (.int .i64 a0_0) := (blk_cell Hg8_16.out 0).trans rfl
    have fg81_16 : w16.cell? ⟨g8, 1, none⟩ = some (.int .i64 a0_1) := (blk_cell Hg8_16.out 1).trans rfl
    have fg82_16 : w16.cell? ⟨g8, 2, none⟩ = some (.slice A7 bl.length c7) := (blk_cell Hg8_16.out 2).trans rfl
    clear hB
    refine hK.out _ _ ⟨fg80_16, fg81_16, fg82_16, fg20_16, fg21_16, fg22_16⟩ (fun hHeld => ?_)
    clear hK K
    refine norm_ (a' := ?_) ?_ ?_
    rotate_left
    · show Act.put _ (some 49) _ = _
      simp only [Act.put, List.setIfInBounds_toArray, List.set_cons_zero, List.set_cons_succ, i64_w, i32_w]
      rfl
    refine last_ (i := 3) (N := (some 50)) #[true, true, true, true, false] rfl rfl (by kernel_rfl) (by decide) (fun K hK => ?_)
    refine call_ 17 #[.agg #[.int .i64 a0_0, .int .i64 a0_1, .slice A7 bl.length c7], .agg #[.int .i64 a0_0, .int .i64 a0_1, .slice A12 bl.length c12]] (by rfl) rfl ?hr50_3 ?_
    case hr50_3 =>
      unfold execOp
      simp [resolve, Deferred.ofValue, invoke, Act.eval, enters_ Try.func17 (by kernel_rfl) rfl]
    refine (laws_eqFloor.calls ke a0_0 a0_1 A7 c7 bl a0_0 a0_1 A12 c12 bl true _ (Kd.R_reads' RX_16.out).2.2 (Kd.R_reads' RX_16.out).2.1 CX12_16.out LX12.out KE.out).mono ?_
    rintro e w17 ⟨rfl, hB⟩
    refine ⟨_, rfl, ?_⟩
    have HB_17 := Aside0.mk (below_step HB_16.out hB)
    have CC_17 := Aside0.mk (Kd.C_below CC_16.out hB)
    have Hg2_17 := Aside0.mk (blk_below Hg2_16.out hB)
    have Hg3_17 := Aside0.mk (blk_below Hg3_16.out hB)
    have SW_17 := Aside0.mk (Kd.S_below SW_16.out hB)
    have RX_17 := Aside0.mk (Kd.R_below RX_16.out hB)
    have Hg8_17 := Aside0.mk (blk_below Hg8_16.out hB)
    have SG_17 := Aside0.mk (Kd.S_below SG_16.out hB)
    have CX12_17 := Aside0.mk (Kd.C_below CX12_16.out hB)
    have fg20_17 : w17.cell? ⟨g2, 0, none⟩ = some (.int .i64 a0_0) := (blk_cell Hg2_17.out 0).trans rfl
    have fg21_17 : w17.cell? ⟨g2, 1, none⟩ = some (.int .i64 a0_1) := (blk_cell Hg2_17.out 1).trans rfl
    have fg22_17 : w17.cell? ⟨g2, 2, none⟩ = some (.slice A0_2 l0_2.length c0_2) := (blk_cell Hg2_17.out 2).trans rfl
    have fg30_17 : w17.cell? ⟨g3, 0, none⟩ = some (.int .i64 a1_0) := (blk_cell Hg3_17.out 0).trans rfl
    have fg31_17 : w17.cell? ⟨g3, 1, none⟩ = some (.int .i64 a1_1) := (blk_cell Hg3_17.out 1).trans rfl
    have fg80_17 : w17.cell? ⟨g8, 0, none⟩ = some (.int .i64 a0_0) := (blk_cell Hg8_17.out 0).trans rfl
    have fg81_17 : w17.cell? ⟨g8, 1, none⟩ = some (.int .i64 a0_1) := (blk_cell Hg8_17.out 1).trans rfl
    have fg82_17 : w17.cell? ⟨g8, 2, none⟩ = some (.slice A7 bl.length c7) := (blk_cell Hg8_17.out 2).trans rfl
    clear hB
    refine hK.out _ _ ?_
    clear hK K
    refine norm_ (a' := ?_) ?_ ?_
    rotate_left
    · show Act.put _ (some 50) _ = _
      simp only [Act.put, List.setIfInBounds_toArray, List.set_cons_zero, List.set_cons_succ, i64_w, i32_w]
      rfl
    refine pure_ (i := 4) (N := (some 51)) (v := ?_) (a' := ?_) #[true, true, true, true, true] rfl rfl (by kernel_rfl) (fun _ _ _ h => h) (Or.inl ⟨by rfl, ?_⟩) ?_ ?_
    rotate_left
    · intro w'
      go_simp
      with_reducible rfl
    rotate_left
    · simp only [Act.put, List.setIfInBounds_toArray, List.set_cons_zero, List.set_cons_succ, i64_w, i32_w]
      rfl
    refine done_ (by kernel_rfl) ?_
    go_wp2_with (first | (go_at_call 31; (with_reducible refine (laws_markFloor.calls km a0_0 a0_1 (fun k => w7.heap.size ≤ k ∧ k < w8.heap.size) (.slice A7 bl.length c7) bl 1 (1 + 2 * (bl.length : Int)) xs w _ HB_17.out (Kd.R_lower RX_17.out HB_7.out.size) KM.out).mono ?_); rintro e w18 ⟨rfl, hS, hB, hk⟩; have HB_18 := Aside0.mk hB; have CC_18 := Aside0.mk (Kd.C_below CC_0.out hB); have Hg2_18 := Aside0.mk ((hk.2 g2 (blk_lt Hg2_17.out) (fun p => by have := Lg2.out; have z6 := p.1; omega)).trans Hg2_17.out); have Hg3_18 := Aside0.mk ((hk.2 g3 (blk_lt Hg3_17.out) (fun p => by have := Lg3.out; have z6 := p.1; omega)).trans Hg3_17.out); have SW_18 := Aside0.mk (Kd.S_kept SW_17.out hk (fun k hk p => by have z6 := p.1; omega)); have RX_18 := Aside0.mk hS; have Hg8_18 := Aside0.mk ((hk.2 g8 (blk_lt Hg8_17.out) (fun p => by have := Gg8.out; have z7 := p.2; omega)).trans Hg8_17.out); have SG_18 := Aside0.mk (Kd.S_kept SG_17.out hk (fun k hk p => by have z9 := Z9.out; have z7 := p.2; omega)); have fg20_18 : w18.cell? ⟨g2, 0, none⟩ = some (.int .i64 a0_0) := (blk_cell Hg2_18.out 0).trans rfl; have fg21_18 : w18.cell? ⟨g2, 1, none⟩ = some (.int .i64 a0_1) := (blk_cell Hg2_18.out 1).trans rfl; have fg22_18 : w18.cell? ⟨g2, 2, none⟩ = some (.slice A0_2 l0_2.length c0_2) := (blk_cell Hg2_18.out 2).trans rfl; have fg30_18 : w18.cell? ⟨g3, 0, none⟩ = some (.int .i64 a1_0) := (blk_cell Hg3_18.out 0).trans rfl; have fg31_18 : w18.cell? ⟨g3, 1, none⟩ = some (.int .i64 a1_1) := (blk_cell Hg3_18.out 1).trans rfl; have fg80_18 : w18.cell? ⟨g8, 0, none⟩ = some (.int .i64 a0_0) := (blk_cell Hg8_18.out 0).trans rfl; have fg81_18 : w18.cell? ⟨g8, 1, none⟩ = some (.int .i64 a0_1) := (blk_cell Hg8_18.out 1).trans rfl; have fg82_18 : w18.cell? ⟨g8, 2, none⟩ = some (.slice A7 bl.length c7) := (blk_cell Hg8_18.out 2).trans rfl; clear hS hB hk) | (go_at_call 30; (with_reducible refine (laws_eqIntSS.calls kr A10 c10 rows A6 c6 rows true _ (Kd.S_reads' SG_18.out).2.2 (Kd.S_reads' SG_18.out).2.1 (Kd.S_reads' SW_18.out).2.2 (Kd.S_reads' SW_18.out).2.1 KR.out).mono ?_); rintro e w19 ⟨rfl, hd⟩; have hB := hd.below; clear hd; have HB_19 := Aside0.mk (below_step HB_18.out hB); have CC_19 := Aside0.mk (Kd.C_below CC_18.out hB); have Hg2_19 := Aside0.mk (blk_below Hg2_18.out hB); have Hg3_19 := Aside0.mk (blk_below Hg3_18.out hB); have SW_19 := Aside0.mk (Kd.S_below SW_18.out hB); have Hg8_19 := Aside0.mk (blk_below Hg8_18.out hB); have SG_19 := Aside0.mk (Kd.S_below SG_18.out hB); have fg20_19 : w19.cell? ⟨g2, 0, none⟩ = some (.int .i64 a0_0) := (blk_cell Hg2_19.out 0).trans rfl; have fg21_19 : w19.cell? ⟨g2, 1, none⟩ = some (.int .i64 a0_1) := (blk_cell Hg2_19.out 1).trans rfl; have fg22_19 : w19.cell? ⟨g2, 2, none⟩ = some (.slice A0_2 l0_2.length c0_2) := (blk_cell Hg2_19.out 2).trans rfl; have fg30_19 : w19.cell? ⟨g3, 0, none⟩ = some (.int .i64 a1_0) := (blk_cell Hg3_19.out 0).trans rfl; have fg31_19 : w19.cell? ⟨g3, 1, none⟩ = some (.int .i64 a1_1) := (blk_cell Hg3_19.out 1).trans rfl; have fg80_19 : w19.cell? ⟨g8, 0, none⟩ = some (.int .i64 a0_0) := (blk_cell Hg8_19.out 0).trans rfl; have fg81_19 : w19.cell? ⟨g8, 1, none⟩ = some (.int .i64 a0_1) := (blk_cell Hg8_19.out 1).trans rfl; have fg82_19 : w19.cell? ⟨g8, 2, none⟩ = some (.slice A7 bl.length c7) := (blk_cell Hg8_19.out 2).trans rfl; clear hB) | (go_at_call 32; (with_reducible refine (markSS_rows kn A10 c10 rows ys 1 w _ HB_19.out (Kd.S_lower SG_19.out HB_12.out.size) HYL.out KN.out).mono ?_); rintro e w20 ⟨rfl, hS, hB, hk⟩; have HB_20 := Aside0.mk hB; have CC_20 := Aside0.mk (Kd.C_below CC_0.out hB); have Hg2_20 := Aside0.mk ((hk.2 g2 (blk_lt Hg2_19.out) (fun p => by have := Lg2.out; have z9 := Z9.out; have z := Z67.out; omega)).trans Hg2_19.out); have Hg3_20 := Aside0.mk ((hk.2 g3 (blk_lt Hg3_19.out) (fun p => by have := Lg3.out; have z9 := Z9.out; have z := Z67.out; omega)).trans Hg3_19.out); have SW_20 := Aside0.mk (Kd.S_kept SW_19.out hk (fun k hk p => by have z9 := Z9.out; have z := Z67.out; omega)); have Hg8_20 := Aside0.mk ((hk.2 g8 (blk_lt Hg8_19.out) (fun p => by have := L8.out; omega)).trans Hg8_19.out); have SG_20 := Aside0.mk hS; have fg20_20 : w20.cell? ⟨g2, 0, none⟩ = some (.int .i64 a0_0) := (blk_cell Hg2_20.out 0).trans rfl; have fg21_20 : w20.cell? ⟨g2, 1, none⟩ = some (.int .i64 a0_1) := (blk_cell Hg2_20.out 1).trans rfl; have fg22_20 : w20.cell? ⟨g2, 2, none⟩ = some (.slice A0_2 l0_2.length c0_2) := (blk_cell Hg2_20.out 2).trans rfl; have fg30_20 : w20.cell? ⟨g3, 0, none⟩ = some (.int .i64 a1_0) := (blk_cell Hg3_20.out 0).trans rfl; have fg31_20 : w20.cell? ⟨g3, 1, none⟩ = some (.int .i64 a1_1) := (blk_cell Hg3_20.out 1).trans rfl; have fg80_20 : w20.cell? ⟨g8, 0, none⟩ = some (.int .i64 a0_0) := (blk_cell Hg8_20.out 0).trans rfl; have fg81_20 : w20.cell? ⟨g8, 1, none⟩ = some (.int .i64 a0_1) := (blk_cell Hg8_20.out 1).trans rfl; have fg82_20 : w20.cell? ⟨g8, 2, none⟩ = some (.slice A7 bl.length c7) := (blk_cell Hg8_20.out 2).trans rfl; clear hS hB hk) | (go_at_call 33; (with_reducible refine (heldS_at kh A10 c10 ys rows.length 1 _ _ HYL.out (Kd.S_reads' SG_20.out).2.2 (Kd.S_reads' SG_20.out).2.1 KH.out).mono ?_); rintro e w21 ⟨rfl, hd⟩; have hB := hd.below; clear hd; have HB_21 := Aside0.mk (below_step HB_20.out hB); have CC_21 := Aside0.mk (Kd.C_below CC_20.out hB); have Hg2_21 := Aside0.mk (blk_below Hg2_20.out hB); have Hg3_21 := Aside0.mk (blk_below Hg3_20.out hB); have SW_21 := Aside0.mk (Kd.S_below SW_20.out hB); have Hg8_21 := Aside0.mk (blk_below Hg8_20.out hB); have SG_21 := Aside0.mk (Kd.S_below SG_20.out hB); have fg20_21 : w21.cell? ⟨g2, 0, none⟩ = some (.int .i64 a0_0) := (blk_cell Hg2_21.out 0).trans rfl; have fg21_21 : w21.cell? ⟨g2, 1, none⟩ = some (.int .i64 a0_1) := (blk_cell Hg2_21.out 1).trans rfl; have fg22_21 : w21.cell? ⟨g2, 2, none⟩ = some (.slice A0_2 l0_2.length c0_2) := (blk_cell Hg2_21.out 2).trans rfl; have fg30_21 : w21.cell? ⟨g3, 0, none⟩ = some (.int .i64 a1_0) := (blk_cell Hg3_21.out 0).trans rfl; have fg31_21 : w21.cell? ⟨g3, 1, none⟩ = some (.int .i64 a1_1) := (blk_cell Hg3_21.out 1).trans rfl; have fg80_21 : w21.cell? ⟨g8, 0, none⟩ = some (.int .i64 a0_0) := (blk_cell Hg8_21.out 0).trans rfl; have fg81_21 : w21.cell? ⟨g8, 1, none⟩ = some (.int .i64 a0_1) := (blk_cell Hg8_21.out 1).trans rfl; have fg82_21 : w21.cell? ⟨g8, 2, none⟩ = some (.slice A7 bl.length c7) := (blk_cell Hg8_21.out 2).trans rfl; clear hB))
    have HB_22 := Aside0.mk (below_step HB_21.out (below_drew1 (Below.refl _ _)))
    have CC_22 := Aside0.mk (Kd.C_below CC_21.out (below_drew1 (Below.refl _ _)))
    have Hg2_22 := Aside0.mk (blk_below Hg2_21.out (below_drew1 (Below.refl _ _)))
    have Hg3_22 := Aside0.mk (blk_below Hg3_21.out (below_drew1 (Below.refl _ _)))
    have SW_22 := Aside0.mk (Kd.S_below SW_21.out (below_drew1 (Below.refl _ _)))
    have Hg8_22 := Aside0.mk (blk_below Hg8_21.out (below_drew1 (Below.refl _ _)))
    have SG_22 := Aside0.mk (Kd.S_below SG_21.out (below_drew1 (Below.refl _ _)))
    have fg20_22 : w21.drew.cell? ⟨g2, 0, none⟩ = some (.int .i64 a0_0) := (blk_cell Hg2_22.out 0).trans rfl
    have fg21_22 : w21.drew.cell? ⟨g2, 1, none⟩ = some (.int .i64 a0_1) := (blk_cell Hg2_22.out 1).trans rfl
    have fg22_22 : w21.drew.cell? ⟨g2, 2, none⟩ = some (.slice A0_2 l0_2.length c0_2) := (blk_cell Hg2_22.out 2).trans rfl
    have fg30_22 : w21.drew.cell? ⟨g3, 0, none⟩ = some (.int .i64 a1_0) := (blk_cell Hg3_22.out 0).trans rfl
    have fg31_22 : w21.drew.cell? ⟨g3, 1, none⟩ = some (.int .i64 a1_1) := (blk_cell Hg3_22.out 1).trans rfl
    have fg80_22 : w21.drew.cell? ⟨g8, 0, none⟩ = some (.int .i64 a0_0) := (blk_cell Hg8_22.out 0).trans rfl
    have fg81_22 : w21.drew.cell? ⟨g8, 1, none⟩ = some (.int .i64 a0_1) := (blk_cell Hg8_22.out 1).trans rfl
    have fg82_22 : w21.drew.cell? ⟨g8, 2, none⟩ = some (.slice A7 bl.length c7) := (blk_cell Hg8_22.out 2).trans rfl
    refine start_ (n := 10) (S := fun w' => w'.cell? ⟨g2, 0, none⟩ = some (.int .i64 a0_0) ∧ w'.cell? ⟨g2, 1, none⟩ = some (.int .i64 a0_1) ∧ w'.cell? ⟨g2, 2, none⟩ = some (.slice A0_2 l0_2.length c0_2) ∧ w'.cell? ⟨g3, 0, none⟩ = some (.int .i64 a1_0) ∧ w'.cell? ⟨g3, 1, none⟩ = some (.int .i64 a1_1)) (ds := [3, 4]) #[false, false, false, false, false, false, false, false, false, false] (by kernel_rfl) rfl rfl ⟨fg20_22, fg21_22, fg22_22, fg30_22, fg31_22⟩ (fun hHeld => ?_)
    generalize w21.drew = w22 at HB_22 CC_22 Hg2_22 Hg3_22 SW_22 Hg8_22 SG_22 fg20_22 fg21_22 fg22_22 fg30_22 fg31_22 fg80_22 fg81_22 fg82_22 hHeld ⊢
    refine take_ (i := 0) (N := (some 80)) (v := ?_) (a' := ?_) #[true, false, false, false, false, false, false, false, false, false] rfl rfl (by kernel_rfl) (fun _ _ _ h => h) (Or.inl ⟨by rfl, ?_⟩) hHeld ?_ ?_
    rotate_left
    · intro w' s0
      obtain ⟨q0, q1, q2, q3, q4⟩ := s0
      go_simp
      with_reducible rfl
    rotate_left
    · simp only [Act.put, List.setIfInBounds_toArray, List.set_cons_zero, List.set_cons_succ, i64_w, i32_w]
      rfl
    refine take_ (i := 2) (N := (some 82)) (v := ?_) (a' := ?_) #[true, false, true, false, false, false, false, false, false, false] rfl rfl (by kernel_rfl) (fun _ _ _ h => h) (Or.inl ⟨by rfl, ?_⟩) hHeld ?_ ?_
    rotate_left
    · intro w' s0
      obtain ⟨q0, q1, q2, q3, q4⟩ := s0
      go_simp
      with_reducible rfl
    rotate_left
    · simp only [Act.put, List.setIfInBounds_toArray, List.set_cons_zero, List.set_cons_succ, i64_w, i32_w]
      rfl
    refine one_ (i := 1) (N := (some 81)) #[true, true, true, false, false, false, false, false, false, false] rfl rfl (by kernel_rfl) (by decide) (fun K hK => ?_)
    refine call_ 15 #[.agg #[.int .i64 a0_0, .int .i64 a0_1, .slice A0_2 l0_2.length c0_2]] (by rfl) rfl ?hr81_1 ?_
    case hr81_1 =>
      unfold execOp
      simp [resolve, Deferred.ofValue, invoke, Act.eval, enters_ Try.func15 (by kernel_rfl) rfl]
    refine (laws_toFloor.calls kt a0_0 a0_1 A0_2 c0_2 l0_2 a0_0 a0_1 bl _ CC_22.out hc0_2 KT.out).mono ?_
    rintro e w23 ⟨v18, rfl, hR, hB⟩
    refine ⟨_, rfl, ?_⟩
    have HB_23 := Aside0.mk (below_step HB_22.out hB)
    have CC_23 := Aside0.mk (Kd.C_below CC_22.out hB)
    have Hg2_23 := Aside0.mk (blk_below Hg2_22.out hB)
    have Hg3_23 := Aside0.mk (blk_below Hg3_22.out hB)
    have SW_23 := Aside0.mk (Kd.S_below SW_22.out hB)
    have Hg8_23 := Aside0.mk (blk_below Hg8_22.out hB)
    have SG_23 := Aside0.mk (Kd.S_below SG_22.out hB)
    obtain ⟨A18, c18, rfl⟩ := Kd.R_slice hR
    have CX18_23 := Aside0.mk (Kd.R_reads' hR).2.2
    have LX18 := Aside0.mk (Kd.R_reads' hR).2.1
    clear hR
    have fg20_23 : w23.cell? ⟨g2, 0, none⟩ = some (.int .i64 a0_0) := (blk_cell Hg2_23.out 0).trans rfl
    have fg21_23 : w23.cell? ⟨g2, 1, none⟩ = some (.int .i64 a0_1) := (blk_cell Hg2_23.out 1).trans rfl
    have fg22_23 : w23.cell? ⟨g2, 2, none⟩ = some (.slice A0_2 l0_2.length c0_2) := (blk_cell Hg2_23.out 2).trans rfl
    have fg30_23 : w23.cell? ⟨g3, 0, none⟩ = some (.int .i64 a1_0) := (blk_cell Hg3_23.out 0).trans rfl
    have fg31_23 : w23.cell? ⟨g3, 1, none⟩ = some (.int .i64 a1_1) := (blk_cell Hg3_23.out 1).trans rfl
    have fg80_23 : w23.cell? ⟨g8, 0, none⟩ = some (.int .i64 a0_0) := (blk_cell Hg8_23.out 0).trans rfl
    have fg81_23 : w23.cell? ⟨g8, 1, none⟩ = some (.int .i64 a0_1) := (blk_cell Hg8_23.out 1).trans rfl
    have fg82_23 : w23.cell? ⟨g8, 2, none⟩ = some (.slice A7 bl.length c7) := (blk_cell Hg8_23.out 2).trans rfl
    clear hB
    refine hK.out _ _ ⟨fg20_23, fg21_23, fg22_23, fg30_23, fg31_23⟩ (fun hHeld => ?_)
    clear hK K
    refine norm_ (a' := ?_) ?_ ?_
    rotate_left
    · show Act.put _ (some 81) _ = _
      simp only [Act.put, List.setIfInBounds_toArray, List.set_cons_zero, List.set_cons_succ, i64_w, i32_w]
      rfl
    refine last_ (i := 3) (N := (some 83)) #[true, true, true, true, false, false, false, false, false, false] rfl rfl (by kernel_rfl) (by decide) (fun K hK => ?_)
    refine call_ 28 #[.agg #[.int .i64 a1_0, .int .i64 a1_1]] (by rfl) rfl ?hr83_3 ?_
    case hr83_3 =>
      unfold execOp
      simp [resolve, Deferred.ofValue, invoke, Act.eval, enters_ Try.func28 (by kernel_rfl) rfl]
    refine (laws_toCell.calls a1_0 a1_1 a1_0 a1_1 _ rfl).mono ?_
    rintro e w24 ⟨rfl, hB⟩
    refine ⟨_, rfl, ?_⟩
    have HB_24 := Aside0.mk (below_step HB_23.out hB)
    have CC_24 := Aside0.mk (Kd.C_below CC_23.out hB)
    have Hg2_24 := Aside0.mk (blk_below Hg2_23.out hB)
    have Hg3_24 := Aside0.mk (blk_below Hg3_23.out hB)
    have SW_24 := Aside0.mk (Kd.S_below SW_23.out hB)
    have Hg8_24 := Aside0.mk (blk_below Hg8_23.out hB)
    have SG_24 := Aside0.mk (Kd.S_below SG_23.out hB)
    have CX18_24 := Aside0.mk (Kd.C_below CX18_23.out hB)
    have fg20_24 : w24.cell? ⟨g2, 0, none⟩ = some (.int .i64 a0_0) := (blk_cell Hg2_24.out 0).trans rfl
    have fg21_24 : w24.cell? ⟨g2, 1, none⟩ = some (.int .i64 a0_1) := (blk_cell Hg2_24.out 1).trans rfl
    have fg22_24 : w24.cell? ⟨g2, 2, none⟩ = some (.slice A0_2 l0_2.length c0_2) := (blk_cell Hg2_24.out 2).trans rfl
    have fg30_24 : w24.cell? ⟨g3, 0, none⟩ = some (.int .i64 a1_0) := (blk_cell Hg3_24.out 0).trans rfl
    have fg31_24 : w24.cell? ⟨g3, 1, none⟩ = some (.int .i64 a1_1) := (blk_cell Hg3_24.out 1).trans rfl
    have fg80_24 : w24.cell? ⟨g8, 0, none⟩ = some (.int .i64 a0_0) := (blk_cell Hg8_24.out 0).trans rfl
    have fg81_24 : w24.cell? ⟨g8, 1, none⟩ = some (.int .i64 a0_1) := (blk_cell Hg8_24.out 1).trans rfl
    have fg82_24 : w24.cell? ⟨g8, 2, none⟩ = some (.slice A7 bl.length c7) := (blk_cell Hg8_24.out 2).trans rfl
    clear hB
    refine hK.out _ _ ?_
    clear hK K
    refine norm_ (a' := ?_) ?_ ?_
    rotate_left
    · show Act.put _ (some 83) _ = _
      simp only [Act.put, List.setIfInBounds_toArray, List.set_cons_zero, List.set_cons_succ, i64_w, i32_w]
      rfl
    refine last_ (i := 4) (N := (some 84)) #[true, true, true, true, true, false, false, false, false, false] rfl rfl (by kernel_rfl) (by decide) (fun K hK => ?_)
    refine call_ 29 #[.agg #[.int .i64 a0_0, .int .i64 a0_1, .slice A18 bl.length c18], .agg #[.int .i64 a1_0, .int .i64 a1_1]] (by rfl) rfl ?hr84_4 ?_
    case hr84_4 =>
      unfold execOp
      simp [resolve, Deferred.ofValue, invoke, Act.eval, enters_ Try.func29 (by kernel_rfl) rfl]
    refine (HIMPL.out A18 c18 _ CX18_24.out LX18.out).mono ?_
    rintro e w25 ⟨v20, rfl, hS, hB⟩
    refine ⟨_, rfl, ?_⟩
    have HB_25 := Aside0.mk (below_step HB_24.out hB)
    have CC_25 := Aside0.mk (Kd.C_below CC_24.out hB)
    have Hg2_25 := Aside0.mk (blk_below Hg2_24.out hB)
    have Hg3_25 := Aside0.mk (blk_below Hg3_24.out hB)
    have SW_25 := Aside0.mk (Kd.S_below SW_24.out hB)
    have Hg8_25 := Aside0.mk (blk_below Hg8_24.out hB)
    have SG_25 := Aside0.mk (Kd.S_below SG_24.out hB)
    have CX18_25 := Aside0.mk (Kd.C_below CX18_24.out hB)
    obtain ⟨A20, c20, rfl⟩ := Kd.S_slice hS
    have SH_25 := Aside0.mk hS
    clear hS
    have fg20_25 : w25.cell? ⟨g2, 0, none⟩ = some (.int .i64 a0_0) := (blk_cell Hg2_25.out 0).trans rfl
    have fg21_25 : w25.cell? ⟨g2, 1, none⟩ = some (.int .i64 a0_1) := (blk_cell Hg2_25.out 1).trans rfl
    have fg22_25 : w25.cell? ⟨g2, 2, none⟩ = some (.slice A0_2 l0_2.length c0_2) := (blk_cell Hg2_25.out 2).trans rfl
    have fg30_25 : w25.cell? ⟨g3, 0, none⟩ = some (.int .i64 a1_0) := (blk_cell Hg3_25.out 0).trans rfl
    have fg31_25 : w25.cell? ⟨g3, 1, none⟩ = some (.int .i64 a1_1) := (blk_cell Hg3_25.out 1).trans rfl
    have fg80_25 : w25.cell? ⟨g8, 0, none⟩ = some (.int .i64 a0_0) := (blk_cell Hg8_25.out 0).trans rfl
    have fg81_25 : w25.cell? ⟨g8, 1, none⟩ = some (.int .i64 a0_1) := (blk_cell Hg8_25.out 1).trans rfl
    have fg82_25 : w25.cell? ⟨g8, 2, none⟩ = some (.slice A7 bl.length c7) := (blk_cell Hg8_25.out 2).trans rfl
    clear hB
    refine hK.out _ _ ?_
    clear hK K
    refine norm_ (a' := ?_) ?_ ?_
    rotate_left
    · show Act.put _ (some 84) _ = _
      simp only [Act.put, List.setIfInBounds_toArray, List.set_cons_zero, List.set_cons_succ, i64_w, i32_w]
      rfl
    refine pure_ (i := 5) (N := (some 79)) (v := ?_) (a' := ?_) #[true, true, true, true, true, true, false, false, false, false] rfl rfl (by kernel_rfl) (fun _ _ _ h => h) (Or.inl ⟨by rfl, ?_⟩) ?_ ?_
    rotate_left
    · intro w'
      go_simp
      with_reducible rfl
    rotate_left
    · simp only [Act.put, List.setIfInBounds_toArray, List.set_cons_zero, List.set_cons_succ, i64_w, i32_w]
      rfl
    refine pure_ (i := 6) (N := (some 85)) (v := ?_) (a' := ?_) #[true, true, true, true, true, true, true, false, false, false] rfl rfl (by kernel_rfl) (fun _ _ _ h => h) (Or.inl ⟨by rfl, ?_⟩) ?_ ?_
    rotate_left
    · intro w'
      go_simp
      with_reducible rfl
    rotate_left
    · simp only [Act.put, List.setIfInBounds_toArray, List.set_cons_zero, List.set_cons_succ, i64_w, i32_w]
      rfl
    refine pure_ (i := 7) (N := (some 86)) (v := ?_) (a' := ?_) #[true, true, true, true, true, true, true, true, false, false] rfl rfl (by kernel_rfl) (fun _ _ _ h => h) (Or.inl ⟨by rfl, ?_⟩) ?_ ?_
    rotate_left
    · intro w'
      go_simp
      with_reducible rfl
    rotate_left
    · simp only [Act.put, List.setIfInBounds_toArray, List.set_cons_zero, List.set_cons_succ, i64_w, i32_w]
      rfl
    refine pure_ (i := 8) (N := (some 14)) (v := ?_) (a' := ?_) #[true, true, true, true, true, true, true, true, true, false] rfl rfl (by kernel_rfl) (fun _ _ _ h => h) (Or.inl ⟨by rfl, ?_⟩) ?_ ?_
    rotate_left
    · intro w'
      go_simp
      with_reducible rfl
    rotate_left
    · simp only [Act.put, List.setIfInBounds_toArray, List.set_cons_zero, List.set_cons_succ, i64_w, i32_w]
      rfl
    refine pure_ (i := 9) (N := (some 15)) (v := ?_) (a' := ?_) #[true, true, true, true, true, true, true, true, true, true] rfl rfl (by kernel_rfl) (fun _ _ _ h => h) (Or.inl ⟨by rfl, ?_⟩) ?_ ?_
    rotate_left
    · intro w'
      go_simp
      with_reducible rfl
    rotate_left
    · simp only [Act.put, List.setIfInBounds_toArray, List.set_cons_zero, List.set_cons_succ, i64_w, i32_w]
      rfl
    refine done_ (by kernel_rfl) ?_
    go_wp2_with (first | (go_at_call 30; (with_reducible refine (laws_eqIntSS.calls kr A20 c20 rows A6 c6 rows true _ (Kd.S_reads' SH_25.out).2.2 (Kd.S_reads' SH_25.out).2.1 (Kd.S_reads' SW_25.out).2.2 (Kd.S_reads' SW_25.out).2.1 KR.out).mono ?_); rintro e w26 ⟨rfl, hd⟩; have hB := hd.below; clear hd; have HB_26 := Aside0.mk (below_step HB_25.out hB); have CC_26 := Aside0.mk (Kd.C_below CC_25.out hB); have Hg2_26 := Aside0.mk (blk_below Hg2_25.out hB); have Hg3_26 := Aside0.mk (blk_below Hg3_25.out hB); have SW_26 := Aside0.mk (Kd.S_below SW_25.out hB); have Hg8_26 := Aside0.mk (blk_below Hg8_25.out hB); have SG_26 := Aside0.mk (Kd.S_below SG_25.out hB); have SH_26 := Aside0.mk (Kd.S_below SH_25.out hB); have fg20_26 : w26.cell? ⟨g2, 0, none⟩ = some (.int .i64 a0_0) := (blk_cell Hg2_26.out 0).trans rfl; have fg21_26 : w26.cell? ⟨g2, 1, none⟩ = some (.int .i64 a0_1) := (blk_cell Hg2_26.out 1).trans rfl; have fg22_26 : w26.cell? ⟨g2, 2, none⟩ = some (.slice A0_2 l0_2.length c0_2) := (blk_cell Hg2_26.out 2).trans rfl; have fg30_26 : w26.cell? ⟨g3, 0, none⟩ = some (.int .i64 a1_0) := (blk_cell Hg3_26.out 0).trans rfl; have fg31_26 : w26.cell? ⟨g3, 1, none⟩ = some (.int .i64 a1_1) := (blk_cell Hg3_26.out 1).trans rfl; have fg80_26 : w26.cell? ⟨g8, 0, none⟩ = some (.int .i64 a0_0) := (blk_cell Hg8_26.out 0).trans rfl; have fg81_26 : w26.cell? ⟨g8, 1, none⟩ = some (.int .i64 a0_1) := (blk_cell Hg8_26.out 1).trans rfl; have fg82_26 : w26.cell? ⟨g8, 2, none⟩ = some (.slice A7 bl.length c7) := (blk_cell Hg8_26.out 2).trans rfl; clear hB) | (go_at_call 33; (with_reducible refine (heldS_at kh A10 c10 ys rows.length 1 _ _ HYL.out (Kd.S_reads' SG_26.out).2.2 (Kd.S_reads' SG_26.out).2.1 KH.out).mono ?_); rintro e w27 ⟨rfl, hd⟩; have hB := hd.below; clear hd; have HB_27 := Aside0.mk (below_step HB_26.out hB); have CC_27 := Aside0.mk (Kd.C_below CC_26.out hB); have Hg2_27 := Aside0.mk (blk_below Hg2_26.out hB); have Hg3_27 := Aside0.mk (blk_below Hg3_26.out hB); have SW_27 := Aside0.mk (Kd.S_below SW_26.out hB); have Hg8_27 := Aside0.mk (blk_below Hg8_26.out hB); have SG_27 := Aside0.mk (Kd.S_below SG_26.out hB); have SH_27 := Aside0.mk (Kd.S_below SH_26.out hB); have fg20_27 : w27.cell? ⟨g2, 0, none⟩ = some (.int .i64 a0_0) := (blk_cell Hg2_27.out 0).trans rfl; have fg21_27 : w27.cell? ⟨g2, 1, none⟩ = some (.int .i64 a0_1) := (blk_cell Hg2_27.out 1).trans rfl; have fg22_27 : w27.cell? ⟨g2, 2, none⟩ = some (.slice A0_2 l0_2.length c0_2) := (blk_cell Hg2_27.out 2).trans rfl; have fg30_27 : w27.cell? ⟨g3, 0, none⟩ = some (.int .i64 a1_0) := (blk_cell Hg3_27.out 0).trans rfl; have fg31_27 : w27.cell? ⟨g3, 1, none⟩ = some (.int .i64 a1_1) := (blk_cell Hg3_27.out 1).trans rfl; have fg80_27 : w27.cell? ⟨g8, 0, none⟩ = some (.int .i64 a0_0) := (blk_cell Hg8_27.out 0).trans rfl; have fg81_27 : w27.cell? ⟨g8, 1, none⟩ = some (.int .i64 a0_1) := (blk_cell Hg8_27.out 1).trans rfl; have fg82_27 : w27.cell? ⟨g8, 2, none⟩ = some (.slice A7 bl.length c7) := (blk_cell Hg8_27.out 2).trans rfl; clear hB))
    go_ret
    exact ⟨rfl, HB_27.out⟩
end Go.Proofs.Ytbpccdbkaiigcaa.G

-- Written by wip/tools/gen.py out of the translation (the kit's printer, one namespace a seat). Lean checks it.
namespace Go.Proofs.Ytbpccdbkaiigcaa.G
open Go.RowKit Go.ChangeShapes Go.WideShapes Go.Deep Go.Proofs.YtbpccdbkaiigcaaW.PrintWords Go.Proofs.YtbpccdbkaiigcaaW.PrintLast
set_option linter.unusedVariables false
/-! Opening the arguments of a law: whatever reads as data of type t reads as a value of kind d, within what its type allows. -/
def Opens {α : Type} (P : Program) (t : TypeId) (d : Kd α) (Wf : α → Prop) : Prop :=
  ∀ {H : Type} {enc : TypeId × Value → H} {W : World} {spare : Nat → Bool} {held : Bool} {fuel : Nat} {cs : List Value} {x : DataW H × List MemPlace},
    DataW.trod enc P W 0 spare held fuel t cs = some x → ∃ a, d.K W a cs ∧ Wf a
theorem opens_int {P : Program} {t : TypeId} {k : IntKind} (ht : P.underlying t = some (.int k)) : Opens P t (Kd.int k) (fun x => (Lit.int k x).wf = true) := by
  intro H enc W spare held fuel cs x h
  obtain ⟨n, rfl, _, hw⟩ := DataW.trod_int ht h
  exact ⟨n, rfl, hw⟩
theorem opens_row {α : Type} {d : Kd α} {Wf : α → Prop} {W : World} (Q : Nat → List Value → Prop) (hq : ∀ i cs, Q i cs → ∃ a, d.K W a cs ∧ Wf a) (n : Nat) (h : ∀ i, i < n → ∃ cs, Q i cs) :
    ∃ xs : List α, xs.length = n ∧ (∀ y ∈ xs, Wf y) ∧ ∀ j p, xs[j]? = some p → ∃ cs, Q j cs ∧ d.K W p cs := by
  induction n with
  | zero => exact ⟨[], rfl, fun y hy => by simp at hy, fun j p hp => by simp at hp⟩
  | succ n ih =>
    obtain ⟨xs, hl, hw, hx⟩ := ih (fun i hi => h i (by omega))
    obtain ⟨cs, hcs⟩ := h n (by omega)
    obtain ⟨a, ha, hwa⟩ := hq n cs hcs
    refine ⟨xs ++ [a], by simp [hl], fun y hy => ?_, fun j p hp => ?_⟩
    · rcases List.mem_append.1 hy with hy | hy
      · exact hw y hy
      · rw [List.mem_singleton.1 hy]; exact hwa
    · rcases Nat.lt_or_ge j xs.length with hj | hj
      · rw [List.getElem?_append_left hj] at hp
        exact hx j p hp
      · rw [List.getElem?_append_right hj] at hp
        have h0 : j - xs.length = 0 := by
          rcases Nat.eq_zero_or_pos (j - xs.length) with h0 | h0
          · exact h0
          · rw [List.getElem?_eq_none (by simp; omega)] at hp; cases hp
        rw [h0] at hp
        simp at hp
        subst hp
        have : j = n := by omega
        subst this
        exact ⟨cs, hcs, ha⟩
theorem opens_slice {α : Type} {P : Program} {t e : TypeId} {d : Kd α} {Wf : α → Prop} (ht : P.underlying t = some (.slice e)) (hC : P.cellsOf e = d.sz) (ho : Opens P e d Wf) :
    Opens P t (Kd.slice e d) (fun xs => xs.length ≤ maxLen ∧ ∀ y ∈ xs, Wf y) := by
  intro H enc W spare held fuel cs x h
  rcases open_slice ht h with ⟨rfl, _⟩ | ⟨a, len, cap, m, n, D, Pl, rfl, _, hl, hm, hmm, _, hi⟩
  · exact ⟨[], ⟨none, 0, rfl, Nat.le_refl _, rfl, by simp, fun h => by simp at h⟩, by simp [maxLen], fun y hy => by simp at hy⟩
  · have hml : len ≤ m := by rw [hmm]; split <;> omega
    obtain ⟨xs, hxl, hw, hx⟩ := opens_row (W := W) (d := d) (Wf := Wf) (fun i cs' => W.cells? 0 (a.add (i * P.cellsOf e)) (P.cellsOf e) = some cs' ∧ DataW.trod enc P W 0 spare held n e cs' = some (D i, Pl i))
      (fun i cs' hq => ho hq.2) len (fun i hi' => hi i (by omega))
    refine ⟨xs, ⟨some a, cap, by rw [hxl], by omega, rfl, ?_, fun _ => ⟨a, rfl, fun j p hj => ?_⟩⟩, by omega, hw⟩
    · simp only [maxLen] at hm
      omega
    · obtain ⟨cs', ⟨hc, _⟩, hK⟩ := hx j p hj
      obtain ⟨_, hcl, hat⟩ := World.cells?_some hc
      refine ⟨cs', d.K_len hK, hK, fun i u hu => ?_⟩
      have hil : i < cs'.length := (List.getElem?_eq_some_iff.1 hu).1
      have h1 := hat i (by omega)
      rw [hC] at h1
      rw [← Go.Deep.add_add, h1, hu]
theorem opens_iso {α β : Type} {P : Program} {t : TypeId} {d : Kd α} {Wf : α → Prop} {Wf' : β → Prop} {f : β → α} (ho : Opens P t d Wf) (g : α → β) (hg : ∀ a, f (g a) = a) (hw : ∀ a, Wf a → Wf' (g a)) : Opens P t (Kd.iso d f) Wf' := by
  intro H enc W spare held fuel cs x h
  obtain ⟨a, hK, hwa⟩ := ho h
  refine ⟨g a, ?_, hw a hwa⟩
  show d.K W (f (g a)) cs
  rw [hg]
  exact hK
section
variable {α β γ δ : Type} {P : Program} {t : TypeId} {f0 f1 f2 f3 : Field} {d0 : Kd α} {d1 : Kd β} {d2 : Kd γ} {d3 : Kd δ} {W0 : α → Prop} {W1 : β → Prop} {W2 : γ → Prop} {W3 : δ → Prop}
theorem opens_struct2 (ht : P.underlying t = some (.struct #[f0, f1])) (hT : P.cellsOf t = d0.sz + d1.sz) (s0 : f0.offset = 0) (c0 : P.cellsOf f0.type = d0.sz) (s1 : f1.offset = d0.sz) (c1 : P.cellsOf f1.type = d1.sz)
    (o0 : Opens P f0.type d0 W0) (o1 : Opens P f1.type d1 W1) : Opens P t (Kd.pair d0 d1) (fun x => W0 x.1 ∧ W1 x.2) := by
  intro H enc W spare held fuel cs x h
  obtain ⟨xs, n, _, _, hlen, hxl, hf⟩ := DataW.trod_struct ht h
  have h0 := hf 0 f0 rfl
  have h1 := hf 1 f1 rfl
  rw [List.getElem?_eq_getElem (show 0 < xs.length by rw [hxl]; simp), s0, c0, List.drop_zero] at h0
  rw [List.getElem?_eq_getElem (show 1 < xs.length by rw [hxl]; simp), s1, c1, List.take_of_length_le (by simp; omega)] at h1
  obtain ⟨a, ka, wa⟩ := o0 h0
  obtain ⟨b, kb, wb⟩ := o1 h1
  exact ⟨(a, b), ⟨_, _, (List.take_append_drop d0.sz cs).symm, ka, kb⟩, wa, wb⟩
theorem opens_struct3 (ht : P.underlying t = some (.struct #[f0, f1, f2])) (hT : P.cellsOf t = d0.sz + (d1.sz + d2.sz)) (s0 : f0.offset = 0) (c0 : P.cellsOf f0.type = d0.sz) (s1 : f1.offset = d0.sz) (c1 : P.cellsOf f1.type = d1.sz)
    (s2 : f2.offset = d0.sz + d1.sz) (c2 : P.cellsOf f2.type = d2.sz) (o0 : Opens P f0.type d0 W0) (o1 : Opens P f1.type d1 W1) (o2 : Opens P f2.type d2 W2) : Opens P t (Kd.pair d0 (Kd.pair d1 d2)) (fun x => W0 x.1 ∧ W1 x.2.1 ∧ W2 x.2.2) := by
  intro H enc W spare held fuel cs x h
  obtain ⟨xs, n, _, _, hlen, hxl, hf⟩ := DataW.trod_struct ht h
  have h0 := hf 0 f0 rfl
  have h1 := hf 1 f1 rfl
  have h2 := hf 2 f2 rfl
  rw [List.getElem?_eq_getElem (show 0 < xs.length by rw [hxl]; simp), s0, c0, List.drop_zero] at h0
  rw [List.getElem?_eq_getElem (show 1 < xs.length by rw [hxl]; simp), s1, c1] at h1
  rw [List.getElem?_eq_getElem (show 2 < xs.length by rw [hxl]; simp), s2, c2, List.take_of_length_le (by simp; omega)] at h2
  obtain ⟨a, ka, wa⟩ := o0 h0
  obtain ⟨b, kb, wb⟩ := o1 h1
  obtain ⟨c, kc, wc⟩ := o2 h2
  refine ⟨(a, b, c), ⟨_, _, (List.take_append_drop d0.sz cs).symm, ka, ⟨_, _, (List.take_append_drop d1.sz (cs.drop d0.sz)).symm, kb, ?_⟩⟩, wa, wb, wc⟩
  rw [List.drop_drop]
  exact kc
end
theorem opens_agg {α : Type} {P : Program} {t : TypeId} {fs : Array Field} {d : Kd α} {Wf : α → Prop} (ht : P.underlying t = some (.struct fs)) (hT : P.cellsOf t = d.sz) (ho : Opens P t d Wf) {H : Type} {enc : TypeId × Value → H} {W : World} {r : Reach} {b0 : Nat} {spare : Nat → Bool} {held : Bool} {v : Value} {dd : DataW H} {p : List MemPlace}
    (hv : Value.okWide P W r b0 t v) (h : DataW.Trod enc P W 0 spare held t v dd p) : ∃ x : α, (∀ cs : List Value, v.cells.toList = cs → v = .agg cs.toArray) ∧ d.K W x v.cells.toList ∧ Wf x := by
  obtain ⟨cs, rfl, _⟩ := okWide_struct ht hv
  obtain ⟨fuel, hf⟩ := h
  obtain ⟨x, hK, hw⟩ := ho hf
  refine ⟨x, fun l hl => ?_, hK, hw⟩
  rw [← hl]
  simp [Value.cells]

set_option maxRecDepth 100000 in
theorem opens_T44 : Opens Try.prog 44 k44 W44 :=
  opens_iso (opens_struct2 Try.underlying44 (by kernel_rfl) rfl (by kernel_rfl) rfl (by kernel_rfl) (opens_int Try.underlying3) (opens_int Try.underlying3)) (fun p => ⟨p.1, p.2⟩) (fun _ => rfl) (fun _ h => h)
set_option maxRecDepth 100000 in
theorem opens_T24 : Opens Try.prog 24 k24 W24 :=
  opens_iso (opens_struct3 Try.underlying24 (by kernel_rfl) rfl (by kernel_rfl) rfl (by kernel_rfl) rfl (by kernel_rfl) (opens_int Try.underlying3) (opens_int Try.underlying3) (opens_slice Try.underlying22 (by kernel_rfl) (opens_T44))) (fun p => ⟨p.1, p.2.1, p.2.2⟩) (fun _ => rfl) (fun _ h => h)
end Go.Proofs.Ytbpccdbkaiigcaa.G
