/- Texts of the proof of FnExactLightestForce, joined in build order. -/
import Derived.Test.YtcgfedaoimhejaaMgFnExactLightestForce2
import Derived.Test.YtcgfedaoimhejaaMgFnExactLightestForce1
import Derived.Deep.Slices
import Derived.ChangeArms
import Derived.WideShapes
import Derived.ChangeShapes
/- The contract of LightestForce, joined: of any column and rules. -/
namespace Go.Proofs.Ytcgfedaoimhejaa.G
open Go.RowKit Go.Proofs.YtcgfedaoimhejaaW.PrintWords Go.Proofs.YtcgfedaoimhejaaW.PrintLast
set_option linter.unusedVariables false
set_option linter.unusedSimpArgs false
theorem light_boxes {w w1 w2 w2' w3 w4 : World} {g1 g2 g3 g4 : Nat} (L T S : Int) (A0 : Option Addr) (c0 : Nat) (l0 : List Int)
    (h1 : g1 = w.heap.size) (x1 : w1.heap[g1]? = some (.cells #[.slice A0 l0.length c0] 22 (0, 0))) (b1 : Below w.heap.size w w1)
    (h2 : g2 = w1.heap.size) (x2 : w2.heap[g2]? = some (.cells #[.int .i64 L, .int .i64 T, .int .i64 S] 28 (0, 0))) (b2 : Below w1.heap.size w1 w2)
    (b2' : Below w2.heap.size w2 w2')
    (h3 : g3 = w2'.heap.size) (x3 : w3.heap[g3]? = some (.cells #[.slice none 0 0] 22 (0, 0))) (b3 : Below w2'.heap.size w2' w3)
    (h4 : g4 = w3.heap.size) (x4 : w4.heap[g4]? = some (.cells #[.int .i64 0] 3 (0, 0))) (b4 : Below w3.heap.size w3 w4) :
    PlacesL w g1 g2 g4 g3 ∧ LightI w l0 L T S A0 c0 g1 g2 g4 g3 (w4.setCell ⟨g4, 0, none⟩ (.int .i64 (-1))) ([], -1) ∧ Below w.heap.size w (w4.setCell ⟨g4, 0, none⟩ (.int .i64 (-1))) := by
  have s1 := b1.size
  have s2 := b2.size
  have s2' := b2'.size
  have s3 := b3.size
  have s4 := b4.size
  have l1 := blk_lt x1
  have l2 := blk_lt x2
  have l3 := blk_lt x3
  have l4 := blk_lt x4
  have hB : Below w.heap.size w (w4.setCell ⟨g4, 0, none⟩ (.int .i64 (-1))) := Below.setCell (below_step b1 (below_step b2 (below_step b2' (below_step b3 b4)))) (by show w.heap.size ≤ g4; omega) _
  have y1 := blk_below (blk_below (blk_below (blk_below x1 b2) b2') b3) b4
  have y2 := blk_below (blk_below (blk_below x2 b2') b3) b4
  have y3 := blk_below x3 b4
  refine ⟨⟨by omega, by omega, by omega, by unfold BoxL; omega, by unfold BoxL; omega⟩, ⟨hB, ?_, ?_, blk_set x4 0 _, ⟨.slice none 0 0, ?_, Kd.R_nil _ _ _ _ _⟩⟩, hB⟩
  · exact (cell_far (p := ⟨g4, 0, none⟩) (by show g1 ≠ g4; omega) _).trans ((blk_cell y1 0).trans rfl)
  · exact (Below.heap_setCell w4 ⟨g4, 0, none⟩ _ g2 (by show g2 ≠ g4; omega)).trans y2
  · exact (Below.heap_setCell w4 ⟨g4, 0, none⟩ _ g3 (by show g3 ≠ g4; omega)).trans y3
theorem light_below {w w4 w5 : World} {a b : Nat} (h : Below w.heap.size w w4) (k : Keeps (BoxL a b) w4 w5) (ha : w.heap.size ≤ a) (hb : w.heap.size ≤ b) : Below w.heap.size w w5 :=
  ⟨k.os.trans h.os, k.tape.trans h.tape, k.output.trans h.output, Nat.le_trans h.size k.size, fun i hi => (k.block i (Nat.lt_of_lt_of_le hi h.size) (fun e => by unfold BoxL at e; omega)).trans (h.block i hi)⟩
noncomputable def impl_LightestForce.f (l0 : List Int) (a1_0 : Int) (a1_1 : Int) (a1_2 : Int) : Option (List Int × Int × Bool) := some (chk (Lashed l0 a1_0 a1_1 a1_2) ((foldL l0 a1_1).1, (foldL l0 a1_1).2, true) ([], 0, false))
set_option maxHeartbeats 4000000 in
set_option maxRecDepth 100000 in
theorem impl_LightestForce.calls (A0 : Option Addr) (c0 : Nat) (l0 : List Int) (a1_0 : Int) (a1_1 : Int) (a1_2 : Int) (r1 : List Int) (r2 : Int) (r3 : Bool) (w : World) (hr0 : Kd.C (Kd.int .i64) w A0 l0.length l0) (hc0 : l0.length ≤ c0) (h : impl_LightestForce.f l0 a1_0 a1_1 a1_2 = some (r1, r2, r3)) :
    Calls Try.prog 31 #[.slice A0 l0.length c0, .agg #[.int .i64 a1_0, .int .i64 a1_1, .int .i64 a1_2]] w fun e w' => ∃ v0_ : Value, e = .returned (.tuple #[v0_, .int .i64 r2, .bool r3]) ∧ Kd.R (Kd.int .i64) 3 w' w.heap.size (fun _ => True) v0_ r1 ∧ Below w.heap.size w w' := by
  have hu28 := Try.underlying28
  unfold impl_LightestForce.f at h
  have h := Option.some.inj h
  have HR := Aside0.mk hr0
  clear hr0
  by_cases hS : Lashed l0 a1_0 a1_1 a1_2
  · have HA : Aside0 (impl_isLashed.f l0 a1_0 a1_1 a1_2 = some true) := Aside0.mk (by rw [impl_lashed, chk_pos hS])
    rw [chk_pos hS] at h
    obtain ⟨rfl, rfl, rfl⟩ : (foldL l0 a1_1).1 = r1 ∧ (foldL l0 a1_1).2 = r2 ∧ true = r3 := by
      injection h with e1 h
      injection h with e2 h
      exact ⟨e1, e2, h⟩
    have HC := Aside0.mk hS.1
    have HT := Aside0.mk hS.2.2.1
    have h4 : l0.length ≤ 4 := by have := hS.1.1; omega
    obtain ⟨fo, hfo⟩ : ∃ fo, foldL l0 a1_1 = fo := ⟨_, rfl⟩
    have HF : Aside0 ((ords l0.length l0.length []).foldl (fun s o => stepL a1_1 s (o.map (rd l0))) ([], -1) = fo) := Aside0.mk hfo
    rw [hfo]
    clear hS h hfo
    obtain ⟨f1, f2⟩ := fo
    go_enter Try.func31, Try.ntmps31
    go_wp2_with (first | ((with_reducible refine gate_dst (N := 2) rfl ?_); refine box_event ?hg2 (N := 2) ?hd2 (cs := #[.slice A0 l0.length c0]) (t := 22) ?hr2 ?_; (case hd2 => rfl); (case hg2 => rfl); (case hr2 => first | (go_simp; done) | (go_simp; rfl)); intro g1 hgg1 w1 hboxg1 hbg1; have HG1 := Aside0.mk hgg1; have HX1 := Aside0.mk hboxg1; have HB1 := Aside0.mk hbg1; clear hgg1 hboxg1 hbg1) | ((with_reducible refine gate_dst (N := 3) rfl ?_); refine box_event ?hg3 (N := 3) ?hd3 (cs := #[.int .i64 a1_0, .int .i64 a1_1, .int .i64 a1_2]) (t := 28) ?hr3 ?_; (case hd3 => rfl); (case hg3 => rfl); (case hr3 => first | (go_simp; done) | (go_simp; rfl)); intro g2 hgg2 w2 hboxg2 hbg2; have HG2 := Aside0.mk hgg2; have HX2 := Aside0.mk hboxg2; have HB2 := Aside0.mk hbg2; have hz1 : w2.cell? ⟨g1, 0, none⟩ = some (.slice A0 l0.length c0) := below_cell hbg2 ((blk_cell HX1.out 0).trans rfl); have hz2 : w2.cell? ⟨g2, 0, none⟩ = some (.int .i64 a1_0) := (blk_cell hboxg2 0).trans rfl; have hz3 : w2.cell? ⟨g2, 1, none⟩ = some (.int .i64 a1_1) := (blk_cell hboxg2 1).trans rfl; have hz4 : w2.cell? ⟨g2, 2, none⟩ = some (.int .i64 a1_2) := (blk_cell hboxg2 2).trans rfl; clear hgg2 hboxg2 hbg2) | (go_at_call 47; refine (impl_isLashed.calls A0 c0 l0 a1_0 a1_1 a1_2 true _ (Kd.C_below HR.out (below_step HB1.out HB2.out)) hc0 HA.out).mono ?_; rintro e w3 ⟨rfl, hd3⟩; have HB3 := Aside0.mk hd3; clear hd3) | ((with_reducible refine gate_dst (N := 7) rfl ?_); refine box_event ?hg7 (N := 7) ?hd7 (cs := #[.slice none 0 0]) (t := 22) ?hr7 ?_; (case hd7 => rfl); (case hg7 => rfl); (case hr7 => first | (go_simp; done) | (go_simp; rfl)); intro g3 hgg3 w5 hboxg3 hbg3; have HG3 := Aside0.mk hgg3; have HX3 := Aside0.mk hboxg3; have HB5 := Aside0.mk hbg3; clear hgg3 hboxg3 hbg3) | ((with_reducible refine gate_dst (N := 8) rfl ?_); refine box_event ?hg8 (N := 8) ?hd8 (cs := #[.int .i64 0]) (t := 3) ?hr8 ?_; (case hd8 => rfl); (case hg8 => rfl); (case hr8 => first | (go_simp; done) | (go_simp; rfl)); intro g4 hgg4 w6 hboxg4 hbg4; have HG4 := Aside0.mk hgg4; have HX4 := Aside0.mk hboxg4; have HB6 := Aside0.mk hbg4; have hz5 : w6.cell? ⟨g4, 0, none⟩ = some (.int .i64 0) := (blk_cell hboxg4 0).trans rfl; have hz6 := blk_frozen hboxg4 0; have HBX := Aside0.mk (light_boxes a1_0 a1_1 a1_2 A0 c0 l0 HG1.out HX1.out HB1.out HG2.out HX2.out HB2.out HB3.out HG3.out HX3.out HB5.out HG4.out HX4.out HB6.out); have hz7 := HBX.out.2.1.cw_; clear hgg4 hboxg4 hbg4) | (go_at_call 65; refine calls_of_args (args' := #[.int .i64 l0.length, .func (.func 66) #[] #[.pointer (some ⟨g1, 0, none⟩), .pointer (some ⟨g2, 0, none⟩), .pointer (some ⟨g4, 0, none⟩), .pointer (some ⟨g3, 0, none⟩)]]) ?ca ?_; (case ca => (first | rfl | (simp; done) | (simp; omega))); refine (orders_any (light_back HC.out HT.out HBX.out.1 HR.out hc0) l0.length (by omega) _ ([], -1) (fun o ho => (ords_all o).1 ho) HBX.out.2.2.size HBX.out.2.1).mono ?_; rintro e w8 ⟨rfl, hI8, hK8⟩; have HB8 := Aside0.mk (light_below HBX.out.2.2 hK8 HBX.out.1.l HBX.out.1.b); rw [HF.out] at hI8; obtain ⟨v5, hv5, hr5⟩ := hI8.bb; have HR5 := Aside0.mk hr5; have hz8 : w8.cell? ⟨g4, 0, none⟩ = some (.int .i64 f2) := (blk_cell hI8.bl 0).trans rfl; have hz9 : w8.cell? ⟨g3, 0, none⟩ = some v5 := (blk_cell hv5 0).trans rfl; clear hI8 hv5 hr5 hK8))
    repeat (go_quiet (fail); try go_wp2)
    refine bodyPost_ret (results_list (rs := [.tmp 4, .tmp 5, .tmp 6]) rfl (by simp) (.tmp (.tmp (.tmp .nil)))) rfl ?_
    exact ⟨v5, by first | rfl | (simp; done), by (with_reducible repeat (first | apply Kd.R_alloc | apply Kd.R_drewN | apply Kd.R_drew)); exact Kd.R_mono HR5.out (fun _ _ => trivial), by repeat (first | (with_reducible first | exact HB8.out | apply below_alloc | apply pw_below_drewN | apply below_drew1) | exact HB8.out)⟩
  · have HA : Aside0 (impl_isLashed.f l0 a1_0 a1_1 a1_2 = some false) := Aside0.mk (by rw [impl_lashed, chk_neg hS])
    rw [chk_neg hS] at h
    obtain ⟨rfl, rfl, rfl⟩ : [] = r1 ∧ 0 = r2 ∧ false = r3 := by
      injection h with e1 h
      injection h with e2 h
      exact ⟨e1, e2, h⟩
    clear hS h
    go_enter Try.func31, Try.ntmps31
    go_wp2_with (first | ((with_reducible refine gate_dst (N := 2) rfl ?_); refine box_event ?hg2 (N := 2) ?hd2 (cs := #[.slice A0 l0.length c0]) (t := 22) ?hr2 ?_; (case hd2 => rfl); (case hg2 => rfl); (case hr2 => first | (go_simp; done) | (go_simp; rfl)); intro g1 hgg1 w1 hboxg1 hbg1; have HX1 := Aside0.mk hboxg1; have HB1 := Aside0.mk hbg1; clear hgg1 hboxg1 hbg1) | ((with_reducible refine gate_dst (N := 3) rfl ?_); refine box_event ?hg3 (N := 3) ?hd3 (cs := #[.int .i64 a1_0, .int .i64 a1_1, .int .i64 a1_2]) (t := 28) ?hr3 ?_; (case hd3 => rfl); (case hg3 => rfl); (case hr3 => first | (go_simp; done) | (go_simp; rfl)); intro g2 hgg2 w2 hboxg2 hbg2; have HB2 := Aside0.mk hbg2; have hz1 : w2.cell? ⟨g1, 0, none⟩ = some (.slice A0 l0.length c0) := below_cell hbg2 ((blk_cell HX1.out 0).trans rfl); have hz2 : w2.cell? ⟨g2, 0, none⟩ = some (.int .i64 a1_0) := (blk_cell hboxg2 0).trans rfl; have hz3 : w2.cell? ⟨g2, 1, none⟩ = some (.int .i64 a1_1) := (blk_cell hboxg2 1).trans rfl; have hz4 : w2.cell? ⟨g2, 2, none⟩ = some (.int .i64 a1_2) := (blk_cell hboxg2 2).trans rfl; clear hgg2 hboxg2 hbg2) | (go_at_call 47; refine (impl_isLashed.calls A0 c0 l0 a1_0 a1_1 a1_2 false _ (Kd.C_below HR.out (below_step HB1.out HB2.out)) hc0 HA.out).mono ?_; rintro e w3 ⟨rfl, hd3⟩; have HB3 := Aside0.mk hd3; clear hd3))
    refine bodyPost_ret (results_list (rs := [.tmp 4, .tmp 5, .tmp 6]) rfl (by simp) (.tmp (.tmp (.tmp .nil)))) rfl ?_
    exact ⟨.slice none 0 0, by first | rfl | (simp; done), Kd.R_nil _ _ _ _ _, below_step HB1.out (below_step HB2.out HB3.out)⟩
end Go.Proofs.Ytcgfedaoimhejaa.G

-- Written by wip/tools/gen.py out of the translation (the kit's printer, one namespace a seat). Lean checks it.
namespace Go.Proofs.Ytcgfedaoimhejaa.G
open Go.RowKit Go.Proofs.YtcgfedaoimhejaaW.PrintWords Go.Proofs.YtcgfedaoimhejaaW.PrintLast Go.Proofs.YtcgfedaoimhejaaW.PrintMore
attribute [local go_sem] max2_int min2_int max_two min_two max_three min_three max_four min_four   -- for this text's walks alone
set_option linter.unusedVariables false
set_option linter.unusedSimpArgs false

/-! ### laws_FnExactLightestForce: function 8 -/
mutual
noncomputable def laws_FnExactLightestForce.j0 : Nat → List Int → List Int → Int → Bool → List Int → List Int → Int → Bool → Bool → Int → Int → Int → Option (Bool)
 | 0, _, _, _, _, _, _, _, _, _, _, _, _ => none
 | k + 1, x0, x5, x6, x7, x8, x9, x10, x11, x53, x541000, x541001, x541002 => if x53 = true then (some false) else ((laws_toIntS.f k x0).bind fun t564 => ((laws_eqIntS.f k x8 t564).bind fun t567 => (if t567 = true then ((laws_markIntS.f k x8 1).bind fun bt568 => (if bt568.1 < 0 then (laws_FnExactLightestForce.j1 k x0 x5 x6 x7 x9 true x541000 x541001 x541002) else ((laws_eqIntS.f k x9 x5).bind fun t570 => (if t570 = true then (if x10 = x6 then (laws_FnExactLightestForce.j1 k x0 x5 x6 x7 x9 (x11 != x7) x541000 x541001 x541002) else (laws_FnExactLightestForce.j1 k x0 x5 x6 x7 x9 true x541000 x541001 x541002)) else (laws_FnExactLightestForce.j1 k x0 x5 x6 x7 x9 true x541000 x541001 x541002))))) else (some false))))
noncomputable def laws_FnExactLightestForce.j1 : Nat → List Int → List Int → Int → Bool → List Int → Bool → Int → Int → Int → Option (Bool)
 | 0, _, _, _, _, _, _, _, _, _ => none
 | k + 1, x0, x5, x6, x7, x9, x79, x541000, x541001, x541002 => if x79 = true then (some false) else ((laws_markIntS.f k x9 1).bind fun bt571 => ((laws_heldIntS.f k bt571.2 1).bind fun t573 => (if t573 < 0 then (some false) else (if t573 = bt571.1 then ((laws_toIntS.f k x0).bind fun t574 => ((laws_toLashRules.f x541000 x541001 x541002).bind fun bt577 => ((impl_LightestForce.f t574 bt577.1 bt577.2.1 bt577.2.2).bind fun bt580 => ((laws_eqIntS.f k bt580.1 x5).bind fun t585 => (if t585 = true then (if bt580.2.1 = x6 then (laws_FnExactLightestForce.j2 k bt571.2 bt571.1 (bt580.2.2 != x7)) else (laws_FnExactLightestForce.j2 k bt571.2 bt571.1 true)) else (laws_FnExactLightestForce.j2 k bt571.2 bt571.1 true)))))) else (some false)))))
noncomputable def laws_FnExactLightestForce.j2 : Nat → List Int → Int → Bool → Option (Bool)
 | 0, _, _, _ => none
 | k + 1, x9, x13, x113 => if x113 = true then (some false) else ((laws_heldIntS.f k x9 1).bind fun t586 => (if t586 < 0 then (some false) else (if t586 = x13 then (some true) else (some false))))
end
noncomputable def laws_FnExactLightestForce.f (k : Nat) (l0 : List Int) (a1_0 : Int) (a1_1 : Int) (a1_2 : Int) : Option (Bool) := if (l0.length : Int) > 1048576 then (some true) else ((laws_toIntS.f k l0).bind fun t541 => ((laws_toLashRules.f a1_0 a1_1 a1_2).bind fun bt544 => ((spec_LightestForce.f k t541 bt544.1 bt544.2.1 bt544.2.2).bind fun bt547 => ((laws_toIntS.f k l0).bind fun t552 => ((laws_toLashRules.f a1_0 a1_1 a1_2).bind fun bt555 => ((impl_LightestForce.f t552 bt555.1 bt555.2.1 bt555.2.2).bind fun bt558 => ((laws_eqIntS.f k bt558.1 bt547.1).bind fun t563 => (if t563 = true then (if bt558.2.1 = bt547.2.1 then (laws_FnExactLightestForce.j0 k l0 bt547.1 bt547.2.1 bt547.2.2 t552 bt558.1 bt558.2.1 bt558.2.2 (bt558.2.2 != bt547.2.2) a1_0 a1_1 a1_2) else (laws_FnExactLightestForce.j0 k l0 bt547.1 bt547.2.1 bt547.2.2 t552 bt558.1 bt558.2.1 bt558.2.2 true a1_0 a1_1 a1_2)) else (laws_FnExactLightestForce.j0 k l0 bt547.1 bt547.2.1 bt547.2.2 t552 bt558.1 bt558.2.1 bt558.2.2 true a1_0 a1_1 a1_2)))))))))
def laws_FnExactLightestForce.T3 : Bool × List (List Nat × List Nat) := (true, [([], []), ([0], [0]), ([], []), ([2, 1], [2]), ([1, 3, 3], [1, 3]), ([4], [4]), ([5], [5]), ([5], [5]), ([5], [5]), ([6, 4, 0, 1, 2, 3, 4, 5, 6], [6]), ([7, 9, 0, 1, 2, 3, 4, 5, 6, 7, 9], [7]), ([8, 10, 0, 1, 2, 3, 4, 5, 6, 7, 8, 9, 10], [8])])
def laws_FnExactLightestForce.B3 : List Nat := [0, 1, 0, 7, 15, 31, 63, 63, 63, 127, 767, 2047]
theorem laws_FnExactLightestForce.tab3 : rtab .any (opsOf Try.f8 3) = laws_FnExactLightestForce.T3 := by kernel_rfl
theorem laws_FnExactLightestForce.bits3 : waitsOk laws_FnExactLightestForce.T3.2 laws_FnExactLightestForce.B3 = true := by kernel_rfl
def laws_FnExactLightestForce.T22 : Bool × List (List Nat × List Nat) := (true, [([], []), ([0], [0]), ([], []), ([2, 1], [2]), ([1, 3, 3], [1, 3]), ([4], [4]), ([5], [5]), ([5], [5]), ([5], [5]), ([6, 4, 0, 1, 2, 3, 4, 5, 6], [6]), ([7, 9, 0, 1, 2, 3, 4, 5, 6, 7, 9], [7]), ([8, 10, 0, 1, 2, 3, 4, 5, 6, 7, 8, 9, 10], [8])])
def laws_FnExactLightestForce.B22 : List Nat := [0, 1, 0, 7, 15, 31, 63, 63, 63, 127, 767, 2047]
theorem laws_FnExactLightestForce.tab22 : rtab .any (opsOf Try.f8 22) = laws_FnExactLightestForce.T22 := by kernel_rfl
theorem laws_FnExactLightestForce.bits22 : waitsOk laws_FnExactLightestForce.T22.2 laws_FnExactLightestForce.B22 = true := by kernel_rfl
set_option maxHeartbeats 8000000 in
set_option maxRecDepth 100000 in
theorem laws_FnExactLightestForce.calls (k : Nat) (A0 : Option Addr) (c0 : Nat) (l0 : List Int) (a1_0 : Int) (a1_1 : Int) (a1_2 : Int) (r : Bool) (w : World) (hr0 : Kd.C (Kd.int .i64) w A0 l0.length l0) (hc0 : l0.length ≤ c0) (h : laws_FnExactLightestForce.f k l0 a1_0 a1_1 a1_2 = some r) :
  Calls Try.prog 8 #[.slice A0 l0.length c0, .agg #[.int .i64 a1_0, .int .i64 a1_1, .int .i64 a1_2]] w fun e w' => e = .returned (.bool r) ∧ Below w.heap.size w w' := by
 have hu24 := Try.underlying24
 have HR0 := zM hr0
 have HC0 := zM hc0
 clear hr0 hc0
 have HB := zM (Below.refl w.heap.size w)
 have H : (if (l0.length : Int) > 1048576 then (some true) else ((laws_toIntS.f k l0).bind fun t541 => ((laws_toLashRules.f a1_0 a1_1 a1_2).bind fun bt544 => ((spec_LightestForce.f k t541 bt544.1 bt544.2.1 bt544.2.2).bind fun bt547 => ((laws_toIntS.f k l0).bind fun t552 => ((laws_toLashRules.f a1_0 a1_1 a1_2).bind fun bt555 => ((impl_LightestForce.f t552 bt555.1 bt555.2.1 bt555.2.2).bind fun bt558 => ((laws_eqIntS.f k bt558.1 bt547.1).bind fun t563 => (if t563 = true then (if bt558.2.1 = bt547.2.1 then (laws_FnExactLightestForce.j0 k l0 bt547.1 bt547.2.1 bt547.2.2 t552 bt558.1 bt558.2.1 bt558.2.2 (bt558.2.2 != bt547.2.2) a1_0 a1_1 a1_2) else (laws_FnExactLightestForce.j0 k l0 bt547.1 bt547.2.1 bt547.2.2 t552 bt558.1 bt558.2.1 bt558.2.2 true a1_0 a1_1 a1_2)) else (laws_FnExactLightestForce.j0 k l0 bt547.1 bt547.2.1 bt547.2.2 t552 bt558.1 bt558.2.1 bt558.2.2 true a1_0 a1_1 a1_2)))))))))) = some r := h
 clear h
 by_cases c3 : (l0.length : Int) > 1048576
 ·rw [if_pos c3] at H
  have c3b0 : decide (1048576 < (l0.length : Int)) = true := decide_eq_true c3
  have c3b1 : decide (1048576 < l0.length) = true := decide_eq_true (by omega)
  clear c3
  obtain rfl := Option.some.inj H
  go_enter Try.func8, Try.ntmps8
  go_wp2_with (first | ((with_reducible refine gate_dst (N := 3) rfl ?_); refine box_event ?hg (N := 3) ?hd (cs := #[.int .i64 a1_0, .int .i64 a1_1, .int .i64 a1_2]) (t := 24) ?hr ?_; (case hd => rfl); (case hg => rfl); (case hr => first | (go_simp; done) | (go_simp; rfl)); intro gb540 hg w4 hbox hb; have n0_ := zM (zQ (by repeat (first | (with_reducible first | exact HB.out | apply zD | apply zE | apply zF) | exact HB.out)) hb); have n1_ := zM (hbox); have n2_ := zM ((by rw [hg]; exact (zR (by repeat (first | (with_reducible first | exact HB.out | apply zD | apply zE | apply zF) | exact HB.out))) : w.heap.size ≤ gb540)); have n3_ := zM ((by rw [hg]; exact (zR (by repeat (first | (with_reducible first | exact HB.out | apply zD | apply zE | apply zF) | exact HB.out))) : w.heap.size ≤ gb540)); clear HB; have HB := n0_; have BK540 := n1_; have GW540 := n2_; have GE540 := n3_; clear n0_ n1_ n2_ n3_; clear hb hbox hg))
  go_ret
  exact ⟨by first | rfl | (simp [errW_none, errW_some] <;> rfl) | (simp [*, errW_none, errW_some] <;> rfl), by repeat (first | (with_reducible first | exact HB.out | apply zD | apply zE | apply zF | refine below_set ?_ GE540.out) | exact HB.out)⟩
 ·rw [if_neg c3] at H
  have c3b0 : decide (1048576 < (l0.length : Int)) = false := decide_eq_false c3
  have c3b1 : decide (1048576 < l0.length) = false := decide_eq_false (by omega)
  clear c3
  replace H := Option.bind_eq_some_iff.mp H
  obtain ⟨t541, A50, H⟩ := H
  replace H : ((laws_toLashRules.f a1_0 a1_1 a1_2).bind fun bt544 => ((spec_LightestForce.f k t541 bt544.1 bt544.2.1 bt544.2.2).bind fun bt547 => ((laws_toIntS.f k l0).bind fun t552 => ((laws_toLashRules.f a1_0 a1_1 a1_2).bind fun bt555 => ((impl_LightestForce.f t552 bt555.1 bt555.2.1 bt555.2.2).bind fun bt558 => ((laws_eqIntS.f k bt558.1 bt547.1).bind fun t563 => (if t563 = true then (if bt558.2.1 = bt547.2.1 then (laws_FnExactLightestForce.j0 k l0 bt547.1 bt547.2.1 bt547.2.2 t552 bt558.1 bt558.2.1 bt558.2.2 (bt558.2.2 != bt547.2.2) a1_0 a1_1 a1_2) else (laws_FnExactLightestForce.j0 k l0 bt547.1 bt547.2.1 bt547.2.2 t552 bt558.1 bt558.2.1 bt558.2.2 true a1_0 a1_1 a1_2)) else (laws_FnExactLightestForce.j0 k l0 bt547.1 bt547.2.1 bt547.2.2 t552 bt558.1 bt558.2.1 bt558.2.2 true a1_0 a1_1 a1_2)))))))) = some r := H
  have A5 := zM A50
  clear A50
  replace H := Option.bind_eq_some_iff.mp H
  obtain ⟨⟨t544, t545, t546⟩, A60, H⟩ := H
  replace H : ((spec_LightestForce.f k t541 t544 t545 t546).bind fun bt547 => ((laws_toIntS.f k l0).bind fun t552 => ((laws_toLashRules.f a1_0 a1_1 a1_2).bind fun bt555 => ((impl_LightestForce.f t552 bt555.1 bt555.2.1 bt555.2.2).bind fun bt558 => ((laws_eqIntS.f k bt558.1 bt547.1).bind fun t563 => (if t563 = true then (if bt558.2.1 = bt547.2.1 then (laws_FnExactLightestForce.j0 k l0 bt547.1 bt547.2.1 bt547.2.2 t552 bt558.1 bt558.2.1 bt558.2.2 (bt558.2.2 != bt547.2.2) a1_0 a1_1 a1_2) else (laws_FnExactLightestForce.j0 k l0 bt547.1 bt547.2.1 bt547.2.2 t552 bt558.1 bt558.2.1 bt558.2.2 true a1_0 a1_1 a1_2)) else (laws_FnExactLightestForce.j0 k l0 bt547.1 bt547.2.1 bt547.2.2 t552 bt558.1 bt558.2.1 bt558.2.2 true a1_0 a1_1 a1_2))))))) = some r := H
  have A6 := zM A60
  clear A60
  replace H := Option.bind_eq_some_iff.mp H
  obtain ⟨⟨t547, t550, t551⟩, A70, H⟩ := H
  replace H : ((laws_toIntS.f k l0).bind fun t552 => ((laws_toLashRules.f a1_0 a1_1 a1_2).bind fun bt555 => ((impl_LightestForce.f t552 bt555.1 bt555.2.1 bt555.2.2).bind fun bt558 => ((laws_eqIntS.f k bt558.1 t547).bind fun t563 => (if t563 = true then (if bt558.2.1 = t550 then (laws_FnExactLightestForce.j0 k l0 t547 t550 t551 t552 bt558.1 bt558.2.1 bt558.2.2 (bt558.2.2 != t551) a1_0 a1_1 a1_2) else (laws_FnExactLightestForce.j0 k l0 t547 t550 t551 t552 bt558.1 bt558.2.1 bt558.2.2 true a1_0 a1_1 a1_2)) else (laws_FnExactLightestForce.j0 k l0 t547 t550 t551 t552 bt558.1 bt558.2.1 bt558.2.2 true a1_0 a1_1 a1_2)))))) = some r := H
  have A7 := zM A70
  clear A70
  replace H := Option.bind_eq_some_iff.mp H
  obtain ⟨t552, A80, H⟩ := H
  replace H : ((laws_toLashRules.f a1_0 a1_1 a1_2).bind fun bt555 => ((impl_LightestForce.f t552 bt555.1 bt555.2.1 bt555.2.2).bind fun bt558 => ((laws_eqIntS.f k bt558.1 t547).bind fun t563 => (if t563 = true then (if bt558.2.1 = t550 then (laws_FnExactLightestForce.j0 k l0 t547 t550 t551 t552 bt558.1 bt558.2.1 bt558.2.2 (bt558.2.2 != t551) a1_0 a1_1 a1_2) else (laws_FnExactLightestForce.j0 k l0 t547 t550 t551 t552 bt558.1 bt558.2.1 bt558.2.2 true a1_0 a1_1 a1_2)) else (laws_FnExactLightestForce.j0 k l0 t547 t550 t551 t552 bt558.1 bt558.2.1 bt558.2.2 true a1_0 a1_1 a1_2))))) = some r := H
  have A8 := zM A80
  clear A80
  replace H := Option.bind_eq_some_iff.mp H
  obtain ⟨⟨t555, t556, t557⟩, A90, H⟩ := H
  replace H : ((impl_LightestForce.f t552 t555 t556 t557).bind fun bt558 => ((laws_eqIntS.f k bt558.1 t547).bind fun t563 => (if t563 = true then (if bt558.2.1 = t550 then (laws_FnExactLightestForce.j0 k l0 t547 t550 t551 t552 bt558.1 bt558.2.1 bt558.2.2 (bt558.2.2 != t551) a1_0 a1_1 a1_2) else (laws_FnExactLightestForce.j0 k l0 t547 t550 t551 t552 bt558.1 bt558.2.1 bt558.2.2 true a1_0 a1_1 a1_2)) else (laws_FnExactLightestForce.j0 k l0 t547 t550 t551 t552 bt558.1 bt558.2.1 bt558.2.2 true a1_0 a1_1 a1_2)))) = some r := H
  have A9 := zM A90
  clear A90
  replace H := Option.bind_eq_some_iff.mp H
  obtain ⟨⟨t558, t561, t562⟩, A100, H⟩ := H
  replace H : ((laws_eqIntS.f k t558 t547).bind fun t563 => (if t563 = true then (if t561 = t550 then (laws_FnExactLightestForce.j0 k l0 t547 t550 t551 t552 t558 t561 t562 (t562 != t551) a1_0 a1_1 a1_2) else (laws_FnExactLightestForce.j0 k l0 t547 t550 t551 t552 t558 t561 t562 true a1_0 a1_1 a1_2)) else (laws_FnExactLightestForce.j0 k l0 t547 t550 t551 t552 t558 t561 t562 true a1_0 a1_1 a1_2))) = some r := H
  have A10 := zM A100
  clear A100
  have HC11 := zM H
  clear H
  go_enter Try.func8, Try.ntmps8
  try go_wp2_with (first | ((with_reducible refine gate_dst (N := 3) rfl ?_); refine box_event ?hg (N := 3) ?hd (cs := #[.int .i64 a1_0, .int .i64 a1_1, .int .i64 a1_2]) (t := 24) ?hr ?_; (case hd => rfl); (case hg => rfl); (case hr => first | (go_simp; done) | (go_simp; rfl)); intro gb540 hg w12 hbox hb; have n0_ := zM (zQ (by repeat (first | (with_reducible first | exact HB.out | apply zD | apply zE | apply zF) | exact HB.out)) hb); have n1_ := zM (hbox); have n2_ := zM ((by rw [hg]; exact (zR (by repeat (first | (with_reducible first | exact HB.out | apply zD | apply zE | apply zF) | exact HB.out))) : w.heap.size ≤ gb540)); have n3_ := zM ((by rw [hg]; exact (zR (by repeat (first | (with_reducible first | exact HB.out | apply zD | apply zE | apply zF) | exact HB.out))) : w.heap.size ≤ gb540)); clear HB; have HB := n0_; have BK540 := n1_; have GW540 := n2_; have GE540 := n3_; clear n0_ n1_ n2_ n3_; clear hb hbox hg))
  have n0_ := zM (zK BK540.out)
  have n1_ := zM (zF HB.out)
  clear BK540
  clear HB
  have BK540 := n0_
  have HB := n1_
  clear n0_ n1_
  refine start_ (n := 12) (S := fun w' => w'.cell? ⟨gb540, 0, none⟩ = some (.int .i64 a1_0) ∧ w'.cell? ⟨gb540, 1, none⟩ = some (.int .i64 a1_1) ∧ w'.cell? ⟨gb540, 2, none⟩ = some (.int .i64 a1_2)) (ds := []) #[false, false, false, false, false, false, false, false, false, false, false, false] (by kernel_rfl) rfl rfl ⟨(blk_cell BK540.out 0).trans rfl, (blk_cell BK540.out 1).trans rfl, (blk_cell BK540.out 2).trans rfl⟩ (fun hHeld => ?_); refine with_tabW laws_FnExactLightestForce.tab3 laws_FnExactLightestForce.bits3 (fun HT_ HW_ => ?_)
  generalize w12.drew = w13 at BK540 HB hHeld ⊢
  refine pure_ (i := 0) (N := some 22) (v := ?_) (a' := ?_) #[true, false, false, false, false, false, false, false, false, false, false, false] rfl rfl (any_of HT_.out (by kernel_rfl)) (fun _ _ _ h => h) (Or.inl ⟨by rfl, ?_⟩) ?_ ?_
  rotate_left
  ·intro w'
   go_simp
   with_reducible rfl
  rotate_left
  ·simp only [Act.put, List.setIfInBounds_toArray, List.set_cons_zero, List.set_cons_succ, i64_w, i32_w]
   rfl
  refine take_ (i := 2) (N := some 24) (v := ?_) (a' := ?_) #[true, false, true, false, false, false, false, false, false, false, false, false] rfl rfl (take_ofW HT_.out HW_.out (by kernel_rfl)) (fun _ _ _ h => h) (Or.inl ⟨by rfl, ?_⟩) hHeld ?_ ?_
  rotate_left
  ·rintro w' ⟨s0, s1, s2⟩
   go_simp
   with_reducible rfl
  rotate_left
  ·simp only [Act.put, List.setIfInBounds_toArray, List.set_cons_zero, List.set_cons_succ, i64_w, i32_w]
   rfl
  refine one_ (i := 1) (N := some 23) #[true, true, true, false, false, false, false, false, false, false, false, false] rfl rfl (one_of HT_.out (by kernel_rfl)) (by decide) (fun K hK => ?_)
  refine goes_ Try.func13 (by kernel_rfl) rfl #[.slice A0 l0.length c0] (by rfl) rfl rfl (by (try simp only [List.map_toArray, List.map_cons, List.map_nil]); first | done | rfl | (simp only [List.length_drop, List.length_take]; rfl)) ?_
  with_reducible refine (laws_toIntS.calls k _ _ l0 t541 _ ?side1 ?side2 A5.out).mono ?_
  (case side1 => repeat (first | exact (zO HR0.out HB.out) | (with_reducible refine zG ?_ _) | (with_reducible refine zH ?_ _) | (with_reducible refine zI ?_)))
  (case side2 => exact HC0.out)
  rintro e w14 ⟨v542, rfl, ho0, hb⟩
  refine ⟨_, rfl, ?_⟩
  have n0_ := zM (Kd.R_lower ho0 (zR (by repeat (first | (with_reducible first | exact HB.out | apply zD | apply zE | apply zF | refine below_set ?_ GE540.out) | exact HB.out))))
  have n1_ := zM (blk_below (g := gb540) (o := .cells #[.int .i64 a1_0, .int .i64 a1_1, .int .i64 a1_2] 24 (0, 0)) (by (with_reducible repeat (first | refine zJ ?_ _ | refine zK ?_ | refine zL ?_ _)); exact BK540.out) hb)
  have n2_ := zM (zQ (by repeat (first | (with_reducible first | exact HB.out | apply zD | apply zE | apply zF | refine below_set ?_ GE540.out) | exact HB.out)) hb)
  clear BK540
  clear HB
  have HO543 := n0_
  have BK540 := n1_
  have HB := n2_
  clear n0_ n1_ n2_
  (try clear hb)
  (try clear hb2)
  (try clear hk)
  (try clear hi)
  (try clear ho0)
  refine hK.out _ _ ⟨(blk_cell BK540.out 0).trans rfl, (blk_cell BK540.out 1).trans rfl, (blk_cell BK540.out 2).trans rfl⟩ (fun hHeld => ?_)
  clear hK K
  refine norm_ (a' := ?_) ?_ ?_
  rotate_left
  ·show Act.put _ (some 23) _ = _
   simp only [Act.put, List.setIfInBounds_toArray, List.set_cons_zero, List.set_cons_succ, i64_w, i32_w]
   rfl
  refine one_ (i := 3) (N := some 25) #[true, true, true, true, false, false, false, false, false, false, false, false] rfl rfl (one_of HT_.out (by kernel_rfl)) (by decide) (fun K hK => ?_)
  refine goes_ Try.func14 (by kernel_rfl) rfl #[.agg #[.int .i64 a1_0, .int .i64 a1_1, .int .i64 a1_2]] (by rfl) rfl rfl (by (try simp only [List.map_toArray, List.map_cons, List.map_nil]); first | done | rfl | (simp only [List.length_drop, List.length_take]; rfl)) ?_
  with_reducible refine (laws_toLashRules.calls a1_0 a1_1 a1_2 t544 t545 t546 _ A6.out).mono ?_
  rintro e w15 ⟨rfl, hb⟩
  refine ⟨_, rfl, ?_⟩
  have n0_ := zM (zP (by (with_reducible repeat (first | apply zA | apply zB | apply zC)); exact HO543.out) hb)
  have n1_ := zM (blk_below (g := gb540) (o := .cells #[.int .i64 a1_0, .int .i64 a1_1, .int .i64 a1_2] 24 (0, 0)) (by (with_reducible repeat (first | refine zJ ?_ _ | refine zK ?_ | refine zL ?_ _)); exact BK540.out) hb)
  have n2_ := zM (zQ (by repeat (first | (with_reducible first | exact HB.out | apply zD | apply zE | apply zF | refine below_set ?_ GE540.out) | exact HB.out)) hb)
  clear HO543
  clear BK540
  clear HB
  have HO543 := n0_
  have BK540 := n1_
  have HB := n2_
  clear n0_ n1_ n2_
  (try clear hb)
  (try clear hb2)
  (try clear hk)
  (try clear hi)
  obtain ⟨Ao16, co16, eo16⟩ := Kd.R_slice HO543.out
  (first | subst eo16 | (injection eo16 with f1_ f2_ f3_; have f4_ := f1_.symm; have f5_ := f3_.symm; clear f1_ f2_ f3_; subst f4_; subst f5_))
  refine hK.out _ _ ⟨(blk_cell BK540.out 0).trans rfl, (blk_cell BK540.out 1).trans rfl, (blk_cell BK540.out 2).trans rfl⟩ (fun hHeld => ?_)
  clear hK K
  refine norm_ (a' := ?_) ?_ ?_
  rotate_left
  ·show Act.put _ (some 25) _ = _
   simp only [Act.put, List.setIfInBounds_toArray, List.set_cons_zero, List.set_cons_succ, i64_w, i32_w]
   rfl
  refine one_ (i := 4) (N := some 26) #[true, true, true, true, true, false, false, false, false, false, false, false] rfl rfl (one_of HT_.out (by kernel_rfl)) (by decide) (fun K hK => ?_)
  refine goes_ Try.func30 (by kernel_rfl) rfl #[.slice Ao16 t541.length co16, .agg #[.int .i64 t544, .int .i64 t545, .int .i64 t546]] (by rfl) rfl rfl (by (try simp only [List.map_toArray, List.map_cons, List.map_nil]); first | done | rfl | (simp only [List.length_drop, List.length_take]; rfl)) ?_
  with_reducible refine (spec_LightestForce.calls k _ _ t541 t544 t545 t546 t547 t550 t551 _ ?side1 ?side2 A7.out).mono ?_
  (case side1 => repeat (first | exact (zN HO543.out).2.2 | (with_reducible refine zG ?_ _) | (with_reducible refine zH ?_ _) | (with_reducible refine zI ?_)))
  (case side2 => exact (zN HO543.out).2.1)
  rintro e w17 ⟨v548, rfl, ho0, hb⟩
  refine ⟨_, rfl, ?_⟩
  have n0_ := zM (zP (by (with_reducible repeat (first | apply zA | apply zB | apply zC)); exact HO543.out) hb)
  have n1_ := zM (Kd.V_lower (Kd.V_mono (ok' := fun k_ => some k_ ≠ (.slice Ao16 t541.length co16 : Value).ownBlock ∧ k_ ≠ gb540) ho0 (fun k_ hk_ => ⟨(Kd.fresh' (Kd.R_lt (by (with_reducible repeat (first | apply zA | apply zB | apply zC)); exact HO543.out)) k_ hk_), (Kd.freshB (g := gb540) (o := .cells #[.int .i64 a1_0, .int .i64 a1_1, .int .i64 a1_2] 24 (0, 0)) (by (with_reducible repeat (first | refine zJ ?_ _ | refine zK ?_ | refine zL ?_ _)); exact BK540.out) k_ hk_)⟩)) (zR (by repeat (first | (with_reducible first | exact HB.out | apply zD | apply zE | apply zF | refine below_set ?_ GE540.out) | exact HB.out))))
  have n2_ := zM (blk_below (g := gb540) (o := .cells #[.int .i64 a1_0, .int .i64 a1_1, .int .i64 a1_2] 24 (0, 0)) (by (with_reducible repeat (first | refine zJ ?_ _ | refine zK ?_ | refine zL ?_ _)); exact BK540.out) hb)
  have n3_ := zM (zQ (by repeat (first | (with_reducible first | exact HB.out | apply zD | apply zE | apply zF | refine below_set ?_ GE540.out) | exact HB.out)) hb)
  clear HO543
  clear BK540
  clear HB
  have HO543 := n0_
  have HO549 := n1_
  have BK540 := n2_
  have HB := n3_
  clear n0_ n1_ n2_ n3_
  (try clear hb)
  (try clear hb2)
  (try clear hk)
  (try clear hi)
  (try clear ho0)
  refine hK.out _ _ ⟨(blk_cell BK540.out 0).trans rfl, (blk_cell BK540.out 1).trans rfl, (blk_cell BK540.out 2).trans rfl⟩ (fun hHeld => ?_)
  clear hK K
  refine norm_ (a' := ?_) ?_ ?_
  rotate_left
  ·show Act.put _ (some 26) _ = _
   simp only [Act.put, List.setIfInBounds_toArray, List.set_cons_zero, List.set_cons_succ, i64_w, i32_w]
   rfl
  refine pure_ (i := 5) (N := some 21) (v := ?_) (a' := ?_) #[true, true, true, true, true, true, false, false, false, false, false, false] rfl rfl (any_of HT_.out (by kernel_rfl)) (fun _ _ _ h => h) (Or.inl ⟨by rfl, ?_⟩) ?_ ?_
  rotate_left
  ·intro w'
   go_simp
   with_reducible rfl
  rotate_left
  ·simp only [Act.put, List.setIfInBounds_toArray, List.set_cons_zero, List.set_cons_succ, i64_w, i32_w]
   rfl
  refine pure_ (i := 6) (N := some 27) (v := ?_) (a' := ?_) #[true, true, true, true, true, true, true, false, false, false, false, false] rfl rfl (any_of HT_.out (by kernel_rfl)) (fun _ _ _ h => h) (Or.inl ⟨by rfl, ?_⟩) ?_ ?_
  rotate_left
  ·intro w'
   go_simp
   with_reducible rfl
  rotate_left
  ·simp only [Act.put, List.setIfInBounds_toArray, List.set_cons_zero, List.set_cons_succ, i64_w, i32_w]
   rfl
  refine pure_ (i := 7) (N := some 28) (v := ?_) (a' := ?_) #[true, true, true, true, true, true, true, true, false, false, false, false] rfl rfl (any_of HT_.out (by kernel_rfl)) (fun _ _ _ h => h) (Or.inl ⟨by rfl, ?_⟩) ?_ ?_
  rotate_left
  ·intro w'
   go_simp
   with_reducible rfl
  rotate_left
  ·simp only [Act.put, List.setIfInBounds_toArray, List.set_cons_zero, List.set_cons_succ, i64_w, i32_w]
   rfl
  refine pure_ (i := 8) (N := some 29) (v := ?_) (a' := ?_) #[true, true, true, true, true, true, true, true, true, false, false, false] rfl rfl (any_of HT_.out (by kernel_rfl)) (fun _ _ _ h => h) (Or.inl ⟨by rfl, ?_⟩) ?_ ?_
  rotate_left
  ·intro w'
   go_simp
   with_reducible rfl
  rotate_left
  ·simp only [Act.put, List.setIfInBounds_toArray, List.set_cons_zero, List.set_cons_succ, i64_w, i32_w]
   rfl
  refine pure_ (i := 9) (N := some 5) (v := ?_) (a' := ?_) #[true, true, true, true, true, true, true, true, true, true, false, false] rfl rfl (any_of HT_.out (by kernel_rfl)) (fun _ _ _ h => h) (Or.inl ⟨by rfl, ?_⟩) ?_ ?_
  rotate_left
  ·intro w'
   go_simp
   with_reducible rfl
  rotate_left
  ·simp only [Act.put, List.setIfInBounds_toArray, List.set_cons_zero, List.set_cons_succ, i64_w, i32_w]
   rfl
  refine pure_ (i := 10) (N := some 6) (v := ?_) (a' := ?_) #[true, true, true, true, true, true, true, true, true, true, true, false] rfl rfl (any_of HT_.out (by kernel_rfl)) (fun _ _ _ h => h) (Or.inl ⟨by rfl, ?_⟩) ?_ ?_
  rotate_left
  ·intro w'
   go_simp
   with_reducible rfl
  rotate_left
  ·simp only [Act.put, List.setIfInBounds_toArray, List.set_cons_zero, List.set_cons_succ, i64_w, i32_w]
   rfl
  refine pure_ (i := 11) (N := some 7) (v := ?_) (a' := ?_) #[true, true, true, true, true, true, true, true, true, true, true, true] rfl rfl (any_of HT_.out (by kernel_rfl)) (fun _ _ _ h => h) (Or.inl ⟨by rfl, ?_⟩) ?_ ?_
  rotate_left
  ·intro w'
   go_simp
   with_reducible rfl
  rotate_left
  ·simp only [Act.put, List.setIfInBounds_toArray, List.set_cons_zero, List.set_cons_succ, i64_w, i32_w]
   rfl
  refine done_ (done_of HT_.out (by kernel_rfl)) ?_
  go_upto_region 6 with (first | ((with_reducible refine gate_callee (f := 13) rfl ?_); refine goesL_ (some 31) rfl rfl Try.func13 (by kernel_rfl) rfl #[.slice A0 l0.length c0] rfl (by (try simp only [List.map_toArray, List.map_cons, List.map_nil]); first | done | rfl | (simp only [List.length_drop, List.length_take]; rfl)) ?_; (with_reducible refine (laws_toIntS.calls k _ _ l0 t552 _ ?side1 ?side2 A8.out).mono ?_); (case side1 => repeat (first | exact (zO HR0.out HB.out) | (with_reducible refine zG ?_ _) | (with_reducible refine zH ?_ _) | (with_reducible refine zI ?_))); (case side2 => exact HC0.out); rintro e w18 ⟨v553, rfl, ho0, hb⟩; refine ⟨_, rfl, ?_⟩; have n0_ := zM (Kd.R_elder' (by (with_reducible repeat (first | apply zA | apply zB | apply zC)); exact HO543.out) (Kd.R_base ho0) hb); have n1_ := zM (Kd.V_elder' (by (with_reducible repeat (first | apply Kd.V_alloc | apply Kd.V_drewN | apply Kd.V_drew)); exact HO549.out) (Kd.R_base ho0) hb); have n2_ := zM (Kd.R_lower (Kd.R_new' ho0 (Kd.R_lt (by (with_reducible repeat (first | apply zA | apply zB | apply zC)); exact HO543.out))) (zR (by repeat (first | (with_reducible first | exact HB.out | apply zD | apply zE | apply zF | refine below_set ?_ GE540.out) | exact HB.out)))); have n3_ := zM (blk_below (g := gb540) (o := .cells #[.int .i64 a1_0, .int .i64 a1_1, .int .i64 a1_2] 24 (0, 0)) (by (with_reducible repeat (first | refine zJ ?_ _ | refine zK ?_ | refine zL ?_ _)); exact BK540.out) hb); have n4_ := zM (zQ (by repeat (first | (with_reducible first | exact HB.out | apply zD | apply zE | apply zF | refine below_set ?_ GE540.out) | exact HB.out)) hb); clear HO543; clear HO549; clear BK540; clear HB; have HO543 := n0_; have HO549 := n1_; have HO554 := n2_; have BK540 := n3_; have HB := n4_; clear n0_ n1_ n2_ n3_ n4_; (try clear hb); (try clear hb2); (try clear hk); (try clear hi); (try clear ho0); have hcz19_0 : w18.cell? ⟨gb540, 0, none⟩ = some (.int .i64 a1_0) := (blk_cell BK540.out 0).trans rfl; have hcz19_1 : w18.cell? ⟨gb540, 1, none⟩ = some (.int .i64 a1_1) := (blk_cell BK540.out 1).trans rfl; have hcz19_2 : w18.cell? ⟨gb540, 2, none⟩ = some (.int .i64 a1_2) := (blk_cell BK540.out 2).trans rfl; have hfz19_0 := blk_frozen BK540.out 0; have hfz19_1 := blk_frozen BK540.out 1; have hfz19_2 := blk_frozen BK540.out 2) | ((with_reducible refine gate_callee (f := 14) rfl ?_); refine goesL_ (some 35) rfl rfl Try.func14 (by kernel_rfl) rfl #[.agg #[.int .i64 a1_0, .int .i64 a1_1, .int .i64 a1_2]] rfl (by (try simp only [List.map_toArray, List.map_cons, List.map_nil]); first | done | rfl | (simp only [List.length_drop, List.length_take]; rfl)) ?_; (with_reducible refine (laws_toLashRules.calls a1_0 a1_1 a1_2 t555 t556 t557 _ A9.out).mono ?_); rintro e w20 ⟨rfl, hb⟩; refine ⟨_, rfl, ?_⟩; have n0_ := zM (zP (by (with_reducible repeat (first | apply zA | apply zB | apply zC)); exact HO543.out) hb); have n1_ := zM (Kd.V_below (by (with_reducible repeat (first | apply Kd.V_alloc | apply Kd.V_drewN | apply Kd.V_drew)); exact HO549.out) hb); have n2_ := zM (zP (by (with_reducible repeat (first | apply zA | apply zB | apply zC)); exact HO554.out) hb); have n3_ := zM (blk_below (g := gb540) (o := .cells #[.int .i64 a1_0, .int .i64 a1_1, .int .i64 a1_2] 24 (0, 0)) (by (with_reducible repeat (first | refine zJ ?_ _ | refine zK ?_ | refine zL ?_ _)); exact BK540.out) hb); have n4_ := zM (zQ (by repeat (first | (with_reducible first | exact HB.out | apply zD | apply zE | apply zF | refine below_set ?_ GE540.out) | exact HB.out)) hb); clear HO543; clear HO549; clear HO554; clear BK540; clear HB; have HO543 := n0_; have HO549 := n1_; have HO554 := n2_; have BK540 := n3_; have HB := n4_; clear n0_ n1_ n2_ n3_ n4_; (try clear hb); (try clear hb2); (try clear hk); (try clear hi); obtain ⟨Ao21, co21, eo21⟩ := Kd.R_slice HO554.out; subst eo21) | ((with_reducible refine gate_callee (f := 31) rfl ?_); refine goesL_ (some 36) rfl rfl Try.func31 (by kernel_rfl) rfl #[.slice Ao21 t552.length co21, .agg #[.int .i64 t555, .int .i64 t556, .int .i64 t557]] rfl (by (try simp only [List.map_toArray, List.map_cons, List.map_nil]); first | done | rfl | (simp only [List.length_drop, List.length_take]; rfl)) ?_; (with_reducible refine (impl_LightestForce.calls _ _ t552 t555 t556 t557 t558 t561 t562 _ ?side1 ?side2 A10.out).mono ?_); (case side1 => repeat (first | exact (zN HO554.out).2.2 | (with_reducible refine zG ?_ _) | (with_reducible refine zH ?_ _) | (with_reducible refine zI ?_))); (case side2 => exact (zN HO554.out).2.1); rintro e w22 ⟨v559, rfl, ho0, hb⟩; refine ⟨_, rfl, ?_⟩; have n0_ := zM (Kd.R_elder' (by (with_reducible repeat (first | apply zA | apply zB | apply zC)); exact HO543.out) (Kd.R_base ho0) hb); have n1_ := zM (Kd.V_elder' (by (with_reducible repeat (first | apply Kd.V_alloc | apply Kd.V_drewN | apply Kd.V_drew)); exact HO549.out) (Kd.R_base ho0) hb); have n2_ := zM (Kd.R_elder' (by (with_reducible repeat (first | apply zA | apply zB | apply zC)); exact HO554.out) (Kd.R_base ho0) hb); have n3_ := zM (Kd.R_lower (Kd.R_new' (Kd.R_new' ho0 (Kd.R_lt (by (with_reducible repeat (first | apply zA | apply zB | apply zC)); exact HO543.out))) (Kd.R_lt (by (with_reducible repeat (first | apply zA | apply zB | apply zC)); exact HO554.out))) (zR (by repeat (first | (with_reducible first | exact HB.out | apply zD | apply zE | apply zF | refine below_set ?_ GE540.out) | exact HB.out)))); have n4_ := zM (blk_below (g := gb540) (o := .cells #[.int .i64 a1_0, .int .i64 a1_1, .int .i64 a1_2] 24 (0, 0)) (by (with_reducible repeat (first | refine zJ ?_ _ | refine zK ?_ | refine zL ?_ _)); exact BK540.out) hb); have n5_ := zM (zQ (by repeat (first | (with_reducible first | exact HB.out | apply zD | apply zE | apply zF | refine below_set ?_ GE540.out) | exact HB.out)) hb); clear HO543; clear HO549; clear HO554; clear BK540; clear HB; have HO543 := n0_; have HO549 := n1_; have HO554 := n2_; have HO560 := n3_; have BK540 := n4_; have HB := n5_; clear n0_ n1_ n2_ n3_ n4_ n5_; (try clear hb); (try clear hb2); (try clear hk); (try clear hi); (try clear ho0)))
  (try simp only [Act.put, List.setIfInBounds_toArray, List.set_cons_zero, List.set_cons_succ])
  go_cut [53] (fun v53 wc => ∃ (kq : Nat) (x53_10 : Bool), v53 = .bool x53_10 ∧ Aside0 (laws_FnExactLightestForce.j0 kq l0 t547 t550 t551 t552 t558 t561 t562 x53_10 a1_0 a1_1 a1_2 = some r) ∧ Aside0 (kq ≤ k) ∧ Aside0 (Kd.V (Kd.int .i64) 3 wc w.heap.size (fun k_ => some k_ ≠ ((.slice Ao21 t552.length co21) : Value).ownBlock ∧ some k_ ≠ (v559 : Value).ownBlock ∧ k_ ≠ gb540) v548 t547) ∧ Aside0 (Kd.R (Kd.int .i64) 3 wc w.heap.size (fun k_ => some k_ ≠ (v559 : Value).ownBlock) (.slice Ao21 t552.length co21) t552) ∧ Aside0 (Kd.R (Kd.int .i64) 3 wc w.heap.size (fun k_ => some k_ ≠ ((.slice Ao21 t552.length co21) : Value).ownBlock) v559 t558) ∧ Aside0 (wc.heap[gb540]? = some (.cells #[.int .i64 a1_0, .int .i64 a1_1, .int .i64 a1_2] 24 (0, 0))) ∧ Aside0 (Below w.heap.size w wc))
  case first =>
   have H := HC11.out
   clear HC11
   replace H := Option.bind_eq_some_iff.mp H
   obtain ⟨t563, A230, H⟩ := H
   replace H : (if t563 = true then (if t561 = t550 then (laws_FnExactLightestForce.j0 k l0 t547 t550 t551 t552 t558 t561 t562 (t562 != t551) a1_0 a1_1 a1_2) else (laws_FnExactLightestForce.j0 k l0 t547 t550 t551 t552 t558 t561 t562 true a1_0 a1_1 a1_2)) else (laws_FnExactLightestForce.j0 k l0 t547 t550 t551 t552 t558 t561 t562 true a1_0 a1_1 a1_2)) = some r := H
   have A23 := zM A230
   clear A230
   by_cases c24 : t563 = true
   ·subst c24
    have H1 : (if t561 = t550 then (laws_FnExactLightestForce.j0 k l0 t547 t550 t551 t552 t558 t561 t562 (t562 != t551) a1_0 a1_1 a1_2) else (laws_FnExactLightestForce.j0 k l0 t547 t550 t551 t552 t558 t561 t562 true a1_0 a1_1 a1_2)) = some r := by rw [if_pos rfl] at H; exact H
    clear H
    have H := H1
    clear H1
    by_cases c25 : t561 = t550
    ·rw [if_pos c25] at H
     have c25b0 : (t561 == t550) = true := beq_iff_eq.mpr c25
     have c25b1 : (t561 != t550) = false := bne_eq_false_iff_eq.mpr c25
     clear c25
     (first | rw [c25b0] | (simp only [i64_w, i32_w]; rw [c25b0]) | skip)
     have H' := zM H
     clear H
     obtain ⟨Ao26, co26, eo26⟩ := Kd.R_slice HO560.out
     subst eo26
     obtain ⟨Ao27, co27, eo27⟩ := Kd.V_slice HO549.out
     subst eo27
     go_wp2_with (first | ((with_reducible refine gate_callee (f := 16) rfl ?_); refine goesL_ (some 42) rfl rfl Try.func16 (by kernel_rfl) rfl #[.slice Ao26 t558.length co26, .slice Ao27 t547.length co27] rfl (by (try simp only [List.map_toArray, List.map_cons, List.map_nil]); first | done | rfl | (simp only [List.length_drop, List.length_take]; rfl)) ?_; (with_reducible refine (laws_eqIntS.calls k _ _ t558 _ _ t547 true _ ?side1 ?side2 ?side3 ?side4 A23.out).mono ?_); (case side1 => repeat (first | exact (zN HO560.out).2.2 | (with_reducible refine zG ?_ _) | (with_reducible refine zH ?_ _) | (with_reducible refine zI ?_))); (case side2 => exact (zN HO560.out).2.1); (case side3 => repeat (first | exact (Kd.V_reads' HO549.out).2.2 | (with_reducible refine zG ?_ _) | (with_reducible refine zH ?_ _) | (with_reducible refine zI ?_))); (case side4 => exact (Kd.V_reads' HO549.out).2.1); rintro e w' ⟨rfl, ⟨nd, rfl⟩⟩; refine ⟨_, rfl, ?_⟩))
     go_meet
     case rel => exact ⟨_, ((t562 != t551)), (by first | rfl | (simp; done) | (simp [*]; done)), H', ⟨by first | omega | exact Nat.le_refl _⟩, ⟨by (with_reducible repeat (first | apply Kd.V_alloc | apply Kd.V_drewN | apply Kd.V_drew)); exact Kd.V_mono HO549.out (fun _ hk => ⟨hk.1.2, ⟨hk.2, hk.1.1.2⟩⟩)⟩, ⟨by (with_reducible repeat (first | apply zA | apply zB | apply zC)); exact Kd.R_mono HO554.out (fun _ hk => hk.2)⟩, ⟨by (with_reducible repeat (first | apply zA | apply zB | apply zC)); exact Kd.R_mono HO560.out (fun _ hk => hk.2)⟩, ⟨by (with_reducible repeat (first | refine zJ ?_ _ | refine zK ?_ | refine zL ?_ _)); exact BK540.out⟩, ⟨by repeat (first | (with_reducible first | exact HB.out | apply zD | apply zE | apply zF | refine below_set ?_ GE540.out) | exact HB.out)⟩⟩
    ·rw [if_neg c25] at H
     have c25b0 : (t561 == t550) = false := beq_eq_false_iff_ne.mpr c25
     have c25b1 : (t561 != t550) = true := bne_iff_ne.mpr c25
     (first | rw [c25b0] | (simp only [i64_w, i32_w]; rw [c25b0]) | skip)
     have H' := zM H
     clear H
     obtain ⟨Ao28, co28, eo28⟩ := Kd.R_slice HO560.out
     subst eo28
     obtain ⟨Ao29, co29, eo29⟩ := Kd.V_slice HO549.out
     subst eo29
     go_wp2_with (first | ((with_reducible refine gate_callee (f := 16) rfl ?_); refine goesL_ (some 42) rfl rfl Try.func16 (by kernel_rfl) rfl #[.slice Ao28 t558.length co28, .slice Ao29 t547.length co29] rfl (by (try simp only [List.map_toArray, List.map_cons, List.map_nil]); first | done | rfl | (simp only [List.length_drop, List.length_take]; rfl)) ?_; (with_reducible refine (laws_eqIntS.calls k _ _ t558 _ _ t547 true _ ?side1 ?side2 ?side3 ?side4 A23.out).mono ?_); (case side1 => repeat (first | exact (zN HO560.out).2.2 | (with_reducible refine zG ?_ _) | (with_reducible refine zH ?_ _) | (with_reducible refine zI ?_))); (case side2 => exact (zN HO560.out).2.1); (case side3 => repeat (first | exact (Kd.V_reads' HO549.out).2.2 | (with_reducible refine zG ?_ _) | (with_reducible refine zH ?_ _) | (with_reducible refine zI ?_))); (case side4 => exact (Kd.V_reads' HO549.out).2.1); rintro e w' ⟨rfl, ⟨nd, rfl⟩⟩; refine ⟨_, rfl, ?_⟩))
     go_meet
     case rel => exact ⟨_, (true), (by first | rfl | (simp; done) | (simp [*]; done)), H', ⟨by first | omega | exact Nat.le_refl _⟩, ⟨by (with_reducible repeat (first | apply Kd.V_alloc | apply Kd.V_drewN | apply Kd.V_drew)); exact Kd.V_mono HO549.out (fun _ hk => ⟨hk.1.2, ⟨hk.2, hk.1.1.2⟩⟩)⟩, ⟨by (with_reducible repeat (first | apply zA | apply zB | apply zC)); exact Kd.R_mono HO554.out (fun _ hk => hk.2)⟩, ⟨by (with_reducible repeat (first | apply zA | apply zB | apply zC)); exact Kd.R_mono HO560.out (fun _ hk => hk.2)⟩, ⟨by (with_reducible repeat (first | refine zJ ?_ _ | refine zK ?_ | refine zL ?_ _)); exact BK540.out⟩, ⟨by repeat (first | (with_reducible first | exact HB.out | apply zD | apply zE | apply zF | refine below_set ?_ GE540.out) | exact HB.out)⟩⟩
   ·replace c24 := Bool.eq_false_iff.mpr c24
    subst c24
    have H1 : (laws_FnExactLightestForce.j0 k l0 t547 t550 t551 t552 t558 t561 t562 true a1_0 a1_1 a1_2) = some r := by rw [if_neg (show ¬ (false = true) by decide)] at H; exact H
    clear H
    have H := H1
    clear H1
    have H' := zM H
    clear H
    obtain ⟨Ao30, co30, eo30⟩ := Kd.R_slice HO560.out
    subst eo30
    obtain ⟨Ao31, co31, eo31⟩ := Kd.V_slice HO549.out
    subst eo31
    go_wp2_with (first | ((with_reducible refine gate_callee (f := 16) rfl ?_); refine goesL_ (some 42) rfl rfl Try.func16 (by kernel_rfl) rfl #[.slice Ao30 t558.length co30, .slice Ao31 t547.length co31] rfl (by (try simp only [List.map_toArray, List.map_cons, List.map_nil]); first | done | rfl | (simp only [List.length_drop, List.length_take]; rfl)) ?_; (with_reducible refine (laws_eqIntS.calls k _ _ t558 _ _ t547 false _ ?side1 ?side2 ?side3 ?side4 A23.out).mono ?_); (case side1 => repeat (first | exact (zN HO560.out).2.2 | (with_reducible refine zG ?_ _) | (with_reducible refine zH ?_ _) | (with_reducible refine zI ?_))); (case side2 => exact (zN HO560.out).2.1); (case side3 => repeat (first | exact (Kd.V_reads' HO549.out).2.2 | (with_reducible refine zG ?_ _) | (with_reducible refine zH ?_ _) | (with_reducible refine zI ?_))); (case side4 => exact (Kd.V_reads' HO549.out).2.1); rintro e w' ⟨rfl, ⟨nd, rfl⟩⟩; refine ⟨_, rfl, ?_⟩))
    go_meet
    case rel => exact ⟨_, (true), (by first | rfl | (simp; done) | (simp [*]; done)), H', ⟨by first | omega | exact Nat.le_refl _⟩, ⟨by (with_reducible repeat (first | apply Kd.V_alloc | apply Kd.V_drewN | apply Kd.V_drew)); exact Kd.V_mono HO549.out (fun _ hk => ⟨hk.1.2, ⟨hk.2, hk.1.1.2⟩⟩)⟩, ⟨by (with_reducible repeat (first | apply zA | apply zB | apply zC)); exact Kd.R_mono HO554.out (fun _ hk => hk.2)⟩, ⟨by (with_reducible repeat (first | apply zA | apply zB | apply zC)); exact Kd.R_mono HO560.out (fun _ hk => hk.2)⟩, ⟨by (with_reducible repeat (first | refine zJ ?_ _ | refine zK ?_ | refine zL ?_ _)); exact BK540.out⟩, ⟨by repeat (first | (with_reducible first | exact HB.out | apply zD | apply zE | apply zF | refine below_set ?_ GE540.out) | exact HB.out)⟩⟩
  case rest =>
   clear HC11
   try clear c1
   try clear c2
   try clear p2
   try clear c3
   try clear c3b0
   try clear c3b1
   try clear c8
   try clear c13
   try clear c14
   try clear c16
   try clear c24
   try clear c25
   try clear c25b0
   try clear c25b1
   try clear c30
   try clear c31
   try clear hcz19_0
   try clear hcz19_1
   try clear hcz19_2
   try clear hfz19_0
   try clear hfz19_1
   try clear hfz19_2
   obtain ⟨kq, x53_10, rfl, HA, HJ10, HO_5, HO_8, HO_9, BK540, HB⟩ := hcut
   cases kq with
   | zero => exact absurd HA.out (by simp [laws_FnExactLightestForce.j0])
   | succ kj10 =>
    have H := HA.out
    clear HA
    simp only [laws_FnExactLightestForce.j0] at H
    by_cases c32 : x53_10 = true
    ·subst c32
     have H1 : (some false) = some r := by rw [if_pos rfl] at H; exact H
     clear H
     have H := H1
     clear H1
     obtain rfl := Option.some.inj H
     go_wp2
     go_ret
     exact ⟨by first | rfl | (simp [errW_none, errW_some] <;> rfl) | (simp [*, errW_none, errW_some] <;> rfl), by repeat (first | (with_reducible first | exact HB.out | apply zD | apply zE | apply zF | refine below_set ?_ GE540.out) | exact HB.out)⟩
    ·replace c32 := Bool.eq_false_iff.mpr c32
     subst c32
     have H1 : ((laws_toIntS.f kj10 l0).bind fun t564 => ((laws_eqIntS.f kj10 t552 t564).bind fun t567 => (if t567 = true then ((laws_markIntS.f kj10 t552 1).bind fun bt568 => (if bt568.1 < 0 then (laws_FnExactLightestForce.j1 kj10 l0 t547 t550 t551 t558 true a1_0 a1_1 a1_2) else ((laws_eqIntS.f kj10 t558 t547).bind fun t570 => (if t570 = true then (if t561 = t550 then (laws_FnExactLightestForce.j1 kj10 l0 t547 t550 t551 t558 (t562 != t551) a1_0 a1_1 a1_2) else (laws_FnExactLightestForce.j1 kj10 l0 t547 t550 t551 t558 true a1_0 a1_1 a1_2)) else (laws_FnExactLightestForce.j1 kj10 l0 t547 t550 t551 t558 true a1_0 a1_1 a1_2))))) else (some false)))) = some r := by rw [if_neg (show ¬ (false = true) by decide)] at H; exact H
     clear H
     have H := H1
     clear H1
     replace H := Option.bind_eq_some_iff.mp H
     obtain ⟨t564, A330, H⟩ := H
     replace H : ((laws_eqIntS.f kj10 t552 t564).bind fun t567 => (if t567 = true then ((laws_markIntS.f kj10 t552 1).bind fun bt568 => (if bt568.1 < 0 then (laws_FnExactLightestForce.j1 kj10 l0 t547 t550 t551 t558 true a1_0 a1_1 a1_2) else ((laws_eqIntS.f kj10 t558 t547).bind fun t570 => (if t570 = true then (if t561 = t550 then (laws_FnExactLightestForce.j1 kj10 l0 t547 t550 t551 t558 (t562 != t551) a1_0 a1_1 a1_2) else (laws_FnExactLightestForce.j1 kj10 l0 t547 t550 t551 t558 true a1_0 a1_1 a1_2)) else (laws_FnExactLightestForce.j1 kj10 l0 t547 t550 t551 t558 true a1_0 a1_1 a1_2))))) else (some false))) = some r := H
     have A33 := zM A330
     clear A330
     replace H := Option.bind_eq_some_iff.mp H
     obtain ⟨t567, A340, H⟩ := H
     replace H : (if t567 = true then ((laws_markIntS.f kj10 t552 1).bind fun bt568 => (if bt568.1 < 0 then (laws_FnExactLightestForce.j1 kj10 l0 t547 t550 t551 t558 true a1_0 a1_1 a1_2) else ((laws_eqIntS.f kj10 t558 t547).bind fun t570 => (if t570 = true then (if t561 = t550 then (laws_FnExactLightestForce.j1 kj10 l0 t547 t550 t551 t558 (t562 != t551) a1_0 a1_1 a1_2) else (laws_FnExactLightestForce.j1 kj10 l0 t547 t550 t551 t558 true a1_0 a1_1 a1_2)) else (laws_FnExactLightestForce.j1 kj10 l0 t547 t550 t551 t558 true a1_0 a1_1 a1_2))))) else (some false)) = some r := H
     have A34 := zM A340
     clear A340
     by_cases c35 : t567 = true
     ·subst c35
      have H1 : ((laws_markIntS.f kj10 t552 1).bind fun bt568 => (if bt568.1 < 0 then (laws_FnExactLightestForce.j1 kj10 l0 t547 t550 t551 t558 true a1_0 a1_1 a1_2) else ((laws_eqIntS.f kj10 t558 t547).bind fun t570 => (if t570 = true then (if t561 = t550 then (laws_FnExactLightestForce.j1 kj10 l0 t547 t550 t551 t558 (t562 != t551) a1_0 a1_1 a1_2) else (laws_FnExactLightestForce.j1 kj10 l0 t547 t550 t551 t558 true a1_0 a1_1 a1_2)) else (laws_FnExactLightestForce.j1 kj10 l0 t547 t550 t551 t558 true a1_0 a1_1 a1_2))))) = some r := by rw [if_pos rfl] at H; exact H
      clear H
      have H := H1
      clear H1
      replace H := Option.bind_eq_some_iff.mp H
      obtain ⟨⟨t568, t569⟩, A360, H⟩ := H
      replace H : (if t568 < 0 then (laws_FnExactLightestForce.j1 kj10 l0 t547 t550 t551 t558 true a1_0 a1_1 a1_2) else ((laws_eqIntS.f kj10 t558 t547).bind fun t570 => (if t570 = true then (if t561 = t550 then (laws_FnExactLightestForce.j1 kj10 l0 t547 t550 t551 t558 (t562 != t551) a1_0 a1_1 a1_2) else (laws_FnExactLightestForce.j1 kj10 l0 t547 t550 t551 t558 true a1_0 a1_1 a1_2)) else (laws_FnExactLightestForce.j1 kj10 l0 t547 t550 t551 t558 true a1_0 a1_1 a1_2)))) = some r := H
      have A36 := zM A360
      clear A360
      have HC37 := zM H
      clear H
      go_upto_region 12 with (first | ((with_reducible refine gate_callee (f := 13) rfl ?_); refine goesL_ (some 56) rfl rfl Try.func13 (by kernel_rfl) rfl #[.slice A0 l0.length c0] rfl (by (try simp only [List.map_toArray, List.map_cons, List.map_nil]); first | done | rfl | (simp only [List.length_drop, List.length_take]; rfl)) ?_; (with_reducible refine (laws_toIntS.calls kj10 _ _ l0 t564 _ ?side1 ?side2 A33.out).mono ?_); (case side1 => repeat (first | exact (zO HR0.out HB.out) | (with_reducible refine zG ?_ _) | (with_reducible refine zH ?_ _) | (with_reducible refine zI ?_))); (case side2 => exact HC0.out); rintro e w38 ⟨v565, rfl, ho0, hb⟩; refine ⟨_, rfl, ?_⟩; have n0_ := zM (Kd.V_elder' (by (with_reducible repeat (first | apply Kd.V_alloc | apply Kd.V_drewN | apply Kd.V_drew)); exact HO_5.out) (Kd.R_base ho0) hb); have n1_ := zM (Kd.R_elder' (by (with_reducible repeat (first | apply zA | apply zB | apply zC)); exact HO_8.out) (Kd.R_base ho0) hb); have n2_ := zM (Kd.R_elder' (by (with_reducible repeat (first | apply zA | apply zB | apply zC)); exact HO_9.out) (Kd.R_base ho0) hb); have n3_ := zM (Kd.R_lower (Kd.R_new' (Kd.R_new' ho0 (Kd.R_lt (by (with_reducible repeat (first | apply zA | apply zB | apply zC)); exact HO_8.out))) (Kd.R_lt (by (with_reducible repeat (first | apply zA | apply zB | apply zC)); exact HO_9.out))) (zR (by repeat (first | (with_reducible first | exact HB.out | apply zD | apply zE | apply zF | refine below_set ?_ GE540.out) | exact HB.out)))); have n4_ := zM (blk_below (g := gb540) (o := .cells #[.int .i64 a1_0, .int .i64 a1_1, .int .i64 a1_2] 24 (0, 0)) (by (with_reducible repeat (first | refine zJ ?_ _ | refine zK ?_ | refine zL ?_ _)); exact BK540.out) hb); have n5_ := zM (zQ (by repeat (first | (with_reducible first | exact HB.out | apply zD | apply zE | apply zF | refine below_set ?_ GE540.out) | exact HB.out)) hb); clear HO_5; clear HO_8; clear HO_9; clear BK540; clear HB; have HO_5 := n0_; have HO_8 := n1_; have HO_9 := n2_; have HO566 := n3_; have BK540 := n4_; have HB := n5_; clear n0_ n1_ n2_ n3_ n4_ n5_; (try clear hb); (try clear hb2); (try clear hk); (try clear hi); (try clear ho0); obtain ⟨Ao39, co39, eo39⟩ := Kd.R_slice HO566.out; subst eo39) | ((with_reducible refine gate_callee (f := 16) rfl ?_); refine goesL_ (some 57) rfl rfl Try.func16 (by kernel_rfl) rfl #[.slice Ao21 t552.length co21, .slice Ao39 t564.length co39] rfl (by (try simp only [List.map_toArray, List.map_cons, List.map_nil]); first | done | rfl | (simp only [List.length_drop, List.length_take]; rfl)) ?_; (with_reducible refine (laws_eqIntS.calls kj10 _ _ t552 _ _ t564 true _ ?side1 ?side2 ?side3 ?side4 A34.out).mono ?_); (case side1 => repeat (first | exact (zN HO_8.out).2.2 | (with_reducible refine zG ?_ _) | (with_reducible refine zH ?_ _) | (with_reducible refine zI ?_))); (case side2 => exact (zN HO_8.out).2.1); (case side3 => repeat (first | exact (zN HO566.out).2.2 | (with_reducible refine zG ?_ _) | (with_reducible refine zH ?_ _) | (with_reducible refine zI ?_))); (case side4 => exact (zN HO566.out).2.1); rintro e w' ⟨rfl, ⟨nd, rfl⟩⟩; refine ⟨_, rfl, ?_⟩) | ((with_reducible refine gate_callee (f := 17) rfl ?_); refine goesL_ (some 61) rfl rfl Try.func17 (by kernel_rfl) rfl #[.slice Ao21 t552.length co21, .int .i64 1] rfl (by (try simp only [List.map_toArray, List.map_cons, List.map_nil]); first | done | rfl | (simp only [List.length_drop, List.length_take]; rfl)) ?_; (with_reducible refine (laws_markIntS.calls kj10 (fun k_ => some k_ = (.slice Ao21 t552.length co21 : Value).ownBlock) (.slice Ao21 t552.length co21) t552 1 t568 t569 w _ ?side1 ?side2 A36.out).mono ?_); (case side1 => repeat (first | (with_reducible first | exact HB.out | apply zD | apply zE | apply zF | refine below_set ?_ GE540.out) | exact HB.out)); (case side2 => exact Kd.R_tight rfl HO_8.out); rintro e w40 ⟨rfl, hy0, hb, hkp⟩; refine ⟨_, rfl, ?_⟩; have n0_ := zM (Kd.V_mono (ok' := fun k_ => some k_ ≠ (.slice Ao21 t552.length co21 : Value).ownBlock ∧ some k_ ≠ (v559 : Value).ownBlock ∧ some k_ ≠ (.slice Ao39 t564.length co39 : Value).ownBlock ∧ k_ ≠ gb540) (Kd.V_keptB (HO_5.out) hkp (fun k_ hk_ hs_ => (hk_.1.1) hs_)) (fun k_ hk_ => ⟨hk_.1.1.1, hk_.1.1.2.1, hk_.1.2, hk_.1.1.2.2⟩)); have n1_ := zM (Kd.R_reok rfl hy0 (fun k_ e_ => HO_8.out.1 k_ e_)); have n2_ := zM (Kd.R_mono (ok' := fun k_ => some k_ ≠ (.slice Ao21 t552.length co21 : Value).ownBlock ∧ some k_ ≠ (.slice Ao39 t564.length co39 : Value).ownBlock) (Kd.R_keptB (HO_9.out) hkp (fun k_ hk_ hs_ => (hk_.1) hs_)) (fun k_ hk_ => ⟨hk_.1.1, hk_.1.2⟩)); have n3_ := zM (blk_kept (by (with_reducible repeat (first | refine zJ ?_ _ | refine zK ?_ | refine zL ?_ _)); exact BK540.out) hkp (fun hs_ => (fun e_ => (Kd.R_ne HO_8.out BK540.out (by decide)) e_) hs_)); have n4_ := zM (Kd.R_mono (ok' := fun k_ => some k_ ≠ (.slice Ao21 t552.length co21 : Value).ownBlock ∧ some k_ ≠ (v559 : Value).ownBlock) (Kd.R_keptB (HO566.out) hkp (fun k_ hk_ hs_ => (hk_.1.2) hs_)) (fun k_ hk_ => ⟨hk_.1.1.2, hk_.1.2⟩)); have n5_ := zM (hb); clear HO_5; clear HO_8; clear HO_9; clear BK540; clear HO566; clear HB; have HO_5 := n0_; have HO_8 := n1_; have HO_9 := n2_; have BK540 := n3_; have HO566 := n4_; have HB := n5_; clear n0_ n1_ n2_ n3_ n4_ n5_; (try clear hb); (try clear hkp); (try clear hy0)))
      (try simp only [Act.put, List.setIfInBounds_toArray, List.set_cons_zero, List.set_cons_succ])
      go_cut [79] (fun v79 wc => ∃ (kq : Nat) (x79_36 : Bool), v79 = .bool x79_36 ∧ Aside0 (laws_FnExactLightestForce.j1 kq l0 t547 t550 t551 t558 x79_36 a1_0 a1_1 a1_2 = some r) ∧ Aside0 (kq ≤ kj10) ∧ Aside0 (Kd.V (Kd.int .i64) 3 wc w.heap.size (fun k_ => some k_ ≠ (v559 : Value).ownBlock ∧ k_ ≠ gb540) v548 t547) ∧ Aside0 (Kd.R (Kd.int .i64) 3 wc w.heap.size (fun _ => True) v559 t558) ∧ Aside0 (wc.heap[gb540]? = some (.cells #[.int .i64 a1_0, .int .i64 a1_1, .int .i64 a1_2] 24 (0, 0))) ∧ Aside0 (Below w.heap.size w wc))
      case first =>
       have H := HC37.out
       clear HC37
       by_cases c41 : t568 < 0
       ·rw [if_pos c41] at H
        have c41b0 : decide (t568 < 0) = true := decide_eq_true c41
        clear c41
        (first | rw [c41b0] | (simp only [i64_w, i32_w]; rw [c41b0]) | skip)
        have H' := zM H
        clear H
        go_wp2
        go_meet
        case rel => exact ⟨_, (true), (by first | rfl | (simp; done) | (simp [*]; done)), H', ⟨by have := HJ10.out; first | omega | exact Nat.le_refl _⟩, ⟨by (with_reducible repeat (first | apply Kd.V_alloc | apply Kd.V_drewN | apply Kd.V_drew)); exact Kd.V_mono HO_5.out (fun _ hk => ⟨hk.2.1, hk.2.2.2⟩)⟩, ⟨by (with_reducible repeat (first | apply zA | apply zB | apply zC)); exact Kd.R_mono HO_9.out (fun _ hk => trivial)⟩, ⟨by (with_reducible repeat (first | refine zJ ?_ _ | refine zK ?_ | refine zL ?_ _)); exact BK540.out⟩, ⟨by repeat (first | (with_reducible first | exact HB.out | apply zD | apply zE | apply zF | refine below_set ?_ GE540.out) | exact HB.out)⟩⟩
       ·rw [if_neg c41] at H
        have c41b0 : decide (t568 < 0) = false := decide_eq_false c41
        clear c41
        (first | rw [c41b0] | (simp only [i64_w, i32_w]; rw [c41b0]) | skip)
        replace H := Option.bind_eq_some_iff.mp H
        obtain ⟨t570, A420, H⟩ := H
        replace H : (if t570 = true then (if t561 = t550 then (laws_FnExactLightestForce.j1 kj10 l0 t547 t550 t551 t558 (t562 != t551) a1_0 a1_1 a1_2) else (laws_FnExactLightestForce.j1 kj10 l0 t547 t550 t551 t558 true a1_0 a1_1 a1_2)) else (laws_FnExactLightestForce.j1 kj10 l0 t547 t550 t551 t558 true a1_0 a1_1 a1_2)) = some r := H
        have A42 := zM A420
        clear A420
        by_cases c43 : t570 = true
        ·subst c43
         have H1 : (if t561 = t550 then (laws_FnExactLightestForce.j1 kj10 l0 t547 t550 t551 t558 (t562 != t551) a1_0 a1_1 a1_2) else (laws_FnExactLightestForce.j1 kj10 l0 t547 t550 t551 t558 true a1_0 a1_1 a1_2)) = some r := by rw [if_pos rfl] at H; exact H
         clear H
         have H := H1
         clear H1
         by_cases c44 : t561 = t550
         ·rw [if_pos c44] at H
          have c44b0 : (t561 == t550) = true := beq_iff_eq.mpr c44
          have c44b1 : (t561 != t550) = false := bne_eq_false_iff_eq.mpr c44
          clear c44
          have H' := zM H
          clear H
          obtain ⟨Ao45, co45, eo45⟩ := Kd.R_slice HO_9.out
          subst eo45
          obtain ⟨Ao46, co46, eo46⟩ := Kd.V_slice HO_5.out
          subst eo46
          go_wp2_with (first | (go_at_call 16; (with_reducible refine (laws_eqIntS.calls kj10 _ _ t558 _ _ t547 true _ ?side1 ?side2 ?side3 ?side4 A42.out).mono ?_); (case side1 => repeat (first | exact (zN HO_9.out).2.2 | (with_reducible refine zG ?_ _) | (with_reducible refine zH ?_ _) | (with_reducible refine zI ?_))); (case side2 => exact (zN HO_9.out).2.1); (case side3 => repeat (first | exact (Kd.V_reads' HO_5.out).2.2 | (with_reducible refine zG ?_ _) | (with_reducible refine zH ?_ _) | (with_reducible refine zI ?_))); (case side4 => exact (Kd.V_reads' HO_5.out).2.1); rintro e w' ⟨rfl, ⟨nd, rfl⟩⟩))
          go_meet
          case rel => exact ⟨_, ((t562 != t551)), (by first | rfl | (simp; done) | (simp [*]; done)), H', ⟨by have := HJ10.out; first | omega | exact Nat.le_refl _⟩, ⟨by (with_reducible repeat (first | apply Kd.V_alloc | apply Kd.V_drewN | apply Kd.V_drew)); exact Kd.V_mono HO_5.out (fun _ hk => ⟨hk.2.1, hk.2.2.2⟩)⟩, ⟨by (with_reducible repeat (first | apply zA | apply zB | apply zC)); exact Kd.R_mono HO_9.out (fun _ hk => trivial)⟩, ⟨by (with_reducible repeat (first | refine zJ ?_ _ | refine zK ?_ | refine zL ?_ _)); exact BK540.out⟩, ⟨by repeat (first | (with_reducible first | exact HB.out | apply zD | apply zE | apply zF | refine below_set ?_ GE540.out) | exact HB.out)⟩⟩
         ·rw [if_neg c44] at H
          have c44b0 : (t561 == t550) = false := beq_eq_false_iff_ne.mpr c44
          have c44b1 : (t561 != t550) = true := bne_iff_ne.mpr c44
          have H' := zM H
          clear H
          obtain ⟨Ao47, co47, eo47⟩ := Kd.R_slice HO_9.out
          subst eo47
          obtain ⟨Ao48, co48, eo48⟩ := Kd.V_slice HO_5.out
          subst eo48
          go_wp2_with (first | (go_at_call 16; (with_reducible refine (laws_eqIntS.calls kj10 _ _ t558 _ _ t547 true _ ?side1 ?side2 ?side3 ?side4 A42.out).mono ?_); (case side1 => repeat (first | exact (zN HO_9.out).2.2 | (with_reducible refine zG ?_ _) | (with_reducible refine zH ?_ _) | (with_reducible refine zI ?_))); (case side2 => exact (zN HO_9.out).2.1); (case side3 => repeat (first | exact (Kd.V_reads' HO_5.out).2.2 | (with_reducible refine zG ?_ _) | (with_reducible refine zH ?_ _) | (with_reducible refine zI ?_))); (case side4 => exact (Kd.V_reads' HO_5.out).2.1); rintro e w' ⟨rfl, ⟨nd, rfl⟩⟩))
          go_meet
          case rel => exact ⟨_, (true), (by first | rfl | (simp; done) | (simp [*]; done)), H', ⟨by have := HJ10.out; first | omega | exact Nat.le_refl _⟩, ⟨by (with_reducible repeat (first | apply Kd.V_alloc | apply Kd.V_drewN | apply Kd.V_drew)); exact Kd.V_mono HO_5.out (fun _ hk => ⟨hk.2.1, hk.2.2.2⟩)⟩, ⟨by (with_reducible repeat (first | apply zA | apply zB | apply zC)); exact Kd.R_mono HO_9.out (fun _ hk => trivial)⟩, ⟨by (with_reducible repeat (first | refine zJ ?_ _ | refine zK ?_ | refine zL ?_ _)); exact BK540.out⟩, ⟨by repeat (first | (with_reducible first | exact HB.out | apply zD | apply zE | apply zF | refine below_set ?_ GE540.out) | exact HB.out)⟩⟩
        ·replace c43 := Bool.eq_false_iff.mpr c43
         subst c43
         have H1 : (laws_FnExactLightestForce.j1 kj10 l0 t547 t550 t551 t558 true a1_0 a1_1 a1_2) = some r := by rw [if_neg (show ¬ (false = true) by decide)] at H; exact H
         clear H
         have H := H1
         clear H1
         have H' := zM H
         clear H
         obtain ⟨Ao49, co49, eo49⟩ := Kd.R_slice HO_9.out
         subst eo49
         obtain ⟨Ao50, co50, eo50⟩ := Kd.V_slice HO_5.out
         subst eo50
         go_wp2_with (first | (go_at_call 16; (with_reducible refine (laws_eqIntS.calls kj10 _ _ t558 _ _ t547 false _ ?side1 ?side2 ?side3 ?side4 A42.out).mono ?_); (case side1 => repeat (first | exact (zN HO_9.out).2.2 | (with_reducible refine zG ?_ _) | (with_reducible refine zH ?_ _) | (with_reducible refine zI ?_))); (case side2 => exact (zN HO_9.out).2.1); (case side3 => repeat (first | exact (Kd.V_reads' HO_5.out).2.2 | (with_reducible refine zG ?_ _) | (with_reducible refine zH ?_ _) | (with_reducible refine zI ?_))); (case side4 => exact (Kd.V_reads' HO_5.out).2.1); rintro e w' ⟨rfl, ⟨nd, rfl⟩⟩))
         go_meet
         case rel => exact ⟨_, (true), (by first | rfl | (simp; done) | (simp [*]; done)), H', ⟨by have := HJ10.out; first | omega | exact Nat.le_refl _⟩, ⟨by (with_reducible repeat (first | apply Kd.V_alloc | apply Kd.V_drewN | apply Kd.V_drew)); exact Kd.V_mono HO_5.out (fun _ hk => ⟨hk.2.1, hk.2.2.2⟩)⟩, ⟨by (with_reducible repeat (first | apply zA | apply zB | apply zC)); exact Kd.R_mono HO_9.out (fun _ hk => trivial)⟩, ⟨by (with_reducible repeat (first | refine zJ ?_ _ | refine zK ?_ | refine zL ?_ _)); exact BK540.out⟩, ⟨by repeat (first | (with_reducible first | exact HB.out | apply zD | apply zE | apply zF | refine below_set ?_ GE540.out) | exact HB.out)⟩⟩
      case rest =>
       clear HC37
       try clear c1
       try clear c2
       try clear p2
       try clear c3
       try clear c3b0
       try clear c3b1
       try clear c4
       try clear c8
       try clear c13
       try clear c14
       try clear c16
       try clear c17
       try clear c24
       try clear c25
       try clear c25b0
       try clear c25b1
       try clear c30
       try clear c31
       try clear c32
       try clear c35
       try clear c41
       try clear c41b0
       try clear c43
       try clear c44
       try clear c44b0
       try clear c44b1
       try clear hcz19_0
       try clear hcz19_1
       try clear hcz19_2
       try clear hfz19_0
       try clear hfz19_1
       try clear hfz19_2
       try clear p2
       obtain ⟨kq, x79_36, rfl, HA, HJ36, HO_5, HO_9, BK540, HB⟩ := hcut
       cases kq with
       | zero => exact absurd HA.out (by simp [laws_FnExactLightestForce.j1])
       | succ kj36 =>
        have H := HA.out
        clear HA
        simp only [laws_FnExactLightestForce.j1] at H
        by_cases c51 : x79_36 = true
        ·subst c51
         have H1 : (some false) = some r := by rw [if_pos rfl] at H; exact H
         clear H
         have H := H1
         clear H1
         obtain rfl := Option.some.inj H
         go_wp2
         go_ret
         exact ⟨by first | rfl | (simp [errW_none, errW_some] <;> rfl) | (simp [*, errW_none, errW_some] <;> rfl), by repeat (first | (with_reducible first | exact HB.out | apply zD | apply zE | apply zF | refine below_set ?_ GE540.out) | exact HB.out)⟩
        ·replace c51 := Bool.eq_false_iff.mpr c51
         subst c51
         have H1 : ((laws_markIntS.f kj36 t558 1).bind fun bt571 => ((laws_heldIntS.f kj36 bt571.2 1).bind fun t573 => (if t573 < 0 then (some false) else (if t573 = bt571.1 then ((laws_toIntS.f kj36 l0).bind fun t574 => ((laws_toLashRules.f a1_0 a1_1 a1_2).bind fun bt577 => ((impl_LightestForce.f t574 bt577.1 bt577.2.1 bt577.2.2).bind fun bt580 => ((laws_eqIntS.f kj36 bt580.1 t547).bind fun t585 => (if t585 = true then (if bt580.2.1 = t550 then (laws_FnExactLightestForce.j2 kj36 bt571.2 bt571.1 (bt580.2.2 != t551)) else (laws_FnExactLightestForce.j2 kj36 bt571.2 bt571.1 true)) else (laws_FnExactLightestForce.j2 kj36 bt571.2 bt571.1 true)))))) else (some false))))) = some r := by rw [if_neg (show ¬ (false = true) by decide)] at H; exact H
         clear H
         have H := H1
         clear H1
         replace H := Option.bind_eq_some_iff.mp H
         obtain ⟨⟨t571, t572⟩, A520, H⟩ := H
         replace H : ((laws_heldIntS.f kj36 t572 1).bind fun t573 => (if t573 < 0 then (some false) else (if t573 = t571 then ((laws_toIntS.f kj36 l0).bind fun t574 => ((laws_toLashRules.f a1_0 a1_1 a1_2).bind fun bt577 => ((impl_LightestForce.f t574 bt577.1 bt577.2.1 bt577.2.2).bind fun bt580 => ((laws_eqIntS.f kj36 bt580.1 t547).bind fun t585 => (if t585 = true then (if bt580.2.1 = t550 then (laws_FnExactLightestForce.j2 kj36 t572 t571 (bt580.2.2 != t551)) else (laws_FnExactLightestForce.j2 kj36 t572 t571 true)) else (laws_FnExactLightestForce.j2 kj36 t572 t571 true)))))) else (some false)))) = some r := H
         have A52 := zM A520
         clear A520
         replace H := Option.bind_eq_some_iff.mp H
         obtain ⟨t573, A530, H⟩ := H
         replace H : (if t573 < 0 then (some false) else (if t573 = t571 then ((laws_toIntS.f kj36 l0).bind fun t574 => ((laws_toLashRules.f a1_0 a1_1 a1_2).bind fun bt577 => ((impl_LightestForce.f t574 bt577.1 bt577.2.1 bt577.2.2).bind fun bt580 => ((laws_eqIntS.f kj36 bt580.1 t547).bind fun t585 => (if t585 = true then (if bt580.2.1 = t550 then (laws_FnExactLightestForce.j2 kj36 t572 t571 (bt580.2.2 != t551)) else (laws_FnExactLightestForce.j2 kj36 t572 t571 true)) else (laws_FnExactLightestForce.j2 kj36 t572 t571 true)))))) else (some false))) = some r := H
         have A53 := zM A530
         clear A530
         by_cases c54 : t573 < 0
         ·rw [if_pos c54] at H
          have c54b0 : decide (t573 < 0) = true := decide_eq_true c54
          clear c54
          obtain rfl := Option.some.inj H
          obtain ⟨Ao55, co55, eo55⟩ := Kd.R_slice HO_9.out
          subst eo55
          go_wp2_with (first | ((with_reducible refine gate_callee (f := 17) rfl ?_); refine goesL_ (some 82) rfl rfl Try.func17 (by kernel_rfl) rfl #[.slice Ao55 t558.length co55, .int .i64 1] rfl (by (try simp only [List.map_toArray, List.map_cons, List.map_nil]); first | done | rfl | (simp only [List.length_drop, List.length_take]; rfl)) ?_; (with_reducible refine (laws_markIntS.calls kj36 (fun k_ => some k_ = (.slice Ao55 t558.length co55 : Value).ownBlock) (.slice Ao55 t558.length co55) t558 1 t571 t572 w _ ?side1 ?side2 A52.out).mono ?_); (case side1 => repeat (first | (with_reducible first | exact HB.out | apply zD | apply zE | apply zF | refine below_set ?_ GE540.out) | exact HB.out)); (case side2 => exact Kd.R_tight rfl HO_9.out); rintro e w56 ⟨rfl, hy0, hb, hkp⟩; refine ⟨_, rfl, ?_⟩; have n0_ := zM (Kd.V_mono (ok' := fun k_ => some k_ ≠ (.slice Ao55 t558.length co55 : Value).ownBlock ∧ k_ ≠ gb540) (Kd.V_keptB (HO_5.out) hkp (fun k_ hk_ hs_ => (hk_.1) hs_)) (fun k_ hk_ => ⟨hk_.1.1, hk_.1.2⟩)); have n1_ := zM (Kd.R_reok rfl hy0 (fun k_ e_ => HO_9.out.1 k_ e_)); have n2_ := zM (blk_kept (by (with_reducible repeat (first | refine zJ ?_ _ | refine zK ?_ | refine zL ?_ _)); exact BK540.out) hkp (fun hs_ => (fun e_ => (Kd.R_ne HO_9.out BK540.out (by decide)) e_) hs_)); have n3_ := zM (hb); clear HO_5; clear HO_9; clear BK540; clear HB; have HO_5 := n0_; have HO_9 := n1_; have BK540 := n2_; have HB := n3_; clear n0_ n1_ n2_ n3_; (try clear hb); (try clear hkp); (try clear hy0)) | ((with_reducible refine gate_callee (f := 18) rfl ?_); refine goesL_ (some 85) rfl rfl Try.func18 (by kernel_rfl) rfl #[.slice Ao55 t572.length co55, .int .i64 1] rfl (by (try simp only [List.map_toArray, List.map_cons, List.map_nil]); first | done | (rw [show t572.length = t558.length from (zN HO_9.out).1.symm] <;> rfl) | rfl | (simp only [List.length_drop, List.length_take]; rfl)) ?_; (with_reducible refine (laws_heldIntS.calls kj36 _ _ t572 1 t573 _ ?side1 ?side2 A53.out).mono ?_); (case side1 => repeat (first | exact (zN HO_9.out).2.2 | (with_reducible refine zG ?_ _) | (with_reducible refine zH ?_ _) | (with_reducible refine zI ?_))); (case side2 => rw [show t572.length = t558.length from (zN HO_9.out).1.symm]; exact (zN HO_9.out).2.1); rintro e w' ⟨rfl, ⟨nd, rfl⟩⟩; refine ⟨_, rfl, ?_⟩))
          go_ret
          exact ⟨by first | rfl | (simp [errW_none, errW_some] <;> rfl) | (simp [*, errW_none, errW_some] <;> rfl), by repeat (first | (with_reducible first | exact HB.out | apply zD | apply zE | apply zF | refine below_set ?_ GE540.out) | exact HB.out)⟩
         ·rw [if_neg c54] at H
          have c54b0 : decide (t573 < 0) = false := decide_eq_false c54
          clear c54
          by_cases c57 : t573 = t571
          ·rw [if_pos c57] at H
           have c57b0 : (t573 == t571) = true := beq_iff_eq.mpr c57
           have c57b1 : (t573 != t571) = false := bne_eq_false_iff_eq.mpr c57
           clear c57
           replace H := Option.bind_eq_some_iff.mp H
           obtain ⟨t574, A580, H⟩ := H
           replace H : ((laws_toLashRules.f a1_0 a1_1 a1_2).bind fun bt577 => ((impl_LightestForce.f t574 bt577.1 bt577.2.1 bt577.2.2).bind fun bt580 => ((laws_eqIntS.f kj36 bt580.1 t547).bind fun t585 => (if t585 = true then (if bt580.2.1 = t550 then (laws_FnExactLightestForce.j2 kj36 t572 t571 (bt580.2.2 != t551)) else (laws_FnExactLightestForce.j2 kj36 t572 t571 true)) else (laws_FnExactLightestForce.j2 kj36 t572 t571 true))))) = some r := H
           have A58 := zM A580
           clear A580
           replace H := Option.bind_eq_some_iff.mp H
           obtain ⟨⟨t577, t578, t579⟩, A590, H⟩ := H
           replace H : ((impl_LightestForce.f t574 t577 t578 t579).bind fun bt580 => ((laws_eqIntS.f kj36 bt580.1 t547).bind fun t585 => (if t585 = true then (if bt580.2.1 = t550 then (laws_FnExactLightestForce.j2 kj36 t572 t571 (bt580.2.2 != t551)) else (laws_FnExactLightestForce.j2 kj36 t572 t571 true)) else (laws_FnExactLightestForce.j2 kj36 t572 t571 true)))) = some r := H
           have A59 := zM A590
           clear A590
           replace H := Option.bind_eq_some_iff.mp H
           obtain ⟨⟨t580, t583, t584⟩, A600, H⟩ := H
           replace H : ((laws_eqIntS.f kj36 t580 t547).bind fun t585 => (if t585 = true then (if t583 = t550 then (laws_FnExactLightestForce.j2 kj36 t572 t571 (t584 != t551)) else (laws_FnExactLightestForce.j2 kj36 t572 t571 true)) else (laws_FnExactLightestForce.j2 kj36 t572 t571 true))) = some r := H
           have A60 := zM A600
           clear A600
           have HC61 := zM H
           clear H
           obtain ⟨Ao62, co62, eo62⟩ := Kd.R_slice HO_9.out
           subst eo62
           try go_wp2_with (first | ((with_reducible refine gate_callee (f := 17) rfl ?_); refine goesL_ (some 82) rfl rfl Try.func17 (by kernel_rfl) rfl #[.slice Ao62 t558.length co62, .int .i64 1] rfl (by (try simp only [List.map_toArray, List.map_cons, List.map_nil]); first | done | rfl | (simp only [List.length_drop, List.length_take]; rfl)) ?_; (with_reducible refine (laws_markIntS.calls kj36 (fun k_ => some k_ = (.slice Ao62 t558.length co62 : Value).ownBlock) (.slice Ao62 t558.length co62) t558 1 t571 t572 w _ ?side1 ?side2 A52.out).mono ?_); (case side1 => repeat (first | (with_reducible first | exact HB.out | apply zD | apply zE | apply zF | refine below_set ?_ GE540.out) | exact HB.out)); (case side2 => exact Kd.R_tight rfl HO_9.out); rintro e w63 ⟨rfl, hy0, hb, hkp⟩; refine ⟨_, rfl, ?_⟩; have n0_ := zM (Kd.V_mono (ok' := fun k_ => some k_ ≠ (.slice Ao62 t558.length co62 : Value).ownBlock ∧ k_ ≠ gb540) (Kd.V_keptB (HO_5.out) hkp (fun k_ hk_ hs_ => (hk_.1) hs_)) (fun k_ hk_ => ⟨hk_.1.1, hk_.1.2⟩)); have n1_ := zM (Kd.R_reok rfl hy0 (fun k_ e_ => HO_9.out.1 k_ e_)); have n2_ := zM (blk_kept (by (with_reducible repeat (first | refine zJ ?_ _ | refine zK ?_ | refine zL ?_ _)); exact BK540.out) hkp (fun hs_ => (fun e_ => (Kd.R_ne HO_9.out BK540.out (by decide)) e_) hs_)); have n3_ := zM (hb); clear HO_5; clear HO_9; clear BK540; clear HB; have HO_5 := n0_; have HO_9 := n1_; have BK540 := n2_; have HB := n3_; clear n0_ n1_ n2_ n3_; (try clear hb); (try clear hkp); (try clear hy0)) | ((with_reducible refine gate_callee (f := 18) rfl ?_); refine goesL_ (some 85) rfl rfl Try.func18 (by kernel_rfl) rfl #[.slice Ao62 t572.length co62, .int .i64 1] rfl (by (try simp only [List.map_toArray, List.map_cons, List.map_nil]); first | done | (rw [show t572.length = t558.length from (zN HO_9.out).1.symm] <;> rfl) | rfl | (simp only [List.length_drop, List.length_take]; rfl)) ?_; (with_reducible refine (laws_heldIntS.calls kj36 _ _ t572 1 t573 _ ?side1 ?side2 A53.out).mono ?_); (case side1 => repeat (first | exact (zN HO_9.out).2.2 | (with_reducible refine zG ?_ _) | (with_reducible refine zH ?_ _) | (with_reducible refine zI ?_))); (case side2 => rw [show t572.length = t558.length from (zN HO_9.out).1.symm]; exact (zN HO_9.out).2.1); rintro e w' ⟨rfl, ⟨nd, rfl⟩⟩; refine ⟨_, rfl, ?_⟩))
           (try (rw [drewN_self w63]; generalize hq_ : World.drewN w63 _ = w63; have n0_ : Aside0 (Kd.V (Kd.int .i64) 3 w63 w.heap.size (fun k_ => some k_ ≠ (.slice Ao62 t558.length co62 : Value).ownBlock ∧ k_ ≠ gb540) v548 t547) := ⟨by rw [← hq_]; exact (by (with_reducible repeat (first | apply Kd.V_alloc | apply Kd.V_drewN | apply Kd.V_drew)); exact HO_5.out)⟩; have n1_ : Aside0 (Kd.R (Kd.int .i64) 3 w63 w.heap.size (fun _ => True) (.slice Ao62 t558.length co62) t572) := ⟨by rw [← hq_]; exact (by (with_reducible repeat (first | apply zA | apply zB | apply zC)); exact HO_9.out)⟩; have n2_ : Aside0 (w63.heap[gb540]? = some (.cells #[.int .i64 a1_0, .int .i64 a1_1, .int .i64 a1_2] 24 (0, 0))) := ⟨by rw [← hq_]; exact (by (with_reducible repeat (first | refine zJ ?_ _ | refine zK ?_ | refine zL ?_ _)); exact BK540.out)⟩; have n3_ : Aside0 (Below w.heap.size w w63) := ⟨by rw [← hq_]; exact (by repeat (first | (with_reducible first | exact HB.out | apply zD | apply zE | apply zF | refine below_set ?_ GE540.out) | exact HB.out))⟩; clear HO_5 HO_9 BK540 HB hq_; have HO_5 := n0_; have HO_9 := n1_; have BK540 := n2_; have HB := n3_; clear n0_ n1_ n2_ n3_))
           have n0_ := zM (Kd.V_drew HO_5.out)
           have n1_ := zM (zC HO_9.out)
           have n2_ := zM (zK BK540.out)
           have n3_ := zM (zF HB.out)
           clear HO_5
           clear HO_9
           clear BK540
           clear HB
           have HO_5 := n0_
           have HO_9 := n1_
           have BK540 := n2_
           have HB := n3_
           clear n0_ n1_ n2_ n3_
           refine start_ (n := 12) (S := fun w' => w'.cell? ⟨gb540, 0, none⟩ = some (.int .i64 a1_0) ∧ w'.cell? ⟨gb540, 1, none⟩ = some (.int .i64 a1_1) ∧ w'.cell? ⟨gb540, 2, none⟩ = some (.int .i64 a1_2)) (ds := []) #[false, false, false, false, false, false, false, false, false, false, false, false] (by kernel_rfl) rfl rfl ⟨(blk_cell BK540.out 0).trans rfl, (blk_cell BK540.out 1).trans rfl, (blk_cell BK540.out 2).trans rfl⟩ (fun hHeld => ?_); refine with_tabW laws_FnExactLightestForce.tab22 laws_FnExactLightestForce.bits22 (fun HT_ HW_ => ?_)
           generalize w63.drew = w64 at HO_5 HO_9 BK540 HB hHeld ⊢
           refine pure_ (i := 0) (N := some 92) (v := ?_) (a' := ?_) #[true, false, false, false, false, false, false, false, false, false, false, false] rfl rfl (any_of HT_.out (by kernel_rfl)) (fun _ _ _ h => h) (Or.inl ⟨by rfl, ?_⟩) ?_ ?_
           rotate_left
           ·intro w'
            go_simp
            with_reducible rfl
           rotate_left
           ·simp only [Act.put, List.setIfInBounds_toArray, List.set_cons_zero, List.set_cons_succ, i64_w, i32_w]
            rfl
           refine take_ (i := 2) (N := some 94) (v := ?_) (a' := ?_) #[true, false, true, false, false, false, false, false, false, false, false, false] rfl rfl (take_ofW HT_.out HW_.out (by kernel_rfl)) (fun _ _ _ h => h) (Or.inl ⟨by rfl, ?_⟩) hHeld ?_ ?_
           rotate_left
           ·rintro w' ⟨s0, s1, s2⟩
            go_simp
            with_reducible rfl
           rotate_left
           ·simp only [Act.put, List.setIfInBounds_toArray, List.set_cons_zero, List.set_cons_succ, i64_w, i32_w]
            rfl
           refine one_ (i := 1) (N := some 93) #[true, true, true, false, false, false, false, false, false, false, false, false] rfl rfl (one_of HT_.out (by kernel_rfl)) (by decide) (fun K hK => ?_)
           refine goes_ Try.func13 (by kernel_rfl) rfl #[.slice A0 l0.length c0] (by rfl) rfl rfl (by (try simp only [List.map_toArray, List.map_cons, List.map_nil]); first | done | rfl | (simp only [List.length_drop, List.length_take]; rfl)) ?_
           with_reducible refine (laws_toIntS.calls kj36 _ _ l0 t574 _ ?side1 ?side2 A58.out).mono ?_
           (case side1 => repeat (first | exact (zO HR0.out HB.out) | (with_reducible refine zG ?_ _) | (with_reducible refine zH ?_ _) | (with_reducible refine zI ?_)))
           (case side2 => exact HC0.out)
           rintro e w65 ⟨v575, rfl, ho0, hb⟩
           refine ⟨_, rfl, ?_⟩
           have n0_ := zM (Kd.V_elder' (by (with_reducible repeat (first | apply Kd.V_alloc | apply Kd.V_drewN | apply Kd.V_drew)); exact HO_5.out) (Kd.R_base ho0) hb)
           have n1_ := zM (Kd.R_elder' (by (with_reducible repeat (first | apply zA | apply zB | apply zC)); exact HO_9.out) (Kd.R_base ho0) hb)
           have n2_ := zM (Kd.R_lower (Kd.R_new' ho0 (Kd.R_lt (by (with_reducible repeat (first | apply zA | apply zB | apply zC)); exact HO_9.out))) (zR (by repeat (first | (with_reducible first | exact HB.out | apply zD | apply zE | apply zF | refine below_set ?_ GE540.out) | exact HB.out))))
           have n3_ := zM (blk_below (g := gb540) (o := .cells #[.int .i64 a1_0, .int .i64 a1_1, .int .i64 a1_2] 24 (0, 0)) (by (with_reducible repeat (first | refine zJ ?_ _ | refine zK ?_ | refine zL ?_ _)); exact BK540.out) hb)
           have n4_ := zM (zQ (by repeat (first | (with_reducible first | exact HB.out | apply zD | apply zE | apply zF | refine below_set ?_ GE540.out) | exact HB.out)) hb)
           clear HO_5
           clear HO_9
           clear BK540
           clear HB
           have HO_5 := n0_
           have HO_9 := n1_
           have HO576 := n2_
           have BK540 := n3_
           have HB := n4_
           clear n0_ n1_ n2_ n3_ n4_
           (try clear hb)
           (try clear hb2)
           (try clear hk)
           (try clear hi)
           (try clear ho0)
           refine hK.out _ _ ⟨(blk_cell BK540.out 0).trans rfl, (blk_cell BK540.out 1).trans rfl, (blk_cell BK540.out 2).trans rfl⟩ (fun hHeld => ?_)
           clear hK K
           refine norm_ (a' := ?_) ?_ ?_
           rotate_left
           ·show Act.put _ (some 93) _ = _
            simp only [Act.put, List.setIfInBounds_toArray, List.set_cons_zero, List.set_cons_succ, i64_w, i32_w]
            rfl
           refine one_ (i := 3) (N := some 95) #[true, true, true, true, false, false, false, false, false, false, false, false] rfl rfl (one_of HT_.out (by kernel_rfl)) (by decide) (fun K hK => ?_)
           refine goes_ Try.func14 (by kernel_rfl) rfl #[.agg #[.int .i64 a1_0, .int .i64 a1_1, .int .i64 a1_2]] (by rfl) rfl rfl (by (try simp only [List.map_toArray, List.map_cons, List.map_nil]); first | done | rfl | (simp only [List.length_drop, List.length_take]; rfl)) ?_
           with_reducible refine (laws_toLashRules.calls a1_0 a1_1 a1_2 t577 t578 t579 _ A59.out).mono ?_
           rintro e w66 ⟨rfl, hb⟩
           refine ⟨_, rfl, ?_⟩
           have n0_ := zM (Kd.V_below (by (with_reducible repeat (first | apply Kd.V_alloc | apply Kd.V_drewN | apply Kd.V_drew)); exact HO_5.out) hb)
           have n1_ := zM (zP (by (with_reducible repeat (first | apply zA | apply zB | apply zC)); exact HO_9.out) hb)
           have n2_ := zM (zP (by (with_reducible repeat (first | apply zA | apply zB | apply zC)); exact HO576.out) hb)
           have n3_ := zM (blk_below (g := gb540) (o := .cells #[.int .i64 a1_0, .int .i64 a1_1, .int .i64 a1_2] 24 (0, 0)) (by (with_reducible repeat (first | refine zJ ?_ _ | refine zK ?_ | refine zL ?_ _)); exact BK540.out) hb)
           have n4_ := zM (zQ (by repeat (first | (with_reducible first | exact HB.out | apply zD | apply zE | apply zF | refine below_set ?_ GE540.out) | exact HB.out)) hb)
           clear HO_5
           clear HO_9
           clear HO576
           clear BK540
           clear HB
           have HO_5 := n0_
           have HO_9 := n1_
           have HO576 := n2_
           have BK540 := n3_
           have HB := n4_
           clear n0_ n1_ n2_ n3_ n4_
           (try clear hb)
           (try clear hb2)
           (try clear hk)
           (try clear hi)
           obtain ⟨Ao67, co67, eo67⟩ := Kd.R_slice HO576.out
           (first | subst eo67 | (injection eo67 with f1_ f2_ f3_; have f4_ := f1_.symm; have f5_ := f3_.symm; clear f1_ f2_ f3_; subst f4_; subst f5_))
           refine hK.out _ _ ⟨(blk_cell BK540.out 0).trans rfl, (blk_cell BK540.out 1).trans rfl, (blk_cell BK540.out 2).trans rfl⟩ (fun hHeld => ?_)
           clear hK K
           refine norm_ (a' := ?_) ?_ ?_
           rotate_left
           ·show Act.put _ (some 95) _ = _
            simp only [Act.put, List.setIfInBounds_toArray, List.set_cons_zero, List.set_cons_succ, i64_w, i32_w]
            rfl
           refine one_ (i := 4) (N := some 96) #[true, true, true, true, true, false, false, false, false, false, false, false] rfl rfl (one_of HT_.out (by kernel_rfl)) (by decide) (fun K hK => ?_)
           refine goes_ Try.func31 (by kernel_rfl) rfl #[.slice Ao67 t574.length co67, .agg #[.int .i64 t577, .int .i64 t578, .int .i64 t579]] (by rfl) rfl rfl (by (try simp only [List.map_toArray, List.map_cons, List.map_nil]); first | done | rfl | (simp only [List.length_drop, List.length_take]; rfl)) ?_
           with_reducible refine (impl_LightestForce.calls _ _ t574 t577 t578 t579 t580 t583 t584 _ ?side1 ?side2 A60.out).mono ?_
           (case side1 => repeat (first | exact (zN HO576.out).2.2 | (with_reducible refine zG ?_ _) | (with_reducible refine zH ?_ _) | (with_reducible refine zI ?_)))
           (case side2 => exact (zN HO576.out).2.1)
           rintro e w68 ⟨v581, rfl, ho0, hb⟩
           refine ⟨_, rfl, ?_⟩
           have n0_ := zM (Kd.V_elder' (by (with_reducible repeat (first | apply Kd.V_alloc | apply Kd.V_drewN | apply Kd.V_drew)); exact HO_5.out) (Kd.R_base ho0) hb)
           have n1_ := zM (Kd.R_elder' (by (with_reducible repeat (first | apply zA | apply zB | apply zC)); exact HO_9.out) (Kd.R_base ho0) hb)
           have n2_ := zM (Kd.R_elder' (by (with_reducible repeat (first | apply zA | apply zB | apply zC)); exact HO576.out) (Kd.R_base ho0) hb)
           have n3_ := zM (Kd.R_lower (Kd.R_new' (Kd.R_new' ho0 (Kd.R_lt (by (with_reducible repeat (first | apply zA | apply zB | apply zC)); exact HO_9.out))) (Kd.R_lt (by (with_reducible repeat (first | apply zA | apply zB | apply zC)); exact HO576.out))) (zR (by repeat (first | (with_reducible first | exact HB.out | apply zD | apply zE | apply zF | refine below_set ?_ GE540.out) | exact HB.out))))
           have n4_ := zM (blk_below (g := gb540) (o := .cells #[.int .i64 a1_0, .int .i64 a1_1, .int .i64 a1_2] 24 (0, 0)) (by (with_reducible repeat (first | refine zJ ?_ _ | refine zK ?_ | refine zL ?_ _)); exact BK540.out) hb)
           have n5_ := zM (zQ (by repeat (first | (with_reducible first | exact HB.out | apply zD | apply zE | apply zF | refine below_set ?_ GE540.out) | exact HB.out)) hb)
           clear HO_5
           clear HO_9
           clear HO576
           clear BK540
           clear HB
           have HO_5 := n0_
           have HO_9 := n1_
           have HO576 := n2_
           have HO582 := n3_
           have BK540 := n4_
           have HB := n5_
           clear n0_ n1_ n2_ n3_ n4_ n5_
           (try clear hb)
           (try clear hb2)
           (try clear hk)
           (try clear hi)
           (try clear ho0)
           refine hK.out _ _ ⟨(blk_cell BK540.out 0).trans rfl, (blk_cell BK540.out 1).trans rfl, (blk_cell BK540.out 2).trans rfl⟩ (fun hHeld => ?_)
           clear hK K
           refine norm_ (a' := ?_) ?_ ?_
           rotate_left
           ·show Act.put _ (some 96) _ = _
            simp only [Act.put, List.setIfInBounds_toArray, List.set_cons_zero, List.set_cons_succ, i64_w, i32_w]
            rfl
           refine pure_ (i := 5) (N := some 91) (v := ?_) (a' := ?_) #[true, true, true, true, true, true, false, false, false, false, false, false] rfl rfl (any_of HT_.out (by kernel_rfl)) (fun _ _ _ h => h) (Or.inl ⟨by rfl, ?_⟩) ?_ ?_
           rotate_left
           ·intro w'
            go_simp
            with_reducible rfl
           rotate_left
           ·simp only [Act.put, List.setIfInBounds_toArray, List.set_cons_zero, List.set_cons_succ, i64_w, i32_w]
            rfl
           refine pure_ (i := 6) (N := some 97) (v := ?_) (a' := ?_) #[true, true, true, true, true, true, true, false, false, false, false, false] rfl rfl (any_of HT_.out (by kernel_rfl)) (fun _ _ _ h => h) (Or.inl ⟨by rfl, ?_⟩) ?_ ?_
           rotate_left
           ·intro w'
            go_simp
            with_reducible rfl
           rotate_left
           ·simp only [Act.put, List.setIfInBounds_toArray, List.set_cons_zero, List.set_cons_succ, i64_w, i32_w]
            rfl
           refine pure_ (i := 7) (N := some 98) (v := ?_) (a' := ?_) #[true, true, true, true, true, true, true, true, false, false, false, false] rfl rfl (any_of HT_.out (by kernel_rfl)) (fun _ _ _ h => h) (Or.inl ⟨by rfl, ?_⟩) ?_ ?_
           rotate_left
           ·intro w'
            go_simp
            with_reducible rfl
           rotate_left
           ·simp only [Act.put, List.setIfInBounds_toArray, List.set_cons_zero, List.set_cons_succ, i64_w, i32_w]
            rfl
           refine pure_ (i := 8) (N := some 99) (v := ?_) (a' := ?_) #[true, true, true, true, true, true, true, true, true, false, false, false] rfl rfl (any_of HT_.out (by kernel_rfl)) (fun _ _ _ h => h) (Or.inl ⟨by rfl, ?_⟩) ?_ ?_
           rotate_left
           ·intro w'
            go_simp
            with_reducible rfl
           rotate_left
           ·simp only [Act.put, List.setIfInBounds_toArray, List.set_cons_zero, List.set_cons_succ, i64_w, i32_w]
            rfl
           refine pure_ (i := 9) (N := some 15) (v := ?_) (a' := ?_) #[true, true, true, true, true, true, true, true, true, true, false, false] rfl rfl (any_of HT_.out (by kernel_rfl)) (fun _ _ _ h => h) (Or.inl ⟨by rfl, ?_⟩) ?_ ?_
           rotate_left
           ·intro w'
            go_simp
            with_reducible rfl
           rotate_left
           ·simp only [Act.put, List.setIfInBounds_toArray, List.set_cons_zero, List.set_cons_succ, i64_w, i32_w]
            rfl
           refine pure_ (i := 10) (N := some 16) (v := ?_) (a' := ?_) #[true, true, true, true, true, true, true, true, true, true, true, false] rfl rfl (any_of HT_.out (by kernel_rfl)) (fun _ _ _ h => h) (Or.inl ⟨by rfl, ?_⟩) ?_ ?_
           rotate_left
           ·intro w'
            go_simp
            with_reducible rfl
           rotate_left
           ·simp only [Act.put, List.setIfInBounds_toArray, List.set_cons_zero, List.set_cons_succ, i64_w, i32_w]
            rfl
           refine pure_ (i := 11) (N := some 17) (v := ?_) (a' := ?_) #[true, true, true, true, true, true, true, true, true, true, true, true] rfl rfl (any_of HT_.out (by kernel_rfl)) (fun _ _ _ h => h) (Or.inl ⟨by rfl, ?_⟩) ?_ ?_
           rotate_left
           ·intro w'
            go_simp
            with_reducible rfl
           rotate_left
           ·simp only [Act.put, List.setIfInBounds_toArray, List.set_cons_zero, List.set_cons_succ, i64_w, i32_w]
            rfl
           refine done_ (done_of HT_.out (by kernel_rfl)) ?_
           go_upto_region 23 with (fail)
           go_cut [113] (fun v113 wc => ∃ (kq : Nat) (x113_60 : Bool), v113 = .bool x113_60 ∧ Aside0 (laws_FnExactLightestForce.j2 kq t572 t571 x113_60 = some r) ∧ Aside0 (kq ≤ kj36) ∧ Aside0 (Kd.R (Kd.int .i64) 3 wc w.heap.size (fun _ => True) (.slice Ao62 t558.length co62) t572) ∧ Aside0 (wc.heap[gb540]? = some (.cells #[.int .i64 a1_0, .int .i64 a1_1, .int .i64 a1_2] 24 (0, 0))) ∧ Aside0 (Below w.heap.size w wc))
           case first =>
            have H := HC61.out
            clear HC61
            replace H := Option.bind_eq_some_iff.mp H
            obtain ⟨t585, A690, H⟩ := H
            replace H : (if t585 = true then (if t583 = t550 then (laws_FnExactLightestForce.j2 kj36 t572 t571 (t584 != t551)) else (laws_FnExactLightestForce.j2 kj36 t572 t571 true)) else (laws_FnExactLightestForce.j2 kj36 t572 t571 true)) = some r := H
            have A69 := zM A690
            clear A690
            by_cases c70 : t585 = true
            ·subst c70
             have H1 : (if t583 = t550 then (laws_FnExactLightestForce.j2 kj36 t572 t571 (t584 != t551)) else (laws_FnExactLightestForce.j2 kj36 t572 t571 true)) = some r := by rw [if_pos rfl] at H; exact H
             clear H
             have H := H1
             clear H1
             by_cases c71 : t583 = t550
             ·rw [if_pos c71] at H
              have c71b0 : (t583 == t550) = true := beq_iff_eq.mpr c71
              have c71b1 : (t583 != t550) = false := bne_eq_false_iff_eq.mpr c71
              clear c71
              (first | rw [c71b0] | (simp only [i64_w, i32_w]; rw [c71b0]) | skip)
              have H' := zM H
              clear H
              obtain ⟨Ao72, co72, eo72⟩ := Kd.R_slice HO582.out
              subst eo72
              obtain ⟨Ao73, co73, eo73⟩ := Kd.V_slice HO_5.out
              subst eo73
              go_wp2_with (first | ((with_reducible refine gate_callee (f := 16) rfl ?_); refine goesL_ (some 102) rfl rfl Try.func16 (by kernel_rfl) rfl #[.slice Ao72 t580.length co72, .slice Ao73 t547.length co73] rfl (by (try simp only [List.map_toArray, List.map_cons, List.map_nil]); first | done | rfl | (simp only [List.length_drop, List.length_take]; rfl)) ?_; (with_reducible refine (laws_eqIntS.calls kj36 _ _ t580 _ _ t547 true _ ?side1 ?side2 ?side3 ?side4 A69.out).mono ?_); (case side1 => repeat (first | exact (zN HO582.out).2.2 | (with_reducible refine zG ?_ _) | (with_reducible refine zH ?_ _) | (with_reducible refine zI ?_))); (case side2 => exact (zN HO582.out).2.1); (case side3 => repeat (first | exact (Kd.V_reads' HO_5.out).2.2 | (with_reducible refine zG ?_ _) | (with_reducible refine zH ?_ _) | (with_reducible refine zI ?_))); (case side4 => exact (Kd.V_reads' HO_5.out).2.1); rintro e w' ⟨rfl, ⟨nd, rfl⟩⟩; refine ⟨_, rfl, ?_⟩))
              go_meet
              case rel => exact ⟨_, ((t584 != t551)), (by first | rfl | (simp; done) | (simp [*]; done)), H', ⟨by have := HJ10.out; have := HJ36.out; first | omega | exact Nat.le_refl _⟩, ⟨by (with_reducible repeat (first | apply zA | apply zB | apply zC)); exact Kd.R_mono HO_9.out (fun _ hk => trivial)⟩, ⟨by (with_reducible repeat (first | refine zJ ?_ _ | refine zK ?_ | refine zL ?_ _)); exact BK540.out⟩, ⟨by repeat (first | (with_reducible first | exact HB.out | apply zD | apply zE | apply zF | refine below_set ?_ GE540.out) | exact HB.out)⟩⟩
             ·rw [if_neg c71] at H
              have c71b0 : (t583 == t550) = false := beq_eq_false_iff_ne.mpr c71
              have c71b1 : (t583 != t550) = true := bne_iff_ne.mpr c71
              (first | rw [c71b0] | (simp only [i64_w, i32_w]; rw [c71b0]) | skip)
              have H' := zM H
              clear H
              obtain ⟨Ao74, co74, eo74⟩ := Kd.R_slice HO582.out
              subst eo74
              obtain ⟨Ao75, co75, eo75⟩ := Kd.V_slice HO_5.out
              subst eo75
              go_wp2_with (first | ((with_reducible refine gate_callee (f := 16) rfl ?_); refine goesL_ (some 102) rfl rfl Try.func16 (by kernel_rfl) rfl #[.slice Ao74 t580.length co74, .slice Ao75 t547.length co75] rfl (by (try simp only [List.map_toArray, List.map_cons, List.map_nil]); first | done | rfl | (simp only [List.length_drop, List.length_take]; rfl)) ?_; (with_reducible refine (laws_eqIntS.calls kj36 _ _ t580 _ _ t547 true _ ?side1 ?side2 ?side3 ?side4 A69.out).mono ?_); (case side1 => repeat (first | exact (zN HO582.out).2.2 | (with_reducible refine zG ?_ _) | (with_reducible refine zH ?_ _) | (with_reducible refine zI ?_))); (case side2 => exact (zN HO582.out).2.1); (case side3 => repeat (first | exact (Kd.V_reads' HO_5.out).2.2 | (with_reducible refine zG ?_ _) | (with_reducible refine zH ?_ _) | (with_reducible refine zI ?_))); (case side4 => exact (Kd.V_reads' HO_5.out).2.1); rintro e w' ⟨rfl, ⟨nd, rfl⟩⟩; refine ⟨_, rfl, ?_⟩))
              go_meet
              case rel => exact ⟨_, (true), (by first | rfl | (simp; done) | (simp [*]; done)), H', ⟨by have := HJ10.out; have := HJ36.out; first | omega | exact Nat.le_refl _⟩, ⟨by (with_reducible repeat (first | apply zA | apply zB | apply zC)); exact Kd.R_mono HO_9.out (fun _ hk => trivial)⟩, ⟨by (with_reducible repeat (first | refine zJ ?_ _ | refine zK ?_ | refine zL ?_ _)); exact BK540.out⟩, ⟨by repeat (first | (with_reducible first | exact HB.out | apply zD | apply zE | apply zF | refine below_set ?_ GE540.out) | exact HB.out)⟩⟩
            ·replace c70 := Bool.eq_false_iff.mpr c70
             subst c70
             have H1 : (laws_FnExactLightestForce.j2 kj36 t572 t571 true) = some r := by rw [if_neg (show ¬ (false = true) by decide)] at H; exact H
             clear H
             have H := H1
             clear H1
             have H' := zM H
             clear H
             obtain ⟨Ao76, co76, eo76⟩ := Kd.R_slice HO582.out
             subst eo76
             obtain ⟨Ao77, co77, eo77⟩ := Kd.V_slice HO_5.out
             subst eo77
             go_wp2_with (first | ((with_reducible refine gate_callee (f := 16) rfl ?_); refine goesL_ (some 102) rfl rfl Try.func16 (by kernel_rfl) rfl #[.slice Ao76 t580.length co76, .slice Ao77 t547.length co77] rfl (by (try simp only [List.map_toArray, List.map_cons, List.map_nil]); first | done | rfl | (simp only [List.length_drop, List.length_take]; rfl)) ?_; (with_reducible refine (laws_eqIntS.calls kj36 _ _ t580 _ _ t547 false _ ?side1 ?side2 ?side3 ?side4 A69.out).mono ?_); (case side1 => repeat (first | exact (zN HO582.out).2.2 | (with_reducible refine zG ?_ _) | (with_reducible refine zH ?_ _) | (with_reducible refine zI ?_))); (case side2 => exact (zN HO582.out).2.1); (case side3 => repeat (first | exact (Kd.V_reads' HO_5.out).2.2 | (with_reducible refine zG ?_ _) | (with_reducible refine zH ?_ _) | (with_reducible refine zI ?_))); (case side4 => exact (Kd.V_reads' HO_5.out).2.1); rintro e w' ⟨rfl, ⟨nd, rfl⟩⟩; refine ⟨_, rfl, ?_⟩))
             go_meet
             case rel => exact ⟨_, (true), (by first | rfl | (simp; done) | (simp [*]; done)), H', ⟨by have := HJ10.out; have := HJ36.out; first | omega | exact Nat.le_refl _⟩, ⟨by (with_reducible repeat (first | apply zA | apply zB | apply zC)); exact Kd.R_mono HO_9.out (fun _ hk => trivial)⟩, ⟨by (with_reducible repeat (first | refine zJ ?_ _ | refine zK ?_ | refine zL ?_ _)); exact BK540.out⟩, ⟨by repeat (first | (with_reducible first | exact HB.out | apply zD | apply zE | apply zF | refine below_set ?_ GE540.out) | exact HB.out)⟩⟩
           case rest =>
            clear HC61
            try clear c1
            try clear c2
            try clear p2
            try clear c3
            try clear c3b0
            try clear c3b1
            try clear c4
            try clear c5
            try clear c7
            try clear c8
            try clear c13
            try clear c14
            try clear c16
            try clear c17
            try clear c18
            try clear c24
            try clear c25
            try clear c25b0
            try clear c25b1
            try clear c30
            try clear c31
            try clear c32
            try clear c35
            try clear c41
            try clear c41b0
            try clear c43
            try clear c44
            try clear c44b0
            try clear c44b1
            try clear c51
            try clear c54
            try clear c54b0
            try clear c57
            try clear c57b0
            try clear c57b1
            try clear c70
            try clear c71
            try clear c71b0
            try clear c71b1
            try clear hcz19_0
            try clear hcz19_1
            try clear hcz19_2
            try clear hfz19_0
            try clear hfz19_1
            try clear hfz19_2
            try clear p2
            obtain ⟨kq, x113_60, rfl, HA, HJ60, HO_9, BK540, HB⟩ := hcut
            have hl9_60 := (zN HO_9.out).1
            rw [hl9_60] at HO_9
            (try simp only [hl9_60])
            (try simp only [hl9_60] at BK540)
            cases kq with
            | zero => exact absurd HA.out (by simp [laws_FnExactLightestForce.j2])
            | succ kj60 =>
             have H := HA.out
             clear HA
             simp only [laws_FnExactLightestForce.j2] at H
             by_cases c78 : x113_60 = true
             ·subst c78
              have H1 : (some false) = some r := by rw [if_pos rfl] at H; exact H
              clear H
              have H := H1
              clear H1
              obtain rfl := Option.some.inj H
              go_wp2
              go_ret
              exact ⟨by first | rfl | (simp [errW_none, errW_some] <;> rfl) | (simp [*, errW_none, errW_some] <;> rfl), by repeat (first | (with_reducible first | exact HB.out | apply zD | apply zE | apply zF | refine below_set ?_ GE540.out) | exact HB.out)⟩
             ·replace c78 := Bool.eq_false_iff.mpr c78
              subst c78
              have H1 : ((laws_heldIntS.f kj60 t572 1).bind fun t586 => (if t586 < 0 then (some false) else (if t586 = t571 then (some true) else (some false)))) = some r := by rw [if_neg (show ¬ (false = true) by decide)] at H; exact H
              clear H
              have H := H1
              clear H1
              replace H := Option.bind_eq_some_iff.mp H
              obtain ⟨t586, A790, H⟩ := H
              replace H : (if t586 < 0 then (some false) else (if t586 = t571 then (some true) else (some false))) = some r := H
              have A79 := zM A790
              clear A790
              by_cases c80 : t586 < 0
              ·rw [if_pos c80] at H
               have c80b0 : decide (t586 < 0) = true := decide_eq_true c80
               clear c80
               obtain rfl := Option.some.inj H
               go_wp2_with (first | ((with_reducible refine gate_callee (f := 18) rfl ?_); refine goesL_ (some 116) rfl rfl Try.func18 (by kernel_rfl) rfl #[.slice Ao62 t572.length co62, .int .i64 1] rfl (by (try simp only [List.map_toArray, List.map_cons, List.map_nil]); first | done | rfl | (simp only [List.length_drop, List.length_take]; rfl)) ?_; (with_reducible refine (laws_heldIntS.calls kj60 _ _ t572 1 t586 _ ?side1 ?side2 A79.out).mono ?_); (case side1 => repeat (first | exact (zN HO_9.out).2.2 | (with_reducible refine zG ?_ _) | (with_reducible refine zH ?_ _) | (with_reducible refine zI ?_))); (case side2 => exact (zN HO_9.out).2.1); rintro e w' ⟨rfl, ⟨nd, rfl⟩⟩; refine ⟨_, rfl, ?_⟩))
               go_ret
               exact ⟨by first | rfl | (simp [errW_none, errW_some] <;> rfl) | (simp [*, errW_none, errW_some] <;> rfl), by repeat (first | (with_reducible first | exact HB.out | apply zD | apply zE | apply zF | refine below_set ?_ GE540.out) | exact HB.out)⟩
              ·rw [if_neg c80] at H
               have c80b0 : decide (t586 < 0) = false := decide_eq_false c80
               clear c80
               by_cases c81 : t586 = t571
               ·rw [if_pos c81] at H
                have c81b0 : (t586 == t571) = true := beq_iff_eq.mpr c81
                have c81b1 : (t586 != t571) = false := bne_eq_false_iff_eq.mpr c81
                clear c81
                obtain rfl := Option.some.inj H
                go_wp2_with (first | ((with_reducible refine gate_callee (f := 18) rfl ?_); refine goesL_ (some 116) rfl rfl Try.func18 (by kernel_rfl) rfl #[.slice Ao62 t572.length co62, .int .i64 1] rfl (by (try simp only [List.map_toArray, List.map_cons, List.map_nil]); first | done | rfl | (simp only [List.length_drop, List.length_take]; rfl)) ?_; (with_reducible refine (laws_heldIntS.calls kj60 _ _ t572 1 t586 _ ?side1 ?side2 A79.out).mono ?_); (case side1 => repeat (first | exact (zN HO_9.out).2.2 | (with_reducible refine zG ?_ _) | (with_reducible refine zH ?_ _) | (with_reducible refine zI ?_))); (case side2 => exact (zN HO_9.out).2.1); rintro e w' ⟨rfl, ⟨nd, rfl⟩⟩; refine ⟨_, rfl, ?_⟩))
                go_ret
                exact ⟨by first | rfl | (simp [errW_none, errW_some] <;> rfl) | (simp [*, errW_none, errW_some] <;> rfl), by repeat (first | (with_reducible first | exact HB.out | apply zD | apply zE | apply zF | refine below_set ?_ GE540.out) | exact HB.out)⟩
               ·rw [if_neg c81] at H
                have c81b0 : (t586 == t571) = false := beq_eq_false_iff_ne.mpr c81
                have c81b1 : (t586 != t571) = true := bne_iff_ne.mpr c81
                obtain rfl := Option.some.inj H
                go_wp2_with (first | ((with_reducible refine gate_callee (f := 18) rfl ?_); refine goesL_ (some 116) rfl rfl Try.func18 (by kernel_rfl) rfl #[.slice Ao62 t572.length co62, .int .i64 1] rfl (by (try simp only [List.map_toArray, List.map_cons, List.map_nil]); first | done | rfl | (simp only [List.length_drop, List.length_take]; rfl)) ?_; (with_reducible refine (laws_heldIntS.calls kj60 _ _ t572 1 t586 _ ?side1 ?side2 A79.out).mono ?_); (case side1 => repeat (first | exact (zN HO_9.out).2.2 | (with_reducible refine zG ?_ _) | (with_reducible refine zH ?_ _) | (with_reducible refine zI ?_))); (case side2 => exact (zN HO_9.out).2.1); rintro e w' ⟨rfl, ⟨nd, rfl⟩⟩; refine ⟨_, rfl, ?_⟩))
                go_ret
                exact ⟨by first | rfl | (simp [errW_none, errW_some] <;> rfl) | (simp [*, errW_none, errW_some] <;> rfl), by repeat (first | (with_reducible first | exact HB.out | apply zD | apply zE | apply zF | refine below_set ?_ GE540.out) | exact HB.out)⟩
          ·rw [if_neg c57] at H
           have c57b0 : (t573 == t571) = false := beq_eq_false_iff_ne.mpr c57
           have c57b1 : (t573 != t571) = true := bne_iff_ne.mpr c57
           obtain rfl := Option.some.inj H
           obtain ⟨Ao82, co82, eo82⟩ := Kd.R_slice HO_9.out
           subst eo82
           go_wp2_with (first | ((with_reducible refine gate_callee (f := 17) rfl ?_); refine goesL_ (some 82) rfl rfl Try.func17 (by kernel_rfl) rfl #[.slice Ao82 t558.length co82, .int .i64 1] rfl (by (try simp only [List.map_toArray, List.map_cons, List.map_nil]); first | done | rfl | (simp only [List.length_drop, List.length_take]; rfl)) ?_; (with_reducible refine (laws_markIntS.calls kj36 (fun k_ => some k_ = (.slice Ao82 t558.length co82 : Value).ownBlock) (.slice Ao82 t558.length co82) t558 1 t571 t572 w _ ?side1 ?side2 A52.out).mono ?_); (case side1 => repeat (first | (with_reducible first | exact HB.out | apply zD | apply zE | apply zF | refine below_set ?_ GE540.out) | exact HB.out)); (case side2 => exact Kd.R_tight rfl HO_9.out); rintro e w83 ⟨rfl, hy0, hb, hkp⟩; refine ⟨_, rfl, ?_⟩; have n0_ := zM (Kd.V_mono (ok' := fun k_ => some k_ ≠ (.slice Ao82 t558.length co82 : Value).ownBlock ∧ k_ ≠ gb540) (Kd.V_keptB (HO_5.out) hkp (fun k_ hk_ hs_ => (hk_.1) hs_)) (fun k_ hk_ => ⟨hk_.1.1, hk_.1.2⟩)); have n1_ := zM (Kd.R_reok rfl hy0 (fun k_ e_ => HO_9.out.1 k_ e_)); have n2_ := zM (blk_kept (by (with_reducible repeat (first | refine zJ ?_ _ | refine zK ?_ | refine zL ?_ _)); exact BK540.out) hkp (fun hs_ => (fun e_ => (Kd.R_ne HO_9.out BK540.out (by decide)) e_) hs_)); have n3_ := zM (hb); clear HO_5; clear HO_9; clear BK540; clear HB; have HO_5 := n0_; have HO_9 := n1_; have BK540 := n2_; have HB := n3_; clear n0_ n1_ n2_ n3_; (try clear hb); (try clear hkp); (try clear hy0)) | ((with_reducible refine gate_callee (f := 18) rfl ?_); refine goesL_ (some 85) rfl rfl Try.func18 (by kernel_rfl) rfl #[.slice Ao82 t572.length co82, .int .i64 1] rfl (by (try simp only [List.map_toArray, List.map_cons, List.map_nil]); first | done | (rw [show t572.length = t558.length from (zN HO_9.out).1.symm] <;> rfl) | rfl | (simp only [List.length_drop, List.length_take]; rfl)) ?_; (with_reducible refine (laws_heldIntS.calls kj36 _ _ t572 1 t573 _ ?side1 ?side2 A53.out).mono ?_); (case side1 => repeat (first | exact (zN HO_9.out).2.2 | (with_reducible refine zG ?_ _) | (with_reducible refine zH ?_ _) | (with_reducible refine zI ?_))); (case side2 => rw [show t572.length = t558.length from (zN HO_9.out).1.symm]; exact (zN HO_9.out).2.1); rintro e w' ⟨rfl, ⟨nd, rfl⟩⟩; refine ⟨_, rfl, ?_⟩))
           go_ret
           exact ⟨by first | rfl | (simp [errW_none, errW_some] <;> rfl) | (simp [*, errW_none, errW_some] <;> rfl), by repeat (first | (with_reducible first | exact HB.out | apply zD | apply zE | apply zF | refine below_set ?_ GE540.out) | exact HB.out)⟩
     ·replace c35 := Bool.eq_false_iff.mpr c35
      subst c35
      have H1 : (some false) = some r := by rw [if_neg (show ¬ (false = true) by decide)] at H; exact H
      clear H
      have H := H1
      clear H1
      obtain rfl := Option.some.inj H
      go_wp2_with (first | ((with_reducible refine gate_callee (f := 13) rfl ?_); refine goesL_ (some 56) rfl rfl Try.func13 (by kernel_rfl) rfl #[.slice A0 l0.length c0] rfl (by (try simp only [List.map_toArray, List.map_cons, List.map_nil]); first | done | rfl | (simp only [List.length_drop, List.length_take]; rfl)) ?_; (with_reducible refine (laws_toIntS.calls kj10 _ _ l0 t564 _ ?side1 ?side2 A33.out).mono ?_); (case side1 => repeat (first | exact (zO HR0.out HB.out) | (with_reducible refine zG ?_ _) | (with_reducible refine zH ?_ _) | (with_reducible refine zI ?_))); (case side2 => exact HC0.out); rintro e w84 ⟨v565, rfl, ho0, hb⟩; refine ⟨_, rfl, ?_⟩; have n0_ := zM (Kd.V_elder' (by (with_reducible repeat (first | apply Kd.V_alloc | apply Kd.V_drewN | apply Kd.V_drew)); exact HO_5.out) (Kd.R_base ho0) hb); have n1_ := zM (Kd.R_elder' (by (with_reducible repeat (first | apply zA | apply zB | apply zC)); exact HO_8.out) (Kd.R_base ho0) hb); have n2_ := zM (Kd.R_elder' (by (with_reducible repeat (first | apply zA | apply zB | apply zC)); exact HO_9.out) (Kd.R_base ho0) hb); have n3_ := zM (Kd.R_lower (Kd.R_new' (Kd.R_new' ho0 (Kd.R_lt (by (with_reducible repeat (first | apply zA | apply zB | apply zC)); exact HO_8.out))) (Kd.R_lt (by (with_reducible repeat (first | apply zA | apply zB | apply zC)); exact HO_9.out))) (zR (by repeat (first | (with_reducible first | exact HB.out | apply zD | apply zE | apply zF | refine below_set ?_ GE540.out) | exact HB.out)))); have n4_ := zM (blk_below (g := gb540) (o := .cells #[.int .i64 a1_0, .int .i64 a1_1, .int .i64 a1_2] 24 (0, 0)) (by (with_reducible repeat (first | refine zJ ?_ _ | refine zK ?_ | refine zL ?_ _)); exact BK540.out) hb); have n5_ := zM (zQ (by repeat (first | (with_reducible first | exact HB.out | apply zD | apply zE | apply zF | refine below_set ?_ GE540.out) | exact HB.out)) hb); clear HO_5; clear HO_8; clear HO_9; clear BK540; clear HB; have HO_5 := n0_; have HO_8 := n1_; have HO_9 := n2_; have HO566 := n3_; have BK540 := n4_; have HB := n5_; clear n0_ n1_ n2_ n3_ n4_ n5_; (try clear hb); (try clear hb2); (try clear hk); (try clear hi); (try clear ho0); obtain ⟨Ao85, co85, eo85⟩ := Kd.R_slice HO566.out; subst eo85) | ((with_reducible refine gate_callee (f := 16) rfl ?_); refine goesL_ (some 57) rfl rfl Try.func16 (by kernel_rfl) rfl #[.slice Ao21 t552.length co21, .slice Ao85 t564.length co85] rfl (by (try simp only [List.map_toArray, List.map_cons, List.map_nil]); first | done | rfl | (simp only [List.length_drop, List.length_take]; rfl)) ?_; (with_reducible refine (laws_eqIntS.calls kj10 _ _ t552 _ _ t564 false _ ?side1 ?side2 ?side3 ?side4 A34.out).mono ?_); (case side1 => repeat (first | exact (zN HO_8.out).2.2 | (with_reducible refine zG ?_ _) | (with_reducible refine zH ?_ _) | (with_reducible refine zI ?_))); (case side2 => exact (zN HO_8.out).2.1); (case side3 => repeat (first | exact (zN HO566.out).2.2 | (with_reducible refine zG ?_ _) | (with_reducible refine zH ?_ _) | (with_reducible refine zI ?_))); (case side4 => exact (zN HO566.out).2.1); rintro e w' ⟨rfl, ⟨nd, rfl⟩⟩; refine ⟨_, rfl, ?_⟩))
      go_ret
      exact ⟨by first | rfl | (simp [errW_none, errW_some] <;> rfl) | (simp [*, errW_none, errW_some] <;> rfl), by repeat (first | (with_reducible first | exact HB.out | apply zD | apply zE | apply zF | refine below_set ?_ GE540.out) | exact HB.out)⟩

/-- THE ONE PURE STATEMENT of laws_FnExactLightestForce. -/
def laws_FnExactLightestForce.Pure : Prop := ∀ (l0 : List Int) (a1_0 : Int) (a1_1 : Int) (a1_2 : Int), (l0.length ≤ maxLen ∧ ∀ y ∈ l0, (Lit.int .i64 y).wf = true) → (Lit.int .i64 a1_0).wf = true → (Lit.int .i64 a1_1).wf = true → (Lit.int .i64 a1_2).wf = true → ∃ k, laws_FnExactLightestForce.f k l0 a1_0 a1_1 a1_2 = some true
theorem laws_FnExactLightestForce.walk (P : laws_FnExactLightestForce.Pure) (A0 : Option Addr) (c0 : Nat) (l0 : List Int) (a1_0 : Int) (a1_1 : Int) (a1_2 : Int) (w : World) (hr0 : Kd.C (Kd.int .i64) w A0 l0.length l0) (hc0 : l0.length ≤ c0) (hw0 : (l0.length ≤ maxLen ∧ ∀ y ∈ l0, (Lit.int .i64 y).wf = true)) (hw1 : (Lit.int .i64 a1_0).wf = true) (hw2 : (Lit.int .i64 a1_1).wf = true) (hw3 : (Lit.int .i64 a1_2).wf = true) :
  Calls Try.prog 8 #[.slice A0 l0.length c0, .agg #[.int .i64 a1_0, .int .i64 a1_1, .int .i64 a1_2]] w fun e w' => e = .returned (.bool true) ∧ Below w.heap.size w w' := by
 obtain ⟨k, h⟩ := P l0 a1_0 a1_1 a1_2 hw0 hw1 hw2 hw3
 refine (laws_FnExactLightestForce.calls k _ _ l0 a1_0 a1_1 a1_2 true w hr0 hc0 h).mono ?_
 rintro e w' ⟨rfl, hd⟩
 exact ⟨rfl, hd⟩

end Go.Proofs.Ytcgfedaoimhejaa.G

namespace Go.Proofs.Ytcgfedaoimhejaa.G
open Go.RowKit Go.Proofs.YtcgfedaoimhejaaW.PrintWords Go.Proofs.YtcgfedaoimhejaaW.PrintLast
set_option linter.unusedVariables false
set_option linter.unusedSimpArgs false
theorem to_I (xs : List Int) (h : (xs.length : Int) ≤ 1048576) : Ev (fun k => laws_toIntS.f k xs) xs := by
  unfold laws_toIntS.f
  simp (disch := omega) only [if_pos]
  simp only [Int.toNat_natCast]
  have := Ev.fill (fun k out i => laws_toIntS.l0 k xs out i) xs (fun x => x) (0 : Int) (0 : Int) (by
    intro out
    refine Ev.step (fun k => by rw [laws_toIntS.l0]) ?_
    simp only [Int.lt_irrefl, if_false]
    exact Ev.now _) (by
    intro out i hl h0 hlt r hr
    refine Ev.step (fun k => by rw [laws_toIntS.l0]) ?_
    simp (disch := omega) only [wrap64_id, if_pos, Option.bind_some, hl]
    exact hr)
  rwa [List.map_id'] at this
theorem eq_I (xs : List Int) (h : (xs.length : Int) ≤ 1048576) : Ev (fun k => laws_eqIntS.f k xs xs) true := by
  unfold laws_eqIntS.f
  simp only [if_true]
  refine Ev.upc (fun k i => laws_eqIntS.l0 k xs xs i) true (xs.length : Int) 0 ?_ ?_ 0 (by omega) (by omega)
  · refine Ev.step (fun k => by rw [laws_eqIntS.l0]) ?_
    simp only [Int.lt_irrefl, if_false]
    exact Ev.now _
  · intro i h0 hlt hr
    refine Ev.step (fun k => by rw [laws_eqIntS.l0]) ?_
    simp (disch := omega) only [wrap64_id, if_pos, Option.bind_some, if_true]
    exact hr
end Go.Proofs.Ytcgfedaoimhejaa.G

namespace Go.Proofs.Ytcgfedaoimhejaa.G
open Go.RowKit Go.Proofs.YtcgfedaoimhejaaW.PrintWords Go.Proofs.YtcgfedaoimhejaaW.PrintLast
set_option linter.unusedVariables false
set_option linter.unusedSimpArgs false
theorem mark_I (xs : List Int) (h : (xs.length : Int) ≤ 1048576) (s : Int) (s0 : 0 ≤ s) (s1 : s ≤ 1099511627776) : ∃ ys, Ev (fun k => laws_markIntS.f k xs s) (s + 1 * (xs.length : Int), ys) ∧ Ev (fun k => laws_heldIntS.f k ys s) (s + 1 * (xs.length : Int)) ∧ (ys.length : Int) = (xs.length : Int) := by
  obtain ⟨ys, h1, h2, h3⟩ := Ev.markFrom (fun k xs c i => laws_markIntS.l0 k xs c i) (xs.length : Int) 1 s (fun i => s + 1 * i) (0 : Int) (by
      intro ys c hl
      refine Ev.step (fun k => by rw [laws_markIntS.l0]) ?_
      simp only [hl, Int.lt_irrefl, if_false]
      exact Ev.now _) (by
      intro ys c i hl h0 hlt hc r hr
      refine Ev.step (fun k => by rw [laws_markIntS.l0]) ?_
      have e0 : wrap64 (c + 1) = c + 1 := by rw [wrap64_id (by omega) (by omega)]
      have e9 : wrap64 (i + 1) = i + 1 := wrap64_id (by omega) (by omega)
      simp only [hl, if_pos hlt, if_pos h0, Option.bind_some, e0, e9, getD_set _ _ _ _ _ (show i.toNat < ys.length by omega), List.length_set, if_true, List.set_set]
      rw [hc] at hr ⊢
      exact hr) xs rfl
  refine ⟨ys, h1, ?_, h2⟩
  refine Ev.up (fun k (c : Int) i => laws_heldIntS.l0 k ys c i) (fun _ _ => s + 1 * (xs.length : Int)) (fun c i => 0 ≤ i ∧ c = s + 1 * i) (xs.length : Int) ?_ ?_ s 0 ⟨by omega, by omega⟩ (by omega)
  · rintro c ⟨_, rfl⟩
    refine Ev.step (fun k => by rw [laws_heldIntS.l0]) ?_
    simp only [h2, Int.lt_irrefl, if_false]
    exact Ev.now _
  · rintro c i ⟨h0, hc⟩ hlt ih
    refine Ev.step (fun k => by rw [laws_heldIntS.l0]) ?_
    have e0 : wrap64 (c + 1) = c + 1 := by rw [wrap64_id (by omega) (by omega)]
    have e9 : wrap64 (i + 1) = i + 1 := wrap64_id (by omega) (by omega)
    simp only [h2, if_pos hlt, if_pos h0, e0, e9, rd, h3 i h0 hlt, ← hc, if_true]
    exact ih _ ⟨by omega, by omega⟩
end Go.Proofs.Ytcgfedaoimhejaa.G

namespace Go.Proofs.Ytcgfedaoimhejaa.G
open Go.RowKit Go.Proofs.YtcgfedaoimhejaaW.PrintWords Go.Proofs.YtcgfedaoimhejaaW.PrintLast
set_option linter.unusedVariables false
set_option linter.unusedSimpArgs false
theorem own_some (l : List Int) (h : (l.length : Int) ≤ 1048576) : spec_l1Own.f l = some l := by
  unfold spec_l1Own.f
  simp only [Option.bind_some, List.length_nil, List.nil_append]
  rw [if_pos (by omega)]
theorem ordIn_len (f : List Int → List (List Int)) (jobs : List Int) (B : Nat) (hf : ∀ l, (f l).length ≤ B) : ∀ (r : Nat) (i : Int), (ordIn f jobs r i).length ≤ r * B := by
  intro r
  induction r with
  | zero => intro i; unfold ordIn; simp
  | succ r ih =>
    intro i
    unfold ordIn
    rw [List.length_append, Nat.succ_mul]
    have h1 := ih (i + 1)
    by_cases hh : Has jobs i
    · rw [chk_pos hh]; simp only [List.length_nil]; omega
    · rw [chk_neg hh]; have := hf (jobs ++ [i]); omega
theorem ords_len {n : Nat} (hn : n ≤ 4) : ∀ (d : Nat) (jobs : List Int), (ords n d jobs).length ≤ 4 ^ d := by
  intro d
  induction d with
  | zero => intro jobs; unfold ords; simp
  | succ d ih =>
    intro jobs
    unfold ords
    have h1 := ordIn_len (ords n d) jobs (4 ^ d) ih n 0
    have h2 : n * 4 ^ d ≤ 4 * 4 ^ d := Nat.mul_le_mul_right _ hn
    rw [Nat.pow_succ]
    omega
def UsedOk (used : List Bool) (jobs : List Int) (n : Nat) : Prop := used.length = n ∧ ∀ i : Int, 0 ≤ i → i < (n : Int) → (rdOf false used i = true ↔ Has jobs i)
theorem used_set {used : List Bool} {jobs : List Int} {n : Nat} (h : UsedOk used jobs n) (i : Int) (i0 : 0 ≤ i) (i1 : i < (n : Int)) : UsedOk ((([] : List Bool) ++ used).set i.toNat true) (jobs ++ [i]) n := by
  refine ⟨by rw [List.length_set, List.nil_append]; exact h.1, fun j j0 j1 => ?_⟩
  have hl := h.1
  rw [List.nil_append]
  unfold rdOf
  rw [getD_set _ _ _ _ _ (by omega), has_mem, List.mem_append, List.mem_singleton, ← has_mem]
  by_cases e : j = i
  · rw [if_pos (by omega)]
    exact ⟨fun _ => .inr e, fun _ => rfl⟩
  · rw [if_neg (by omega)]
    have := h.2 j j0 j1
    unfold rdOf at this
    rw [this]
    exact ⟨fun m => .inl m, fun m => m.elim id (fun m => absurd m e)⟩
theorem spec_orders {xs : List Int} (hn : xs.length ≤ 4) : ∀ (d : Nat) (jobs : List Int) (used : List Bool), jobs.length + d = xs.length → UsedOk used jobs xs.length → Ev (fun k => spec_l12Orders.f k xs used (jobs.map (rd xs))) ((ords xs.length d jobs).map (List.map (rd xs))) := by
  intro d
  induction d with
  | zero =>
    intro jobs used hd hu
    refine Ev.step (fun k => by rw [spec_l12Orders.f]) ?_
    simp only [if_pos (show ((jobs.map (rd xs)).length : Int) = (xs.length : Int) by rw [List.length_map]; omega)]
    exact Ev.now _
  | succ d ih =>
    intro jobs used hd hu
    have hul := hu.1
    have main : ∀ (r : Nat) (i : Int) (acc : List (List Int)), 0 ≤ i → i + r = (xs.length : Int) → (acc.length : Int) ≤ 256 * i → Ev (fun k => spec_l12Orders.l0 k xs used (jobs.map (rd xs)) acc i) (acc ++ (ordIn (ords xs.length d) jobs r i).map (List.map (rd xs))) := by
      intro r
      induction r with
      | zero =>
        intro i acc i0 hi ha
        refine Ev.step (fun k => by rw [spec_l12Orders.l0]) ?_
        simp (disch := omega) only [if_neg]
        unfold ordIn
        rw [List.map_nil, List.append_nil]
        exact Ev.now _
      | succ r ihr =>
        intro i acc i0 hi ha
        have hlt : i < (xs.length : Int) := by omega
        have hu1 := hu.2 i i0 hlt
        refine Ev.step (fun k => by rw [spec_l12Orders.l0]) ?_
        simp only [if_pos hlt, if_pos i0, if_pos (show i < (used.length : Int) by omega)]
        rw [wrap64_id (x := i + 1) (by omega) (by omega)]
        unfold ordIn
        by_cases hh : Has jobs i
        · simp only [if_pos (hu1.2 hh)]
          rw [chk_pos hh, List.nil_append]
          exact ihr (i + 1) acc (by omega) (by omega) (by omega)
        · simp only [if_neg (fun h => hh (hu1.1 h)), Option.bind_some]
          rw [chk_neg hh, own_some _ (by rw [List.length_map]; omega)]
          have h1 : ([] : List Bool).length + used.length < 140737488355328 := by simp only [List.length_nil]; omega
          have h2 : i < (((([] : List Bool) ++ used)).length : Int) := by rw [List.nil_append]; omega
          have h3 : (jobs.map (rd xs)).length + [rd xs i].length < 17592186044416 := by rw [List.length_map]; simp only [List.length_cons, List.length_nil]; omega
          simp only [if_pos h1, if_pos h2, Option.bind_some, if_pos h3]
          have e : jobs.map (rd xs) ++ [rd xs i] = (jobs ++ [i]).map (rd xs) := by rw [List.map_append]; rfl
          rw [e]
          refine Ev.bind (ih (jobs ++ [i]) _ (by simp; omega) (used_set hu i i0 hlt)) ?_
          have hB : ((ords xs.length d (jobs ++ [i])).map (List.map (rd xs))).length ≤ 256 := by
            rw [List.length_map]
            exact Nat.le_trans (ords_len hn d _) (Nat.pow_le_pow_right (n := 4) (by decide) (show d ≤ 4 by omega))
          simp only [if_pos (show acc.length + ((ords xs.length d (jobs ++ [i])).map (List.map (rd xs))).length < 5864062014805 by omega)]
          rw [List.map_append, ← List.append_assoc]
          exact ihr (i + 1) _ (by omega) (by omega) (by rw [List.length_append]; omega)
    refine Ev.step (fun k => by rw [spec_l12Orders.f]) ?_
    simp only [if_neg (show ¬ (((jobs.map (rd xs)).length : Int) = (xs.length : Int)) by rw [List.length_map]; omega)]
    have := main xs.length 0 [] (by omega) (by omega) (by simp)
    rw [List.nil_append] at this
    exact this
theorem rdL_get (ls : List (List Int)) (i : Int) (i0 : 0 ≤ i) (h : i < (ls.length : Int)) : rd_L1 ls i = ls[i.toNat]'(by omega) := by
  unfold rd_L1
  rw [List.getD_eq_getElem?_getD, List.getElem?_eq_getElem (show i.toNat < ls.length by omega)]
  rfl
/-- The state while lists are held against the best: none so far, or a list of n numbers. -/
def LightS (n : Nat) (s : List Int × Int) : Prop := s.2 < 0 ∨ s.1.length = n
theorem light_loop {n : Nat} (hn : n ≤ 4) {L T S : Int} (hT : 0 ≤ T ∧ T ≤ 100) (ls : List (List Int)) (hls : ∀ l ∈ ls, Col l ∧ l.length = n) (hl : (ls.length : Int) ≤ 1000) : ∀ (d : Nat) (i : Int) (s : List Int × Int), 0 ≤ i → i + d = (ls.length : Int) → LightS n s →
    Ev (fun k => spec_LightestForce.l0 k ls s.1 s.2 i L T S) (((ls.drop i.toNat).foldl (stepL T) s).1, ((ls.drop i.toNat).foldl (stepL T) s).2, true) := by
  intro d
  induction d with
  | zero =>
    intro i s i0 hi hs
    refine Ev.step (fun k => by rw [spec_LightestForce.l0]) ?_
    simp (disch := omega) only [if_neg]
    rw [List.drop_of_length_le (by omega)]
    exact Ev.now _
  | succ d ih =>
    intro i s i0 hi hs
    have hlt : i < (ls.length : Int) := by omega
    have hm : rd_L1 ls i ∈ ls := by rw [rdL_get ls i i0 hlt]; exact List.getElem_mem _
    have hc := hls _ hm
    have ed : ls.drop i.toNat = rd_L1 ls i :: ls.drop (i + 1).toNat := by
      rw [rdL_get ls i i0 hlt, show (i + 1).toNat = i.toNat + 1 from by omega]
      exact List.drop_eq_getElem_cons (by omega)
    rw [ed, List.foldl_cons]
    refine Ev.step (fun k => by rw [spec_LightestForce.l0]) ?_
    simp only [if_pos hlt, if_pos i0]
    generalize rd_L1 ls i = l at hc ⊢
    refine Ev.bind (spec_forces T hc.1 hT) (Ev.bind (spec_forceSum hc.1 hT) ?_)
    rw [wrap64_id (x := i + 1) (by omega) (by omega)]
    have yes : s.2 < 0 ∨ forceSum l T < s.2 ∨ (forceSum l T = s.2 ∧ cmpR l s.1 < 0) → stepL T s l = (l, forceSum l T) := fun h => if_pos h
    have no : ¬ (s.2 < 0 ∨ forceSum l T < s.2 ∨ (forceSum l T = s.2 ∧ cmpR l s.1 < 0)) → stepL T s l = s := fun h => if_neg h
    have new : LightS n (l, forceSum l T) := .inr hc.2
    refine Ev.ite (fun g1 => ?_) (fun g1 => ?_)
    · rw [yes (.inl g1)]; exact ih (i + 1) _ (by omega) (by omega) new
    · refine Ev.ite (fun g2 => ?_) (fun g2 => ?_)
      · rw [yes (.inr (.inl g2))]; exact ih (i + 1) _ (by omega) (by omega) new
      · refine Ev.ite (fun g3 => ?_) (fun g3 => ?_)
        · have hb : s.1.length = n := hs.elim (fun h => absurd h g1) id
          obtain ⟨t, ht, hi3⟩ := (cmpR_ok l s.1 (by omega)).2 (by omega)
          refine Ev.bind ht ?_
          refine Ev.ite (fun g4 => ?_) (fun g4 => ?_)
          · rw [yes (.inr (.inr ⟨g3, hi3.2 g4⟩))]; exact ih (i + 1) _ (by omega) (by omega) new
          · rw [no (fun h => by rcases h with h | h | h; exact g1 h; exact g2 h; exact g4 (hi3.1 h.2))]; exact ih (i + 1) _ (by omega) (by omega) hs
        · rw [no (fun h => by rcases h with h | h | h; exact g1 h; exact g2 h; exact g3 h.1)]; exact ih (i + 1) _ (by omega) (by omega) hs
theorem foldL_map (xs : List Int) (T : Int) : ∀ (ls : List (List Int)) (s : List Int × Int), (ls.map (List.map (rd xs))).foldl (stepL T) s = ls.foldl (fun s o => stepL T s (o.map (rd xs))) s := by
  intro ls
  induction ls with
  | nil => intro s; rfl
  | cons o ls ih => intro s; exact ih _
noncomputable def lightR (l : List Int) (L T S : Int) : List Int × Int × Bool := chk (Lashed l L T S) ((foldL l T).1, (foldL l T).2, true) ([], 0, false)
theorem impl_lightR (l : List Int) (L T S : Int) : impl_LightestForce.f l L T S = some (lightR l L T S) := rfl
/-- What the lightest is: an order of the column's, and no order is lighter. -/
theorem foldL_inv {xs : List Int} (hc : Col xs) {T : Int} (hT : 0 ≤ T ∧ T ≤ 100) : (∃ o, OrdOk o xs.length ∧ foldL xs T = (o.map (rd xs), forceSum (o.map (rd xs)) T)) ∧ ∀ o, OrdOk o xs.length → (foldL xs T).2 ≤ forceSum (o.map (rd xs)) T := by
  have key : ∀ (ls : List (List Int)), (∀ o ∈ ls, OrdOk o xs.length) → ∀ s : List Int × Int, (s = ([], -1) ∨ ∃ o, OrdOk o xs.length ∧ s = (o.map (rd xs), forceSum (o.map (rd xs)) T)) →
      ((ls.foldl (fun s o => stepL T s (o.map (rd xs))) s = ([], -1) ∧ ls = [] ∨ ∃ o, OrdOk o xs.length ∧ ls.foldl (fun s o => stepL T s (o.map (rd xs))) s = (o.map (rd xs), forceSum (o.map (rd xs)) T)) ∧
        (0 ≤ s.2 → 0 ≤ (ls.foldl (fun s o => stepL T s (o.map (rd xs))) s).2 ∧ (ls.foldl (fun s o => stepL T s (o.map (rd xs))) s).2 ≤ s.2) ∧ ∀ o ∈ ls, 0 ≤ (ls.foldl (fun s o => stepL T s (o.map (rd xs))) s).2 ∧ (ls.foldl (fun s o => stepL T s (o.map (rd xs))) s).2 ≤ forceSum (o.map (rd xs)) T) := by
    intro ls
    induction ls with
    | nil =>
      intro _ s h
      refine ⟨?_, fun e => ⟨e, Int.le_refl _⟩, fun o ho => by cases ho⟩
      rcases h with h | h
      · exact .inl ⟨h, rfl⟩
      · exact .inr h
    | cons o ls ih =>
      intro hP s h
      rw [List.foldl_cons]
      have hp := hP o List.mem_cons_self
      have hf := forceSum_nonneg (ord_col hc hp) hT
      by_cases g : s.2 < 0 ∨ forceSum (o.map (rd xs)) T < s.2 ∨ (forceSum (o.map (rd xs)) T = s.2 ∧ cmpR (o.map (rd xs)) s.1 < 0)
      · rw [show stepL T s (o.map (rd xs)) = (o.map (rd xs), forceSum (o.map (rd xs)) T) from if_pos g]
        obtain ⟨a, b, c⟩ := ih (fun o ho => hP o (List.mem_cons_of_mem _ ho)) _ (.inr ⟨o, hp, rfl⟩)
        have b' := b hf
        dsimp only at b'
        refine ⟨?_, fun e => ⟨b'.1, by omega⟩, fun o' ho' => ?_⟩
        · rcases a with ⟨a, rfl⟩ | a
          · exact .inr ⟨o, hp, rfl⟩
          · exact .inr a
        · rcases List.mem_cons.1 ho' with rfl | h2
          · exact b'
          · exact c o' h2
      · rw [show stepL T s (o.map (rd xs)) = s from if_neg g]
        have hs0 : 0 ≤ s.2 := by omega
        have hs1 : ∃ o, OrdOk o xs.length ∧ s = (o.map (rd xs), forceSum (o.map (rd xs)) T) := h.elim (fun e => by rw [e] at hs0; exact absurd hs0 (by decide)) id
        obtain ⟨a, b, c⟩ := ih (fun o ho => hP o (List.mem_cons_of_mem _ ho)) s h
        have b' := b hs0
        refine ⟨?_, fun e => b', fun o' ho' => ?_⟩
        · rcases a with ⟨a, rfl⟩ | a
          · exact .inr hs1
          · exact .inr a
        · rcases List.mem_cons.1 ho' with rfl | h2
          · exact ⟨b'.1, by omega⟩
          · exact c o' h2
  have h := key (ords xs.length xs.length []) (fun o ho => (ords_all o).1 ho) ([], -1) (.inl rfl)
  refine ⟨?_, fun o ho => (h.2.2 o ((ords_all o).2 ho)).2⟩
  rcases h.1 with ⟨_, e⟩ | h
  · exfalso
    have hid : OrdOk ((List.range xs.length).map (fun (i : Nat) => (i : Int))) xs.length := by
      refine ⟨by simp, ?_, fun y hy => ?_⟩
      · rw [List.nodup_iff_pairwise_ne, List.pairwise_map]
        exact List.nodup_range.imp (fun h e => h (by omega))
      · obtain ⟨i, hi, rfl⟩ := List.mem_map.1 hy
        have := List.mem_range.1 hi
        omega
    have := (ords_all _).2 hid
    rw [e] at this
    cases this
  · exact h
theorem lightR_len (l : List Int) (L T S : Int) : ((lightR l L T S).1.length : Int) ≤ 4 := by
  unfold lightR
  by_cases h : Lashed l L T S
  · rw [chk_pos h]
    obtain ⟨o, ho, e⟩ := (foldL_inv h.1 h.2.2.1).1
    rw [e]
    show ((o.map (rd l)).length : Int) ≤ 4
    rw [List.length_map, ho.1]
    exact h.1.1
  · rw [chk_neg h]; decide
theorem spec_lightR (l : List Int) (hl : (l.length : Int) ≤ 1099511627776) (L T S : Int) : Ev (fun k => spec_LightestForce.f k l L T S) (lightR l L T S) := by
  have no : ¬ Lashed l L T S → Ev (fun k => spec_LightestForce.j0 k l true L T S) (lightR l L T S) := by
    intro h
    unfold lightR
    rw [chk_neg h]
    refine Ev.step (fun k => by rw [spec_LightestForce.j0]) ?_
    simp only [if_true]
    exact Ev.now _
  unfold spec_LightestForce.f
  refine Ev.bind (spec_col l hl) ?_
  by_cases hc : Col l
  · rw [chk_pos hc]
    simp only [if_true, spec_rules, Option.bind_some]
    by_cases hr : Rules L T S
    · rw [chk_pos hr]
      unfold lightR
      rw [chk_pos ⟨hc, hr⟩]
      refine Ev.step (fun k => by rw [spec_LightestForce.j0]) ?_
      have h4 := hc.1
      simp (disch := omega) only [Bool.not_true, Bool.false_eq_true, if_false, if_pos]
      have hu : UsedOk (List.replicate ((l.length : Int) : Int).toNat false) [] l.length := by
        refine ⟨by rw [List.length_replicate]; omega, fun i i0 i1 => ?_⟩
        unfold rdOf
        rw [List.getD_eq_getElem?_getD, List.getElem?_replicate, if_pos (by omega), has_iff]
        exact ⟨(fun h => by cases h), fun ⟨j, a, b, _⟩ => by simp at b; omega⟩
      have ho := spec_orders (xs := l) (by omega) l.length [] _ (by simp) hu
      rw [List.map_nil] at ho
      refine Ev.bind ho ?_
      have hB : ((ords l.length l.length []).map (List.map (rd l))).length ≤ 256 := by
        rw [List.length_map]
        exact Nat.le_trans (ords_len (by omega) _ _) (Nat.pow_le_pow_right (n := 4) (by decide) (show l.length ≤ 4 by omega))
      have := light_loop (n := l.length) (by omega) (L := L) (S := S) hr.2.1 ((ords l.length l.length []).map (List.map (rd l))) (fun x hx => by
        obtain ⟨o, ho, rfl⟩ := List.mem_map.1 hx
        have := (ords_all o).1 ho
        exact ⟨ord_col hc this, by rw [List.length_map]; exact this.1⟩) (by omega) _ 0 ([], -1) (by omega) (Int.zero_add _) (.inl (by decide))
      rw [show (0 : Int).toNat = 0 from rfl, List.drop_zero, foldL_map] at this
      exact this
    · rw [chk_neg hr]
      exact no (fun m => hr m.2)
  · rw [chk_neg hc]
    simp only [Bool.false_eq_true, if_false]
    exact no (fun m => hc m.1)
end Go.Proofs.Ytcgfedaoimhejaa.G

/- FnExactLightestForce: the program's LightestForce returns what the reference's returns, for all arguments whose list has at most 2^20 elements (else the statement is true at once). -/
namespace Go.Proofs.Ytcgfedaoimhejaa.Pure
open Go.RowKit Go.Proofs.Ytcgfedaoimhejaa.G Go.Proofs.YtcgfedaoimhejaaW.PrintWords Go.Proofs.YtcgfedaoimhejaaW.PrintLast
set_option linter.unusedVariables false
set_option linter.unusedSimpArgs false
set_option maxHeartbeats 2000000 in
theorem FnExactLightestForce : laws_FnExactLightestForce.Pure := by
  intro l0 a b c h0 w1 w2 w3
  refine Ev.rounds (g := fun k => laws_FnExactLightestForce.f k l0 a b c) (r := true) ?_
  unfold laws_FnExactLightestForce.f
  refine Ev.ite (fun _ => Ev.now _) (fun g0 => ?_)
  obtain ⟨x0, m0, _, _⟩ := mark_I l0 (by omega) 1 (by omega) (by omega)
  have ln := lightR_len l0 a b c
  have hs := spec_lightR l0 (by omega) a b c
  have hI := impl_lightR l0 a b c
  generalize lightR l0 a b c = r at hs ln hI
  obtain ⟨xr, mr, hr, _⟩ := mark_I r.1 (Int.le_trans ln (by decide)) 1 (by omega) (by omega)
  simp only [laws_toLashRules.f, Option.bind_some]
  repeat' (first
    | with_reducible exact Ev.now _
    | (with_reducible refine Ev.bind (to_I l0 (by omega)) ?_)
    | (with_reducible refine Ev.bind (hs) ?_)
    | (with_reducible refine Ev.bind (eq_I l0 (by omega)) ?_)
    | (with_reducible refine Ev.bind (eq_I r.1 (Int.le_trans ln (by decide))) ?_)
    | (with_reducible refine Ev.bind (m0) ?_)
    | (with_reducible refine Ev.bind (mr) ?_)
    | (with_reducible refine Ev.bind (hr) ?_)
    | simp only [hI, laws_toLashRules.f, if_true, bne_self_eq_false, Bool.false_eq_true, if_false, Option.bind_some]
    | (simp (disch := omega) only [if_neg])
    | refine Ev.step (fun k => by rw [laws_FnExactLightestForce.j0]) ?_
    | refine Ev.step (fun k => by rw [laws_FnExactLightestForce.j1]) ?_
    | refine Ev.step (fun k => by rw [laws_FnExactLightestForce.j2]) ?_)
end Go.Proofs.Ytcgfedaoimhejaa.Pure

-- Written by wip/tools/gen.py out of the translation (the kit's printer, one namespace a seat). Lean checks it.
namespace Go.Proofs.Ytcgfedaoimhejaa.G
open Go.RowKit Go.ChangeShapes Go.WideShapes Go.Deep Go.Proofs.YtcgfedaoimhejaaW.PrintWords Go.Proofs.YtcgfedaoimhejaaW.PrintLast
set_option linter.unusedVariables false
/-! Opening the arguments of a law: whatever reads as data of type t reads as a value of kind d, within what its type allows. -/
def Opens {α : Type} (P : Program) (t : TypeId) (d : Kd α) (Wf : α → Prop) : Prop :=
  ∀ {H : Type} {enc : TypeId × Value → H} {W : World} {spare : Nat → Bool} {held : Bool} {fuel : Nat} {cs : List Value} {x : DataW H × List MemPlace},
    DataW.trod enc P W 0 spare held fuel t cs = some x → ∃ a, d.K W a cs ∧ Wf a
theorem opens_int {P : Program} {t : TypeId} {k : IntKind} (ht : P.underlying t = some (.int k)) : Opens P t (Kd.int k) (fun x => (Lit.int k x).wf = true) := by
  intro H enc W spare held fuel cs x h
  obtain ⟨n, rfl, _, hw⟩ := DataW.trod_int ht h
  exact ⟨n, rfl, hw⟩
theorem opens_row {α : Type} {d : Kd α} {Wf : α → Prop} {W : World} (Q : Nat → List Value → Prop) (hq : ∀ i cs, Q i cs → ∃ a, d.K W a cs ∧ Wf a) (n : Nat) (h : ∀ i, i < n → ∃ cs, Q i cs) :
    ∃ xs : List α, xs.length = n ∧ (∀ y ∈ xs, Wf y) ∧ ∀ j p, xs[j]? = some p → ∃ cs, Q j cs ∧ d.K W p cs := by
  induction n with
  | zero => exact ⟨[], rfl, fun y hy => by simp at hy, fun j p hp => by simp at hp⟩
  | succ n ih =>
    obtain ⟨xs, hl, hw, hx⟩ := ih (fun i hi => h i (by omega))
    obtain ⟨cs, hcs⟩ := h n (by omega)
    obtain ⟨a, ha, hwa⟩ := hq n cs hcs
    refine ⟨xs ++ [a], by simp [hl], fun y hy => ?_, fun j p hp => ?_⟩
    · rcases List.mem_append.1 hy with hy | hy
      · exact hw y hy
      · rw [List.mem_singleton.1 hy]; exact hwa
    · rcases Nat.lt_or_ge j xs.length with hj | hj
      · rw [List.getElem?_append_left hj] at hp
        exact hx j p hp
      · rw [List.getElem?_append_right hj] at hp
        have h0 : j - xs.length = 0 := by
          rcases Nat.eq_zero_or_pos (j - xs.length) with h0 | h0
          · exact h0
          · rw [List.getElem?_eq_none (by simp; omega)] at hp; cases hp
        rw [h0] at hp
        simp at hp
        subst hp
        have : j = n := by omega
        subst this
        exact ⟨cs, hcs, ha⟩
theorem opens_slice {α : Type} {P : Program} {t e : TypeId} {d : Kd α} {Wf : α → Prop} (ht : P.underlying t = some (.slice e)) (hC : P.cellsOf e = d.sz) (ho : Opens P e d Wf) :
    Opens P t (Kd.slice e d) (fun xs => xs.length ≤ maxLen ∧ ∀ y ∈ xs, Wf y) := by
  intro H enc W spare held fuel cs x h
  rcases open_slice ht h with ⟨rfl, _⟩ | ⟨a, len, cap, m, n, D, Pl, rfl, _, hl, hm, hmm, _, hi⟩
  · exact ⟨[], ⟨none, 0, rfl, Nat.le_refl _, rfl, by simp, fun h => by simp at h⟩, by simp [maxLen], fun y hy => by simp at hy⟩
  · have hml : len ≤ m := by rw [hmm]; split <;> omega
    obtain ⟨xs, hxl, hw, hx⟩ := opens_row (W := W) (d := d) (Wf := Wf) (fun i cs' => W.cells? 0 (a.add (i * P.cellsOf e)) (P.cellsOf e) = some cs' ∧ DataW.trod enc P W 0 spare held n e cs' = some (D i, Pl i))
      (fun i cs' hq => ho hq.2) len (fun i hi' => hi i (by omega))
    refine ⟨xs, ⟨some a, cap, by rw [hxl], by omega, rfl, ?_, fun _ => ⟨a, rfl, fun j p hj => ?_⟩⟩, by omega, hw⟩
    · simp only [maxLen] at hm
      omega
    · obtain ⟨cs', ⟨hc, _⟩, hK⟩ := hx j p hj
      obtain ⟨_, hcl, hat⟩ := World.cells?_some hc
      refine ⟨cs', d.K_len hK, hK, fun i u hu => ?_⟩
      have hil : i < cs'.length := (List.getElem?_eq_some_iff.1 hu).1
      have h1 := hat i (by omega)
      rw [hC] at h1
      rw [← Go.Deep.add_add, h1, hu]
theorem opens_iso {α β : Type} {P : Program} {t : TypeId} {d : Kd α} {Wf : α → Prop} {Wf' : β → Prop} {f : β → α} (ho : Opens P t d Wf) (g : α → β) (hg : ∀ a, f (g a) = a) (hw : ∀ a, Wf a → Wf' (g a)) : Opens P t (Kd.iso d f) Wf' := by
  intro H enc W spare held fuel cs x h
  obtain ⟨a, hK, hwa⟩ := ho h
  refine ⟨g a, ?_, hw a hwa⟩
  show d.K W (f (g a)) cs
  rw [hg]
  exact hK
section
variable {α β γ δ : Type} {P : Program} {t : TypeId} {f0 f1 f2 f3 : Field} {d0 : Kd α} {d1 : Kd β} {d2 : Kd γ} {d3 : Kd δ} {W0 : α → Prop} {W1 : β → Prop} {W2 : γ → Prop} {W3 : δ → Prop}
theorem opens_struct3 (ht : P.underlying t = some (.struct #[f0, f1, f2])) (hT : P.cellsOf t = d0.sz + (d1.sz + d2.sz)) (s0 : f0.offset = 0) (c0 : P.cellsOf f0.type = d0.sz) (s1 : f1.offset = d0.sz) (c1 : P.cellsOf f1.type = d1.sz)
    (s2 : f2.offset = d0.sz + d1.sz) (c2 : P.cellsOf f2.type = d2.sz) (o0 : Opens P f0.type d0 W0) (o1 : Opens P f1.type d1 W1) (o2 : Opens P f2.type d2 W2) : Opens P t (Kd.pair d0 (Kd.pair d1 d2)) (fun x => W0 x.1 ∧ W1 x.2.1 ∧ W2 x.2.2) := by
  intro H enc W spare held fuel cs x h
  obtain ⟨xs, n, _, _, hlen, hxl, hf⟩ := DataW.trod_struct ht h
  have h0 := hf 0 f0 rfl
  have h1 := hf 1 f1 rfl
  have h2 := hf 2 f2 rfl
  rw [List.getElem?_eq_getElem (show 0 < xs.length by rw [hxl]; simp), s0, c0, List.drop_zero] at h0
  rw [List.getElem?_eq_getElem (show 1 < xs.length by rw [hxl]; simp), s1, c1] at h1
  rw [List.getElem?_eq_getElem (show 2 < xs.length by rw [hxl]; simp), s2, c2, List.take_of_length_le (by simp; omega)] at h2
  obtain ⟨a, ka, wa⟩ := o0 h0
  obtain ⟨b, kb, wb⟩ := o1 h1
  obtain ⟨c, kc, wc⟩ := o2 h2
  refine ⟨(a, b, c), ⟨_, _, (List.take_append_drop d0.sz cs).symm, ka, ⟨_, _, (List.take_append_drop d1.sz (cs.drop d0.sz)).symm, kb, ?_⟩⟩, wa, wb, wc⟩
  rw [List.drop_drop]
  exact kc
end
theorem opens_arg {α : Type} {P : Program} {t e : TypeId} {d : Kd α} {Wf : List α → Prop} (ho : Opens P t (Kd.slice e d) Wf) {H : Type} {enc : TypeId × Value → H} {W : World} {spare : Nat → Bool} {held : Bool} {a : Option Addr} {len cap : Nat} {dd : DataW H} {p : List MemPlace}
    (h : DataW.Trod enc P W 0 spare held t (.slice a len cap) dd p) : ∃ l : List α, len = l.length ∧ l.length ≤ cap ∧ Kd.C d W a l.length l ∧ Wf l := by
  obtain ⟨fuel, hf⟩ := h
  obtain ⟨l, ⟨A, c, he, hl, hC⟩, hw⟩ := ho hf
  simp [Value.cells] at he
  obtain ⟨rfl, rfl, rfl⟩ := he
  exact ⟨l, rfl, hl, hC, hw⟩
theorem opens_agg {α : Type} {P : Program} {t : TypeId} {fs : Array Field} {d : Kd α} {Wf : α → Prop} (ht : P.underlying t = some (.struct fs)) (hT : P.cellsOf t = d.sz) (ho : Opens P t d Wf) {H : Type} {enc : TypeId × Value → H} {W : World} {r : Reach} {b0 : Nat} {spare : Nat → Bool} {held : Bool} {v : Value} {dd : DataW H} {p : List MemPlace}
    (hv : Value.okWide P W r b0 t v) (h : DataW.Trod enc P W 0 spare held t v dd p) : ∃ x : α, (∀ cs : List Value, v.cells.toList = cs → v = .agg cs.toArray) ∧ d.K W x v.cells.toList ∧ Wf x := by
  obtain ⟨cs, rfl, _⟩ := okWide_struct ht hv
  obtain ⟨fuel, hf⟩ := h
  obtain ⟨x, hK, hw⟩ := ho hf
  refine ⟨x, fun l hl => ?_, hK, hw⟩
  rw [← hl]
  simp [Value.cells]

set_option maxRecDepth 100000 in
theorem opens_T24 : Opens Try.prog 24 k24 W24 :=
  opens_iso (opens_struct3 Try.underlying24 (by kernel_rfl) rfl (by kernel_rfl) rfl (by kernel_rfl) rfl (by kernel_rfl) (opens_int Try.underlying3) (opens_int Try.underlying3) (opens_int Try.underlying3)) (fun p => ⟨p.1, p.2.1, p.2.2⟩) (fun _ => rfl) (fun _ h => h)
end Go.Proofs.Ytcgfedaoimhejaa.G
