/- The contract of bestDivision: of valid work and cranes, the first division whose greatest load is smallest, and this load. -/
import Derived.Test.YtibfchjpdplehaaCho
import Derived.Test.YtibfchjpdplehaaFnBest
import Derived.Test.YtibfchjpdplehaaMax
import Derived.Test.YtibfchjpdplehaaGx37
import Derived.Test.YtibfchjpdplehaaGx39
namespace Go.Proofs.Ytibfchjpdplehaa.G
open Go.RowKit Go.Proofs.YtibfchjpdplehaaW.PrintWords Go.Proofs.YtibfchjpdplehaaW.PrintLast
set_option linter.unusedVariables false
set_option linter.unusedSimpArgs false
theorem max_topN {xs : List Int} (hw : ∀ i : Int, 0 ≤ rd xs i) : ∀ d : Nat, 1 ≤ d → maxTo xs d = topTo xs d := by
  intro d
  induction d with
  | zero => intro h; omega
  | succ d ih =>
    intro _
    unfold maxTo topTo
    rcases Nat.eq_zero_or_pos d with rfl | hd
    · have o := hw 0
      show mx (rd xs 0) (rd xs 0) = mx 0 (rd xs 0)
      unfold mx
      split <;> split <;> omega
    · rw [ih hd]
theorem rd_out (xs : List Int) (i : Int) (h : (xs.length : Int) ≤ i) : rd xs i = 0 := by
  unfold rd
  rw [List.getD_eq_getElem?_getD, List.getElem?_eq_none (by omega)]
  rfl
theorem loads_nonneg {xs : List Int} {c : Int} {dv : List Int} (hd : DivOk xs c dv) : ∀ (d : Nat), d ≤ dv.length + 1 → ∀ i : Int, 0 ≤ i → 0 ≤ rd (loadsTo xs dv d) i := by
  intro d
  induction d with
  | zero => intro _ i _; rw [rd_out _ _ (by simp [loadsTo]; omega)]; exact Int.le_refl _
  | succ d ih =>
    intro hle i h0
    have hl := loadsTo_len xs dv d
    rw [loadsTo_succ]
    by_cases h : i < (d : Int)
    · rw [rd_left _ _ i h0 (by omega)]; exact ih (by omega) i h0
    · by_cases e : i = (d : Int)
      · have r := rd_last (loadsTo xs dv d) (loadAt xs dv d)
        rw [hl] at r
        rw [e, r]
        have b := range_bd hd (d : Int) (by omega) (by omega)
        exact (sumTo_bd hd.1.2.2 _ b.1 _ (by omega)).1
      · rw [rd_out _ _ (by rw [List.length_append, hl]; simp only [List.length_cons, List.length_nil]; omega)]; exact Int.le_refl _
theorem rd_neg (xs : List Int) (i : Int) (h : i < 0) : rd xs i = rd xs 0 := by
  unfold rd
  rw [show i.toNat = 0 from by omega]
  rfl
theorem max_loads {xs : List Int} {c : Int} {dv : List Int} (hd : DivOk xs c dv) : slices_Max_int_int.f (loadsTo xs dv (dv.length + 1)) = some (mostOf xs dv) := by
  have hl := loadsTo_len xs dv (dv.length + 1)
  have hn : ∀ i : Int, 0 ≤ rd (loadsTo xs dv (dv.length + 1)) i := fun i => by
    by_cases h : 0 ≤ i
    · exact loads_nonneg hd _ (Nat.le_refl _) i h
    · rw [rd_neg _ _ (by omega)]; exact loads_nonneg hd _ (Nat.le_refl _) 0 (Int.le_refl _)
  unfold slices_Max_int_int.f mostOf
  rw [if_pos (by omega), hl, max_topN hn _ (by omega)]
/-- How the best division and its load stand in their boxes; what was there at wc stays. -/
structure BestI (wc : World) (xs : List Int) (c : Int) (Aw : Option Addr) (cw : Nat) (Bw Bk Bl Bb : Nat) (ok : Nat → Prop) (w : World) (s : List Int × Int) : Prop where
  old : Below wc.heap.size wc w
  cw_ : w.cell? ⟨Bw, 0, none⟩ = some (.slice Aw xs.length cw)
  ck : w.cell? ⟨Bk, 0, none⟩ = some (.int .i64 c)
  bl : w.heap[Bl]? = some (.cells #[.int .i64 s.2] 3 (0, 0))
  bb : ∃ v, w.heap[Bb]? = some (.cells #[v] 22 (0, 0)) ∧ Kd.R (Kd.int .i64) 3 w wc.heap.size ok v s.1
/-- The boxes' places: below B, from wc on, and told apart. -/
structure Places (wc : World) (B Bw Bk Bl Bb : Nat) : Prop where
  b : wc.heap.size ≤ B
  w : Bw < B
  k : Bk < B
  l : wc.heap.size ≤ Bl ∧ Bl < B
  bb : wc.heap.size ≤ Bb ∧ Bb < B
  n1 : Bw ≠ Bl ∧ Bw ≠ Bb ∧ Bk ≠ Bl ∧ Bk ≠ Bb ∧ Bl ≠ Bb
theorem BestI.stay {wc : World} {xs : List Int} {c : Int} {Aw : Option Addr} {cw B Bw Bk Bl Bb : Nat} (hp : Places wc B Bw Bk Bl Bb) {ok : Nat → Prop} {w w' : World} {s : List Int × Int} {T : Nat → Prop} (h : BestI wc xs c Aw cw Bw Bk Bl Bb ok w s) (k : Keeps T w w') (hT : ∀ b, T b → B ≤ b ∧ ¬ ok b) : BestI wc xs c Aw cw Bw Bk Bl Bb ok w' s := by
  obtain ⟨p1, p2, p3, p4, p5, _⟩ := hp
  have no : ∀ b, b < B → ¬ T b := fun b hb ht => by have := (hT b ht).1; omega
  obtain ⟨v, hv, hr⟩ := h.bb
  exact ⟨⟨k.os.trans h.old.os, k.tape.trans h.old.tape, k.output.trans h.old.output, Nat.le_trans h.old.size k.size, fun i hi => (k.block i (Nat.lt_of_lt_of_le hi h.old.size) (no i (by omega))).trans (h.old.block i hi)⟩,
    k.cell h.cw_ (no _ p2), k.cell h.ck (no _ p3), (k.block _ (blk_lt h.bl) (no _ p4.2)).trans h.bl, v, (k.block _ (blk_lt hv) (no _ p5.2)).trans hv, Kd.R_step hr (fun b ho hl => k.block b hl (fun ht => (hT b ht).2 ho))⟩
theorem Keeps.of_set (w : World) (g i : Nat) (u : Value) : Keeps (fun k => k = g) w (w.setCell ⟨g, i, none⟩ u) := ⟨rfl, rfl, rfl, by simp [World.setCell], fun k hk hn => Below.heap_setCell w ⟨g, i, none⟩ u k hn⟩
theorem BestI.put {wc : World} {xs : List Int} {c : Int} {Aw : Option Addr} {cw B Bw Bk Bl Bb : Nat} (hp : Places wc B Bw Bk Bl Bb) {ok : Nat → Prop} {w : World} {s : List Int × Int} (h : BestI wc xs c Aw cw Bw Bk Bl Bb ok w s) {v : Value} {l : List Int} (hR : Kd.R (Kd.int .i64) 3 w B ok v l) (m : Int) :
    BestI wc xs c Aw cw Bw Bk Bl Bb ok ((w.setCell ⟨Bb, 0, none⟩ v).setCell ⟨Bl, 0, none⟩ (.int .i64 m)) (l, m) ∧ Keeps (fun k => k = Bl ∨ k = Bb) w ((w.setCell ⟨Bb, 0, none⟩ v).setCell ⟨Bl, 0, none⟩ (.int .i64 m)) := by
  obtain ⟨p1, p2, p3, p4, p5, q1, q2, q3, q4, q5⟩ := hp
  have k : Keeps (fun k => k = Bl ∨ k = Bb) w ((w.setCell ⟨Bb, 0, none⟩ v).setCell ⟨Bl, 0, none⟩ (.int .i64 m)) := ((Keeps.of_set w Bb 0 v).mono (fun _ _ h => .inr h)).trans ((Keeps.of_set _ Bl 0 _).mono (fun _ _ h => .inl h))
  obtain ⟨v0, hv, hr⟩ := h.bb
  refine ⟨⟨⟨k.os.trans h.old.os, k.tape.trans h.old.tape, k.output.trans h.old.output, Nat.le_trans h.old.size k.size, fun i hi => (k.block i (Nat.lt_of_lt_of_le hi h.old.size) (fun e => by omega)).trans (h.old.block i hi)⟩,
    k.cell h.cw_ (fun e => e.elim q1 q2), k.cell h.ck (fun e => e.elim q3 q4), ?_, v, ?_, ?_⟩, k⟩
  · exact blk_set ((Below.heap_setCell w ⟨Bb, 0, none⟩ v Bl q5).trans h.bl) 0 _
  · exact (Below.heap_setCell _ ⟨Bl, 0, none⟩ _ Bb (fun e => q5 e.symm)).trans (blk_set hv 0 v)
  · refine Kd.R_lower (Kd.R_mono (Kd.R_step (Kd.R_bound hR) (fun b hb hl => k.block b hl (fun e => by have := hb.2.1; omega))) (fun _ h => h.1)) p1
set_option maxHeartbeats 4000000 in
set_option maxRecDepth 100000 in
theorem best_call {wc : World} {xs : List Int} {c : Int} {Aw : Option Addr} {cw B Bw Bk Bl Bb : Nat} (hp : Places wc B Bw Bk Bl Bb) (hCw : Kd.C (Kd.int .i64) wc Aw xs.length xs) (hcw : xs.length ≤ cw) (ok : Nat → Prop) (w : World) (s : List Int × Int) (v : Value) (l : List Int) (hI : BestI wc xs c Aw cw Bw Bk Bl Bb ok w s) (hR : Kd.R (Kd.int .i64) 3 w B ok v l) :
    Calls Try.prog 74 (#[v] ++ #[.pointer (some ⟨Bw, 0, none⟩), .pointer (some ⟨Bk, 0, none⟩), .pointer (some ⟨Bl, 0, none⟩), .pointer (some ⟨Bb, 0, none⟩)]) w fun e w' => e = .returned (.tuple #[]) ∧ BestI wc xs c Aw cw Bw Bk Bl Bb ok w' (stepB xs c s l) ∧ Keeps (fun k => k = Bl ∨ k = Bb) w w' := by
  obtain ⟨A, c1, rfl⟩ := Kd.R_slice hR
  obtain ⟨best, least⟩ := s
  have hc1 : l.length ≤ c1 := (Kd.R_reads' hR).2.1
  obtain ⟨kd, hkd⟩ : ∃ k, impl_isDivision.f k xs c l = some (chk (DivOk xs c l) true false) := Ev.rounds (impl_div xs c l)
  have hw := hI.cw_
  have hk := hI.ck
  have HI := Aside0.mk hI
  have HR := Aside0.mk hR
  have HP := Aside0.mk hp
  have HCW := Aside0.mk (Kd.C_below hCw hI.old)
  have hz : w.cell? ⟨Bl, 0, none⟩ = some (.int .i64 least) := (blk_cell hI.bl 0).trans rfl
  have hz2 := blk_frozen hI.bl 0
  clear hI hR hp hCw
  show Calls Try.prog 74 #[.slice A l.length c1, .pointer (some ⟨Bw, 0, none⟩), .pointer (some ⟨Bk, 0, none⟩), .pointer (some ⟨Bl, 0, none⟩), .pointer (some ⟨Bb, 0, none⟩)] w _
  by_cases hD : DivOk xs c l
  · rw [chk_pos hD] at hkd
    have HD := Aside0.mk hD
    have HK := Aside0.mk hkd
    obtain ⟨kl, hkl⟩ : ∃ k, impl_loadsOf.f k xs l = some (loadsTo xs l (l.length + 1)) := Ev.rounds (impl_loads hD)
    have HL := Aside0.mk hkl
    clear hD hkd hkl
    obtain ⟨m, hm⟩ : ∃ m, mostOf xs l = m := ⟨_, rfl⟩
    have HM : Aside0 (slices_Max_int_int.f (loadsTo xs l (l.length + 1)) = some m) := Aside0.mk (by rw [← hm]; exact max_loads HD.out)
    have HSB : Aside0 (stepB xs c (best, least) l = better (best, least) (l, m)) := Aside0.mk (by unfold stepB; rw [chk_pos HD.out, hm])
    clear hm
    by_cases h0 : least < 0
    · have HS : Aside0 (stepB xs c (best, least) l = (l, m)) := Aside0.mk (by rw [HSB.out]; exact if_pos (.inl h0))
      go_enter Try.func74, Try.ntmps74
      go_wp2_with (first | (go_at_call 59; refine (impl_isDivision.calls kd Aw cw xs c A c1 l true _ HCW.out hcw (Kd.R_reads' HR.out).2.2 hc1 HK.out).mono ?_; rintro e w1 ⟨rfl, hd1⟩; have HB1 := Aside0.mk hd1.below; have hw1 := (Keeps.of_below (S := fun _ => False) hd1.below).cell hw (fun h => h); clear hd1) | (go_at_call 60; refine (impl_loadsOf.calls kl Aw cw xs A c1 l _ _ (Kd.C_below HCW.out HB1.out) hcw (Kd.C_below (Kd.R_reads' HR.out).2.2 HB1.out) hc1 HL.out).mono ?_; rintro e w2 ⟨vl, rfl, hRl, hBl⟩; obtain ⟨Al, cl, rfl⟩ := Kd.R_slice hRl; have HRL := Aside0.mk hRl; have HB2 := Aside0.mk (below_step HB1.out hBl); clear hRl hBl) | (go_at_call 46; refine (slices_Max_int_int.calls Al cl _ m _ (Kd.R_reads' HRL.out).2.2 (Kd.R_reads' HRL.out).2.1 HM.out).mono ?_; rintro e w3 ⟨rfl, hd3⟩; have HB3 := Aside0.mk (below_step HB2.out hd3.below); have HI3 := Aside0.mk (HI.out.stay HP.out (Keeps.of_below (S := fun _ => False) HB3.out) (fun _ h => h.elim)); have hz3 : w3.cell? ⟨Bl, 0, none⟩ = some (.int .i64 least) := (blk_cell HI3.out.bl 0).trans rfl; have hz4 := blk_frozen HI3.out.bl 0; obtain ⟨vb, hvb, _⟩ := HI3.out.bb; have hz5 : w3.cell? ⟨Bb, 0, none⟩ = some vb := (blk_cell hvb 0).trans rfl; have hz6 := blk_frozen hvb 0; have hz7 : (w3.setCell ⟨Bb, 0, none⟩ (.slice A l.length c1)).cell? ⟨Bl, 0, none⟩ = some (.int .i64 least) := (cell_far (p := ⟨Bb, 0, none⟩) HP.out.n1.2.2.2.2 _).trans hz3; have hz8 : (w3.setCell ⟨Bb, 0, none⟩ (.slice A l.length c1)).frozen? ⟨Bl, 0, none⟩ = false := blk_frozen ((Below.heap_setCell w3 ⟨Bb, 0, none⟩ (.slice A l.length c1) Bl HP.out.n1.2.2.2.2).trans HI3.out.bl) 0; clear hvb; clear hd3))
      go_end0
      have r := HI3.out.put HP.out (Kd.R_below HR.out HB3.out) m
      rw [HS.out]
      exact ⟨rfl, r.1, (Keeps.of_below HB3.out).trans r.2⟩
    · have h0' : 0 ≤ least := by omega
      by_cases h1 : m < least
      · have HS : Aside0 (stepB xs c (best, least) l = (l, m)) := Aside0.mk (by rw [HSB.out]; exact if_pos (.inr h1))
        go_enter Try.func74, Try.ntmps74
        go_wp2_with (first | (go_at_call 59; refine (impl_isDivision.calls kd Aw cw xs c A c1 l true _ HCW.out hcw (Kd.R_reads' HR.out).2.2 hc1 HK.out).mono ?_; rintro e w1 ⟨rfl, hd1⟩; have HB1 := Aside0.mk hd1.below; have hw1 := (Keeps.of_below (S := fun _ => False) hd1.below).cell hw (fun h => h); clear hd1) | (go_at_call 60; refine (impl_loadsOf.calls kl Aw cw xs A c1 l _ _ (Kd.C_below HCW.out HB1.out) hcw (Kd.C_below (Kd.R_reads' HR.out).2.2 HB1.out) hc1 HL.out).mono ?_; rintro e w2 ⟨vl, rfl, hRl, hBl⟩; obtain ⟨Al, cl, rfl⟩ := Kd.R_slice hRl; have HRL := Aside0.mk hRl; have HB2 := Aside0.mk (below_step HB1.out hBl); clear hRl hBl) | (go_at_call 46; refine (slices_Max_int_int.calls Al cl _ m _ (Kd.R_reads' HRL.out).2.2 (Kd.R_reads' HRL.out).2.1 HM.out).mono ?_; rintro e w3 ⟨rfl, hd3⟩; have HB3 := Aside0.mk (below_step HB2.out hd3.below); have HI3 := Aside0.mk (HI.out.stay HP.out (Keeps.of_below (S := fun _ => False) HB3.out) (fun _ h => h.elim)); have hz3 : w3.cell? ⟨Bl, 0, none⟩ = some (.int .i64 least) := (blk_cell HI3.out.bl 0).trans rfl; have hz4 := blk_frozen HI3.out.bl 0; obtain ⟨vb, hvb, _⟩ := HI3.out.bb; have hz5 : w3.cell? ⟨Bb, 0, none⟩ = some vb := (blk_cell hvb 0).trans rfl; have hz6 := blk_frozen hvb 0; have hz7 : (w3.setCell ⟨Bb, 0, none⟩ (.slice A l.length c1)).cell? ⟨Bl, 0, none⟩ = some (.int .i64 least) := (cell_far (p := ⟨Bb, 0, none⟩) HP.out.n1.2.2.2.2 _).trans hz3; have hz8 : (w3.setCell ⟨Bb, 0, none⟩ (.slice A l.length c1)).frozen? ⟨Bl, 0, none⟩ = false := blk_frozen ((Below.heap_setCell w3 ⟨Bb, 0, none⟩ (.slice A l.length c1) Bl HP.out.n1.2.2.2.2).trans HI3.out.bl) 0; clear hvb; clear hd3))
        go_end0
        have r := HI3.out.put HP.out (Kd.R_below HR.out HB3.out) m
        rw [HS.out]
        exact ⟨rfl, r.1, (Keeps.of_below HB3.out).trans r.2⟩
      · have HS : Aside0 (stepB xs c (best, least) l = (best, least)) := Aside0.mk (by rw [HSB.out]; exact if_neg (fun h => h.elim h0 h1))
        have h1' : least ≤ m := by omega
        go_enter Try.func74, Try.ntmps74
        go_wp2_with (first | (go_at_call 59; refine (impl_isDivision.calls kd Aw cw xs c A c1 l true _ HCW.out hcw (Kd.R_reads' HR.out).2.2 hc1 HK.out).mono ?_; rintro e w1 ⟨rfl, hd1⟩; have HB1 := Aside0.mk hd1.below; have hw1 := (Keeps.of_below (S := fun _ => False) hd1.below).cell hw (fun h => h); clear hd1) | (go_at_call 60; refine (impl_loadsOf.calls kl Aw cw xs A c1 l _ _ (Kd.C_below HCW.out HB1.out) hcw (Kd.C_below (Kd.R_reads' HR.out).2.2 HB1.out) hc1 HL.out).mono ?_; rintro e w2 ⟨vl, rfl, hRl, hBl⟩; obtain ⟨Al, cl, rfl⟩ := Kd.R_slice hRl; have HRL := Aside0.mk hRl; have HB2 := Aside0.mk (below_step HB1.out hBl); clear hRl hBl) | (go_at_call 46; refine (slices_Max_int_int.calls Al cl _ m _ (Kd.R_reads' HRL.out).2.2 (Kd.R_reads' HRL.out).2.1 HM.out).mono ?_; rintro e w3 ⟨rfl, hd3⟩; have HB3 := Aside0.mk (below_step HB2.out hd3.below); have HI3 := Aside0.mk (HI.out.stay HP.out (Keeps.of_below (S := fun _ => False) HB3.out) (fun _ h => h.elim)); have hz3 : w3.cell? ⟨Bl, 0, none⟩ = some (.int .i64 least) := (blk_cell HI3.out.bl 0).trans rfl; have hz4 := blk_frozen HI3.out.bl 0; clear hd3))
        go_end0
        rw [HS.out]
        exact ⟨rfl, HI3.out, Keeps.of_below HB3.out⟩
  · rw [chk_neg hD] at hkd
    have HK := Aside0.mk hkd
    have HS : Aside0 (stepB xs c (best, least) l = (best, least)) := Aside0.mk (by unfold stepB; exact chk_neg hD _ _)
    clear hD hkd
    go_enter Try.func74, Try.ntmps74
    go_wp2_with (go_at_call 59; refine (impl_isDivision.calls kd Aw cw xs c A c1 l false _ HCW.out hcw (Kd.R_reads' HR.out).2.2 hc1 HK.out).mono ?_; rintro e w1 ⟨rfl, hd⟩)
    refine bodyPost_ret (results_none rfl _ _ _) rfl ?_
    rw [HS.out]
    exact ⟨rfl, HI.out.stay HP.out (Keeps.of_below (S := fun _ => False) hd.below) (fun _ h => h.elim), Keeps.of_below hd.below⟩
theorem best_back {wc : World} {xs : List Int} {c : Int} {Aw : Option Addr} {cw B Bw Bk Bl Bb : Nat} (hp : Places wc B Bw Bk Bl Bb) (hCw : Kd.C (Kd.int .i64) wc Aw xs.length xs) (hcw : xs.length ≤ cw) :
    Back (σ := List Int × Int) 74 #[.pointer (some ⟨Bw, 0, none⟩), .pointer (some ⟨Bk, 0, none⟩), .pointer (some ⟨Bl, 0, none⟩), .pointer (some ⟨Bb, 0, none⟩)] (fun k => k = Bl ∨ k = Bb) B (BestI wc xs c Aw cw Bw Bk Bl Bb) (fun _ => True) (stepB xs c) where
  enters := fun args w => enters_ Try.func74 (by kernel_rfl) rfl args w
  call := fun ok w s v l hI _ hR => best_call hp hCw hcw ok w s v l hI hR
  stay := fun ok w w' s T hI k hT => hI.stay hp k hT
  mono := fun ok ok' w s hI h => by
    obtain ⟨v, hv, hr⟩ := hI.bb
    exact ⟨hI.old, hI.cw_, hI.ck, hI.bl, v, hv, Kd.R_mono (Kd.R_bound hr) (fun k hk => h k hk.2.2.1 hk.1)⟩
  low := fun k hk => hk.elim (fun e => by rw [e]; exact hp.l.2) (fun e => by rw [e]; exact hp.bb.2)
theorem best_boxes {w w1 w2 w3 w4 : World} {g1 g2 g3 g4 : Nat} (A0 : Option Addr) (c0 : Nat) (l0 : List Int) (n : Nat)
    (h1 : g1 = w.heap.size) (x1 : w1.heap[g1]? = some (.cells #[.slice A0 l0.length c0] 22 (0, 0))) (b1 : Below w.heap.size w w1)
    (h2 : g2 = w1.heap.size) (x2 : w2.heap[g2]? = some (.cells #[.int .i64 ((n : Int) + 1)] 3 (0, 0))) (b2 : Below w1.heap.size w1 w2)
    (h3 : g3 = w2.heap.size) (x3 : w3.heap[g3]? = some (.cells #[.slice none 0 0] 22 (0, 0))) (b3 : Below w2.heap.size w2 w3)
    (h4 : g4 = w3.heap.size) (x4 : w4.heap[g4]? = some (.cells #[.int .i64 0] 3 (0, 0))) (b4 : Below w3.heap.size w3 w4) :
    Places w (w4.setCell ⟨g4, 0, none⟩ (.int .i64 (-1))).heap.size g1 g2 g4 g3 ∧ BestI w l0 ((n : Int) + 1) A0 c0 g1 g2 g4 g3 (fun _ => True) (w4.setCell ⟨g4, 0, none⟩ (.int .i64 (-1))) ([], -1) ∧ Below w.heap.size w (w4.setCell ⟨g4, 0, none⟩ (.int .i64 (-1))) := by
  have s1 := b1.size
  have s2 := b2.size
  have s3 := b3.size
  have s4 := b4.size
  have l1 := blk_lt x1
  have l2 := blk_lt x2
  have l3 := blk_lt x3
  have l4 := blk_lt x4
  have hz : (w4.setCell ⟨g4, 0, none⟩ (.int .i64 (-1))).heap.size = w4.heap.size := by simp [World.setCell]
  have hB : Below w.heap.size w (w4.setCell ⟨g4, 0, none⟩ (.int .i64 (-1))) := Below.setCell (below_step b1 (below_step b2 (below_step b3 b4))) (by show w.heap.size ≤ g4; omega) _
  have y1 := blk_below (blk_below (blk_below x1 b2) b3) b4
  have y2 := blk_below (blk_below x2 b3) b4
  have y3 := blk_below x3 b4
  refine ⟨⟨by omega, by omega, by omega, by omega, by omega, by omega⟩, ⟨hB, ?_, ?_, blk_set x4 0 _, .slice none 0 0, ?_, Kd.R_nil _ _ _ _ _⟩, hB⟩
  · exact (cell_far (p := ⟨g4, 0, none⟩) (by show g1 ≠ g4; omega) _).trans ((blk_cell y1 0).trans rfl)
  · exact (cell_far (p := ⟨g4, 0, none⟩) (by show g2 ≠ g4; omega) _).trans ((blk_cell y2 0).trans rfl)
  · exact (Below.heap_setCell w4 ⟨g4, 0, none⟩ _ g3 (by show g3 ≠ g4; omega)).trans y3
theorem best_below {w w4 w5 : World} {a b : Nat} (h : Below w.heap.size w w4) (k : Keeps (fun k => k = a ∨ k = b) w4 w5) (ha : w.heap.size ≤ a) (hb : w.heap.size ≤ b) : Below w.heap.size w w5 :=
  ⟨k.os.trans h.os, k.tape.trans h.tape, k.output.trans h.output, Nat.le_trans h.size k.size, fun i hi => (k.block i (Nat.lt_of_lt_of_le hi h.size) (fun e => by omega)).trans (h.block i hi)⟩
noncomputable def bestFold (xs : List Int) (c : Int) : List Int × Int := (chs (xs.length + 1) (c - 1).toNat []).foldl (stepB xs c) ([], -1)
noncomputable def impl_bestDivision.f (l0 : List Int) (a1 : Int) : Option (List Int × Int) := chk (WorkOk l0 a1) (some (bestFold l0 a1)) none
set_option maxHeartbeats 4000000 in
set_option maxRecDepth 100000 in
theorem impl_bestDivision.calls (A0 : Option Addr) (c0 : Nat) (l0 : List Int) (a1 : Int) (r1 : List Int) (r2 : Int) (w : World) (hr0 : Kd.C (Kd.int .i64) w A0 l0.length l0) (hc0 : l0.length ≤ c0) (h : impl_bestDivision.f l0 a1 = some (r1, r2)) :
    Calls Try.prog 64 #[.slice A0 l0.length c0, .int .i64 a1] w fun e w' => ∃ v0_ : Value, e = .returned (.tuple #[v0_, .int .i64 r2]) ∧ Kd.R (Kd.int .i64) 3 w' w.heap.size (fun _ => True) v0_ r1 ∧ Below w.heap.size w w' := by
  unfold impl_bestDivision.f at h
  by_cases hW : WorkOk l0 a1
  · rw [chk_pos hW] at h
    have h := Option.some.inj h
    have HW := Aside0.mk hW
    obtain ⟨n, rfl⟩ : ∃ n : Nat, a1 = (n : Int) + 1 := ⟨(a1 - 1).toNat, by have := hW.2.1; omega⟩
    have hn3 : n ≤ 2 := by have := hW.2.1; omega
    have hl10 : l0.length ≤ 10 := by have := hW.1; omega
    have HF : Aside0 ((chs (l0.length + 1) n []).foldl (stepB l0 ((n : Int) + 1)) ([], -1) = (r1, r2)) := Aside0.mk (by
      rw [← h]; unfold bestFold; rw [show ((n : Int) + 1 - 1).toNat = n from by omega])
    have HR := Aside0.mk hr0
    clear h hW hr0
    go_enter Try.func64, Try.ntmps64
    go_wp2_with (first | ((with_reducible refine gate_dst (N := 2) rfl ?_); refine box_event ?hg2 (N := 2) ?hd2 (cs := #[.slice A0 l0.length c0]) (t := 22) ?hr2 ?_; (case hd2 => rfl); (case hg2 => rfl); (case hr2 => first | (go_simp; done) | (go_simp; rfl)); intro g1 hgg1 w1 hboxg1 hbg1; have HG1 := Aside0.mk hgg1; have HX1 := Aside0.mk hboxg1; have HB1 := Aside0.mk hbg1; clear hgg1 hboxg1 hbg1) | ((with_reducible refine gate_dst (N := 3) rfl ?_); refine box_event ?hg3 (N := 3) ?hd3 (cs := #[.int .i64 ((n : Int) + 1)]) (t := 3) ?hr3 ?_; (case hd3 => rfl); (case hg3 => rfl); (case hr3 => first | (go_simp; done) | (go_simp; rfl)); intro g2 hgg2 w2 hboxg2 hbg2; have HG2 := Aside0.mk hgg2; have HX2 := Aside0.mk hboxg2; have HB2 := Aside0.mk hbg2; clear hgg2 hboxg2 hbg2) | ((with_reducible refine gate_dst (N := 6) rfl ?_); refine box_event ?hg6 (N := 6) ?hd6 (cs := #[.slice none 0 0]) (t := 22) ?hr6 ?_; (case hd6 => rfl); (case hg6 => rfl); (case hr6 => first | (go_simp; done) | (go_simp; rfl)); intro g3 hgg3 w3 hboxg3 hbg3; have HG3 := Aside0.mk hgg3; have HX3 := Aside0.mk hboxg3; have HB3 := Aside0.mk hbg3; clear hgg3 hboxg3 hbg3) | ((with_reducible refine gate_dst (N := 7) rfl ?_); refine box_event ?hg7 (N := 7) ?hd7 (cs := #[.int .i64 0]) (t := 3) ?hr7 ?_; (case hd7 => rfl); (case hg7 => rfl); (case hr7 => first | (go_simp; done) | (go_simp; rfl)); intro g4 hgg4 w4 hboxg4 hbg4; have HG4 := Aside0.mk hgg4; have HX4 := Aside0.mk hboxg4; have HB4 := Aside0.mk hbg4; have hz1 : w4.cell? ⟨g4, 0, none⟩ = some (.int .i64 0) := (blk_cell hboxg4 0).trans rfl; have hz2 := blk_frozen hboxg4 0; have hz3 := (best_boxes A0 c0 l0 n HG1.out HX1.out HB1.out HG2.out HX2.out HB2.out HG3.out HX3.out HB3.out HG4.out HX4.out HB4.out).2.1.cw_; have hz4 := (best_boxes A0 c0 l0 n HG1.out HX1.out HB1.out HG2.out HX2.out HB2.out HG3.out HX3.out HB3.out HG4.out HX4.out HB4.out).2.1.ck; clear hgg4 hboxg4 hbg4) | (go_at_call 73; refine calls_of_args (args' := #[.int .i64 n, .int .i64 ((l0.length + 1 : Nat) : Int), .func (.func 74) #[] #[.pointer (some ⟨g1, 0, none⟩), .pointer (some ⟨g2, 0, none⟩), .pointer (some ⟨g4, 0, none⟩), .pointer (some ⟨g3, 0, none⟩)]]) ?ca ?_; (case ca => (first | rfl | (simp; done) | (simp; omega))); refine (choices_any (best_back (best_boxes A0 c0 l0 n HG1.out HX1.out HB1.out HG2.out HX2.out HB2.out HG3.out HX3.out HB3.out HG4.out HX4.out HB4.out).1 HR.out hc0) n (l0.length + 1) (by omega) (by omega) _ ([], -1) (fun _ => True) (fun _ _ => trivial) (Nat.le_refl _) (best_boxes A0 c0 l0 n HG1.out HX1.out HB1.out HG2.out HX2.out HB2.out HG3.out HX3.out HB3.out HG4.out HX4.out HB4.out).2.1 (fun _ _ => trivial)).mono ?_; rintro e w5 ⟨rfl, hI5, hK5⟩; have HB5 := Aside0.mk (best_below (best_boxes A0 c0 l0 n HG1.out HX1.out HB1.out HG2.out HX2.out HB2.out HG3.out HX3.out HB3.out HG4.out HX4.out HB4.out).2.2 hK5 (best_boxes A0 c0 l0 n HG1.out HX1.out HB1.out HG2.out HX2.out HB2.out HG3.out HX3.out HB3.out HG4.out HX4.out HB4.out).1.l.1 (best_boxes A0 c0 l0 n HG1.out HX1.out HB1.out HG2.out HX2.out HB2.out HG3.out HX3.out HB3.out HG4.out HX4.out HB4.out).1.bb.1); rw [HF.out] at hI5; obtain ⟨v5, hv5, hr5⟩ := hI5.bb; have HR5 := Aside0.mk hr5; have hz5 : w5.cell? ⟨g4, 0, none⟩ = some (.int .i64 r2) := (blk_cell hI5.bl 0).trans rfl; have hz6 : w5.cell? ⟨g3, 0, none⟩ = some v5 := (blk_cell hv5 0).trans rfl; clear hI5 hv5 hr5 hK5))
    repeat (go_quiet (fail); try go_wp2)
    go_ret2
    exact ⟨_, rfl, by (with_reducible repeat (first | apply Kd.R_alloc | apply Kd.R_drewN | apply Kd.R_drew)); exact HR5.out, by repeat (first | (with_reducible first | exact HB5.out | apply below_alloc | apply pw_below_drewN | apply below_drew1) | exact HB5.out)⟩
  · rw [chk_neg hW] at h
    cases h
end Go.Proofs.Ytibfchjpdplehaa.G
