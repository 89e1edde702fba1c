/- Texts of the proof of FnExactFastestAssignment, joined in build order. -/
import Derived.Test.YtfgbohochpjkfaaMgFnExactFastestAssignment0
import Derived.Test.YtfgbohochpjkfaaGx10
import Derived.Test.YtfgbohochpjkfaaGx13
/- The walk of FnExactFastestAssignment: on every argument the law answers true. -/
namespace Go.Proofs.Ytfgbohochpjkfaa.G
open Go.RowKit Go.Proofs.YtfgbohochpjkfaaW.PrintWords Go.Proofs.YtfgbohochpjkfaaW.PrintLast Go.Proofs.YtfgbohochpjkfaaW.PrintMore
set_option linter.unusedVariables false
set_option linter.unusedSimpArgs false
theorem keeps_below {ok : Nat → Prop} {w w8 w9 : World} (h : Below w.heap.size w w8) (k : Keeps ok w8 w9) (hok : ∀ b, ok b → w.heap.size ≤ b) : Below w.heap.size w w9 :=
  ⟨k.os.trans h.os, k.tape.trans h.tape, k.output.trans h.output, Nat.le_trans h.size k.size, fun i hi => (k.block i (Nat.lt_of_lt_of_le hi h.size) (fun e => by have := hok i e; omega)).trans (h.block i hi)⟩
theorem tot_le {xs : List (List Int)} (hs : Small xs) : ∀ i : Nat, i ≤ xs.length → totTo xs i ≤ (i : Int) * 1048576 := by
  intro i
  induction i with
  | zero => intro _; simp [totTo]
  | succ i ih =>
    intro h
    have h1 := ih (by omega)
    have h2 : ((rd_L1 xs (i : Int)).length : Int) ≤ 1048576 := hs.2 (i : Int) (by omega) (by omega)
    unfold totTo
    omega
theorem held_at (k : Nat) (A : Option Addr) (c : Nat) (l : List Int) (n : Nat) (a r : Int) (w : World) (hn : l.length = n) (hC : Kd.C (Kd.int .i64) w A l.length l) (hc : n ≤ c) (h : laws_heldIntS.f k l a = some r) :
    Calls Try.prog 36 #[.slice A n c, .int .i64 a] w fun e w' => e = .returned (.int .i64 r) ∧ Drawn0 w w' := by
  subst hn
  exact laws_heldIntS.calls k A c l a r w hC hc h
set_option maxHeartbeats 8000000 in
set_option maxRecDepth 100000 in
theorem laws_FnExactFastestAssignment.walk (A0 : Option Addr) (c0 : Nat) (l0 : List (List Int)) (w : World) (hr0 : Kd.C (Kd.slice 3 (Kd.int .i64)) w A0 l0.length l0) (hc0 : l0.length ≤ c0) (hw0 : (l0.length ≤ maxLen ∧ ∀ y ∈ l0, (y.length ≤ maxLen ∧ ∀ yy ∈ y, (Lit.int .i64 yy).wf = true))) :
    Calls Try.prog 11 #[.slice A0 l0.length c0] w fun e w' => e = .returned (.bool true) ∧ Below w.heap.size w w' := by
  obtain ⟨v, hv, hs⟩ := sz_SS l0 hw0.1 (fun y hy => (hw0.2 y hy).1)
  obtain ⟨ks, hks⟩ := Ev.rounds hv
  have KS := Aside0.mk hks
  have HC := Aside0.mk hr0
  clear hv hks hw0 hr0
  by_cases h0 : v < 0
  · clear hs
    go_enter Try.func11, Try.ntmps11
    go_wp2_with (first | ((with_reducible refine gate_callee (f := 14) rfl ?_); refine goesL_ (some 19) rfl rfl Try.func14 (by kernel_rfl) rfl #[.slice A0 l0.length c0, .int .i64 1048576] rfl (by (try simp only [List.map_toArray, List.map_cons, List.map_nil]); first | done | rfl) ?_; refine (laws_szIntSS.calls ks A0 c0 l0 1048576 v _ HC.out hc0 KS.out).mono ?_; rintro e w1 ⟨rfl, hd⟩; refine ⟨_, rfl, ?_⟩; have HB1 := Aside0.mk hd.below; clear hd))
    go_ret
    exact ⟨rfl, HB1.out⟩
  · have hs := hs (by omega)
    have hl : ∀ i, 0 ≤ i → i < (l0.length : Int) → ((rd_L1 l0 i).length : Int) ≤ 1099511627776 := fun i a b => by
      have : ((rd_L1 l0 i).length : Int) ≤ 1048576 := hs.2 i a b
      omega
    obtain ⟨⟨r1, r2, r3⟩, hq, hi, hsp⟩ := fast_R l0 hl
    have hq : (r1.length : Int) ≤ 1048576 := hq
    obtain ⟨ki, hki⟩ := Ev.rounds hi
    obtain ⟨kp, hkp⟩ := Ev.rounds hsp
    obtain ⟨kt, hkt⟩ := Ev.rounds (to_SS l0 hs)
    obtain ⟨ke, hke⟩ := Ev.rounds (eq_SS l0 hs)
    obtain ⟨kei, hkei⟩ := Ev.rounds (eq_I r1 hq)
    obtain ⟨ys, hm, hh, hyl⟩ := mark_I r1 hq 1 (by omega) (by omega)
    have HLEN : Aside0 (ys.length = r1.length) := Aside0.mk (by omega)
    clear hyl
    obtain ⟨km, hkm⟩ := Ev.rounds hm
    obtain ⟨kh, hkh⟩ := Ev.rounds hh
    have KI := Aside0.mk hki
    have KP := Aside0.mk hkp
    have KT := Aside0.mk hkt
    have KE := Aside0.mk hke
    have KEI := Aside0.mk hkei
    have KM := Aside0.mk hkm
    have KH := Aside0.mk hkh
    have ht0 := totTo_mono l0 l0.length
    have HTO : Aside0 (1 + totTo l0 l0.length ≤ 4611686018427387904) := Aside0.mk (by
      have h1 := tot_le hs l0.length (Nat.le_refl _)
      have h2 := hs.1
      omega)
    have h0' : 0 ≤ v := by omega
    clear hki hkp hkt hke hkei hkm hkh hi hsp hm hh hs hl h0
    go_enter Try.func11, Try.ntmps11
    go_wp2_with (first | ((with_reducible refine gate_callee (f := 14) rfl ?_); refine goesL_ (some 19) rfl rfl Try.func14 (by kernel_rfl) rfl #[.slice A0 l0.length c0, .int .i64 1048576] rfl (by (try simp only [List.map_toArray, List.map_cons, List.map_nil]); first | done | rfl) ?_; refine (laws_szIntSS.calls ks A0 c0 l0 1048576 v _ HC.out hc0 KS.out).mono ?_; rintro e w1 ⟨rfl, hd⟩; refine ⟨_, rfl, ?_⟩; have HB1 := Aside0.mk hd.below; clear hd) | ((with_reducible refine gate_callee (f := 16) rfl ?_); refine goesL_ (some 24) rfl rfl Try.func16 (by kernel_rfl) rfl #[.slice A0 l0.length c0] rfl (by (try simp only [List.map_toArray, List.map_cons, List.map_nil]); first | done | rfl) ?_; refine (laws_toIntSS.calls kt A0 c0 l0 l0 _ (Kd.C_below HC.out HB1.out) hc0 KT.out).mono ?_; rintro e w2 ⟨v2, rfl, hS, hB⟩; refine ⟨_, rfl, ?_⟩; obtain ⟨A2, c2, rfl⟩ := Kd.S_slice hS; have HS2 := Aside0.mk hS; have HB2 := Aside0.mk (below_trans2 HB1.out hB); clear hS hB) | ((with_reducible refine gate_callee (f := 39) rfl ?_); refine goesL_ (some 25) rfl rfl Try.func39 (by kernel_rfl) rfl #[.slice A2 l0.length c2] rfl (by (try simp only [List.map_toArray, List.map_cons, List.map_nil]); first | done | rfl) ?_; refine (spec_FastestAssignment.calls kp A2 c2 l0 r1 r2 r3 _ (Kd.S_reads' HS2.out).2.2 (Kd.S_reads' HS2.out).2.1 KP.out).mono ?_; rintro e w3 ⟨v3, rfl, hV, hB⟩; refine ⟨_, rfl, ?_⟩; obtain ⟨A3, c3, rfl, hc3, hF⟩ := hV; have HC3 := Aside0.mk hc3; have HF3 := Aside0.mk (Kd.F_bound hF); have HB3 := Aside0.mk (below_trans2 HB2.out hB); clear hc3 hF hB) | ((with_reducible refine gate_callee (f := 16) rfl ?_); refine goesL_ (some 30) rfl rfl Try.func16 (by kernel_rfl) rfl #[.slice A0 l0.length c0] rfl (by (try simp only [List.map_toArray, List.map_cons, List.map_nil]); first | done | rfl) ?_; refine (laws_toIntSS.calls kt A0 c0 l0 l0 _ (Kd.C_below HC.out HB3.out) hc0 KT.out).mono ?_; rintro e w4 ⟨v4, rfl, hS, hB⟩; refine ⟨_, rfl, ?_⟩; obtain ⟨A4, c4, rfl⟩ := Kd.S_slice hS; have HX4 := Aside0.mk (Kd.R_mono (Kd.R_bound (Kd.S_R hS)) (fun k hk => (⟨hk.2.1, hk.2.2.1⟩ : w3.heap.size ≤ k ∧ k < w4.heap.size))); have HB4 := Aside0.mk (below_trans2 HB3.out hB); have HF4 := Aside0.mk (Kd.F_below HF3.out hB); have HS4 := Aside0.mk hB.size; clear hS hB) | ((with_reducible refine gate_callee (f := 40) rfl ?_); refine goesL_ (some 33) rfl rfl Try.func40 (by kernel_rfl) rfl #[.slice A4 l0.length c4] rfl (by (try simp only [List.map_toArray, List.map_cons, List.map_nil]); first | done | rfl) ?_; refine (impl_FastestAssignment.calls ki A4 c4 l0 r1 r2 r3 _ (Kd.R_reads' HX4.out).2.2 (Kd.R_reads' HX4.out).2.1 KI.out).mono ?_; rintro e w5 ⟨v5, rfl, hR, hB⟩; refine ⟨_, rfl, ?_⟩; obtain ⟨A5, c5, rfl⟩ := Kd.R_slice hR; have HG5 := Aside0.mk (Kd.R_mono (Kd.R_bound hR) (fun k hk => (⟨hk.2.1, hk.2.2.1⟩ : w4.heap.size ≤ k ∧ k < w5.heap.size))); have HB5 := Aside0.mk (below_trans2 HB4.out hB); have HF5 := Aside0.mk (Kd.F_below HF4.out hB); have HX5 := Aside0.mk (Kd.R_below HX4.out hB); clear hR hB) | ((with_reducible refine gate_callee (f := 22) rfl ?_); refine goesL_ (some 39) rfl rfl Try.func22 (by kernel_rfl) rfl #[.slice A5 r1.length c5, .slice A3 r1.length c3] rfl (by (try simp only [List.map_toArray, List.map_cons, List.map_nil]); first | done | rfl) ?_; refine (laws_eqIntS.calls kei A5 c5 r1 A3 c3 r1 true _ (Kd.R_reads' HG5.out).2.2 (Kd.R_reads' HG5.out).2.1 (Kd.F_now HF5.out) HC3.out KEI.out).mono ?_; rintro e w6 ⟨rfl, hd⟩; refine ⟨_, rfl, ?_⟩; have HB6 := Aside0.mk (below_trans2 HB5.out hd.below); have HF6 := Aside0.mk (Kd.F_below HF5.out hd.below); have HG6 := Aside0.mk (Kd.R_below HG5.out hd.below); have HX6 := Aside0.mk (Kd.R_below HX5.out hd.below); clear hd) | ((with_reducible refine gate_callee (f := 16) rfl ?_); refine goesL_ (some 53) rfl rfl Try.func16 (by kernel_rfl) rfl #[.slice A0 l0.length c0] rfl (by (try simp only [List.map_toArray, List.map_cons, List.map_nil]); first | done | rfl) ?_; refine (laws_toIntSS.calls kt A0 c0 l0 l0 _ (Kd.C_below HC.out HB6.out) hc0 KT.out).mono ?_; rintro e w7 ⟨v7, rfl, hS, hB⟩; refine ⟨_, rfl, ?_⟩; obtain ⟨A7, c7, rfl⟩ := Kd.S_slice hS; have HS7 := Aside0.mk hS; have HB7 := Aside0.mk (below_trans2 HB6.out hB); have HF7 := Aside0.mk (Kd.F_below HF6.out hB); have HG7 := Aside0.mk (Kd.R_below HG6.out hB); have HX7 := Aside0.mk (Kd.R_below HX6.out hB); clear hS hB) | ((with_reducible refine gate_callee (f := 18) rfl ?_); refine goesL_ (some 54) rfl rfl Try.func18 (by kernel_rfl) rfl #[.slice A4 l0.length c4, .slice A7 l0.length c7] rfl (by (try simp only [List.map_toArray, List.map_cons, List.map_nil]); first | done | rfl) ?_; refine (laws_eqIntSS.calls ke A4 c4 l0 A7 c7 l0 true _ (Kd.R_reads' HX7.out).2.2 (Kd.R_reads' HX7.out).2.1 (Kd.S_reads' HS7.out).2.2 (Kd.S_reads' HS7.out).2.1 KE.out).mono ?_; rintro e w8 ⟨rfl, hd⟩; refine ⟨_, rfl, ?_⟩; have HB8 := Aside0.mk (below_trans2 HB7.out hd.below); have HF8 := Aside0.mk (Kd.F_below HF7.out hd.below); have HG8 := Aside0.mk (Kd.R_below HG7.out hd.below); have HX8 := Aside0.mk (Kd.R_below HX7.out hd.below); clear hd) | ((with_reducible refine gate_callee (f := 29) rfl ?_); refine goesL_ (some 58) rfl rfl Try.func29 (by kernel_rfl) rfl #[.slice A4 l0.length c4, .int .i64 1] rfl (by (try simp only [List.map_toArray, List.map_cons, List.map_nil]); first | done | rfl) ?_; refine (markSS_own A4 c4 l0 1 _ HX8.out (by decide) HTO.out).mono ?_; rintro e w9 ⟨rfl, hk⟩; refine ⟨_, rfl, ?_⟩; have HB9 := Aside0.mk (keeps_below HB8.out hk (fun k hk2 => Nat.le_trans HB3.out.size hk2.1)); have HF9 := Aside0.mk (Kd.F_step HF8.out (fun k hk2 hl => hk.block k hl (fun h => by have := hk2.2; have := h.1; omega))); have HG9 := Aside0.mk (Kd.R_step HG8.out (fun k hk2 hl => hk.block k hl (fun h => by have := hk2.1; have := h.2; omega))); clear hk) | ((with_reducible refine gate_callee (f := 35) rfl ?_); refine goesL_ (some 79) rfl rfl Try.func35 (by kernel_rfl) rfl #[.slice A5 r1.length c5, .int .i64 1] rfl (by (try simp only [List.map_toArray, List.map_cons, List.map_nil]); first | done | rfl) ?_; refine (laws_markIntS.calls km _ _ r1 1 _ ys w _ HB10.out (Kd.R_lower HG10.out HB4.out.size) KM.out).mono ?_; rintro e w11 ⟨rfl, hR, hB, hk⟩; refine ⟨_, rfl, ?_⟩; obtain ⟨Aq, cq, eq_⟩ := Kd.R_slice hR; injection eq_ with f1_ f2_ f3_; have f4_ := f1_.symm; have f5_ := f3_.symm; subst f4_; subst f5_; have HL := Aside0.mk f2_; have HM11 := Aside0.mk hR; have HB11 := Aside0.mk hB; have HF11 := Aside0.mk (Kd.F_kept HF10.out hk (fun k hk2 h => by have := hk2.2; have := h.1; have := HS4.out; omega)); clear hR hB hk f1_ f2_ f3_) | ((with_reducible refine gate_callee (f := 36) rfl ?_); refine goesL_ (some 82) rfl rfl Try.func36 (by kernel_rfl) rfl #[.slice Aq r1.length cq, .int .i64 1] rfl (by (try simp only [List.map_toArray, List.map_cons, List.map_nil]); first | done | rfl) ?_; refine (held_at kh Aq cq ys r1.length 1 _ _ HLEN.out (Kd.R_reads' HM11.out).2.2 (Kd.R_reads' HM11.out).2.1 KH.out).mono ?_; rintro e w12 ⟨rfl, hd⟩; refine ⟨_, rfl, ?_⟩; have HB12 := Aside0.mk (below_trans2 HB11.out hd.below); have HF12 := Aside0.mk (Kd.F_below HF11.out hd.below); have HM12 := Aside0.mk (Kd.R_below HM11.out hd.below); clear hd) | ((with_reducible refine gate_callee (f := 16) rfl ?_); refine goesL_ (some 90) rfl rfl Try.func16 (by kernel_rfl) rfl #[.slice A0 l0.length c0] rfl (by (try simp only [List.map_toArray, List.map_cons, List.map_nil]); first | done | rfl) ?_; refine (laws_toIntSS.calls kt A0 c0 l0 l0 _ (Kd.C_below HC.out HB12.out) hc0 KT.out).mono ?_; rintro e w13 ⟨v13, rfl, hS, hB⟩; refine ⟨_, rfl, ?_⟩; obtain ⟨A13, c13, rfl⟩ := Kd.S_slice hS; have HS13 := Aside0.mk hS; have HB13 := Aside0.mk (below_trans2 HB12.out hB); have HF13 := Aside0.mk (Kd.F_below HF12.out hB); have HM13 := Aside0.mk (Kd.R_below HM12.out hB); clear hS hB) | ((with_reducible refine gate_callee (f := 40) rfl ?_); refine goesL_ (some 91) rfl rfl Try.func40 (by kernel_rfl) rfl #[.slice A13 l0.length c13] rfl (by (try simp only [List.map_toArray, List.map_cons, List.map_nil]); first | done | rfl) ?_; refine (impl_FastestAssignment.calls ki A13 c13 l0 r1 r2 r3 _ (Kd.S_reads' HS13.out).2.2 (Kd.S_reads' HS13.out).2.1 KI.out).mono ?_; rintro e w14 ⟨v14, rfl, hR, hB⟩; refine ⟨_, rfl, ?_⟩; obtain ⟨A14, c14, rfl⟩ := Kd.R_slice hR; have HH14 := Aside0.mk hR; have HB14 := Aside0.mk (below_trans2 HB13.out hB); have HF14 := Aside0.mk (Kd.F_below HF13.out hB); have HM14 := Aside0.mk (Kd.R_below HM13.out hB); clear hR hB) | ((with_reducible refine gate_callee (f := 22) rfl ?_); refine goesL_ (some 97) rfl rfl Try.func22 (by kernel_rfl) rfl #[.slice A14 r1.length c14, .slice A3 r1.length c3] rfl (by (try simp only [List.map_toArray, List.map_cons, List.map_nil]); first | done | rfl) ?_; refine (laws_eqIntS.calls kei A14 c14 r1 A3 c3 r1 true _ (Kd.R_reads' HH14.out).2.2 (Kd.R_reads' HH14.out).2.1 (Kd.F_now HF14.out) HC3.out KEI.out).mono ?_; rintro e w15 ⟨rfl, hd⟩; refine ⟨_, rfl, ?_⟩; have HB15 := Aside0.mk (below_trans2 HB14.out hd.below); have HM15 := Aside0.mk (Kd.R_below HM14.out hd.below); clear hd) | ((with_reducible refine gate_callee (f := 36) rfl ?_); refine goesL_ (some 111) rfl rfl Try.func36 (by kernel_rfl) rfl #[.slice Aq r1.length cq, .int .i64 1] rfl (by (try simp only [List.map_toArray, List.map_cons, List.map_nil]); first | done | rfl) ?_; refine (held_at kh Aq cq ys r1.length 1 _ _ HLEN.out (Kd.R_reads' HM15.out).2.2 (Kd.R_reads' HM15.out).2.1 KH.out).mono ?_; rintro e w16 ⟨rfl, hd⟩; refine ⟨_, rfl, ?_⟩; have HB16 := Aside0.mk (below_trans2 HB15.out hd.below); clear hd) | (go_at_call 22; refine (laws_eqIntS.calls kei A5 c5 r1 A3 c3 r1 true _ (Kd.R_reads' HG9.out).2.2 (Kd.R_reads' HG9.out).2.1 (Kd.F_now HF9.out) HC3.out KEI.out).mono ?_; rintro e w10 ⟨rfl, hd⟩; have HB10 := Aside0.mk (below_trans2 HB9.out hd.below); have HF10 := Aside0.mk (Kd.F_below HF9.out hd.below); have HG10 := Aside0.mk (Kd.R_below HG9.out hd.below); clear hd))
    go_ret
    exact ⟨rfl, HB16.out⟩
end Go.Proofs.Ytfgbohochpjkfaa.G
