/- Texts of the proof of FnExactSplitColumns, joined in build order. -/
import Derived.Test.YtcgfedaoimhejaaMgFnExactSplitColumns2
import Derived.Test.YtcgfedaoimhejaaMgFnExactSplitColumns1
import Derived.Deep.Slices
import Derived.ChangeArms
import Derived.WideShapes
import Derived.ChangeShapes
/- The walk of FnExactSplitColumns: on every argument the law answers true. -/
namespace Go.Proofs.Ytcgfedaoimhejaa.G
open Go.RowKit Go.Proofs.YtcgfedaoimhejaaW.PrintWords Go.Proofs.YtcgfedaoimhejaaW.PrintLast Go.Proofs.YtcgfedaoimhejaaW.PrintMore
set_option linter.unusedVariables false
set_option linter.unusedSimpArgs false
theorem split_small (ws : List Int) (n : Int) : (splitR ws n).1.length ≤ 3 ∧ ∀ i : Nat, i < (splitR ws n).1.length → (rd_L1 (splitR ws n).1 (i : Int)).length ≤ 8 := by
  unfold splitR
  by_cases h : SplitOk ws n
  · rw [chk_pos h]
    obtain ⟨hw, hn, hl⟩ := h
    obtain ⟨m, rfl⟩ : ∃ m : Nat, n = (m : Int) := ⟨n.toNat, by omega⟩
    rw [Int.toNat_natCast, foldC_eq (by omega)]
    have hF := foldD_ok (ws := ws) (n := m) (by omega)
    have h8 := hw.1
    dsimp only
    unfold colsOf
    rw [cols_len]
    refine ⟨by omega, fun i hi => ?_⟩
    rw [rd_cols ws _ m _ i hi]
    have := colTo_len ws (foldD ws m).1 (i : Int) (foldD ws m).1.length
    omega
  · rw [chk_neg h]
    exact ⟨by simp, fun i hi => absurd hi (by simp)⟩
set_option maxHeartbeats 8000000 in
set_option maxRecDepth 100000 in
theorem laws_FnExactSplitColumns.walk (A0 : Option Addr) (c0 : Nat) (l0 : List Int) (a1 : Int) (w : World) (hr0 : Kd.C (Kd.int .i64) w A0 l0.length l0) (hc0 : l0.length ≤ c0) (hw0 : (l0.length ≤ maxLen ∧ ∀ y ∈ l0, (Lit.int .i64 y).wf = true)) (hw1 : (Lit.int .i64 a1).wf = true) :
    Calls Try.prog 7 #[.slice A0 l0.length c0, .int .i64 a1] w fun e w' => e = .returned (.bool true) ∧ Below w.heap.size w w' := by
  have HC := Aside0.mk hr0
  have HB0 := Aside0.mk (Below.refl w.heap.size w)
  clear hw0 hr0
  by_cases h0 : 1048576 < (l0.length : Int)
  · have c1 : decide (1048576 < (l0.length : Int)) = true := decide_eq_true h0
    go_enter Try.func7, Try.ntmps7
    go_wp2
    go_ret
    exact ⟨rfl, HB0.out⟩
  · have hs : (l0.length : Int) ≤ 1048576 := by omega
    have c1 : decide (1048576 < (l0.length : Int)) = false := decide_eq_false h0
    have hsp := spec_splitR l0 (by omega) a1
    have hsm := split_small l0 a1
    obtain ⟨⟨r1, r2, r3⟩, hrr⟩ : ∃ r, splitR l0 a1 = r := ⟨_, rfl⟩
    have hi : impl_SplitColumns.f l0 a1 = some (r1, r2, r3) := by unfold impl_SplitColumns.f; rw [hrr]
    rw [hrr] at hsp hsm
    obtain ⟨hq1, hq2⟩ : r1.length ≤ 3 ∧ ∀ i : Nat, i < r1.length → (rd_L1 r1 (i : Int)).length ≤ 8 := hsm
    have hsr : Small r1 := ⟨by omega, fun i i0 i1 => by
      have h := hq2 i.toNat (by omega)
      rw [show ((i.toNat : Nat) : Int) = i from by omega] at h
      omega⟩
    obtain ⟨kp, hkp⟩ := Ev.rounds hsp
    obtain ⟨kt, hkt⟩ := Ev.rounds (to_I l0 hs)
    obtain ⟨ke, hke⟩ := Ev.rounds (eq_I l0 hs)
    obtain ⟨kr, hkr⟩ := Ev.rounds (eq_SS r1 hsr)
    obtain ⟨xs, hmx, _⟩ := mark_I l0 hs 1 (by decide) (by decide)
    obtain ⟨km, hkm⟩ := Ev.rounds hmx
    have htr : 1 + totTo r1 r1.length ≤ 1099511627776 := by
      have h1 := tot_le hsr r1.length (Nat.le_refl _)
      omega
    obtain ⟨ys, hyl, ⟨kn, hkn⟩, hhe⟩ := mark_rows r1 (fun i hi => by have := hq2 i hi; omega) htr
    have hh := held_rows r1 ys (by omega) hyl htr hhe
    obtain ⟨kh, hkh⟩ := Ev.rounds hh
    have HYL := Aside0.mk hyl
    have KI := Aside0.mk hi
    have KP := Aside0.mk hkp
    have KT := Aside0.mk hkt
    have KE := Aside0.mk hke
    have KR := Aside0.mk hkr
    have KM := Aside0.mk hkm
    have KN := Aside0.mk hkn
    have KH := Aside0.mk hkh
    have ht1 := totTo_mono r1 r1.length
    have hm0 : 0 ≤ 1 + 1 * (l0.length : Int) := by omega
    clear hyl hkp hkt hke hkr hkm hmx hkn hkh hi hsp hh hhe hs hsr h0 hrr htr hq1 hq2
    go_enter Try.func7, Try.ntmps7
    go_wp2_with (first | ((with_reducible refine gate_callee (f := 13) rfl ?_); refine goesL_ (some 23) rfl rfl Try.func13 (by kernel_rfl) rfl #[.slice A0 l0.length c0] rfl (by (try simp only [List.map_toArray, List.map_cons, List.map_nil]); first | done | rfl) ?_; refine (laws_toIntS.calls kt A0 c0 l0 l0 _ (Kd.C_below HC.out HB0.out) hc0 KT.out).mono ?_; rintro e w1 ⟨v1, rfl, hS, hB⟩; refine ⟨_, rfl, ?_⟩; obtain ⟨A1, c1, rfl⟩ := Kd.R_slice hS; have HB1 := Aside0.mk (below_step HB0.out hB); have HT1 := Aside0.mk hS; clear hS hB) | ((with_reducible refine gate_callee (f := 25) rfl ?_); refine goesL_ (some 25) rfl rfl Try.func25 (by kernel_rfl) rfl #[.slice A1 l0.length c1, .int .i64 a1] rfl (by (try simp only [List.map_toArray, List.map_cons, List.map_nil]); first | done | rfl) ?_; refine (spec_SplitColumns.calls kp A1 c1 l0 a1 r1 r2 r3 _ (Kd.R_reads' HT1.out).2.2 (Kd.R_reads' HT1.out).2.1 KP.out).mono ?_; rintro e w2 ⟨v2, rfl, hS, hB⟩; refine ⟨_, rfl, ?_⟩; obtain ⟨A2, c2, rfl⟩ := Kd.S_slice hS; have HB2 := Aside0.mk (below_step HB1.out hB); have HF2 := Aside0.mk (Kd.S_mono (Kd.S_bound hS) (fun k hk => (hk.2.2.1 : k < w2.heap.size))); clear hS hB) | ((with_reducible refine gate_callee (f := 13) rfl ?_); refine goesL_ (some 30) rfl rfl Try.func13 (by kernel_rfl) rfl #[.slice A0 l0.length c0] rfl (by (try simp only [List.map_toArray, List.map_cons, List.map_nil]); first | done | rfl) ?_; refine (laws_toIntS.calls kt A0 c0 l0 l0 _ (Kd.C_below HC.out HB2.out) hc0 KT.out).mono ?_; rintro e w3 ⟨v3, rfl, hS, hB⟩; refine ⟨_, rfl, ?_⟩; obtain ⟨A3, c3, rfl⟩ := Kd.R_slice hS; have HB3 := Aside0.mk (below_step HB2.out hB); have HF3 := Aside0.mk (Kd.S_below HF2.out hB); have HX3 := Aside0.mk (Kd.R_mono (Kd.R_bound hS) (fun k hk => (⟨hk.2.1, hk.2.2.1⟩ : w2.heap.size ≤ k ∧ k < w3.heap.size))); have HS3 := Aside0.mk hB.size; clear hS hB) | ((with_reducible refine gate_callee (f := 26) rfl ?_); refine goesL_ (some 34) rfl rfl Try.func26 (by kernel_rfl) rfl #[.slice A3 l0.length c3, .int .i64 a1] rfl (by (try simp only [List.map_toArray, List.map_cons, List.map_nil]); first | done | rfl) ?_; refine (impl_SplitColumns.calls A3 c3 l0 a1 r1 r2 r3 _ (Kd.R_reads' HX3.out).2.2 (Kd.R_reads' HX3.out).2.1 KI.out).mono ?_; rintro e w4 ⟨v4, rfl, hS, hB⟩; refine ⟨_, rfl, ?_⟩; obtain ⟨A4, c4, rfl⟩ := Kd.S_slice hS; have HB4 := Aside0.mk (below_step HB3.out hB); have HF4 := Aside0.mk (Kd.S_below HF3.out hB); have HX4 := Aside0.mk (Kd.R_below HX3.out hB); have HG4 := Aside0.mk (Kd.S_mono (Kd.S_bound hS) (fun k hk => (⟨hk.2.1, hk.2.2.1⟩ : w3.heap.size ≤ k ∧ k < w4.heap.size))); clear hS hB) | ((with_reducible refine gate_callee (f := 27) rfl ?_); refine goesL_ (some 40) rfl rfl Try.func27 (by kernel_rfl) rfl #[.slice A4 r1.length c4, .slice A2 r1.length c2] rfl (by (try simp only [List.map_toArray, List.map_cons, List.map_nil]); first | done | rfl) ?_; refine (laws_eqIntSS.calls kr A4 c4 r1 A2 c2 r1 true _ (Kd.S_reads' HG4.out).2.2 (Kd.S_reads' HG4.out).2.1 (Kd.S_reads' HF4.out).2.2 (Kd.S_reads' HF4.out).2.1 KR.out).mono ?_; rintro e w5 ⟨rfl, hd⟩; refine ⟨_, rfl, ?_⟩; have HB5 := Aside0.mk (below_step HB4.out hd.below); have HF5 := Aside0.mk (Kd.S_below HF4.out hd.below); have HX5 := Aside0.mk (Kd.R_below HX4.out hd.below); have HG5 := Aside0.mk (Kd.S_below HG4.out hd.below); clear hd) | ((with_reducible refine gate_callee (f := 13) rfl ?_); refine goesL_ (some 54) rfl rfl Try.func13 (by kernel_rfl) rfl #[.slice A0 l0.length c0] rfl (by (try simp only [List.map_toArray, List.map_cons, List.map_nil]); first | done | rfl) ?_; refine (laws_toIntS.calls kt A0 c0 l0 l0 _ (Kd.C_below HC.out HB5.out) hc0 KT.out).mono ?_; rintro e w6 ⟨v6, rfl, hS, hB⟩; refine ⟨_, rfl, ?_⟩; obtain ⟨A6, c6, rfl⟩ := Kd.R_slice hS; have HB6 := Aside0.mk (below_step HB5.out hB); have HF6 := Aside0.mk (Kd.S_below HF5.out hB); have HX6 := Aside0.mk (Kd.R_below HX5.out hB); have HG6 := Aside0.mk (Kd.S_below HG5.out hB); have HT6 := Aside0.mk hS; clear hS hB) | ((with_reducible refine gate_callee (f := 16) rfl ?_); refine goesL_ (some 55) rfl rfl Try.func16 (by kernel_rfl) rfl #[.slice A3 l0.length c3, .slice A6 l0.length c6] rfl (by (try simp only [List.map_toArray, List.map_cons, List.map_nil]); first | done | rfl) ?_; refine (laws_eqIntS.calls ke A3 c3 l0 A6 c6 l0 true _ (Kd.R_reads' HX6.out).2.2 (Kd.R_reads' HX6.out).2.1 (Kd.R_reads' HT6.out).2.2 (Kd.R_reads' HT6.out).2.1 KE.out).mono ?_; rintro e w7 ⟨rfl, hd⟩; refine ⟨_, rfl, ?_⟩; have HB7 := Aside0.mk (below_step HB6.out hd.below); have HF7 := Aside0.mk (Kd.S_below HF6.out hd.below); have HX7 := Aside0.mk (Kd.R_below HX6.out hd.below); have HG7 := Aside0.mk (Kd.S_below HG6.out hd.below); clear hd) | ((with_reducible refine gate_callee (f := 17) rfl ?_); refine goesL_ (some 59) rfl rfl Try.func17 (by kernel_rfl) rfl #[.slice A3 l0.length c3, .int .i64 1] rfl (by (try simp only [List.map_toArray, List.map_cons, List.map_nil]); first | done | rfl) ?_; refine (laws_markIntS.calls km (fun k => w2.heap.size ≤ k ∧ k < w3.heap.size) (.slice A3 l0.length c3) l0 1 _ xs w _ HB7.out (Kd.R_lower HX7.out HB2.out.size) KM.out).mono ?_; rintro e w8 ⟨rfl, hR, hB, hk⟩; refine ⟨_, rfl, ?_⟩; have HB8 := Aside0.mk hB; have HF8 := Aside0.mk (Kd.S_step HF7.out (fun k hk2 hl => hk.2 k hl (fun h => by have := h.1; omega))); have HG8 := Aside0.mk (Kd.S_step HG7.out (fun k hk2 hl => hk.2 k hl (fun h => by have := hk2.1; have := h.2; omega))); clear hR hB hk) | ((with_reducible refine gate_callee (f := 28) rfl ?_); refine goesL_ (some 80) rfl rfl Try.func28 (by kernel_rfl) rfl #[.slice A4 r1.length c4, .int .i64 1] rfl (by (try simp only [List.map_toArray, List.map_cons, List.map_nil]); first | done | rfl) ?_; refine (markSS_rows kn A4 c4 r1 ys 1 w _ HB9.out (Kd.S_lower HG9.out HB3.out.size) HYL.out KN.out).mono ?_; rintro e w10 ⟨rfl, hS, hB, hk⟩; refine ⟨_, rfl, ?_⟩; have HM10 := Aside0.mk hS; have HB10 := Aside0.mk hB; have HF10 := Aside0.mk (Kd.S_step HF9.out (fun k hk2 hl => hk.2 k hl (fun h => by have := h.1; have := HS3.out; omega))); clear hS hB hk) | ((with_reducible refine gate_callee (f := 29) rfl ?_); refine goesL_ (some 83) rfl rfl Try.func29 (by kernel_rfl) rfl #[.slice A4 r1.length c4, .int .i64 1] rfl (by (try simp only [List.map_toArray, List.map_cons, List.map_nil]); first | done | rfl) ?_; refine (heldS_at kh A4 c4 ys r1.length 1 _ _ HYL.out (Kd.S_reads' HM10.out).2.2 (Kd.S_reads' HM10.out).2.1 KH.out).mono ?_; rintro e w11 ⟨rfl, hd⟩; refine ⟨_, rfl, ?_⟩; have HB11 := Aside0.mk (below_step HB10.out hd.below); have HF11 := Aside0.mk (Kd.S_below HF10.out hd.below); have HM11 := Aside0.mk (Kd.S_below HM10.out hd.below); clear hd) | ((with_reducible refine gate_callee (f := 13) rfl ?_); refine goesL_ (some 91) rfl rfl Try.func13 (by kernel_rfl) rfl #[.slice A0 l0.length c0] rfl (by (try simp only [List.map_toArray, List.map_cons, List.map_nil]); first | done | rfl) ?_; refine (laws_toIntS.calls kt A0 c0 l0 l0 _ (Kd.C_below HC.out HB11.out) hc0 KT.out).mono ?_; rintro e w12 ⟨v12, rfl, hS, hB⟩; refine ⟨_, rfl, ?_⟩; obtain ⟨A12, c12, rfl⟩ := Kd.R_slice hS; have HB12 := Aside0.mk (below_step HB11.out hB); have HF12 := Aside0.mk (Kd.S_below HF11.out hB); have HM12 := Aside0.mk (Kd.S_below HM11.out hB); have HT12 := Aside0.mk hS; clear hS hB) | ((with_reducible refine gate_callee (f := 26) rfl ?_); refine goesL_ (some 93) rfl rfl Try.func26 (by kernel_rfl) rfl #[.slice A12 l0.length c12, .int .i64 a1] rfl (by (try simp only [List.map_toArray, List.map_cons, List.map_nil]); first | done | rfl) ?_; refine (impl_SplitColumns.calls A12 c12 l0 a1 r1 r2 r3 _ (Kd.R_reads' HT12.out).2.2 (Kd.R_reads' HT12.out).2.1 KI.out).mono ?_; rintro e w13 ⟨v13, rfl, hS, hB⟩; refine ⟨_, rfl, ?_⟩; obtain ⟨A13, c13, rfl⟩ := Kd.S_slice hS; have HB13 := Aside0.mk (below_step HB12.out hB); have HF13 := Aside0.mk (Kd.S_below HF12.out hB); have HM13 := Aside0.mk (Kd.S_below HM12.out hB); have HH13 := Aside0.mk hS; clear hS hB) | ((with_reducible refine gate_callee (f := 27) rfl ?_); refine goesL_ (some 99) rfl rfl Try.func27 (by kernel_rfl) rfl #[.slice A13 r1.length c13, .slice A2 r1.length c2] rfl (by (try simp only [List.map_toArray, List.map_cons, List.map_nil]); first | done | rfl) ?_; refine (laws_eqIntSS.calls kr A13 c13 r1 A2 c2 r1 true _ (Kd.S_reads' HH13.out).2.2 (Kd.S_reads' HH13.out).2.1 (Kd.S_reads' HF13.out).2.2 (Kd.S_reads' HF13.out).2.1 KR.out).mono ?_; rintro e w14 ⟨rfl, hd⟩; refine ⟨_, rfl, ?_⟩; have HB14 := Aside0.mk (below_step HB13.out hd.below); have HF14 := Aside0.mk (Kd.S_below HF13.out hd.below); have HM14 := Aside0.mk (Kd.S_below HM13.out hd.below); clear hd) | ((with_reducible refine gate_callee (f := 29) rfl ?_); refine goesL_ (some 113) rfl rfl Try.func29 (by kernel_rfl) rfl #[.slice A4 r1.length c4, .int .i64 1] rfl (by (try simp only [List.map_toArray, List.map_cons, List.map_nil]); first | done | rfl) ?_; refine (heldS_at kh A4 c4 ys r1.length 1 _ _ HYL.out (Kd.S_reads' HM14.out).2.2 (Kd.S_reads' HM14.out).2.1 KH.out).mono ?_; rintro e w15 ⟨rfl, hd⟩; refine ⟨_, rfl, ?_⟩; have HB15 := Aside0.mk (below_step HB14.out hd.below); have HF15 := Aside0.mk (Kd.S_below HF14.out hd.below); have HM15 := Aside0.mk (Kd.S_below HM14.out hd.below); clear hd) | (go_at_call 27; refine (laws_eqIntSS.calls kr A4 c4 r1 A2 c2 r1 true _ (Kd.S_reads' HG8.out).2.2 (Kd.S_reads' HG8.out).2.1 (Kd.S_reads' HF8.out).2.2 (Kd.S_reads' HF8.out).2.1 KR.out).mono ?_; rintro e w9 ⟨rfl, hd⟩; have HB9 := Aside0.mk (below_step HB8.out hd.below); have HF9 := Aside0.mk (Kd.S_below HF8.out hd.below); have HG9 := Aside0.mk (Kd.S_below HG8.out hd.below); clear hd))
    go_ret
    exact ⟨rfl, HB15.out⟩
end Go.Proofs.Ytcgfedaoimhejaa.G

-- Written by wip/tools/gen.py out of the translation (the kit's printer, one namespace a seat). Lean checks it.
namespace Go.Proofs.Ytcgfedaoimhejaa.G
open Go.RowKit Go.ChangeShapes Go.WideShapes Go.Deep Go.Proofs.YtcgfedaoimhejaaW.PrintWords Go.Proofs.YtcgfedaoimhejaaW.PrintLast
set_option linter.unusedVariables false
/-! Opening the arguments of a law: whatever reads as data of type t reads as a value of kind d, within what its type allows. -/
def Opens {α : Type} (P : Program) (t : TypeId) (d : Kd α) (Wf : α → Prop) : Prop :=
  ∀ {H : Type} {enc : TypeId × Value → H} {W : World} {spare : Nat → Bool} {held : Bool} {fuel : Nat} {cs : List Value} {x : DataW H × List MemPlace},
    DataW.trod enc P W 0 spare held fuel t cs = some x → ∃ a, d.K W a cs ∧ Wf a
theorem opens_int {P : Program} {t : TypeId} {k : IntKind} (ht : P.underlying t = some (.int k)) : Opens P t (Kd.int k) (fun x => (Lit.int k x).wf = true) := by
  intro H enc W spare held fuel cs x h
  obtain ⟨n, rfl, _, hw⟩ := DataW.trod_int ht h
  exact ⟨n, rfl, hw⟩
theorem opens_row {α : Type} {d : Kd α} {Wf : α → Prop} {W : World} (Q : Nat → List Value → Prop) (hq : ∀ i cs, Q i cs → ∃ a, d.K W a cs ∧ Wf a) (n : Nat) (h : ∀ i, i < n → ∃ cs, Q i cs) :
    ∃ xs : List α, xs.length = n ∧ (∀ y ∈ xs, Wf y) ∧ ∀ j p, xs[j]? = some p → ∃ cs, Q j cs ∧ d.K W p cs := by
  induction n with
  | zero => exact ⟨[], rfl, fun y hy => by simp at hy, fun j p hp => by simp at hp⟩
  | succ n ih =>
    obtain ⟨xs, hl, hw, hx⟩ := ih (fun i hi => h i (by omega))
    obtain ⟨cs, hcs⟩ := h n (by omega)
    obtain ⟨a, ha, hwa⟩ := hq n cs hcs
    refine ⟨xs ++ [a], by simp [hl], fun y hy => ?_, fun j p hp => ?_⟩
    · rcases List.mem_append.1 hy with hy | hy
      · exact hw y hy
      · rw [List.mem_singleton.1 hy]; exact hwa
    · rcases Nat.lt_or_ge j xs.length with hj | hj
      · rw [List.getElem?_append_left hj] at hp
        exact hx j p hp
      · rw [List.getElem?_append_right hj] at hp
        have h0 : j - xs.length = 0 := by
          rcases Nat.eq_zero_or_pos (j - xs.length) with h0 | h0
          · exact h0
          · rw [List.getElem?_eq_none (by simp; omega)] at hp; cases hp
        rw [h0] at hp
        simp at hp
        subst hp
        have : j = n := by omega
        subst this
        exact ⟨cs, hcs, ha⟩
theorem opens_slice {α : Type} {P : Program} {t e : TypeId} {d : Kd α} {Wf : α → Prop} (ht : P.underlying t = some (.slice e)) (hC : P.cellsOf e = d.sz) (ho : Opens P e d Wf) :
    Opens P t (Kd.slice e d) (fun xs => xs.length ≤ maxLen ∧ ∀ y ∈ xs, Wf y) := by
  intro H enc W spare held fuel cs x h
  rcases open_slice ht h with ⟨rfl, _⟩ | ⟨a, len, cap, m, n, D, Pl, rfl, _, hl, hm, hmm, _, hi⟩
  · exact ⟨[], ⟨none, 0, rfl, Nat.le_refl _, rfl, by simp, fun h => by simp at h⟩, by simp [maxLen], fun y hy => by simp at hy⟩
  · have hml : len ≤ m := by rw [hmm]; split <;> omega
    obtain ⟨xs, hxl, hw, hx⟩ := opens_row (W := W) (d := d) (Wf := Wf) (fun i cs' => W.cells? 0 (a.add (i * P.cellsOf e)) (P.cellsOf e) = some cs' ∧ DataW.trod enc P W 0 spare held n e cs' = some (D i, Pl i))
      (fun i cs' hq => ho hq.2) len (fun i hi' => hi i (by omega))
    refine ⟨xs, ⟨some a, cap, by rw [hxl], by omega, rfl, ?_, fun _ => ⟨a, rfl, fun j p hj => ?_⟩⟩, by omega, hw⟩
    · simp only [maxLen] at hm
      omega
    · obtain ⟨cs', ⟨hc, _⟩, hK⟩ := hx j p hj
      obtain ⟨_, hcl, hat⟩ := World.cells?_some hc
      refine ⟨cs', d.K_len hK, hK, fun i u hu => ?_⟩
      have hil : i < cs'.length := (List.getElem?_eq_some_iff.1 hu).1
      have h1 := hat i (by omega)
      rw [hC] at h1
      rw [← Go.Deep.add_add, h1, hu]
section
variable {α β γ δ : Type} {P : Program} {t : TypeId} {f0 f1 f2 f3 : Field} {d0 : Kd α} {d1 : Kd β} {d2 : Kd γ} {d3 : Kd δ} {W0 : α → Prop} {W1 : β → Prop} {W2 : γ → Prop} {W3 : δ → Prop}
end
theorem opens_arg {α : Type} {P : Program} {t e : TypeId} {d : Kd α} {Wf : List α → Prop} (ho : Opens P t (Kd.slice e d) Wf) {H : Type} {enc : TypeId × Value → H} {W : World} {spare : Nat → Bool} {held : Bool} {a : Option Addr} {len cap : Nat} {dd : DataW H} {p : List MemPlace}
    (h : DataW.Trod enc P W 0 spare held t (.slice a len cap) dd p) : ∃ l : List α, len = l.length ∧ l.length ≤ cap ∧ Kd.C d W a l.length l ∧ Wf l := by
  obtain ⟨fuel, hf⟩ := h
  obtain ⟨l, ⟨A, c, he, hl, hC⟩, hw⟩ := ho hf
  simp [Value.cells] at he
  obtain ⟨rfl, rfl, rfl⟩ := he
  exact ⟨l, rfl, hl, hC, hw⟩
end Go.Proofs.Ytcgfedaoimhejaa.G
