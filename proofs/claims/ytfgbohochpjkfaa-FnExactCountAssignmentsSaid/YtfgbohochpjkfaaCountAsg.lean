/- The contract of CountAssignments: of a valid table, the number of its assignments. -/
import Derived.Test.YtfgbohochpjkfaaAsn
import Derived.Test.YtfgbohochpjkfaaCosts
import Derived.Test.YtfgbohochpjkfaaGx12
namespace Go.Proofs.Ytfgbohochpjkfaa.G
open Go.RowKit Go.Proofs.YtfgbohochpjkfaaW.PrintWords Go.Proofs.YtfgbohochpjkfaaW.PrintLast
set_option linter.unusedVariables false
set_option linter.unusedSimpArgs false
theorem costs_true {k : Nat} {t : List (List Int)} (h : impl_IsValidCosts.f k t = some true) : Costs t := by
  have e1 := impl_costs0 t
  have e2 := Ev.of (g := fun k => impl_IsValidCosts.f k t) (fun k => impl_IsValidCosts.mono t k) h
  have e := Ev.same e1 e2
  exact chk_true.1 e
theorem rd_L1_1000 {t : List (List Int)} (hc : Costs t) (i : Int) (h0 : 0 ≤ i) : (rd_L1 t i).length ≤ 1000 := by
  obtain ⟨h1, h2, h3⟩ := hc
  by_cases h : i < (t.length : Int)
  · have := (h3 i h0 h).1
    omega
  · unfold rd_L1
    rw [List.getD_eq_getElem?_getD, List.getElem?_eq_none (by omega)]
    simp
theorem Keeps.of_set (w : World) (g i : Nat) (u : Value) : Keeps (fun k => k = g) w (w.setCell ⟨g, i, none⟩ u) := ⟨rfl, rfl, rfl, by simp [World.setCell], fun k hk hn => Below.heap_setCell w ⟨g, i, none⟩ u k hn⟩
/-- How the count stands in its box. -/
def CountI (Bc : Nat) (w : World) (s : Int) : Prop := w.heap[Bc]? = some (.cells #[.int .i64 s] 3 (0, 0))
set_option maxHeartbeats 2000000 in
set_option maxRecDepth 100000 in
theorem count_call (Bc : Nat) (w : World) (s : Int) (v : Value) (h : CountI Bc w s) : Calls Try.prog 64 #[v, .pointer (some ⟨Bc, 0, none⟩)] w fun e w' => e = .returned (.tuple #[]) ∧ CountI Bc w' (wrap64 (s + 1)) ∧ Keeps (fun k => k = Bc) w w' := by
  have hX := Aside0.mk h
  have hc : w.cell? ⟨Bc, 0, none⟩ = some (.int .i64 s) := (blk_cell h 0).trans rfl
  have hf := blk_frozen h 0
  clear h
  go_enter Try.func64, Try.ntmps64
  go_wp2
  go_end0
  have hk := Keeps.of_set w Bc 0 (.int .i64 (wrap64 (s + 1)))
  first
  | exact ⟨rfl, blk_set hX.out 0 _, hk⟩
  | (simp only [i64_w]; exact ⟨rfl, blk_set hX.out 0 _, hk⟩)
theorem count_back (Bc B0 : Nat) : Back (σ := Int) 64 #[.pointer (some ⟨Bc, 0, none⟩)] (fun k => k = Bc) B0 (CountI Bc) (fun _ => True) (fun s _ => wrap64 (s + 1)) where
  enters := fun args w => enters_ Try.func64 (by kernel_rfl) rfl args w
  call := fun w s v l h _ _ => count_call Bc w s v h
  stay := fun w w' s h hb => blk_below h hb
  low := fun w s h k hk => by subst hk; exact blk_lt h
theorem count_below {w w2 w5 : World} {g : Nat} (h : Below w.heap.size w w2) (k : Keeps (fun k => k = g) w2 w5) (hg : w.heap.size ≤ g) : Below w.heap.size w w5 :=
  ⟨k.os.trans h.os, k.tape.trans h.tape, k.output.trans h.output, Nat.le_trans h.size k.size, fun i hi => (k.block i (Nat.lt_of_lt_of_le hi h.size) (fun e => by omega)).trans (h.block i hi)⟩
noncomputable def impl_CountAssignments.f (k : Nat) (t : List (List Int)) : Option (Int × Bool) := (impl_IsValidCosts.f k t).bind fun b => if b = true then some ((asgs t t.length []).foldl (fun s _ => wrap64 (s + 1)) 0, true) else some (0, false)
theorem impl_CountAssignments.mono : ∀ a0 k, LeO (impl_CountAssignments.f k a0) (impl_CountAssignments.f (k + 1) a0) := by
  intro a0 k
  unfold impl_CountAssignments.f
  exact LeO.bind (impl_IsValidCosts.mono _ _) (fun _ => LeO.refl _)
set_option maxHeartbeats 2000000 in
set_option maxRecDepth 100000 in
theorem impl_CountAssignments.calls (k : Nat) (A0 : Option Addr) (c0 : Nat) (l0 : List (List Int)) (r1 : Int) (r2 : Bool) (w : World) (hr0 : Kd.C (Kd.slice 3 (Kd.int .i64)) w A0 l0.length l0) (hc0 : l0.length ≤ c0) (h : impl_CountAssignments.f k l0 = some (r1, r2)) :
    Calls Try.prog 32 #[.slice A0 l0.length c0] w fun e w' => e = .returned (.tuple #[.int .i64 r1, .bool r2]) ∧ Below w.heap.size w w' := by
  obtain ⟨b, hb, h⟩ := Option.bind_eq_some_iff.mp h
  have HR := Aside0.mk hr0
  have HV := Aside0.mk hb
  clear hr0
  cases b with
  | false =>
    rw [if_neg (by decide)] at h
    obtain ⟨rfl, rfl⟩ := Prod.mk.inj (Option.some.inj h)
    clear h hb
    go_enter Try.func32, Try.ntmps32
    go_wp2_with (go_at_call 17; refine (impl_IsValidCosts.calls k A0 c0 l0 false _ HR.out hc0 HV.out).mono ?_; rintro e w' ⟨rfl, hd⟩)
    go_ret2
    exact ⟨rfl, hd.below⟩
  | true =>
    rw [if_pos rfl] at h
    obtain ⟨rfl, rfl⟩ := Prod.mk.inj (Option.some.inj h)
    have HC := Aside0.mk (costs_true hb)
    clear h hb
    go_enter Try.func32, Try.ntmps32
    go_wp2_with (first | (go_at_call 17; refine (impl_IsValidCosts.calls k A0 c0 l0 true _ HR.out hc0 HV.out).mono ?_; rintro e w1 ⟨rfl, hd⟩; have HD := Aside0.mk hd.below; clear hd) | ((with_reducible refine gate_dst (N := 4) rfl ?_); refine box_event ?hg4 (N := 4) ?hd4 (cs := #[.int .i64 0]) (t := 3) ?hr4 ?_; (case hd4 => rfl); (case hg4 => rfl); (case hr4 => first | (go_simp; done) | (go_simp; rfl)); intro g1 hgg w2 hbox hbb; have HG := Aside0.mk hgg; have hz1 : w2.cell? ⟨g1, 0, none⟩ = some (.int .i64 0) := (blk_cell hbox 0).trans rfl; have hz2 := blk_frozen hbox 0; have HI : Aside0 (CountI g1 (w2.setCell ⟨g1, 0, none⟩ (.int .i64 0)) 0) := Aside0.mk (blk_set hbox 0 (.int .i64 0)); have HB : Aside0 (Below w.heap.size w (w2.setCell ⟨g1, 0, none⟩ (.int .i64 0))) := Aside0.mk (Below.setCell (below_step HD.out hbb) (by show w.heap.size ≤ g1; rw [hgg]; exact HD.out.size) _); clear hgg hbox hbb) | (go_at_call 63; refine (assignments_any (count_back g1 w.heap.size) HR.out hc0 (by have := HC.out.1; omega) (rd_L1_1000 HC.out) _ 0 (fun _ _ => trivial) HB.out (fun k hk => by rw [hk, HG.out]; exact HD.out.size) HI.out).mono ?_; rintro e w5 ⟨rfl, hI5, hK5⟩; have hz5 : w5.cell? ⟨g1, 0, none⟩ = some (.int .i64 ((asgs l0 l0.length []).foldl (fun s _ => wrap64 (s + 1)) 0)) := (blk_cell hI5 0).trans rfl; have HE : Aside0 (Below w.heap.size w w5) := Aside0.mk (count_below HB.out hK5 (by rw [HG.out]; exact HD.out.size)); clear hI5 hK5))
    go_ret2
    exact ⟨rfl, HE.out⟩
end Go.Proofs.Ytfgbohochpjkfaa.G
