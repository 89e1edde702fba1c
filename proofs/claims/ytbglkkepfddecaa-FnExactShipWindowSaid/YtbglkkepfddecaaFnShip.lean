import Derived.Test.YtbglkkepfddecaaFnDraft
import Derived.Test.YtbglkkepfddecaaGx35
import Derived.Test.YtbglkkepfddecaaGx37
import Derived.Test.YtbglkkepfddecaaGx34
import Derived.Test.YtbglkkepfddecaaGx36
namespace Go.Proofs.Ytbglkkepfddecaa.G
open Go.RowKit Go.Proofs.YtbglkkepfddecaaW.PrintWords Go.Proofs.YtbglkkepfddecaaW.PrintLast
set_option linter.unusedVariables false
set_option linter.unusedSimpArgs false
/-- The height at an hour is at least a depth. -/
def Deep (xs : List S60) (p h : Int) : Prop := ∀ j, IsSeg xs h j → p * hD xs j ≤ hN xs j h
theorem deep_seg {xs : List S60} (hv : Valid xs) {p h j : Int} (hs : IsSeg xs h j) : Deep xs p h ↔ p * hD xs j ≤ hN xs j h := by
  refine ⟨fun d => d j hs, fun d i hi => ?_⟩
  have bi := seg_bd hv hi
  have bj := seg_bd hv hs
  rcases seg_two hv hi hs with rfl | ⟨H, e1, e2⟩
  · exact d
  · rw [e2] at d
    rw [e1]
    have := Int.le_of_mul_le_mul_right d (by omega)
    exact Int.mul_le_mul_of_nonneg_right this (by omega)
theorem deep_dec {xs : List S60} (hv : Valid xs) {p h j : Int} (hs : IsSeg xs h j) (hp : -3000 ≤ p ∧ p ≤ 3000) : decide (hN xs j h ≥ wrap64 (p * hD xs j)) = chk (Deep xs p h) true false := by
  have bj := seg_bd hv hs
  have m := mul_bd (x := p) (y := hD xs j) (A := 3000) (B := 240) (by omega) (by omega) (by omega) (by omega) (by omega) (by omega)
  rw [wrap64_id (by omega) (by omega)]
  by_cases hd : Deep xs p h
  · rw [chk_pos hd]; exact decide_eq_true ((deep_seg hv hs).1 hd)
  · rw [chk_neg hd]; exact decide_eq_false (fun h => hd ((deep_seg hv hs).2 h))
theorem spec_deep {xs : List S60} (hv : Valid xs) {p h : Int} (hh : InTab xs h) (hp : -3000 ≤ p ∧ p ≤ 3000) : Ev (fun k => spec_l15Deep.f k xs h p) (chk (Deep xs p h) true false) := by
  obtain ⟨j, hs, he⟩ := spec_height xs hv h hh
  unfold spec_l15Deep.f
  refine Ev.bind he ?_
  exact Ev.val (deep_dec hv hs hp)
theorem impl_deep {xs : List S60} (hv : Valid xs) {p h : Int} (hh : InTab xs h) (hp : -3000 ≤ p ∧ p ≤ 3000) : Ev (fun k => impl_isDeep.f k xs h p) (chk (Deep xs p h) true false) := by
  obtain ⟨j, hs, he⟩ := impl_height xs hv h hh
  unfold impl_isDeep.f
  refine Ev.bind he ?_
  exact Ev.val (deep_dec hv hs hp)
/-- The last hour. -/
def lastH (xs : List S60) : Int := (rd_T60 xs ((xs.length : Int) - 1)).f0
theorem intab_bd {xs : List S60} (hv : Valid xs) {h : Int} (hh : InTab xs h) : 0 ≤ h ∧ h ≤ 240 := by
  have bv := hv.1
  have b0 := (hv.2 0 (by omega) (by omega)).1
  have b1 := (hv.2 ((xs.length : Int) - 1) (by omega) (by omega)).1
  unfold InTab at hh
  omega
/-- A window that begins at s. -/
def WinAt (xs : List S60) (p from_ hours s : Int) : Prop := from_ ≤ s ∧ s + hours ≤ lastH xs ∧ All (Deep xs p) s (s + hours + 1)
/-- What is asked for: the first window. -/
def ShipRes (xs : List S60) (p from_ hours : Int) (r : Int × Bool) : Prop := (∃ s, r = (s, true) ∧ WinAt xs p from_ hours s ∧ ∀ t, t < s → ¬ WinAt xs p from_ hours t) ∨ (r = (0, false) ∧ ∀ t, ¬ WinAt xs p from_ hours t)
theorem shipRes_uniq {xs : List S60} {p from_ hours : Int} {r r' : Int × Bool} (h : ShipRes xs p from_ hours r) (h' : ShipRes xs p from_ hours r') : r = r' := by
  rcases h with ⟨s, e, w, m⟩ | ⟨e, n⟩ <;> rcases h' with ⟨s', e', w', m'⟩ | ⟨e', n'⟩
  · have h1 : ¬ s' < s := fun h => m s' h w'
    have h2 : ¬ s < s' := fun h => m' s h w
    have : s = s' := by omega
    rw [e, e', this]
  · exact absurd w (n' s)
  · exact absurd w' (n s')
  · rw [e, e']
theorem all_last {P : Int → Prop} {i n : Int} (h : i ≤ n) : All P i (n + 1) ↔ All P i n ∧ P n := by
  constructor
  · intro a
    exact ⟨fun j h1 h2 => a j h1 (by omega), a n h (by omega)⟩
  · rintro ⟨a, p⟩ j h1 h2
    by_cases e : j = n
    · rw [e]; exact p
    · exact a j h1 (by omega)
theorem spec_ship (xs : List S60) (hv : Valid xs) (draft bottom from_ hours : Int) (hd : 0 ≤ draft ∧ draft ≤ 3000) (hb : 0 ≤ bottom ∧ bottom ≤ 3000) (hf : InTab xs from_) (hh : 0 ≤ hours ∧ hours ≤ 240) :
    ∃ r, ShipRes xs (draft - bottom) from_ hours r ∧ Ev (fun k => spec_ShipWindow.l0 k xs draft bottom hours from_) r := by
  have hbd := intab_bd hv hf
  have hlast : lastH xs ≤ 240 := by
    have bv := hv.1
    have b1 := (hv.2 ((xs.length : Int) - 1) (by omega) (by omega)).1
    unfold lastH; omega
  have hlen := hv.1
  have main : ∀ (d : Nat) (h : Int), from_ ≤ h → h ≤ 241 → lastH xs + 1 ≤ h + hours + d → (∀ t, t < h → ¬ WinAt xs (draft - bottom) from_ hours t) → ∃ r, ShipRes xs (draft - bottom) from_ hours r ∧ Ev (fun k => spec_ShipWindow.l0 k xs draft bottom hours h) r := by
    intro d
    induction d with
    | zero =>
      intro h h0 h1 hd0 hno
      refine ⟨(0, false), .inr ⟨rfl, fun t w => ?_⟩, ?_⟩
      · by_cases ht : t < h
        · exact hno t ht w
        · have := w.2.1; omega
      · refine Ev.step (fun k => by rw [spec_ShipWindow.l0]) ?_
        have e : ¬ h + hours ≤ (rd_T60 xs ((xs.length : Int) - 1)).f0 := by unfold lastH at hd0; omega
        simp (disch := omega) only [if_pos, wrap64_id, if_neg]
        exact Ev.now _
    | succ d ih =>
      intro h h0 h1 hd0 hno
      by_cases hle : h + hours ≤ lastH xs
      · have e : h + hours ≤ (rd_T60 xs ((xs.length : Int) - 1)).f0 := hle
        have step : ∀ (R : Int × Bool), (¬ All (Deep xs (draft - bottom)) h (h + hours + 1) → Ev (fun k => spec_ShipWindow.l0 k xs draft bottom hours (h + 1)) R) → (All (Deep xs (draft - bottom)) h (h + hours + 1) → R = (h, true)) → Ev (fun k => spec_ShipWindow.l0 k xs draft bottom hours h) R := by
          intro R hR1 hR2
          refine Ev.step (fun k => by rw [spec_ShipWindow.l0]) ?_
          simp (disch := omega) only [if_pos, wrap64_id]
          have inner := Ev.up (fun k (b : Bool) j => spec_ShipWindow.l1 k xs draft bottom hours h b j) (fun _ _ => R) (fun b j => h ≤ j ∧ b = chk (All (Deep xs (draft - bottom)) h j) true false) (h + hours + 1) (by
            rintro b ⟨hj, rfl⟩
            refine Ev.step (fun k => by rw [spec_ShipWindow.l1]) ?_
            simp (disch := omega) only [wrap64_id, if_neg]
            refine Ev.ite (fun hb => ?_) (fun hb => ?_)
            · rw [hR2 (chk_true.1 hb)]; exact Ev.now _
            · exact hR1 (fun a => hb (chk_true.2 a))) (by
            rintro b j ⟨hj, rfl⟩ hlt ih2
            refine Ev.step (fun k => by rw [spec_ShipWindow.l1]) ?_
            simp (disch := omega) only [wrap64_id, if_pos]
            refine Ev.ite (fun hb => ?_) (fun hb => ?_)
            · have hin : InTab xs j := by unfold InTab at hf ⊢; omega
              refine Ev.bind (spec_deep hv hin (by omega)) ?_
              refine ih2 _ ⟨by omega, ?_⟩
              refine chk_congr ?_ _ _
              rw [all_last hj]
              exact ⟨fun d => ⟨chk_true.1 hb, d⟩, fun d => d.2⟩
            · refine ih2 false ⟨by omega, ?_⟩
              rw [chk_neg (fun a => hb (chk_true.2 ((all_last hj).1 a).1))])
          exact inner true h ⟨by omega, by rw [chk_pos (All.end_ _ _)]⟩ (by omega)
        by_cases hw : All (Deep xs (draft - bottom)) h (h + hours + 1)
        · exact ⟨(h, true), .inl ⟨h, rfl, ⟨h0, hle, hw⟩, hno⟩, step _ (fun n => absurd hw n) (fun _ => rfl)⟩
        · obtain ⟨r, hr, er⟩ := ih (h + 1) (by omega) (by omega) (by omega) (fun t ht => by
            by_cases e : t = h
            · rw [e]; exact fun w => hw w.2.2
            · exact hno t (by omega))
          exact ⟨r, hr, step r (fun _ => er) (fun a => absurd a hw)⟩
      · refine ⟨(0, false), .inr ⟨rfl, fun t w => ?_⟩, ?_⟩
        · by_cases ht : t < h
          · exact hno t ht w
          · have := w.2.1; omega
        · refine Ev.step (fun k => by rw [spec_ShipWindow.l0]) ?_
          have e : ¬ h + hours ≤ (rd_T60 xs ((xs.length : Int) - 1)).f0 := by unfold lastH at hle; omega
          simp (disch := omega) only [if_pos, wrap64_id, if_neg]
          exact Ev.now _
  exact main 241 from_ (by omega) (by omega) (by omega) (fun t ht w => by have := w.1; omega)
theorem impl_ship (xs : List S60) (hv : Valid xs) (draft bottom from_ hours : Int) (hd : 0 ≤ draft ∧ draft ≤ 3000) (hb : 0 ≤ bottom ∧ bottom ≤ 3000) (hf : InTab xs from_) (hh : 0 ≤ hours ∧ hours ≤ 240) :
    ∃ r, ShipRes xs (draft - bottom) from_ hours r ∧ Ev (fun k => impl_ShipWindow.l0 k xs draft bottom hours 0 from_) r := by
  have hbd := intab_bd hv hf
  have hlen := hv.1
  have hlast : from_ ≤ lastH xs ∧ lastH xs ≤ 240 := by
    have b1 := (hv.2 ((xs.length : Int) - 1) (by omega) (by omega)).1
    unfold InTab at hf
    unfold lastH; omega
  have main : ∀ (d : Nat) (h c : Int), from_ ≤ h → h + d = lastH xs + 1 → 0 ≤ c → c ≤ hours → c ≤ h - from_ → All (Deep xs (draft - bottom)) (h - c) h → (c < h - from_ → ¬ Deep xs (draft - bottom) (h - c - 1)) → (∀ t, t + hours < h → ¬ WinAt xs (draft - bottom) from_ hours t) →
      ∃ r, ShipRes xs (draft - bottom) from_ hours r ∧ Ev (fun k => impl_ShipWindow.l0 k xs draft bottom hours c h) r := by
    intro d
    induction d with
    | zero =>
      intro h c h0 hd0 c0 c1 c2 ha hn hno
      refine ⟨(0, false), .inr ⟨rfl, fun t w => ?_⟩, ?_⟩
      · exact hno t (by have := w.2.1; omega) w
      · refine Ev.step (fun k => by rw [impl_ShipWindow.l0]) ?_
        have e : ¬ h ≤ (rd_T60 xs ((xs.length : Int) - 1)).f0 := by unfold lastH at hd0; omega
        simp (disch := omega) only [if_pos, wrap64_id, if_neg]
        exact Ev.now _
    | succ d ih =>
      intro h c h0 hd0 c0 c1 c2 ha hn hno
      have e : h ≤ (rd_T60 xs ((xs.length : Int) - 1)).f0 := by unfold lastH at hd0; omega
      have hin : InTab xs h := by unfold InTab at hf ⊢; omega
      have step : ∀ (R : Int × Bool), (Deep xs (draft - bottom) h → c = hours → R = (h - hours, true)) → (Deep xs (draft - bottom) h → c < hours → Ev (fun k => impl_ShipWindow.l0 k xs draft bottom hours (c + 1) (h + 1)) R) → (¬ Deep xs (draft - bottom) h → Ev (fun k => impl_ShipWindow.l0 k xs draft bottom hours 0 (h + 1)) R) → Ev (fun k => impl_ShipWindow.l0 k xs draft bottom hours c h) R := by
        intro R R1 R2 R3
        refine Ev.step (fun k => by rw [impl_ShipWindow.l0]) ?_
        simp (disch := omega) only [if_pos, wrap64_id]
        refine Ev.bind (impl_deep hv hin (by omega)) ?_
        refine Ev.ite (fun hdp => ?_) (fun hdp => ?_)
        · have hdp := chk_true.1 hdp
          refine Ev.ite (fun hc => ?_) (fun hc => ?_)
          · rw [R1 hdp (by omega)]; exact Ev.now _
          · exact R2 hdp (by omega)
        · have hdp : ¬ Deep xs (draft - bottom) h := fun x => hdp (chk_true.2 x)
          simp (disch := omega) only [if_neg]
          exact R3 hdp
      by_cases hdp : Deep xs (draft - bottom) h
      · by_cases hc : c = hours
        · refine ⟨(h - hours, true), .inl ⟨h - hours, rfl, ⟨by omega, by unfold lastH; omega, ?_⟩, fun t ht => hno t (by omega)⟩, step _ (fun _ _ => rfl) (fun _ x => by omega) (fun x => absurd hdp x)⟩
          rw [show h - hours + hours + 1 = h + 1 from by omega, all_last (by omega)]
          refine ⟨?_, hdp⟩
          rw [← hc]; exact ha
        · obtain ⟨r, hr, er⟩ := ih (h + 1) (c + 1) (by omega) (by omega) (by omega) (by omega) (by omega) (by
            rw [show h + 1 - (c + 1) = h - c from by omega, all_last (by omega)]; exact ⟨ha, hdp⟩) (fun hx => by
            rw [show h + 1 - (c + 1) - 1 = h - c - 1 from by omega]; exact hn (by omega)) (fun t ht w => by
            by_cases e2 : t + hours < h
            · exact hno t e2 w
            · have w1 := w.1
              exact hn (by omega) (w.2.2 (h - c - 1) (by omega) (by omega)))
          exact ⟨r, hr, step r (fun _ x => absurd x hc) (fun _ _ => er) (fun x => absurd hdp x)⟩
      · obtain ⟨r, hr, er⟩ := ih (h + 1) 0 (by omega) (by omega) (by omega) (by omega) (by omega) (by
          rw [show h + 1 - 0 = h + 1 from by omega]; exact All.end_ _ _) (fun _ => by
          rw [show h + 1 - 0 - 1 = h from by omega]; exact hdp) (fun t ht w => by
          by_cases e2 : t + hours < h
          · exact hno t e2 w
          · exact hdp (w.2.2 h (by omega) (by omega)))
        exact ⟨r, hr, step r (fun x => absurd x hdp) (fun x => absurd x hdp) (fun _ => er)⟩
  exact main (lastH xs + 1 - from_).toNat from_ 0 (by omega) (by omega) (by omega) (by omega) (by omega) (by rw [show from_ - 0 = from_ from by omega]; exact All.end_ _ _) (fun x => by omega) (fun t ht w => by have := w.1; omega)
theorem ship_both (xs : List S60) (draft bottom from_ hours : Int) : ∃ r, Ev (fun k => spec_ShipWindow.f k xs draft bottom from_ hours) r ∧ Ev (fun k => impl_ShipWindow.f k xs draft bottom from_ hours) r := by
  by_cases hall : (Valid xs ∧ InTab xs from_) ∧ (0 ≤ draft ∧ draft ≤ 3000) ∧ (0 ≤ bottom ∧ bottom ≤ 3000) ∧ (0 ≤ hours ∧ hours ≤ 240)
  · obtain ⟨hvf, hd, hb, hh⟩ := hall
    obtain ⟨r, hr, er⟩ := spec_ship xs hvf.1 draft bottom from_ hours hd hb hvf.2 hh
    obtain ⟨r', hr', er'⟩ := impl_ship xs hvf.1 draft bottom from_ hours hd hb hvf.2 hh
    obtain rfl := shipRes_uniq hr hr'
    refine ⟨r, ?_, ?_⟩
    · unfold spec_ShipWindow.f
      refine Ev.bind (spec_holds xs from_) ?_
      rw [chk_pos hvf]
      simp only [if_true, spec_l1In_eq, Option.bind_some, decide_eq_true hd, decide_eq_true hb, decide_eq_true hh]
      refine Ev.step (fun k => by rw [spec_ShipWindow.j0]) ?_
      simp only [Bool.not_true, Bool.false_eq_true, if_false]
      exact er
    · unfold impl_ShipWindow.f
      refine Ev.bind (impl_holds_one xs from_) ?_
      rw [chk_pos hvf]
      simp only [if_true, impl_within_eq, Option.bind_some, decide_eq_true hd, decide_eq_true hb, decide_eq_true hh]
      refine Ev.step (fun k => by rw [impl_ShipWindow.j0]) ?_
      simp only [Bool.not_true, Bool.false_eq_true, if_false]
      exact er'
  · have js : Ev (fun k => spec_ShipWindow.j0 k xs draft bottom from_ hours true) (0, false) := by
      refine Ev.step (fun k => by rw [spec_ShipWindow.j0]) ?_
      simp only [if_true]; exact Ev.now _
    have ji : Ev (fun k => impl_ShipWindow.j0 k xs draft bottom from_ hours true) (0, false) := by
      refine Ev.step (fun k => by rw [impl_ShipWindow.j0]) ?_
      simp only [if_true]; exact Ev.now _
    refine ⟨(0, false), ?_, ?_⟩
    · unfold spec_ShipWindow.f
      refine Ev.bind (spec_holds xs from_) ?_
      simp only [spec_l1In_eq, Option.bind_some]
      refine Ev.ite (fun h1 => ?_) (fun _ => js)
      refine Ev.ite (fun h2 => ?_) (fun _ => js)
      refine Ev.ite (fun h3 => ?_) (fun _ => js)
      rw [decide_eq_false (fun h4 => hall ⟨chk_true.1 h1, of_decide_eq_true h2, of_decide_eq_true h3, h4⟩)]
      exact js
    · unfold impl_ShipWindow.f
      refine Ev.bind (impl_holds_one xs from_) ?_
      simp only [impl_within_eq, Option.bind_some]
      refine Ev.ite (fun h1 => ?_) (fun _ => ji)
      refine Ev.ite (fun h2 => ?_) (fun _ => ji)
      refine Ev.ite (fun h3 => ?_) (fun _ => ji)
      rw [decide_eq_false (fun h4 => hall ⟨chk_true.1 h1, of_decide_eq_true h2, of_decide_eq_true h3, h4⟩)]
      exact ji
end Go.Proofs.Ytbglkkepfddecaa.G
