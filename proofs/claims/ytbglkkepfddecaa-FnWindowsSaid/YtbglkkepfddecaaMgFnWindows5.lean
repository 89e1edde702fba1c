/- Texts of the proof of FnWindows, joined in build order. -/
import Derived.Test.YtbglkkepfddecaaMgFnWindows4
import Derived.Test.YtbglkkepfddecaaMgFnWindows1
import Derived.Test.YtbglkkepfddecaaMgFnWindows2
namespace Go.Proofs.Ytbglkkepfddecaa.G
open Go.RowKit Go.Proofs.YtbglkkepfddecaaW.PrintWords Go.Proofs.YtbglkkepfddecaaW.PrintLast
set_option linter.unusedVariables false
set_option linter.unusedSimpArgs false
theorem impl_within_eq (a b c : Int) : impl_within.f a b c = some (decide (b ≤ a ∧ a ≤ c)):=by
  unfold impl_within.f
  split
  · rename_i h;congr 1;simp;omega
  · rename_i h;congr 1;simp;omega
theorem spec_l1In_eq (a b c : Int) : spec_l1In.f a b c = some (decide (b ≤ a ∧ a ≤ c)):=by
  unfold spec_l1In.f
  split
  · rename_i h;congr 1;simp;omega
  · rename_i h;congr 1;simp;omega
/-- What a table must be at index i. -/
def okAt (xs : List S60) (i : Int) : Prop :=
  (0 ≤ (rd_T60 xs i).f0 ∧ (rd_T60 xs i).f0 ≤ 240 ∧ 0 ≤ (rd_T60 xs i).f1 ∧ (rd_T60 xs i).f1 ≤ 2000) ∧
  (0 < i → (rd_T60 xs (i - 1)).f0 < (rd_T60 xs i).f0 ∧ (rd_T60 xs (i - 1)).f1 ≠ (rd_T60 xs i).f1) ∧
  (1 < i → ¬ ((rd_T60 xs (i - 2)).f1 < (rd_T60 xs (i - 1)).f1 ↔ (rd_T60 xs (i - 1)).f1 < (rd_T60 xs i).f1))
def Valid (xs : List S60) : Prop:=(2 ≤ (xs.length : Int) ∧ (xs.length : Int) ≤ 20) ∧ All (okAt xs) 0 (xs.length : Int)
theorem impl_valid_l0 (xs : List S60) (hn : (xs.length : Int) ≤ 20) : ∀ i,0 ≤ i → i ≤ (xs.length : Int) → Ev (fun k=>impl_IsValidTides.l0 k xs xs (xs.length : Int) i) (chk (All (okAt xs) i (xs.length : Int)) true false):=by
  refine Ev.check (fun k i=>impl_IsValidTides.l0 k xs xs (xs.length : Int) i) (xs.length : Int) (okAt xs) true false 0 ?_ ?_
  · refine Ev.step (fun k=>by rw [impl_IsValidTides.l0]) ?_
    simp only [Int.lt_irrefl,if_false]
    exact Ev.now _
  · intro i h0 hlt r hr
    refine Ev.step (fun k=>by rw [impl_IsValidTides.l0]) ?_
    simp (disch:=omega) only [wrap64_id,impl_within_eq,Option.bind_some,if_pos hlt,if_pos h0,decide_eq_true_eq]
    have fin : ∀ b,(b = true ↔ ¬ (0 ≤ (rd_T60 xs i).f0 ∧ (rd_T60 xs i).f0 ≤ 240 ∧ 0 ≤ (rd_T60 xs i).f1 ∧ (rd_T60 xs i).f1 ≤ 2000)) → Ev (fun k=>impl_IsValidTides.j1 k xs i xs (xs.length : Int) i b (rd_T60 xs i).f0 (rd_T60 xs i).f1) (chk (okAt xs i) r false):=by
      intro b hb
      refine Ev.step (fun k=>by rw [impl_IsValidTides.j1]) ?_
      refine Ev.ite (fun hb'=>?_) (fun hb'=>?_)
      · have:=hb.1 hb'
        rw [chk_neg (fun h=>this h.1)]
        exact Ev.now _
      · have h1 : (0 ≤ (rd_T60 xs i).f0 ∧ (rd_T60 xs i).f0 ≤ 240 ∧ 0 ≤ (rd_T60 xs i).f1 ∧ (rd_T60 xs i).f1 ≤ 2000):=by
          apply Classical.byContradiction;intro h;exact hb' (hb.2 h)
        have fin2 : ∀ b,(b = true ↔ ¬ (0 < i → (rd_T60 xs (i - 1)).f0 < (rd_T60 xs i).f0 ∧ (rd_T60 xs (i - 1)).f1 ≠ (rd_T60 xs i).f1)) → Ev (fun k=>impl_IsValidTides.j2 k xs i xs (xs.length : Int) i b (rd_T60 xs i).f0 (rd_T60 xs i).f1) (chk (okAt xs i) r false):=by
          intro b hb
          refine Ev.step (fun k=>by rw [impl_IsValidTides.j2]) ?_
          refine Ev.ite (fun hb'=>?_) (fun hb'=>?_)
          · have:=hb.1 hb'
            rw [chk_neg (fun h=>this h.2.1)]
            exact Ev.now _
          · have h2 : (0 < i → (rd_T60 xs (i - 1)).f0 < (rd_T60 xs i).f0 ∧ (rd_T60 xs (i - 1)).f1 ≠ (rd_T60 xs i).f1):=by
              apply Classical.byContradiction;intro h;exact hb' (hb.2 h)
            simp (disch:=omega) only [wrap64_id,beq_iff_eq,decide_eq_decide]
            repeat' (refine Ev.ite (fun h=>?_) (fun h=>?_))
            all_goals first
              | (exfalso;omega)
              | (rw [chk_pos ⟨h1,h2,by omega⟩];exact hr)
              | (rw [chk_neg (fun h=>by have:=h.2.2;omega)];exact Ev.now _)
        simp (disch:=omega) only [wrap64_id]
        repeat' (refine Ev.ite (fun h=>?_) (fun h=>?_))
        all_goals first
          | (exfalso;omega)
          | (refine fin2 _ ?_;simp only [beq_iff_eq,true_iff,Bool.false_eq_true,false_iff];omega)
    refine Ev.ite (fun h=>?_) (fun h=>?_)
    all_goals (refine fin _ ?_;simp;omega)
theorem spec_valid_l0 (xs : List S60) (hn : (xs.length : Int) ≤ 20) : ∀ i,0 ≤ i → i ≤ (xs.length : Int) → Ev (fun k=>spec_l15Good.l0 k xs i) (chk (All (okAt xs) i (xs.length : Int)) true false):=by
  refine Ev.check (fun k i=>spec_l15Good.l0 k xs i) (xs.length : Int) (okAt xs) true false 0 ?_ ?_
  · refine Ev.step (fun k=>by rw [spec_l15Good.l0]) ?_
    simp only [Int.lt_irrefl,if_false]
    exact Ev.now _
  · intro i h0 hlt r hr
    refine Ev.step (fun k=>by rw [spec_l15Good.l0]) ?_
    simp (disch:=omega) only [wrap64_id,spec_l1In_eq,Option.bind_some,if_pos hlt,if_pos h0,decide_eq_true_eq]
    have fin : ∀ b,(b = true ↔ ¬ (0 ≤ (rd_T60 xs i).f0 ∧ (rd_T60 xs i).f0 ≤ 240 ∧ 0 ≤ (rd_T60 xs i).f1 ∧ (rd_T60 xs i).f1 ≤ 2000)) → Ev (fun k=>spec_l15Good.j1 k xs i b) (chk (okAt xs i) r false):=by
      intro b hb
      refine Ev.step (fun k=>by rw [spec_l15Good.j1]) ?_
      refine Ev.ite (fun hb'=>?_) (fun hb'=>?_)
      · have:=hb.1 hb'
        rw [chk_neg (fun h=>this h.1)]
        exact Ev.now _
      · have h1 : (0 ≤ (rd_T60 xs i).f0 ∧ (rd_T60 xs i).f0 ≤ 240 ∧ 0 ≤ (rd_T60 xs i).f1 ∧ (rd_T60 xs i).f1 ≤ 2000):=by
          apply Classical.byContradiction;intro h;exact hb' (hb.2 h)
        have fin2 : ∀ b,(b = true ↔ ¬ (0 < i → (rd_T60 xs (i - 1)).f0 < (rd_T60 xs i).f0 ∧ (rd_T60 xs (i - 1)).f1 ≠ (rd_T60 xs i).f1)) → Ev (fun k=>spec_l15Good.j2 k xs i b) (chk (okAt xs i) r false):=by
          intro b hb
          refine Ev.step (fun k=>by rw [spec_l15Good.j2]) ?_
          refine Ev.ite (fun hb'=>?_) (fun hb'=>?_)
          · have:=hb.1 hb'
            rw [chk_neg (fun h=>this h.2.1)]
            exact Ev.now _
          · have h2 : (0 < i → (rd_T60 xs (i - 1)).f0 < (rd_T60 xs i).f0 ∧ (rd_T60 xs (i - 1)).f1 ≠ (rd_T60 xs i).f1):=by
              apply Classical.byContradiction;intro h;exact hb' (hb.2 h)
            simp (disch:=omega) only [wrap64_id,beq_iff_eq,decide_eq_decide]
            repeat' (refine Ev.ite (fun h=>?_) (fun h=>?_))
            all_goals first
              | (exfalso;omega)
              | (rw [chk_pos ⟨h1,h2,by omega⟩];exact hr)
              | (rw [chk_neg (fun h=>by have:=h.2.2;omega)];exact Ev.now _)
        simp (disch:=omega) only [wrap64_id]
        repeat' (refine Ev.ite (fun h=>?_) (fun h=>?_))
        all_goals first
          | (exfalso;omega)
          | (refine fin2 _ ?_;simp only [beq_iff_eq,true_iff,Bool.false_eq_true,false_iff];omega)
    refine Ev.ite (fun h=>?_) (fun h=>?_)
    all_goals (refine fin _ ?_;simp;omega)
theorem impl_valid (xs : List S60) : Ev (fun k=>impl_IsValidTides.f k xs) (chk (Valid xs) true false):=by
  unfold impl_IsValidTides.f
  simp only [impl_within_eq,Option.bind_some,decide_eq_true_eq]
  refine Ev.ite (fun h=>?_) (fun h=>?_)
  · rw [chk_congr (show Valid xs ↔ All (okAt xs) 0 (xs.length : Int) from ⟨fun v=>v.2,fun v=>⟨h,v⟩⟩)]
    exact impl_valid_l0 xs h.2 0 (by omega) (by omega)
  · rw [chk_neg (fun v : Valid xs=>h v.1)]
    exact Ev.now _
theorem spec_valid (xs : List S60) : Ev (fun k=>spec_l15Good.f k xs) (chk (Valid xs) true false):=by
  unfold spec_l15Good.f
  simp only [spec_l1In_eq,Option.bind_some,decide_eq_true_eq]
  refine Ev.ite (fun h=>?_) (fun h=>?_)
  · rw [chk_congr (show Valid xs ↔ All (okAt xs) 0 (xs.length : Int) from ⟨fun v=>v.2,fun v=>⟨h,v⟩⟩)]
    exact spec_valid_l0 xs h.2 0 (by omega) (by omega)
  · rw [chk_neg (fun v : Valid xs=>h v.1)]
    exact Ev.now _

theorem valid_up {xs : List S60} (hv : Valid xs) : ∀ (d : Nat) (i : Int),0 ≤ i → i + d < (xs.length : Int) → (rd_T60 xs i).f0 + d ≤ (rd_T60 xs (i + d)).f0:=by
  intro d
  induction d with
  | zero=>intro i h0 h1;simp
  | succ d ih =>
    intro i h0 h1
    have h:=ih i h0 (by omega)
    have o:=(hv.2 (i + (d + 1 : Nat)) (by omega) (by omega)).2.1 (by omega)
    rw [show i + ((d + 1 : Nat) : Int) - 1 = i + d from by omega] at o
    omega
theorem valid_lt {xs : List S60} (hv : Valid xs) {i j : Int} (h0 : 0 ≤ i) (h1 : i < j) (h2 : j < (xs.length : Int)) : (rd_T60 xs i).f0 < (rd_T60 xs j).f0:=by
  have h:=valid_up hv (j - i).toNat i h0 (by omega)
  rw [show i + ((j - i).toNat : Int) = j from by omega] at h
  omega
/-- The height in segment j at an hour: numerator and denominator. -/
def hN (xs : List S60) (j h : Int) : Int:=(rd_T60 xs j).f1 * ((rd_T60 xs (j + 1)).f0 - (rd_T60 xs j).f0) + ((rd_T60 xs (j + 1)).f1 - (rd_T60 xs j).f1) * (h - (rd_T60 xs j).f0)
def hD (xs : List S60) (j : Int) : Int:=(rd_T60 xs (j + 1)).f0 - (rd_T60 xs j).f0
def IsSeg (xs : List S60) (h j : Int) : Prop:=0 ≤ j ∧ j + 1 < (xs.length : Int) ∧ (rd_T60 xs j).f0 ≤ h ∧ h ≤ (rd_T60 xs (j + 1)).f0
def InTab (xs : List S60) (h : Int) : Prop:=(rd_T60 xs 0).f0 ≤ h ∧ h ≤ (rd_T60 xs ((xs.length : Int) - 1)).f0
theorem bdN {a b d t : Int} (ha : 0 ≤ a ∧ a ≤ 2000) (hb : 0 ≤ b ∧ b ≤ 2000) (ht : 0 ≤ t ∧ t ≤ d) : 0 ≤ a * d + (b - a) * t ∧ a * d + (b - a) * t ≤ 2000 * d:=by
  have e : a * d + (b - a) * t = a * (d - t) + b * t:=by rw [Int.sub_mul,Int.mul_sub];omega
  have h1 : 0 ≤ a * (d - t):=Int.mul_nonneg ha.1 (by omega)
  have h2 : 0 ≤ b * t:=Int.mul_nonneg hb.1 ht.1
  have h3 : a * (d - t) ≤ 2000 * (d - t):=Int.mul_le_mul_of_nonneg_right ha.2 (by omega)
  have h4 : b * t ≤ 2000 * t:=Int.mul_le_mul_of_nonneg_right hb.2 ht.1
  omega
theorem seg_bd {xs : List S60} (hv : Valid xs) {h j : Int} (hs : IsSeg xs h j) : 1 ≤ hD xs j ∧ hD xs j ≤ 240 ∧ 0 ≤ hN xs j h ∧ hN xs j h ≤ 2000 * hD xs j:=by
  obtain ⟨h0,h1,h2,h3⟩:=hs
  have b0:=(hv.2 j h0 (by omega)).1
  have b1:=(hv.2 (j + 1) (by omega) h1).1
  have lt:=valid_lt hv h0 (show j < j + 1 by omega) h1
  have q:=bdN (d:=(rd_T60 xs (j + 1)).f0 - (rd_T60 xs j).f0) (t:=h - (rd_T60 xs j).f0) ⟨b0.2.2.1,b0.2.2.2⟩ ⟨b1.2.2.1,b1.2.2.2⟩ ⟨by omega,by omega⟩
  unfold hN hD
  exact ⟨by omega,by omega,q.1,q.2⟩
/-- Two segments at one hour: the same, or both tell the height of one tide. -/
theorem seg_two {xs : List S60} (hv : Valid xs) {h i j : Int} (hi : IsSeg xs h i) (hj : IsSeg xs h j) : i = j ∨ ∃ H,hN xs i h = H * hD xs i ∧ hN xs j h = H * hD xs j:=by
  have key : ∀ {i j : Int},IsSeg xs h i → IsSeg xs h j → i < j → ∃ H,hN xs i h = H * hD xs i ∧ hN xs j h = H * hD xs j:=by
    intro i j hi hj hlt
    obtain ⟨i0,i1,i2,i3⟩:=hi
    obtain ⟨j0,j1,j2,j3⟩:=hj
    have e : j = i + 1:=by
      apply Classical.byContradiction;intro hne
      have:=valid_lt hv (show 0 ≤ i + 1 by omega) (show i + 1 < j by omega) (by omega)
      omega
    subst e
    have eh : h = (rd_T60 xs (i + 1)).f0:=by omega
    refine ⟨(rd_T60 xs (i + 1)).f1,?_,?_⟩
    · unfold hN hD
      rw [← eh,Int.sub_mul];omega
    · unfold hN hD
      rw [eh,Int.sub_self,Int.mul_zero];omega
  rcases Int.lt_trichotomy i j with h1|h1|h1
  · exact .inr (key hi hj h1)
  · exact .inl h1
  · obtain ⟨H,a,b⟩:=key hj hi h1
    exact .inr ⟨H,b,a⟩
theorem impl_height (xs : List S60) (hv : Valid xs) (h : Int) (hh : InTab xs h) : ∃ j,IsSeg xs h j ∧ Ev (fun k=>impl_heightAt.f k xs h) (hN xs j h,hD xs j):=by
  obtain ⟨hn0,hn1⟩:=hv.1
  unfold impl_heightAt.f
  have main : ∀ (d : Nat) (i : Int),1 ≤ i → i + d = (xs.length : Int) - 1 → (rd_T60 xs (i - 1)).f0 ≤ h → ∃ j,IsSeg xs h j ∧ Ev (fun k=>impl_heightAt.l0 k xs h i) (hN xs j h,hD xs j):=by
    intro d
    induction d with
    | zero =>
      intro i h1 hd hle
      have hi : i = (xs.length : Int) - 1:=by omega
      have hge : h ≤ (rd_T60 xs i).f0:=by rw [hi];exact hh.2
      refine ⟨i - 1,⟨by omega,by omega,hle,by rw [show i - 1 + 1 = i from by omega];exact hge⟩,?_⟩
      have b0:=(hv.2 (i - 1) (by omega) (by omega)).1
      have b1:=(hv.2 i (by omega) (by omega)).1
      have lt:=valid_lt hv (show 0 ≤ i - 1 by omega) (show i - 1 < i by omega) (by omega)
      have m1:=mul_bd (x:=(rd_T60 xs (i - 1)).f1) (y:=(rd_T60 xs i).f0 - (rd_T60 xs (i - 1)).f0) (A:=2000) (B:=240) (by omega) (by omega) (by omega) (by omega) (by omega) (by omega)
      have m2:=mul_bd (x:=(rd_T60 xs i).f1 - (rd_T60 xs (i - 1)).f1) (y:=h - (rd_T60 xs (i - 1)).f0) (A:=2000) (B:=240) (by omega) (by omega) (by omega) (by omega) (by omega) (by omega)
      refine Ev.step (fun k=>by rw [impl_heightAt.l0]) ?_
      simp (disch:=omega) only [if_pos,if_neg,wrap64_id]
      refine Ev.val ?_
      unfold hN hD
      rw [show i - 1 + 1 = i from by omega]
    | succ d ih =>
      intro i h1 hd hle
      by_cases hlt : (rd_T60 xs i).f0 < h
      · obtain ⟨j,hs,he⟩:=ih (i + 1) (by omega) (by omega) (by rw [show i + 1 - 1 = i from by omega];omega)
        refine ⟨j,hs,?_⟩
        refine Ev.step (fun k=>by rw [impl_heightAt.l0]) ?_
        simp (disch:=omega) only [if_pos,wrap64_id]
        exact he
      · refine ⟨i - 1,⟨by omega,by omega,hle,by rw [show i - 1 + 1 = i from by omega];omega⟩,?_⟩
        have b0:=(hv.2 (i - 1) (by omega) (by omega)).1
        have b1:=(hv.2 i (by omega) (by omega)).1
        have lt:=valid_lt hv (show 0 ≤ i - 1 by omega) (show i - 1 < i by omega) (by omega)
        have m1:=mul_bd (x:=(rd_T60 xs (i - 1)).f1) (y:=(rd_T60 xs i).f0 - (rd_T60 xs (i - 1)).f0) (A:=2000) (B:=240) (by omega) (by omega) (by omega) (by omega) (by omega) (by omega)
        have m2:=mul_bd (x:=(rd_T60 xs i).f1 - (rd_T60 xs (i - 1)).f1) (y:=h - (rd_T60 xs (i - 1)).f0) (A:=2000) (B:=240) (by omega) (by omega) (by omega) (by omega) (by omega) (by omega)
        refine Ev.step (fun k=>by rw [impl_heightAt.l0]) ?_
        simp (disch:=omega) only [if_pos,if_neg,wrap64_id]
        refine Ev.val ?_
        unfold hN hD
        rw [show i - 1 + 1 = i from by omega]
  exact main ((xs.length : Int) - 2).toNat 1 (by omega) (by omega) hh.1
theorem spec_height (xs : List S60) (hv : Valid xs) (h : Int) (hh : InTab xs h) : ∃ j,IsSeg xs h j ∧ Ev (fun k=>spec_l15Height.f k xs h) (hN xs j h,hD xs j):=by
  obtain ⟨hn0,hn1⟩:=hv.1
  unfold spec_l15Height.f
  have main : ∀ (d : Nat) (i : Int),0 ≤ i → i + d = (xs.length : Int) - 2 → (rd_T60 xs i).f0 ≤ h → ∃ j,IsSeg xs h j ∧ Ev (fun k=>spec_l15Height.l0 k xs h i) (hN xs j h,hD xs j):=by
    intro d
    induction d with
    | zero =>
      intro i h1 hd hle
      have hi : i + 1 = (xs.length : Int) - 1:=by omega
      have hge : h ≤ (rd_T60 xs (i + 1)).f0:=by rw [hi];exact hh.2
      refine ⟨i,⟨by omega,by omega,hle,hge⟩,?_⟩
      have b0:=(hv.2 i (by omega) (by omega)).1
      have b1:=(hv.2 (i + 1) (by omega) (by omega)).1
      have lt:=valid_lt hv (show 0 ≤ i by omega) (show i < i + 1 by omega) (by omega)
      have m1:=mul_bd (x:=(rd_T60 xs i).f1) (y:=(rd_T60 xs (i + 1)).f0 - (rd_T60 xs i).f0) (A:=2000) (B:=240) (by omega) (by omega) (by omega) (by omega) (by omega) (by omega)
      have m2:=mul_bd (x:=(rd_T60 xs (i + 1)).f1 - (rd_T60 xs i).f1) (y:=h - (rd_T60 xs i).f0) (A:=2000) (B:=240) (by omega) (by omega) (by omega) (by omega) (by omega) (by omega)
      refine Ev.step (fun k=>by rw [spec_l15Height.l0]) ?_
      simp (disch:=omega) only [if_pos,if_neg,wrap64_id]
      exact Ev.val rfl
    | succ d ih =>
      intro i h1 hd hle
      by_cases hlt : (rd_T60 xs (i + 1)).f0 ≤ h
      · obtain ⟨j,hs,he⟩:=ih (i + 1) (by omega) (by omega) hlt
        refine ⟨j,hs,?_⟩
        refine Ev.step (fun k=>by rw [spec_l15Height.l0]) ?_
        simp (disch:=omega) only [if_pos,wrap64_id]
        exact he
      · refine ⟨i,⟨by omega,by omega,hle,by omega⟩,?_⟩
        have b0:=(hv.2 i (by omega) (by omega)).1
        have b1:=(hv.2 (i + 1) (by omega) (by omega)).1
        have lt:=valid_lt hv (show 0 ≤ i by omega) (show i < i + 1 by omega) (by omega)
        have m1:=mul_bd (x:=(rd_T60 xs i).f1) (y:=(rd_T60 xs (i + 1)).f0 - (rd_T60 xs i).f0) (A:=2000) (B:=240) (by omega) (by omega) (by omega) (by omega) (by omega) (by omega)
        have m2:=mul_bd (x:=(rd_T60 xs (i + 1)).f1 - (rd_T60 xs i).f1) (y:=h - (rd_T60 xs i).f0) (A:=2000) (B:=240) (by omega) (by omega) (by omega) (by omega) (by omega) (by omega)
        refine Ev.step (fun k=>by rw [spec_l15Height.l0]) ?_
        simp (disch:=omega) only [if_pos,if_neg,wrap64_id]
        exact Ev.val rfl
  exact main ((xs.length : Int) - 2).toNat 0 (by omega) (by omega) hh.1
theorem spec_holds (xs : List S60) (h : Int) : Ev (fun k=>spec_l15Holds.f k xs h) (chk (Valid xs ∧ InTab xs h) true false):=by
  unfold spec_l15Holds.f
  refine Ev.bind (spec_valid xs) ?_
  refine Ev.ite (fun hv=>?_) (fun hv=>?_)
  · have hv:=chk_true.1 hv
    obtain ⟨hn0,hn1⟩:=hv.1
    simp (disch:=omega) only [spec_l1In_eq,Option.bind_some,if_pos,wrap64_id]
    refine Ev.val ?_
    by_cases hi : InTab xs h
    · rw [chk_pos ⟨hv,hi⟩];exact decide_eq_true hi
    · rw [chk_neg (fun h=>hi h.2)];exact decide_eq_false hi
  · rw [chk_neg (fun h=>hv (chk_true.2 h.1))]
    exact Ev.now _
theorem impl_holds_eq (xs : List S60) (hs : List Int) (hl : (hs.length : Int) ≤ 100) : Ev (fun k=>impl_holds.f k xs hs) (chk (Valid xs ∧ All (fun i=>InTab xs (rd hs i)) 0 (hs.length : Int)) true false):=by
  unfold impl_holds.f
  refine Ev.bind (impl_valid xs) ?_
  refine Ev.ite (fun hv=>?_) (fun hv=>?_)
  · have hv:=chk_true.1 hv
    obtain ⟨hn0,hn1⟩:=hv.1
    rw [chk_congr (show (Valid xs ∧ All (fun i=>InTab xs (rd hs i)) 0 (hs.length : Int)) ↔ All (fun i=>InTab xs (rd hs i)) 0 (hs.length : Int) from ⟨fun h=>h.2,fun h=>⟨hv,h⟩⟩)]
    refine Ev.check (fun k i=>impl_holds.l0 k xs hs (hs.length : Int) i) (hs.length : Int) (fun i=>InTab xs (rd hs i)) true false 0 ?_ ?_ 0 (by omega) (by omega)
    · refine Ev.step (fun k=>by rw [impl_holds.l0]) ?_
      simp only [Int.lt_irrefl,if_false]
      exact Ev.now _
    · intro i h0 hlt r hr
      refine Ev.step (fun k=>by rw [impl_holds.l0]) ?_
      simp (disch:=omega) only [impl_within_eq,Option.bind_some,if_pos,wrap64_id,decide_eq_true_eq]
      refine Ev.ite (fun h=>?_) (fun h=>?_)
      · rw [chk_pos (show InTab xs (rd hs i) from h)];exact hr
      · rw [chk_neg (show ¬ InTab xs (rd hs i) from h)];exact Ev.now _
  · rw [chk_neg (fun h=>hv (chk_true.2 h.1))]
    exact Ev.now _
theorem impl_holds_one (xs : List S60) (h : Int) : Ev (fun k=>impl_holds.f k xs [h]) (chk (Valid xs ∧ InTab xs h) true false):=by
  have:=impl_holds_eq xs [h] (by simp)
  rwa [chk_congr (show (Valid xs ∧ All (fun i=>InTab xs (rd [h] i)) 0 (([h] : List Int).length : Int)) ↔ (Valid xs ∧ InTab xs h) from ⟨fun a=>⟨a.1,a.2 0 (by omega) (by simp)⟩,fun a=>⟨a.1,fun j h0 h1=>by
    obtain rfl : j = 0:=by simp at h1;omega
    exact a.2⟩⟩)] at this
theorem impl_holds_two (xs : List S60) (h g : Int) : Ev (fun k=>impl_holds.f k xs [h,g]) (chk (Valid xs ∧ InTab xs h ∧ InTab xs g) true false):=by
  have:=impl_holds_eq xs [h,g] (by simp)
  rwa [chk_congr (show (Valid xs ∧ All (fun i=>InTab xs (rd [h,g] i)) 0 (([h,g] : List Int).length : Int)) ↔ (Valid xs ∧ InTab xs h ∧ InTab xs g) from ⟨fun a=>⟨a.1,a.2 0 (by omega) (by simp),a.2 1 (by omega) (by simp)⟩,fun a=>⟨a.1,fun j h0 h1=>by
    simp at h1
    rcases (show j = 0 ∨ j = 1 by omega) with rfl|rfl
    · exact a.2.1
    · exact a.2.2⟩⟩)] at this

theorem spec_least_eq (a b : Int) : spec_l1Least.f a b = some (if a < b then a else b):=by
  unfold spec_l1Least.f
  split <;> rfl
theorem intab_mid {xs : List S60} {a b h : Int} (ha : InTab xs a) (hb : InTab xs b) (h0 : a ≤ h) (h1 : h ≤ b) : InTab xs h:=by
  unfold InTab at *;omega
/-- The whole part of the height, by either segment. -/
theorem floor_both {xs : List S60} (hv : Valid xs) {h : Int} (hh : InTab xs h) : ∃ i j q,Ev (fun k=>spec_l15Height.f k xs h) (hN xs i h,hD xs i) ∧ Ev (fun k=>impl_heightAt.f k xs h) (hN xs j h,hD xs j) ∧ ¬ hD xs i = 0 ∧ ¬ hD xs j = 0 ∧
    Int.tdiv (hN xs i h) (hD xs i) = q ∧ Int.tdiv (hN xs j h) (hD xs j) = q ∧ 0 ≤ q ∧ q ≤ 2000:=by
  obtain ⟨i,si,ei⟩:=spec_height xs hv h hh
  obtain ⟨j,sj,ej⟩:=impl_height xs hv h hh
  have bi:=seg_bd hv si
  have bj:=seg_bd hv sj
  have qb : ∀ {n d : Int},1 ≤ d → 0 ≤ n → n ≤ 2000 * d → 0 ≤ Int.tdiv n d ∧ Int.tdiv n d ≤ 2000:=by
    intro n d h1 h2 h3
    rw [Int.tdiv_eq_ediv_of_nonneg h2]
    exact ⟨Int.ediv_nonneg h2 (by omega),Int.ediv_le_of_le_mul (by omega) h3⟩
  have b:=qb bi.1 bi.2.2.1 bi.2.2.2
  refine ⟨i,j,_,ei,ej,by omega,by omega,rfl,?_,b.1,b.2⟩
  rcases seg_two hv si sj with rfl|⟨H,e1,e2⟩
  · rfl
  · rw [e1,e2,Int.mul_tdiv_cancel _ (by omega),Int.mul_tdiv_cancel _ (by omega)]
theorem draft_both (xs : List S60) (bottom a b : Int) (w1 : -9223372036854775808 ≤ bottom ∧ bottom ≤ 9223372036854775807) (w2 : -9223372036854775808 ≤ a ∧ a ≤ 9223372036854775807) (w3 : -9223372036854775808 ≤ b ∧ b ≤ 9223372036854775807) :
    ∃ r,Ev (fun k=>spec_GreatestDraft.f k xs bottom a b) r ∧ Ev (fun k=>impl_GreatestDraft.f k xs bottom a b) r:=by
  have no : ¬ ((Valid xs ∧ InTab xs a ∧ InTab xs b) ∧ (0 ≤ bottom ∧ bottom ≤ 3000) ∧ a ≤ b) → ∃ r,Ev (fun k=>spec_GreatestDraft.f k xs bottom a b) r ∧ Ev (fun k=>impl_GreatestDraft.f k xs bottom a b) r:=by
    intro hno
    have js : Ev (fun k=>spec_GreatestDraft.j0 k xs bottom a b true) (0,false):=by
      refine Ev.step (fun k=>by rw [spec_GreatestDraft.j0]) ?_
      simp only [if_true];exact Ev.now _
    have ji : Ev (fun k=>impl_GreatestDraft.j0 k xs bottom a b true) (0,false):=by
      refine Ev.step (fun k=>by rw [impl_GreatestDraft.j0]) ?_
      simp only [if_true];exact Ev.now _
    refine ⟨(0,false),?_,?_⟩
    · unfold spec_GreatestDraft.f
      refine Ev.bind (spec_holds xs a) ?_
      refine Ev.ite (fun h1=>?_) (fun h1=>js)
      refine Ev.bind (spec_holds xs b) ?_
      refine Ev.ite (fun h2=>?_) (fun h2=>js)
      refine Ev.ite (fun h3=>js) (fun h3=>?_)
      simp only [spec_l1In_eq,Option.bind_some]
      have h1:=chk_true.1 h1
      have h2:=chk_true.1 h2
      rw [decide_eq_false (fun h4=>hno ⟨⟨h1.1,h1.2,h2.2⟩,h4,by omega⟩)]
      exact js
    · unfold impl_GreatestDraft.f
      refine Ev.bind (impl_holds_two xs a b) ?_
      refine Ev.ite (fun h1=>?_) (fun h1=>ji)
      simp only [impl_within_eq,Option.bind_some]
      have h1:=chk_true.1 h1
      refine Ev.ite (fun h2=>?_) (fun h2=>ji)
      have h2:=of_decide_eq_true h2
      rw [decide_eq_true (show a > b from by apply Classical.byContradiction;intro h3;exact hno ⟨h1,h2,by omega⟩)]
      exact ji
  by_cases hall : (Valid xs ∧ InTab xs a ∧ InTab xs b) ∧ (0 ≤ bottom ∧ bottom ≤ 3000) ∧ a ≤ b
  · obtain ⟨⟨hv,ia,ib⟩,hb,hab⟩:=hall
    have main:=Ev.both (fun k (s : Int × Int) h=>spec_GreatestDraft.l0 k xs bottom b s.1 h) (fun k (s : Int × Int) h=>impl_GreatestDraft.l0 k xs bottom b s.2 h)
      (fun s h=>a ≤ h ∧ (h = a ∧ s.1 = bottom + 2000 ∧ s.2 = -1 ∨ a < h ∧ 0 ≤ s.2 ∧ s.2 ≤ 2000 ∧ s.1 = bottom + s.2)) (fun _=>True) (b + 1) (by
        rintro s ⟨h0,h1⟩
        have h1 : 0 ≤ s.2 ∧ s.2 ≤ 2000 ∧ s.1 = bottom + s.2:=by omega
        refine ⟨(s.1,true),trivial,?_,?_⟩
        · refine Ev.step (fun k=>by rw [spec_GreatestDraft.l0]) ?_
          simp (disch:=omega) only [if_neg];exact Ev.now _
        · refine Ev.step (fun k=>by rw [impl_GreatestDraft.l0]) ?_
          simp (disch:=omega) only [if_neg,wrap64_id]
          rw [h1.2.2];exact Ev.now _) (by
        rintro s h ⟨h0,h1⟩ hlt
        have bv:=hv.1
        have hh:=intab_mid ia ib h0 (by omega)
        have hbd : -1000 ≤ h ∧ h ≤ 1000:=by
          have b0:=(hv.2 0 (by omega) (by omega)).1
          have b1:=(hv.2 ((xs.length : Int) - 1) (by omega) (by omega)).1
          unfold InTab at hh
          omega
        obtain ⟨i,j,q,ei,ej,di,dj,qi,qj,q0,q1⟩:=floor_both hv hh
        refine .inr ⟨((if s.1 < bottom + q then s.1 else bottom + q),(if s.2 < 0 then q else if q < s.2 then q else s.2)),⟨by omega,.inr ⟨by omega,?_,?_,?_⟩⟩,?_,?_⟩
        · dsimp only;split
          · omega
          · split <;> omega
        · dsimp only;split
          · omega
          · split <;> omega
        · dsimp only
          rcases h1 with ⟨_,e1,e2⟩|⟨_,h2,h3,e1⟩
          · rw [e1,e2];simp only [show (-1 : Int) < 0 by omega,if_true];split <;> omega
          · rw [e1,if_neg (show ¬ s.2 < 0 by omega)];split <;> split <;> omega
        · intro r hr
          refine Ev.step (fun k=>by rw [spec_GreatestDraft.l0]) ?_
          simp (disch:=omega) only [if_pos]
          refine Ev.bind ei ?_
          simp (disch:=omega) only [if_neg,qi,wrap64_id,spec_least_eq,Option.bind_some]
          exact hr
        · intro r hr
          refine Ev.step (fun k=>by rw [impl_GreatestDraft.l0]) ?_
          simp (disch:=omega) only [if_pos]
          refine Ev.bind ej ?_
          dsimp only at hr ⊢
          rw [qj]
          refine Ev.ite (fun h2=>?_) (fun h2=>?_)
          · simp (disch:=omega) only [if_neg,wrap64_id]
            rw [if_pos h2] at hr
            exact hr
          · simp (disch:=omega) only [if_neg,wrap64_id]
            rw [if_neg h2] at hr
            refine Ev.ite (fun h3=>?_) (fun h3=>?_)
            · rw [if_pos h3] at hr;exact hr
            · rw [if_neg h3] at hr;exact hr)
    obtain ⟨r,_,e1,e2⟩:=main (bottom + 2000, -1) a ⟨by omega,.inl ⟨rfl,rfl,rfl⟩⟩ (by omega)
    refine ⟨r,?_,?_⟩
    · unfold spec_GreatestDraft.f
      refine Ev.bind (spec_holds xs a) ?_
      rw [chk_pos ⟨hv,ia⟩]
      simp only [if_true]
      refine Ev.bind (spec_holds xs b) ?_
      rw [chk_pos ⟨hv,ib⟩]
      simp (disch:=omega) only [if_true,if_neg,spec_l1In_eq,Option.bind_some]
      rw [decide_eq_true hb]
      refine Ev.step (fun k=>by rw [spec_GreatestDraft.j0]) ?_
      simp (disch:=omega) only [Bool.not_true,Bool.false_eq_true,if_false,wrap64_id]
      exact e1
    · unfold impl_GreatestDraft.f
      refine Ev.bind (impl_holds_two xs a b) ?_
      rw [chk_pos ⟨hv,ia,ib⟩]
      simp only [if_true,impl_within_eq,Option.bind_some]
      rw [decide_eq_true hb,decide_eq_false (show ¬ a > b by omega)]
      simp only [if_true]
      refine Ev.step (fun k=>by rw [impl_GreatestDraft.j0]) ?_
      simp only [Bool.false_eq_true,if_false]
      exact e2
  · exact no hall

/-- The height at an hour is at least a depth. -/
def Deep (xs : List S60) (p h : Int) : Prop := ∀ j,IsSeg xs h j → p * hD xs j ≤ hN xs j h
theorem deep_seg {xs : List S60} (hv : Valid xs) {p h j : Int} (hs : IsSeg xs h j) : Deep xs p h ↔ p * hD xs j ≤ hN xs j h:=by
  refine ⟨fun d=>d j hs,fun d i hi=>?_⟩
  have bi:=seg_bd hv hi
  have bj:=seg_bd hv hs
  rcases seg_two hv hi hs with rfl|⟨H,e1,e2⟩
  · exact d
  · rw [e2] at d
    rw [e1]
    have:=Int.le_of_mul_le_mul_right d (by omega)
    exact Int.mul_le_mul_of_nonneg_right this (by omega)
theorem deep_dec {xs : List S60} (hv : Valid xs) {p h j : Int} (hs : IsSeg xs h j) (hp : -3000 ≤ p ∧ p ≤ 3000) : decide (hN xs j h ≥ wrap64 (p * hD xs j)) = chk (Deep xs p h) true false:=by
  have bj:=seg_bd hv hs
  have m:=mul_bd (x:=p) (y:=hD xs j) (A:=3000) (B:=240) (by omega) (by omega) (by omega) (by omega) (by omega) (by omega)
  rw [wrap64_id (by omega) (by omega)]
  by_cases hd : Deep xs p h
  · rw [chk_pos hd];exact decide_eq_true ((deep_seg hv hs).1 hd)
  · rw [chk_neg hd];exact decide_eq_false (fun h=>hd ((deep_seg hv hs).2 h))
theorem spec_deep {xs : List S60} (hv : Valid xs) {p h : Int} (hh : InTab xs h) (hp : -3000 ≤ p ∧ p ≤ 3000) : Ev (fun k=>spec_l15Deep.f k xs h p) (chk (Deep xs p h) true false):=by
  obtain ⟨j,hs,he⟩:=spec_height xs hv h hh
  unfold spec_l15Deep.f
  refine Ev.bind he ?_
  exact Ev.val (deep_dec hv hs hp)
theorem impl_deep {xs : List S60} (hv : Valid xs) {p h : Int} (hh : InTab xs h) (hp : -3000 ≤ p ∧ p ≤ 3000) : Ev (fun k=>impl_isDeep.f k xs h p) (chk (Deep xs p h) true false):=by
  obtain ⟨j,hs,he⟩:=impl_height xs hv h hh
  unfold impl_isDeep.f
  refine Ev.bind he ?_
  exact Ev.val (deep_dec hv hs hp)
/-- The last hour. -/
def lastH (xs : List S60) : Int:=(rd_T60 xs ((xs.length : Int) - 1)).f0
theorem intab_bd {xs : List S60} (hv : Valid xs) {h : Int} (hh : InTab xs h) : 0 ≤ h ∧ h ≤ 240:=by
  have bv:=hv.1
  have b0:=(hv.2 0 (by omega) (by omega)).1
  have b1:=(hv.2 ((xs.length : Int) - 1) (by omega) (by omega)).1
  unfold InTab at hh
  omega
/-- A window that begins at s. -/
def WinAt (xs : List S60) (p from_ hours s : Int) : Prop:=from_ ≤ s ∧ s + hours ≤ lastH xs ∧ All (Deep xs p) s (s + hours + 1)
/-- What is asked for: the first window. -/
def ShipRes (xs : List S60) (p from_ hours : Int) (r : Int × Bool) : Prop:=(∃ s,r = (s,true) ∧ WinAt xs p from_ hours s ∧ ∀ t,t < s → ¬ WinAt xs p from_ hours t) ∨ (r = (0,false) ∧ ∀ t,¬ WinAt xs p from_ hours t)
theorem shipRes_uniq {xs : List S60} {p from_ hours : Int} {r r' : Int × Bool} (h : ShipRes xs p from_ hours r) (h' : ShipRes xs p from_ hours r') : r = r':=by
  rcases h with ⟨s,e,w,m⟩|⟨e,n⟩ <;> rcases h' with ⟨s',e',w',m'⟩|⟨e',n'⟩
  · have h1 : ¬ s' < s:=fun h=>m s' h w'
    have h2 : ¬ s < s':=fun h=>m' s h w
    have : s = s':=by omega
    rw [e,e',this]
  · exact absurd w (n' s)
  · exact absurd w' (n s')
  · rw [e,e']
theorem all_last {P : Int → Prop} {i n : Int} (h : i ≤ n) : All P i (n + 1) ↔ All P i n ∧ P n:=by
  constructor
  · intro a
    exact ⟨fun j h1 h2=>a j h1 (by omega),a n h (by omega)⟩
  · rintro ⟨a,p⟩ j h1 h2
    by_cases e : j = n
    · rw [e];exact p
    · exact a j h1 (by omega)
theorem spec_ship (xs : List S60) (hv : Valid xs) (draft bottom from_ hours : Int) (hd : 0 ≤ draft ∧ draft ≤ 3000) (hb : 0 ≤ bottom ∧ bottom ≤ 3000) (hf : InTab xs from_) (hh : 0 ≤ hours ∧ hours ≤ 240) :
    ∃ r,ShipRes xs (draft - bottom) from_ hours r ∧ Ev (fun k=>spec_ShipWindow.l0 k xs draft bottom hours from_) r:=by
  have hbd:=intab_bd hv hf
  have hlast : lastH xs ≤ 240:=by
    have bv:=hv.1
    have b1:=(hv.2 ((xs.length : Int) - 1) (by omega) (by omega)).1
    unfold lastH;omega
  have hlen:=hv.1
  have main : ∀ (d : Nat) (h : Int),from_ ≤ h → h ≤ 241 → lastH xs + 1 ≤ h + hours + d → (∀ t,t < h → ¬ WinAt xs (draft - bottom) from_ hours t) → ∃ r,ShipRes xs (draft - bottom) from_ hours r ∧ Ev (fun k=>spec_ShipWindow.l0 k xs draft bottom hours h) r:=by
    intro d
    induction d with
    | zero =>
      intro h h0 h1 hd0 hno
      refine ⟨(0,false),.inr ⟨rfl,fun t w=>?_⟩,?_⟩
      · by_cases ht : t < h
        · exact hno t ht w
        · have:=w.2.1;omega
      · refine Ev.step (fun k=>by rw [spec_ShipWindow.l0]) ?_
        have e : ¬ h + hours ≤ (rd_T60 xs ((xs.length : Int) - 1)).f0:=by unfold lastH at hd0;omega
        simp (disch:=omega) only [if_pos,wrap64_id,if_neg]
        exact Ev.now _
    | succ d ih =>
      intro h h0 h1 hd0 hno
      by_cases hle : h + hours ≤ lastH xs
      · have e : h + hours ≤ (rd_T60 xs ((xs.length : Int) - 1)).f0:=hle
        have step : ∀ (R : Int × Bool),(¬ All (Deep xs (draft - bottom)) h (h + hours + 1) → Ev (fun k=>spec_ShipWindow.l0 k xs draft bottom hours (h + 1)) R) → (All (Deep xs (draft - bottom)) h (h + hours + 1) → R = (h,true)) → Ev (fun k=>spec_ShipWindow.l0 k xs draft bottom hours h) R:=by
          intro R hR1 hR2
          refine Ev.step (fun k=>by rw [spec_ShipWindow.l0]) ?_
          simp (disch:=omega) only [if_pos,wrap64_id]
          have inner:=Ev.up (fun k (b : Bool) j=>spec_ShipWindow.l1 k xs draft bottom hours h b j) (fun _ _=>R) (fun b j=>h ≤ j ∧ b = chk (All (Deep xs (draft - bottom)) h j) true false) (h + hours + 1) (by
            rintro b ⟨hj,rfl⟩
            refine Ev.step (fun k=>by rw [spec_ShipWindow.l1]) ?_
            simp (disch:=omega) only [wrap64_id,if_neg]
            refine Ev.ite (fun hb=>?_) (fun hb=>?_)
            · rw [hR2 (chk_true.1 hb)];exact Ev.now _
            · exact hR1 (fun a=>hb (chk_true.2 a))) (by
            rintro b j ⟨hj,rfl⟩ hlt ih2
            refine Ev.step (fun k=>by rw [spec_ShipWindow.l1]) ?_
            simp (disch:=omega) only [wrap64_id,if_pos]
            refine Ev.ite (fun hb=>?_) (fun hb=>?_)
            · have hin : InTab xs j:=by unfold InTab at hf ⊢;omega
              refine Ev.bind (spec_deep hv hin (by omega)) ?_
              refine ih2 _ ⟨by omega,?_⟩
              refine chk_congr ?_ _ _
              rw [all_last hj]
              exact ⟨fun d=>⟨chk_true.1 hb,d⟩,fun d=>d.2⟩
            · refine ih2 false ⟨by omega,?_⟩
              rw [chk_neg (fun a=>hb (chk_true.2 ((all_last hj).1 a).1))])
          exact inner true h ⟨by omega,by rw [chk_pos (All.end_ _ _)]⟩ (by omega)
        by_cases hw : All (Deep xs (draft - bottom)) h (h + hours + 1)
        · exact ⟨(h,true),.inl ⟨h,rfl,⟨h0,hle,hw⟩,hno⟩,step _ (fun n=>absurd hw n) (fun _=>rfl)⟩
        · obtain ⟨r,hr,er⟩:=ih (h + 1) (by omega) (by omega) (by omega) (fun t ht=>by
            by_cases e : t = h
            · rw [e];exact fun w=>hw w.2.2
            · exact hno t (by omega))
          exact ⟨r,hr,step r (fun _=>er) (fun a=>absurd a hw)⟩
      · refine ⟨(0,false),.inr ⟨rfl,fun t w=>?_⟩,?_⟩
        · by_cases ht : t < h
          · exact hno t ht w
          · have:=w.2.1;omega
        · refine Ev.step (fun k=>by rw [spec_ShipWindow.l0]) ?_
          have e : ¬ h + hours ≤ (rd_T60 xs ((xs.length : Int) - 1)).f0:=by unfold lastH at hle;omega
          simp (disch:=omega) only [if_pos,wrap64_id,if_neg]
          exact Ev.now _
  exact main 241 from_ (by omega) (by omega) (by omega) (fun t ht w=>by have:=w.1;omega)
theorem impl_ship (xs : List S60) (hv : Valid xs) (draft bottom from_ hours : Int) (hd : 0 ≤ draft ∧ draft ≤ 3000) (hb : 0 ≤ bottom ∧ bottom ≤ 3000) (hf : InTab xs from_) (hh : 0 ≤ hours ∧ hours ≤ 240) :
    ∃ r,ShipRes xs (draft - bottom) from_ hours r ∧ Ev (fun k=>impl_ShipWindow.l0 k xs draft bottom hours 0 from_) r:=by
  have hbd:=intab_bd hv hf
  have hlen:=hv.1
  have hlast : from_ ≤ lastH xs ∧ lastH xs ≤ 240:=by
    have b1:=(hv.2 ((xs.length : Int) - 1) (by omega) (by omega)).1
    unfold InTab at hf
    unfold lastH;omega
  have main : ∀ (d : Nat) (h c : Int),from_ ≤ h → h + d = lastH xs + 1 → 0 ≤ c → c ≤ hours → c ≤ h - from_ → All (Deep xs (draft - bottom)) (h - c) h → (c < h - from_ → ¬ Deep xs (draft - bottom) (h - c - 1)) → (∀ t,t + hours < h → ¬ WinAt xs (draft - bottom) from_ hours t) →
      ∃ r,ShipRes xs (draft - bottom) from_ hours r ∧ Ev (fun k=>impl_ShipWindow.l0 k xs draft bottom hours c h) r:=by
    intro d
    induction d with
    | zero =>
      intro h c h0 hd0 c0 c1 c2 ha hn hno
      refine ⟨(0,false),.inr ⟨rfl,fun t w=>?_⟩,?_⟩
      · exact hno t (by have:=w.2.1;omega) w
      · refine Ev.step (fun k=>by rw [impl_ShipWindow.l0]) ?_
        have e : ¬ h ≤ (rd_T60 xs ((xs.length : Int) - 1)).f0:=by unfold lastH at hd0;omega
        simp (disch:=omega) only [if_pos,wrap64_id,if_neg]
        exact Ev.now _
    | succ d ih =>
      intro h c h0 hd0 c0 c1 c2 ha hn hno
      have e : h ≤ (rd_T60 xs ((xs.length : Int) - 1)).f0:=by unfold lastH at hd0;omega
      have hin : InTab xs h:=by unfold InTab at hf ⊢;omega
      have step : ∀ (R : Int × Bool),(Deep xs (draft - bottom) h → c = hours → R = (h - hours,true)) → (Deep xs (draft - bottom) h → c < hours → Ev (fun k=>impl_ShipWindow.l0 k xs draft bottom hours (c + 1) (h + 1)) R) → (¬ Deep xs (draft - bottom) h → Ev (fun k=>impl_ShipWindow.l0 k xs draft bottom hours 0 (h + 1)) R) → Ev (fun k=>impl_ShipWindow.l0 k xs draft bottom hours c h) R:=by
        intro R R1 R2 R3
        refine Ev.step (fun k=>by rw [impl_ShipWindow.l0]) ?_
        simp (disch:=omega) only [if_pos,wrap64_id]
        refine Ev.bind (impl_deep hv hin (by omega)) ?_
        refine Ev.ite (fun hdp=>?_) (fun hdp=>?_)
        · have hdp:=chk_true.1 hdp
          refine Ev.ite (fun hc=>?_) (fun hc=>?_)
          · rw [R1 hdp (by omega)];exact Ev.now _
          · exact R2 hdp (by omega)
        · have hdp : ¬ Deep xs (draft - bottom) h:=fun x=>hdp (chk_true.2 x)
          simp (disch:=omega) only [if_neg]
          exact R3 hdp
      by_cases hdp : Deep xs (draft - bottom) h
      · by_cases hc : c = hours
        · refine ⟨(h - hours,true),.inl ⟨h - hours,rfl,⟨by omega,by unfold lastH;omega,?_⟩,fun t ht=>hno t (by omega)⟩,step _ (fun _ _=>rfl) (fun _ x=>by omega) (fun x=>absurd hdp x)⟩
          rw [show h - hours + hours + 1 = h + 1 from by omega,all_last (by omega)]
          refine ⟨?_,hdp⟩
          rw [← hc];exact ha
        · obtain ⟨r,hr,er⟩:=ih (h + 1) (c + 1) (by omega) (by omega) (by omega) (by omega) (by omega) (by
            rw [show h + 1 - (c + 1) = h - c from by omega,all_last (by omega)];exact ⟨ha,hdp⟩) (fun hx=>by
            rw [show h + 1 - (c + 1) - 1 = h - c - 1 from by omega];exact hn (by omega)) (fun t ht w=>by
            by_cases e2 : t + hours < h
            · exact hno t e2 w
            · have w1:=w.1
              exact hn (by omega) (w.2.2 (h - c - 1) (by omega) (by omega)))
          exact ⟨r,hr,step r (fun _ x=>absurd x hc) (fun _ _=>er) (fun x=>absurd hdp x)⟩
      · obtain ⟨r,hr,er⟩:=ih (h + 1) 0 (by omega) (by omega) (by omega) (by omega) (by omega) (by
          rw [show h + 1 - 0 = h + 1 from by omega];exact All.end_ _ _) (fun _=>by
          rw [show h + 1 - 0 - 1 = h from by omega];exact hdp) (fun t ht w=>by
          by_cases e2 : t + hours < h
          · exact hno t e2 w
          · exact hdp (w.2.2 h (by omega) (by omega)))
        exact ⟨r,hr,step r (fun x=>absurd x hdp) (fun x=>absurd x hdp) (fun _=>er)⟩
  exact main (lastH xs + 1 - from_).toNat from_ 0 (by omega) (by omega) (by omega) (by omega) (by omega) (by rw [show from_ - 0 = from_ from by omega];exact All.end_ _ _) (fun x=>by omega) (fun t ht w=>by have:=w.1;omega)
theorem ship_both (xs : List S60) (draft bottom from_ hours : Int) : ∃ r,Ev (fun k=>spec_ShipWindow.f k xs draft bottom from_ hours) r ∧ Ev (fun k=>impl_ShipWindow.f k xs draft bottom from_ hours) r:=by
  by_cases hall : (Valid xs ∧ InTab xs from_) ∧ (0 ≤ draft ∧ draft ≤ 3000) ∧ (0 ≤ bottom ∧ bottom ≤ 3000) ∧ (0 ≤ hours ∧ hours ≤ 240)
  · obtain ⟨hvf,hd,hb,hh⟩:=hall
    obtain ⟨r,hr,er⟩:=spec_ship xs hvf.1 draft bottom from_ hours hd hb hvf.2 hh
    obtain ⟨r',hr',er'⟩:=impl_ship xs hvf.1 draft bottom from_ hours hd hb hvf.2 hh
    obtain rfl:=shipRes_uniq hr hr'
    refine ⟨r,?_,?_⟩
    · unfold spec_ShipWindow.f
      refine Ev.bind (spec_holds xs from_) ?_
      rw [chk_pos hvf]
      simp only [if_true,spec_l1In_eq,Option.bind_some,decide_eq_true hd,decide_eq_true hb,decide_eq_true hh]
      refine Ev.step (fun k=>by rw [spec_ShipWindow.j0]) ?_
      simp only [Bool.not_true,Bool.false_eq_true,if_false]
      exact er
    · unfold impl_ShipWindow.f
      refine Ev.bind (impl_holds_one xs from_) ?_
      rw [chk_pos hvf]
      simp only [if_true,impl_within_eq,Option.bind_some,decide_eq_true hd,decide_eq_true hb,decide_eq_true hh]
      refine Ev.step (fun k=>by rw [impl_ShipWindow.j0]) ?_
      simp only [Bool.not_true,Bool.false_eq_true,if_false]
      exact er'
  · have js : Ev (fun k=>spec_ShipWindow.j0 k xs draft bottom from_ hours true) (0,false):=by
      refine Ev.step (fun k=>by rw [spec_ShipWindow.j0]) ?_
      simp only [if_true];exact Ev.now _
    have ji : Ev (fun k=>impl_ShipWindow.j0 k xs draft bottom from_ hours true) (0,false):=by
      refine Ev.step (fun k=>by rw [impl_ShipWindow.j0]) ?_
      simp only [if_true];exact Ev.now _
    refine ⟨(0,false),?_,?_⟩
    · unfold spec_ShipWindow.f
      refine Ev.bind (spec_holds xs from_) ?_
      simp only [spec_l1In_eq,Option.bind_some]
      refine Ev.ite (fun h1=>?_) (fun _=>js)
      refine Ev.ite (fun h2=>?_) (fun _=>js)
      refine Ev.ite (fun h3=>?_) (fun _=>js)
      rw [decide_eq_false (fun h4=>hall ⟨chk_true.1 h1,of_decide_eq_true h2,of_decide_eq_true h3,h4⟩)]
      exact js
    · unfold impl_ShipWindow.f
      refine Ev.bind (impl_holds_one xs from_) ?_
      simp only [impl_within_eq,Option.bind_some]
      refine Ev.ite (fun h1=>?_) (fun _=>ji)
      refine Ev.ite (fun h2=>?_) (fun _=>ji)
      refine Ev.ite (fun h3=>?_) (fun _=>ji)
      rw [decide_eq_false (fun h4=>hall ⟨chk_true.1 h1,of_decide_eq_true h2,of_decide_eq_true h3,h4⟩)]
      exact ji

/-- The windows, an hour more. -/
noncomputable def winStep (xs : List S60) (p : Int) (out : List S66) (h : Int) : List S66 :=
  chk (Deep xs p h) (if (out.length : Int) > 0 then (if (rd_T66 out ((out.length : Int) - 1)).f1 = h - 1 then out.set ((out.length : Int) - 1).toNat ⟨(rd_T66 out ((out.length : Int) - 1)).f0,h⟩ else out ++ [⟨h,h⟩]) else out ++ [⟨h,h⟩]) out
theorem winStep_len (xs : List S60) (p : Int) (out : List S66) (h : Int) : (winStep xs p out h).length ≤ out.length + 1:=by
  unfold winStep
  by_cases hd : Deep xs p h
  · rw [chk_pos hd]
    split
    · split <;> simp
    · simp
  · rw [chk_neg hd];omega
/-- The windows up to, and without, an hour. -/
noncomputable def winTo (xs : List S60) (p : Int) : Nat → List S66
  | 0=>[]
  | d + 1=>winStep xs p (winTo xs p d) ((rd_T60 xs 0).f0 + d)
theorem winTo_len (xs : List S60) (p : Int) : ∀ d,(winTo xs p d).length ≤ d
  | 0=>by simp [winTo]
  | d + 1=>by
    have:=winTo_len xs p d
    have:=winStep_len xs p (winTo xs p d) ((rd_T60 xs 0).f0 + d)
    unfold winTo
    omega
noncomputable def winOf (xs : List S60) (p : Int) : List S66:=winTo xs p (lastH xs + 1 - (rd_T60 xs 0).f0).toNat
theorem tab_bd {xs : List S60} (hv : Valid xs) : 0 ≤ (rd_T60 xs 0).f0 ∧ (rd_T60 xs 0).f0 ≤ lastH xs ∧ lastH xs ≤ 240:=by
  have hlen:=hv.1
  have b0:=(hv.2 0 (by omega) (by omega)).1
  have b1:=(hv.2 ((xs.length : Int) - 1) (by omega) (by omega)).1
  have lt:=valid_lt hv (show 0 ≤ (0 : Int) by omega) (show (0 : Int) < (xs.length : Int) - 1 by omega) (by omega)
  unfold lastH
  omega
theorem spec_win (xs : List S60) (p : Int) : Ev (fun k=>spec_DeepWindows.f k xs p) (chk (Valid xs ∧ 0 ≤ p ∧ p ≤ 2000) (winOf xs p,true) ([],false)):=by
  unfold spec_DeepWindows.f
  simp only [Option.bind_some]
  refine Ev.bind (spec_valid xs) ?_
  have hno : ¬ (Valid xs ∧ 0 ≤ p ∧ p ≤ 2000) → Ev (fun k=>spec_DeepWindows.j0 k xs p [] true) (chk (Valid xs ∧ 0 ≤ p ∧ p ≤ 2000) (winOf xs p,true) ([],false)):=by
    intro h
    rw [chk_neg h]
    refine Ev.step (fun k=>by rw [spec_DeepWindows.j0]) ?_
    simp only [if_true];exact Ev.now _
  refine Ev.ite (fun hv=>?_) (fun hv=>hno (fun h=>hv (chk_true.2 h.1)))
  have hv:=chk_true.1 hv
  simp only [spec_l1In_eq,Option.bind_some]
  by_cases hp : 0 ≤ p ∧ p ≤ 2000
  · rw [decide_eq_true hp,chk_pos ⟨hv,hp⟩]
    have tb:=tab_bd hv
    have hlen:=hv.1
    refine Ev.step (fun k=>by rw [spec_DeepWindows.j0]) ?_
    simp (disch:=omega) only [Bool.not_true,Bool.false_eq_true,if_false,if_pos]
    refine Ev.up (fun k out h=>spec_DeepWindows.l0 k xs p out h) (fun _ _=>(winOf xs p,true)) (fun out h=>(rd_T60 xs 0).f0 ≤ h ∧ out = winTo xs p (h - (rd_T60 xs 0).f0).toNat) (lastH xs + 1) ?_ ?_ [] (rd_T60 xs 0).f0 ⟨by omega,by rw [Int.sub_self];rfl⟩ (by omega)
    · rintro out ⟨h0,rfl⟩
      refine Ev.step (fun k=>by rw [spec_DeepWindows.l0]) ?_
      have e : ¬ lastH xs + 1 ≤ (rd_T60 xs ((xs.length : Int) - 1)).f0:=by unfold lastH;omega
      simp (disch:=omega) only [if_pos,wrap64_id,if_neg]
      exact Ev.now _
    · rintro out h ⟨h0,ho⟩ hlt ih
      have ol:=winTo_len xs p (h - (rd_T60 xs 0).f0).toNat
      rw [← ho] at ol
      refine Ev.step (fun k=>by rw [spec_DeepWindows.l0]) ?_
      have e : h ≤ (rd_T60 xs ((xs.length : Int) - 1)).f0:=by unfold lastH at hlt;omega
      have hin : InTab xs h:=⟨h0,e⟩
      simp (disch:=omega) only [if_pos,wrap64_id]
      refine Ev.bind (spec_deep hv hin (by omega)) ?_
      have fin : ∀ out',out' = winStep xs p out h → Ev (fun k=>spec_DeepWindows.l0 k xs p out' (h + 1)) (winOf xs p,true):=by
        intro out' he
        refine ih out' ⟨by omega,?_⟩
        rw [he,show (h + 1 - (rd_T60 xs 0).f0).toNat = (h - (rd_T60 xs 0).f0).toNat + 1 from by omega]
        unfold winTo
        rw [← ho,show (rd_T60 xs 0).f0 + (((h - (rd_T60 xs 0).f0).toNat : Nat) : Int) = h from by omega]
      refine Ev.ite (fun hd=>?_) (fun hd=>?_)
      · have hd:=chk_true.1 hd
        refine Ev.ite (fun hl=>?_) (fun hl=>?_)
        · try simp (disch:=omega) only [if_pos,wrap64_id]
          refine Ev.ite (fun he=>?_) (fun he=>?_)
          · exact fin _ (by unfold winStep;rw [chk_pos hd,if_pos hl,if_pos he])
          · exact fin _ (by unfold winStep;rw [chk_pos hd,if_pos hl,if_neg he])
        · try simp (disch:=omega) only [if_pos]
          exact fin _ (by unfold winStep;rw [chk_pos hd,if_neg hl])
      · exact fin _ (by unfold winStep;rw [chk_neg (fun x=>hd (chk_true.2 x))])
  · rw [decide_eq_false hp]
    exact hno (fun h=>hp h.2)
theorem impl_win (xs : List S60) (p : Int) : Ev (fun k=>impl_DeepWindows.f k xs p) (chk (Valid xs ∧ 0 ≤ p ∧ p ≤ 2000) (winOf xs p,true) ([],false)):=by
  unfold impl_DeepWindows.f
  refine Ev.bind (impl_valid xs) ?_
  have hno : ¬ (Valid xs ∧ 0 ≤ p ∧ p ≤ 2000) → Ev (fun k=>impl_DeepWindows.j0 k xs p true) (chk (Valid xs ∧ 0 ≤ p ∧ p ≤ 2000) (winOf xs p,true) ([],false)):=by
    intro h
    rw [chk_neg h]
    refine Ev.step (fun k=>by rw [impl_DeepWindows.j0]) ?_
    simp only [if_true];exact Ev.now _
  refine Ev.ite (fun hv=>?_) (fun hv=>hno (fun h=>hv (chk_true.2 h.1)))
  have hv:=chk_true.1 hv
  simp only [impl_within_eq,Option.bind_some]
  by_cases hp : 0 ≤ p ∧ p ≤ 2000
  · rw [decide_eq_true hp,chk_pos ⟨hv,hp⟩]
    have tb:=tab_bd hv
    have hlen:=hv.1
    refine Ev.step (fun k=>by rw [impl_DeepWindows.j0]) ?_
    simp (disch:=omega) only [Bool.not_true,Bool.false_eq_true,if_false,if_pos]
    refine Ev.up (fun k out h=>impl_DeepWindows.l0 k xs p out h) (fun _ _=>(winOf xs p,true)) (fun out h=>(rd_T60 xs 0).f0 ≤ h ∧ out = winTo xs p (h - (rd_T60 xs 0).f0).toNat) (lastH xs + 1) ?_ ?_ [] (rd_T60 xs 0).f0 ⟨by omega,by rw [Int.sub_self];rfl⟩ (by omega)
    · rintro out ⟨h0,rfl⟩
      refine Ev.step (fun k=>by rw [impl_DeepWindows.l0]) ?_
      have e : ¬ lastH xs + 1 ≤ (rd_T60 xs ((xs.length : Int) - 1)).f0:=by unfold lastH;omega
      simp (disch:=omega) only [if_pos,wrap64_id,if_neg]
      exact Ev.now _
    · rintro out h ⟨h0,ho⟩ hlt ih
      have ol:=winTo_len xs p (h - (rd_T60 xs 0).f0).toNat
      rw [← ho] at ol
      refine Ev.step (fun k=>by rw [impl_DeepWindows.l0]) ?_
      have e : h ≤ (rd_T60 xs ((xs.length : Int) - 1)).f0:=by unfold lastH at hlt;omega
      have hin : InTab xs h:=⟨h0,e⟩
      simp (disch:=omega) only [if_pos,wrap64_id]
      refine Ev.bind (impl_deep hv hin (by omega)) ?_
      have fin : ∀ out',out' = winStep xs p out h → Ev (fun k=>impl_DeepWindows.l0 k xs p out' (h + 1)) (winOf xs p,true):=by
        intro out' he
        refine ih out' ⟨by omega,?_⟩
        rw [he,show (h + 1 - (rd_T60 xs 0).f0).toNat = (h - (rd_T60 xs 0).f0).toNat + 1 from by omega]
        unfold winTo
        rw [← ho,show (rd_T60 xs 0).f0 + (((h - (rd_T60 xs 0).f0).toNat : Nat) : Int) = h from by omega]
      refine Ev.ite (fun hd=>?_) (fun hd=>?_)
      · have hd:=chk_true.1 hd
        refine Ev.ite (fun hl=>?_) (fun hl=>?_)
        · try simp (disch:=omega) only [if_pos,wrap64_id]
          refine Ev.ite (fun he=>?_) (fun he=>?_)
          · exact fin _ (by unfold winStep;rw [chk_pos hd,if_pos (by omega),if_pos he])
          · exact fin _ (by unfold winStep;rw [chk_pos hd,if_pos (by omega),if_neg he])
        · try simp (disch:=omega) only [if_pos]
          exact fin _ (by unfold winStep;rw [chk_pos hd,if_neg (by omega)])
      · exact fin _ (by unfold winStep;rw [chk_neg (fun x=>hd (chk_true.2 x))])
  · rw [decide_eq_false hp]
    exact hno (fun h=>hp h.2)

end Go.Proofs.Ytbglkkepfddecaa.G

-- Written by wip/tools/gen.py out of the translation (the kit's printer, one namespace a seat). Lean checks it.
namespace Go.Proofs.Ytbglkkepfddecaa.G
open Go.RowKit Go.Proofs.YtbglkkepfddecaaW.PrintWords Go.Proofs.YtbglkkepfddecaaW.PrintLast Go.Proofs.YtbglkkepfddecaaW.PrintMore
attribute [local go_sem] max2_int min2_int max_two min_two max_three min_three max_four min_four   -- for this text's walks alone
set_option linter.unusedVariables false
set_option linter.unusedSimpArgs false

/-! ### spec_MeanHeight: function 23 -/
def spec_MeanHeight.l0:Nat → List (S60) → Int → Int → Option (Int × Int × Bool)
 | 0,_,_,_=>none
 | k + 1,x0,x5,x6=>if x6 < (x0.length:Int) then (if 0 ≤ (wrap64 (x6 - 1)) then (if (wrap64 (x6 - 1)) < (x0.length:Int) then (if 0 ≤ x6 then (spec_MeanHeight.l0 k x0 (wrap64 (x5 + (wrap64 ((wrap64 (((rd_T60 x0 (wrap64 (x6 - 1))).f1) + ((rd_T60 x0 x6).f1))) * (wrap64 (((rd_T60 x0 x6).f0) - ((rd_T60 x0 (wrap64 (x6 - 1))).f0))))))) (wrap64 (x6 + 1))) else (none)) else (none)) else (none)) else (if 0 ≤ (wrap64 ((x0.length:Int) - 1)) then (if (wrap64 ((x0.length:Int) - 1)) < (x0.length:Int) then (if 0 < (x0.length:Int) then ((spec_l15Reduce.f k x5 (wrap64 (2 * (wrap64 (((rd_T60 x0 (wrap64 ((x0.length:Int) - 1))).f0) - ((rd_T60 x0 0).f0)))))).bind fun bt232=>(some (bt232.1,bt232.2,true))) else (none)) else (none)) else (none))
def spec_MeanHeight.f (k:Nat) (l0:List (S60)):Option (Int × Int × Bool):=(spec_l15Good.f k l0).bind fun t225=>(if t225 = true then (spec_MeanHeight.l0 k l0 0 1) else (some (0,0,false)))
set_option maxHeartbeats 8000000 in
set_option maxRecDepth 100000 in
theorem spec_MeanHeight.calls (k:Nat) (A0:Option Addr) (c0:Nat) (l0:List (S60)) (r1:Int) (r2:Int) (r3:Bool) (w:World) (hr0:Kd.C k60 w A0 l0.length l0) (hc0:l0.length ≤ c0) (h:spec_MeanHeight.f k l0 = some (r1,r2,r3)) :
  Calls Try.prog 23 #[.slice A0 l0.length c0] w fun e w'=>e = .returned (.tuple #[.int .i64 r1,.int .i64 r2,.bool r3]) ∧ Drawn0 w w':=by
 have HR0:=zM hr0;have HC0:=zM hc0;clear hr0 hc0;have H:((spec_l15Good.f k l0).bind fun t225=>(if t225 = true then (spec_MeanHeight.l0 k l0 0 1) else (some (0,0,false)))) = some (r1,r2,r3):=h
 clear h;replace H:=Option.bind_eq_some_iff.mp H;obtain ⟨t225,A20,H⟩:=H;replace H:(if t225 = true then (spec_MeanHeight.l0 k l0 0 1) else (some (0,0,false))) = some (r1,r2,r3):=H
 have A2:=zM A20;clear A20;by_cases c3:t225 = true
 ·subst c3
  have H1:(spec_MeanHeight.l0 k l0 0 1) = some (r1,r2,r3):=by rw [if_pos rfl] at H;exact H
  clear H;have H:=H1;clear H1;have H':=zM H;clear H;go_enter Try.func23,Try.ntmps23
  go_wp2_with (first|(go_at_call 52;(with_reducible refine (spec_l15Good.calls k _ _ l0 true _ ?side1 ?side2 A2.out).mono ?_);(case side1=>repeat (first|exact HR0.out|(with_reducible first|refine zG ?_ _|refine zH ?_ _|refine zI ?_)));(case side2=>exact HC0.out);rintro e w' ⟨rfl,⟨nd,rfl⟩⟩;(try first|exact ⟨rfl,_,World.drewN_drewN _ _ _⟩|exact ⟨rfl,_,zW _ _ _ _⟩)))
  repeat (go_quiet (first|(go_at_call 52;(with_reducible refine (spec_l15Good.calls k _ _ l0 true _ ?side1 ?side2 A2.out).mono ?_);(case side1=>repeat (first|exact HR0.out|(with_reducible first|refine zG ?_ _|refine zH ?_ _|refine zI ?_)));(case side2=>exact HC0.out);rintro e w' ⟨rfl,⟨nd,rfl⟩⟩;(try first|exact ⟨rfl,_,World.drewN_drewN _ _ _⟩|exact ⟨rfl,_,zW _ _ _ _⟩)));try go_wp2_with (first|(go_at_call 52;(with_reducible refine (spec_l15Good.calls k _ _ l0 true _ ?side1 ?side2 A2.out).mono ?_);(case side1=>repeat (first|exact HR0.out|(with_reducible first|refine zG ?_ _|refine zH ?_ _|refine zI ?_)));(case side2=>exact HC0.out);rintro e w' ⟨rfl,⟨nd,rfl⟩⟩;(try first|exact ⟨rfl,_,World.drewN_drewN _ _ _⟩|exact ⟨rfl,_,zW _ _ _ _⟩))))
  go_loopg [5,6] k (fun kq v5 v6 w' => ∃ (x5_1:Int) (x6_1:Int),v5 = .int .i64 x5_1 ∧ v6 = .int .i64 x6_1 ∧ Aside0 (spec_MeanHeight.l0 kq l0 x5_1 x6_1 = some (r1,r2,r3)) ∧ Aside0 (kq ≤ k) ∧ Drawn0 w w')
  case atStart=>exact ⟨(0),(1),(by first|rfl|(simp;done)|(simp [*];done)),(by first|rfl|(simp;done)|(simp [*];done)),H',⟨Nat.le_refl _⟩,by repeat (first|exact Drawn0.refl _|apply Drawn0.step)⟩
  case round =>
   clear H';(try clear c2);(try clear p2);(try clear c3);obtain ⟨x5_1,x6_1,rfl,rfl,HA,HK1,⟨m1,rfl⟩⟩:=hrel;cases gk with
   | zero=>exact absurd HA.out (by simp [spec_MeanHeight.l0])
   | succ k1 =>
    have H:=HA.out;clear HA;simp only [spec_MeanHeight.l0] at H
    by_cases c4:x6_1 < (l0.length:Int)
    ·rw [if_pos c4] at H
     have c4b0:decide (x6_1 < (l0.length:Int)) = true:=decide_eq_true c4
     clear c4;obtain ⟨ji5,hji5⟩ : ∃ j_:Int,(wrap64 (x6_1 - 1)) = j_:=⟨_,rfl⟩
     replace H:(if 0 ≤ (ji5) then (if (ji5) < (l0.length:Int) then (if 0 ≤ x6_1 then (spec_MeanHeight.l0 k1 l0 (wrap64 (x5_1 + (wrap64 ((wrap64 (((rd_T60 l0 (ji5)).f1) + ((rd_T60 l0 x6_1).f1))) * (wrap64 (((rd_T60 l0 x6_1).f0) - ((rd_T60 l0 (ji5)).f0))))))) (wrap64 (x6_1 + 1))) else (none)) else (none)) else (none)) = some (r1,r2,r3):=by first|(rw [hji5] at H;exact H)|(simp only [hji5] at H ⊢;exact H)
     have hji5w:(IntKind.i64.wrap (x6_1 - 1)) = ji5:=(i64_w _).trans hji5
     by_cases c6:0 ≤ (ji5)
     ·rw [if_pos c6] at H
      have c6b0:decide (0 ≤ (ji5)) = true:=decide_eq_true c6
      clear c6;by_cases c7:(ji5) < (l0.length:Int)
      ·rw [if_pos c7] at H
       have c7b0:decide ((ji5) < (l0.length:Int)) = true:=decide_eq_true c7
       clear c7;by_cases c8:0 ≤ x6_1
       ·rw [if_pos c8] at H
        have c8b0:decide (0 ≤ x6_1) = true:=decide_eq_true c8
        clear c8;have H':=zM H;clear H;have p226:0 ≤ ((ji5):Int):=of_decide_eq_true (by first|(with_reducible assumption)|assumption)
        have q226:(ji5) < (l0.length:Int):=of_decide_eq_true (by first|(with_reducible assumption)|assumption)
        obtain ⟨ad226,e226,hx226_0,hx226_1⟩:=at_T60 HR0.out (ji5) p226 q226;cases e226
        replace p226:=eq_true p226;replace q226:=eq_true q226;have p227:0 ≤ (x6_1:Int):=of_decide_eq_true (by first|(with_reducible assumption)|assumption)
        have q227:x6_1 < (l0.length:Int):=of_decide_eq_true (by first|(with_reducible assumption)|assumption)
        obtain ⟨ad227,e227,hx227_0,hx227_1⟩:=at_T60 HR0.out x6_1 p227 q227;obtain rfl:ad226 = ad227:=(by injection e227)
        replace p227:=eq_true p227;replace q227:=eq_true q227;have p228:0 ≤ (x6_1:Int):=of_decide_eq_true (by first|(with_reducible assumption)|assumption)
        have q228:x6_1 < (l0.length:Int):=of_decide_eq_true (by first|(with_reducible assumption)|assumption)
        obtain ⟨ad228,e228,hx228_0,hx228_1⟩:=at_T60 HR0.out x6_1 p228 q228;obtain rfl:ad226 = ad228:=(by injection e228)
        replace p228:=eq_true p228;replace q228:=eq_true q228;have p229:0 ≤ ((ji5):Int):=of_decide_eq_true (by first|(with_reducible assumption)|assumption)
        have q229:(ji5) < (l0.length:Int):=of_decide_eq_true (by first|(with_reducible assumption)|assumption)
        obtain ⟨ad229,e229,hx229_0,hx229_1⟩:=at_T60 HR0.out (ji5) p229 q229;obtain rfl:ad226 = ad229:=(by injection e229)
        replace p229:=eq_true p229;replace q229:=eq_true q229;go_wp2
        repeat (go_quiet (fail);try go_wp2)
        go_roundg k1
        case measure=>have:=HK1.out;omega
        case rel=>exact ⟨(wrap64 (x5_1 + (wrap64 ((wrap64 (((rd_T60 l0 (ji5)).f1) + ((rd_T60 l0 x6_1).f1))) * (wrap64 (((rd_T60 l0 x6_1).f0) - ((rd_T60 l0 (ji5)).f0))))))),(wrap64 (x6_1 + 1)),(by first|rfl|(simp;done)|(simp only [← hji5] <;> (first|rfl|simp))|(simp [*];done)),(by first|rfl|(simp;done)|(simp [*];done)),H',⟨by have:=HK1.out;omega⟩,by repeat (first|exact Drawn0.refl _|apply Drawn0.step)⟩
       ·rw [if_neg c8] at H
        exact absurd H (by simp)
      ·rw [if_neg c7] at H
       exact absurd H (by simp)
     ·rw [if_neg c6] at H
      exact absurd H (by simp)
    ·rw [if_neg c4] at H
     have c4b0:decide (x6_1 < (l0.length:Int)) = false:=decide_eq_false c4
     clear c4;obtain ⟨ji9,hji9⟩ : ∃ j_:Int,(wrap64 ((l0.length:Int) - 1)) = j_:=⟨_,rfl⟩
     replace H:(if 0 ≤ (ji9) then (if (ji9) < (l0.length:Int) then (if 0 < (l0.length:Int) then ((spec_l15Reduce.f k1 x5_1 (wrap64 (2 * (wrap64 (((rd_T60 l0 (ji9)).f0) - ((rd_T60 l0 0).f0)))))).bind fun bt232=>(some (bt232.1,bt232.2,true))) else (none)) else (none)) else (none)) = some (r1,r2,r3):=by first|(rw [hji9] at H;exact H)|(simp only [hji9] at H ⊢;exact H)
     have hji9w:(IntKind.i64.wrap ((l0.length:Int) - 1)) = ji9:=(i64_w _).trans hji9
     by_cases c10:0 ≤ (ji9)
     ·rw [if_pos c10] at H
      have c10b0:decide (0 ≤ (ji9)) = true:=decide_eq_true c10
      clear c10;by_cases c11:(ji9) < (l0.length:Int)
      ·rw [if_pos c11] at H
       have c11b0:decide ((ji9) < (l0.length:Int)) = true:=decide_eq_true c11
       clear c11;by_cases c12:0 < (l0.length:Int)
       ·rw [if_pos c12] at H
        have c12b0:decide (0 < (l0.length:Int)) = true:=decide_eq_true c12
        have c12b1:decide (0 < l0.length) = true:=decide_eq_true (by omega)
        clear c12;replace H:=Option.bind_eq_some_iff.mp H;obtain ⟨⟨t232,t233⟩,A130,H⟩:=H;replace H:(some (t232,t233,true)) = some (r1,r2,r3):=H
        have A13:=zM A130;clear A130;simp only [Option.some.injEq,Prod.mk.injEq] at H
        obtain ⟨rfl,rfl,rfl⟩:=H;have p230:0 ≤ ((ji9):Int):=of_decide_eq_true (by first|(with_reducible assumption)|assumption)
        have q230:(ji9) < (l0.length:Int):=of_decide_eq_true (by first|(with_reducible assumption)|assumption)
        obtain ⟨ad230,e230,hx230_0,hx230_1⟩:=at_T60 HR0.out (ji9) p230 q230;cases e230
        replace p230:=eq_true p230;replace q230:=eq_true q230;have p231:0 ≤ (0:Int):=(by omega)
        have q231:0 < (l0.length:Int):=of_decide_eq_true (by first|(with_reducible assumption)|assumption)
        obtain ⟨ad231,e231,hx231_0,hx231_1⟩:=at_T60 HR0.out 0 p231 q231;obtain rfl:ad230 = ad231:=(by injection e231)
        have qi231:(0 < l0.length) = True:=eq_true (by omega)
        (try rw [show ((0:Int)).toNat = 0 from rfl] at hx231_0)
        (try rw [show 0 * 2 = 0 from rfl] at hx231_0)
        (try rw [Addr.add_zero'] at hx231_0)
        (try rw [show ((0:Int)).toNat = 0 from rfl] at hx231_1)
        (try rw [show 0 * 2 = 0 from rfl] at hx231_1)
        (try rw [Addr.add_zero'] at hx231_1)
        replace p231:=eq_true p231;replace q231:=eq_true q231;go_wp2_with (first|(go_at_call 57;(with_reducible refine (spec_l15Reduce.calls k1 x5_1 (wrap64 (2 * (wrap64 (((rd_T60 l0 (ji9)).f0) - ((rd_T60 l0 0).f0))))) t232 t233 _ A13.out).mono ?_);rintro e w' ⟨rfl,⟨nd,rfl⟩⟩;(try first|exact ⟨rfl,_,World.drewN_drewN _ _ _⟩|exact ⟨rfl,_,zW _ _ _ _⟩)))
        repeat (go_quiet (first|(go_at_call 57;(with_reducible refine (spec_l15Reduce.calls k1 x5_1 (wrap64 (2 * (wrap64 (((rd_T60 l0 (ji9)).f0) - ((rd_T60 l0 0).f0))))) t232 t233 _ A13.out).mono ?_);rintro e w' ⟨rfl,⟨nd,rfl⟩⟩;(try first|exact ⟨rfl,_,World.drewN_drewN _ _ _⟩|exact ⟨rfl,_,zW _ _ _ _⟩)));try go_wp2_with (first|(go_at_call 57;(with_reducible refine (spec_l15Reduce.calls k1 x5_1 (wrap64 (2 * (wrap64 (((rd_T60 l0 (ji9)).f0) - ((rd_T60 l0 0).f0))))) t232 t233 _ A13.out).mono ?_);rintro e w' ⟨rfl,⟨nd,rfl⟩⟩;(try first|exact ⟨rfl,_,World.drewN_drewN _ _ _⟩|exact ⟨rfl,_,zW _ _ _ _⟩))))
        go_ret3
        exact ⟨by first|rfl|(simp;done)|(simp only [← hji9] <;> (first|rfl|simp))|(simp [*];done),by repeat (first|exact Drawn0.refl _|apply Drawn0.step)⟩
       ·rw [if_neg c12] at H
        exact absurd H (by simp)
      ·rw [if_neg c11] at H
       exact absurd H (by simp)
     ·rw [if_neg c10] at H
      exact absurd H (by simp)
 ·replace c3:=Bool.eq_false_iff.mpr c3
  subst c3;have H1:(some (0,0,false)) = some (r1,r2,r3):=by rw [if_neg (show ¬ (false = true) by decide)] at H;exact H
  clear H;have H:=H1;clear H1;simp only [Option.some.injEq,Prod.mk.injEq] at H
  obtain ⟨rfl,rfl,rfl⟩:=H;go_enter Try.func23,Try.ntmps23
  go_wp2_with (first|(go_at_call 52;(with_reducible refine (spec_l15Good.calls k _ _ l0 false _ ?side1 ?side2 A2.out).mono ?_);(case side1=>repeat (first|exact HR0.out|(with_reducible first|refine zG ?_ _|refine zH ?_ _|refine zI ?_)));(case side2=>exact HC0.out);rintro e w' ⟨rfl,⟨nd,rfl⟩⟩;(try first|exact ⟨rfl,_,World.drewN_drewN _ _ _⟩|exact ⟨rfl,_,zW _ _ _ _⟩)))
  repeat (go_quiet (first|(go_at_call 52;(with_reducible refine (spec_l15Good.calls k _ _ l0 false _ ?side1 ?side2 A2.out).mono ?_);(case side1=>repeat (first|exact HR0.out|(with_reducible first|refine zG ?_ _|refine zH ?_ _|refine zI ?_)));(case side2=>exact HC0.out);rintro e w' ⟨rfl,⟨nd,rfl⟩⟩;(try first|exact ⟨rfl,_,World.drewN_drewN _ _ _⟩|exact ⟨rfl,_,zW _ _ _ _⟩)));try go_wp2_with (first|(go_at_call 52;(with_reducible refine (spec_l15Good.calls k _ _ l0 false _ ?side1 ?side2 A2.out).mono ?_);(case side1=>repeat (first|exact HR0.out|(with_reducible first|refine zG ?_ _|refine zH ?_ _|refine zI ?_)));(case side2=>exact HC0.out);rintro e w' ⟨rfl,⟨nd,rfl⟩⟩;(try first|exact ⟨rfl,_,World.drewN_drewN _ _ _⟩|exact ⟨rfl,_,zW _ _ _ _⟩))))
  go_ret3
  exact ⟨by first|rfl|(simp;done)|(simp [*];done),by repeat (first|exact Drawn0.refl _|apply Drawn0.step)⟩



/-! ### impl_MeanHeight: function 24 -/
def impl_MeanHeight.l0:Nat → List (S60) → Int → Int → Option (Int × Int × Bool)
 | 0,_,_,_=>none
 | k + 1,x0,x5,x6=>if x6 < (x0.length:Int) then (if 0 ≤ (wrap64 (x6 - 1)) then (if (wrap64 (x6 - 1)) < (x0.length:Int) then (if 0 ≤ x6 then (impl_MeanHeight.l0 k x0 (wrap64 (x5 + (wrap64 ((wrap64 (((rd_T60 x0 (wrap64 (x6 - 1))).f1) + ((rd_T60 x0 x6).f1))) * (wrap64 (((rd_T60 x0 x6).f0) - ((rd_T60 x0 (wrap64 (x6 - 1))).f0))))))) (wrap64 (x6 + 1))) else (none)) else (none)) else (none)) else (if 0 ≤ (wrap64 ((x0.length:Int) - 1)) then (if (wrap64 ((x0.length:Int) - 1)) < (x0.length:Int) then (if 0 < (x0.length:Int) then ((impl_fraction.f k x5 (wrap64 (2 * (wrap64 (((rd_T60 x0 (wrap64 ((x0.length:Int) - 1))).f0) - ((rd_T60 x0 0).f0)))))).bind fun bt241=>(some (bt241.1,bt241.2,true))) else (none)) else (none)) else (none))
def impl_MeanHeight.f (k:Nat) (l0:List (S60)):Option (Int × Int × Bool):=(impl_IsValidTides.f k l0).bind fun t234=>(if t234 = true then (impl_MeanHeight.l0 k l0 0 1) else (some (0,0,false)))
set_option maxHeartbeats 8000000 in
set_option maxRecDepth 100000 in
theorem impl_MeanHeight.calls (k:Nat) (A0:Option Addr) (c0:Nat) (l0:List (S60)) (r1:Int) (r2:Int) (r3:Bool) (w:World) (hr0:Kd.C k60 w A0 l0.length l0) (hc0:l0.length ≤ c0) (h:impl_MeanHeight.f k l0 = some (r1,r2,r3)) :
  Calls Try.prog 24 #[.slice A0 l0.length c0] w fun e w'=>e = .returned (.tuple #[.int .i64 r1,.int .i64 r2,.bool r3]) ∧ Below w.heap.size w w':=by
 have HR0:=zM hr0;have HC0:=zM hc0;clear hr0 hc0;have HB:=zM (Below.refl w.heap.size w);have H:((impl_IsValidTides.f k l0).bind fun t234=>(if t234 = true then (impl_MeanHeight.l0 k l0 0 1) else (some (0,0,false)))) = some (r1,r2,r3):=h
 clear h;replace H:=Option.bind_eq_some_iff.mp H;obtain ⟨t234,A20,H⟩:=H;replace H:(if t234 = true then (impl_MeanHeight.l0 k l0 0 1) else (some (0,0,false))) = some (r1,r2,r3):=H
 have A2:=zM A20;clear A20;by_cases c3:t234 = true
 ·subst c3
  have H1:(impl_MeanHeight.l0 k l0 0 1) = some (r1,r2,r3):=by rw [if_pos rfl] at H;exact H
  clear H;have H:=H1;clear H1;have H':=zM H;clear H;go_enter Try.func24,Try.ntmps24
  go_wp2_with (first|(go_at_call 17;(with_reducible refine (impl_IsValidTides.calls k _ _ l0 true _ ?side1 ?side2 A2.out).mono ?_);(case side1=>repeat (first|exact HR0.out|(with_reducible first|refine zG ?_ _|refine zH ?_ _|refine zI ?_)));(case side2=>exact HC0.out);rintro e w4 ⟨rfl,hb⟩;have n0_:=zM (zQ (by repeat (first|(with_reducible first|exact HB.out|apply zD|apply zE|apply zF)|exact HB.out)) hb);clear HB;have HB:=n0_;clear n0_;(try clear hb);(try clear hb2);(try clear hk);(try clear hi)))
  repeat (go_quiet (first|(go_at_call 17;(with_reducible refine (impl_IsValidTides.calls k _ _ l0 true _ ?side1 ?side2 A2.out).mono ?_);(case side1=>repeat (first|exact HR0.out|(with_reducible first|refine zG ?_ _|refine zH ?_ _|refine zI ?_)));(case side2=>exact HC0.out);rintro e w4 ⟨rfl,hb⟩;have n0_:=zM (zQ (by repeat (first|(with_reducible first|exact HB.out|apply zD|apply zE|apply zF)|exact HB.out)) hb);clear HB;have HB:=n0_;clear n0_;(try clear hb);(try clear hb2);(try clear hk);(try clear hi)));try go_wp2_with (first|(go_at_call 17;(with_reducible refine (impl_IsValidTides.calls k _ _ l0 true _ ?side1 ?side2 A2.out).mono ?_);(case side1=>repeat (first|exact HR0.out|(with_reducible first|refine zG ?_ _|refine zH ?_ _|refine zI ?_)));(case side2=>exact HC0.out);rintro e w4 ⟨rfl,hb⟩;have n0_:=zM (zQ (by repeat (first|(with_reducible first|exact HB.out|apply zD|apply zE|apply zF)|exact HB.out)) hb);clear HB;have HB:=n0_;clear n0_;(try clear hb);(try clear hb2);(try clear hk);(try clear hi))))
  go_loopg [5,6] k (fun kq v5 v6 w' => ∃ (x5_1:Int) (x6_1:Int),v5 = .int .i64 x5_1 ∧ v6 = .int .i64 x6_1 ∧ Aside0 (impl_MeanHeight.l0 kq l0 x5_1 x6_1 = some (r1,r2,r3)) ∧ Aside0 (kq ≤ k) ∧ Aside0 (Below w.heap.size w w'))
  case atStart=>exact ⟨(0),(1),(by first|rfl|(simp;done)|(simp [*];done)),(by first|rfl|(simp;done)|(simp [*];done)),H',⟨Nat.le_refl _⟩,⟨by repeat (first|(with_reducible first|exact HB.out|apply zD|apply zE|apply zF)|exact HB.out)⟩⟩
  case round =>
   clear H';(try clear c2);(try clear p2);(try clear c3);obtain ⟨x5_1,x6_1,rfl,rfl,HA,HK1,HB⟩:=hrel;cases gk with
   | zero=>exact absurd HA.out (by simp [impl_MeanHeight.l0])
   | succ k1 =>
    have H:=HA.out;clear HA;simp only [impl_MeanHeight.l0] at H
    by_cases c5:x6_1 < (l0.length:Int)
    ·rw [if_pos c5] at H
     have c5b0:decide (x6_1 < (l0.length:Int)) = true:=decide_eq_true c5
     clear c5;obtain ⟨ji6,hji6⟩ : ∃ j_:Int,(wrap64 (x6_1 - 1)) = j_:=⟨_,rfl⟩
     replace H:(if 0 ≤ (ji6) then (if (ji6) < (l0.length:Int) then (if 0 ≤ x6_1 then (impl_MeanHeight.l0 k1 l0 (wrap64 (x5_1 + (wrap64 ((wrap64 (((rd_T60 l0 (ji6)).f1) + ((rd_T60 l0 x6_1).f1))) * (wrap64 (((rd_T60 l0 x6_1).f0) - ((rd_T60 l0 (ji6)).f0))))))) (wrap64 (x6_1 + 1))) else (none)) else (none)) else (none)) = some (r1,r2,r3):=by first|(rw [hji6] at H;exact H)|(simp only [hji6] at H ⊢;exact H)
     have hji6w:(IntKind.i64.wrap (x6_1 - 1)) = ji6:=(i64_w _).trans hji6
     by_cases c7:0 ≤ (ji6)
     ·rw [if_pos c7] at H
      have c7b0:decide (0 ≤ (ji6)) = true:=decide_eq_true c7
      clear c7;by_cases c8:(ji6) < (l0.length:Int)
      ·rw [if_pos c8] at H
       have c8b0:decide ((ji6) < (l0.length:Int)) = true:=decide_eq_true c8
       clear c8;by_cases c9:0 ≤ x6_1
       ·rw [if_pos c9] at H
        have c9b0:decide (0 ≤ x6_1) = true:=decide_eq_true c9
        clear c9;have H':=zM H;clear H;have p235:0 ≤ ((ji6):Int):=of_decide_eq_true (by first|(with_reducible assumption)|assumption)
        have q235:(ji6) < (l0.length:Int):=of_decide_eq_true (by first|(with_reducible assumption)|assumption)
        obtain ⟨ad235,e235,hx235_0,hx235_1⟩:=at_T60 HR0.out (ji6) p235 q235;cases e235
        replace hx235_0:=zS HB.out hx235_0;replace hx235_1:=zS HB.out hx235_1;replace p235:=eq_true p235;replace q235:=eq_true q235;have p236:0 ≤ (x6_1:Int):=of_decide_eq_true (by first|(with_reducible assumption)|assumption)
        have q236:x6_1 < (l0.length:Int):=of_decide_eq_true (by first|(with_reducible assumption)|assumption)
        obtain ⟨ad236,e236,hx236_0,hx236_1⟩:=at_T60 HR0.out x6_1 p236 q236;obtain rfl:ad235 = ad236:=(by injection e236)
        replace hx236_0:=zS HB.out hx236_0;replace hx236_1:=zS HB.out hx236_1;replace p236:=eq_true p236;replace q236:=eq_true q236;have p237:0 ≤ (x6_1:Int):=of_decide_eq_true (by first|(with_reducible assumption)|assumption)
        have q237:x6_1 < (l0.length:Int):=of_decide_eq_true (by first|(with_reducible assumption)|assumption)
        obtain ⟨ad237,e237,hx237_0,hx237_1⟩:=at_T60 HR0.out x6_1 p237 q237;obtain rfl:ad235 = ad237:=(by injection e237)
        replace hx237_0:=zS HB.out hx237_0;replace hx237_1:=zS HB.out hx237_1;replace p237:=eq_true p237;replace q237:=eq_true q237;have p238:0 ≤ ((ji6):Int):=of_decide_eq_true (by first|(with_reducible assumption)|assumption)
        have q238:(ji6) < (l0.length:Int):=of_decide_eq_true (by first|(with_reducible assumption)|assumption)
        obtain ⟨ad238,e238,hx238_0,hx238_1⟩:=at_T60 HR0.out (ji6) p238 q238;obtain rfl:ad235 = ad238:=(by injection e238)
        replace hx238_0:=zS HB.out hx238_0;replace hx238_1:=zS HB.out hx238_1;replace p238:=eq_true p238;replace q238:=eq_true q238;go_wp2
        repeat (go_quiet (fail);try go_wp2)
        go_roundg k1
        case measure=>have:=HK1.out;omega
        case rel=>exact ⟨(wrap64 (x5_1 + (wrap64 ((wrap64 (((rd_T60 l0 (ji6)).f1) + ((rd_T60 l0 x6_1).f1))) * (wrap64 (((rd_T60 l0 x6_1).f0) - ((rd_T60 l0 (ji6)).f0))))))),(wrap64 (x6_1 + 1)),(by first|rfl|(simp;done)|(simp only [← hji6] <;> (first|rfl|simp))|(simp [*];done)),(by first|rfl|(simp;done)|(simp [*];done)),H',⟨by have:=HK1.out;omega⟩,⟨by repeat (first|(with_reducible first|exact HB.out|apply zD|apply zE|apply zF)|exact HB.out)⟩⟩
       ·rw [if_neg c9] at H
        exact absurd H (by simp)
      ·rw [if_neg c8] at H
       exact absurd H (by simp)
     ·rw [if_neg c7] at H
      exact absurd H (by simp)
    ·rw [if_neg c5] at H
     have c5b0:decide (x6_1 < (l0.length:Int)) = false:=decide_eq_false c5
     clear c5;obtain ⟨ji10,hji10⟩ : ∃ j_:Int,(wrap64 ((l0.length:Int) - 1)) = j_:=⟨_,rfl⟩
     replace H:(if 0 ≤ (ji10) then (if (ji10) < (l0.length:Int) then (if 0 < (l0.length:Int) then ((impl_fraction.f k1 x5_1 (wrap64 (2 * (wrap64 (((rd_T60 l0 (ji10)).f0) - ((rd_T60 l0 0).f0)))))).bind fun bt241=>(some (bt241.1,bt241.2,true))) else (none)) else (none)) else (none)) = some (r1,r2,r3):=by first|(rw [hji10] at H;exact H)|(simp only [hji10] at H ⊢;exact H)
     have hji10w:(IntKind.i64.wrap ((l0.length:Int) - 1)) = ji10:=(i64_w _).trans hji10
     by_cases c11:0 ≤ (ji10)
     ·rw [if_pos c11] at H
      have c11b0:decide (0 ≤ (ji10)) = true:=decide_eq_true c11
      clear c11;by_cases c12:(ji10) < (l0.length:Int)
      ·rw [if_pos c12] at H
       have c12b0:decide ((ji10) < (l0.length:Int)) = true:=decide_eq_true c12
       clear c12;by_cases c13:0 < (l0.length:Int)
       ·rw [if_pos c13] at H
        have c13b0:decide (0 < (l0.length:Int)) = true:=decide_eq_true c13
        have c13b1:decide (0 < l0.length) = true:=decide_eq_true (by omega)
        clear c13;replace H:=Option.bind_eq_some_iff.mp H;obtain ⟨⟨t241,t242⟩,A140,H⟩:=H;replace H:(some (t241,t242,true)) = some (r1,r2,r3):=H
        have A14:=zM A140;clear A140;simp only [Option.some.injEq,Prod.mk.injEq] at H
        obtain ⟨rfl,rfl,rfl⟩:=H;have p239:0 ≤ ((ji10):Int):=of_decide_eq_true (by first|(with_reducible assumption)|assumption)
        have q239:(ji10) < (l0.length:Int):=of_decide_eq_true (by first|(with_reducible assumption)|assumption)
        obtain ⟨ad239,e239,hx239_0,hx239_1⟩:=at_T60 HR0.out (ji10) p239 q239;cases e239
        replace hx239_0:=zS HB.out hx239_0;replace hx239_1:=zS HB.out hx239_1;replace p239:=eq_true p239;replace q239:=eq_true q239;have p240:0 ≤ (0:Int):=(by omega)
        have q240:0 < (l0.length:Int):=of_decide_eq_true (by first|(with_reducible assumption)|assumption)
        obtain ⟨ad240,e240,hx240_0,hx240_1⟩:=at_T60 HR0.out 0 p240 q240;obtain rfl:ad239 = ad240:=(by injection e240)
        have qi240:(0 < l0.length) = True:=eq_true (by omega)
        (try rw [show ((0:Int)).toNat = 0 from rfl] at hx240_0)
        (try rw [show 0 * 2 = 0 from rfl] at hx240_0)
        (try rw [Addr.add_zero'] at hx240_0)
        (try rw [show ((0:Int)).toNat = 0 from rfl] at hx240_1)
        (try rw [show 0 * 2 = 0 from rfl] at hx240_1)
        (try rw [Addr.add_zero'] at hx240_1)
        replace hx240_0:=zS HB.out hx240_0;replace hx240_1:=zS HB.out hx240_1;replace p240:=eq_true p240;replace q240:=eq_true q240;go_wp2_with (first|(go_at_call 58;(with_reducible refine (impl_fraction.calls k1 x5_1 (wrap64 (2 * (wrap64 (((rd_T60 l0 (ji10)).f0) - ((rd_T60 l0 0).f0))))) t241 t242 _ A14.out).mono ?_);rintro e w' ⟨rfl,⟨nd,rfl⟩⟩;(try first|exact ⟨rfl,_,World.drewN_drewN _ _ _⟩|exact ⟨rfl,_,zW _ _ _ _⟩)))
        repeat (go_quiet (first|(go_at_call 58;(with_reducible refine (impl_fraction.calls k1 x5_1 (wrap64 (2 * (wrap64 (((rd_T60 l0 (ji10)).f0) - ((rd_T60 l0 0).f0))))) t241 t242 _ A14.out).mono ?_);rintro e w' ⟨rfl,⟨nd,rfl⟩⟩;(try first|exact ⟨rfl,_,World.drewN_drewN _ _ _⟩|exact ⟨rfl,_,zW _ _ _ _⟩)));try go_wp2_with (first|(go_at_call 58;(with_reducible refine (impl_fraction.calls k1 x5_1 (wrap64 (2 * (wrap64 (((rd_T60 l0 (ji10)).f0) - ((rd_T60 l0 0).f0))))) t241 t242 _ A14.out).mono ?_);rintro e w' ⟨rfl,⟨nd,rfl⟩⟩;(try first|exact ⟨rfl,_,World.drewN_drewN _ _ _⟩|exact ⟨rfl,_,zW _ _ _ _⟩))))
        go_ret3
        exact ⟨by first|rfl|(simp [errW_none,errW_some] <;> rfl)|(simp only [← hji10];first|rfl|(simp [errW_none,errW_some] <;> rfl))|(simp [*,errW_none,errW_some] <;> rfl),by repeat (first|(with_reducible first|exact HB.out|apply zD|apply zE|apply zF)|exact HB.out)⟩
       ·rw [if_neg c13] at H
        exact absurd H (by simp)
      ·rw [if_neg c12] at H
       exact absurd H (by simp)
     ·rw [if_neg c11] at H
      exact absurd H (by simp)
 ·replace c3:=Bool.eq_false_iff.mpr c3
  subst c3;have H1:(some (0,0,false)) = some (r1,r2,r3):=by rw [if_neg (show ¬ (false = true) by decide)] at H;exact H
  clear H;have H:=H1;clear H1;simp only [Option.some.injEq,Prod.mk.injEq] at H
  obtain ⟨rfl,rfl,rfl⟩:=H;go_enter Try.func24,Try.ntmps24
  go_wp2_with (first|(go_at_call 17;(with_reducible refine (impl_IsValidTides.calls k _ _ l0 false _ ?side1 ?side2 A2.out).mono ?_);(case side1=>repeat (first|exact HR0.out|(with_reducible first|refine zG ?_ _|refine zH ?_ _|refine zI ?_)));(case side2=>exact HC0.out);rintro e w15 ⟨rfl,hb⟩;have n0_:=zM (zQ (by repeat (first|(with_reducible first|exact HB.out|apply zD|apply zE|apply zF)|exact HB.out)) hb);clear HB;have HB:=n0_;clear n0_;(try clear hb);(try clear hb2);(try clear hk);(try clear hi)))
  repeat (go_quiet (first|(go_at_call 17;(with_reducible refine (impl_IsValidTides.calls k _ _ l0 false _ ?side1 ?side2 A2.out).mono ?_);(case side1=>repeat (first|exact HR0.out|(with_reducible first|refine zG ?_ _|refine zH ?_ _|refine zI ?_)));(case side2=>exact HC0.out);rintro e w15 ⟨rfl,hb⟩;have n0_:=zM (zQ (by repeat (first|(with_reducible first|exact HB.out|apply zD|apply zE|apply zF)|exact HB.out)) hb);clear HB;have HB:=n0_;clear n0_;(try clear hb);(try clear hb2);(try clear hk);(try clear hi)));try go_wp2_with (first|(go_at_call 17;(with_reducible refine (impl_IsValidTides.calls k _ _ l0 false _ ?side1 ?side2 A2.out).mono ?_);(case side1=>repeat (first|exact HR0.out|(with_reducible first|refine zG ?_ _|refine zH ?_ _|refine zI ?_)));(case side2=>exact HC0.out);rintro e w15 ⟨rfl,hb⟩;have n0_:=zM (zQ (by repeat (first|(with_reducible first|exact HB.out|apply zD|apply zE|apply zF)|exact HB.out)) hb);clear HB;have HB:=n0_;clear n0_;(try clear hb);(try clear hb2);(try clear hk);(try clear hi))))
  go_ret3
  exact ⟨by first|rfl|(simp [errW_none,errW_some] <;> rfl)|(simp [*,errW_none,errW_some] <;> rfl),by repeat (first|(with_reducible first|exact HB.out|apply zD|apply zE|apply zF)|exact HB.out)⟩

end Go.Proofs.Ytbglkkepfddecaa.G

namespace Go.Proofs.Ytbglkkepfddecaa.G
open Go.RowKit Go.Proofs.YtbglkkepfddecaaW.PrintWords Go.Proofs.YtbglkkepfddecaaW.PrintLast
set_option linter.unusedVariables false
set_option linter.unusedSimpArgs false
/-- Twice the area below the segments before i, from 1 on. -/
def area (xs : List S60) : Nat → Int
  | 0=>0
  | i + 1=>area xs i + ((rd_T60 xs (i : Int)).f1 + (rd_T60 xs ((i : Int) + 1)).f1) * ((rd_T60 xs ((i : Int) + 1)).f0 - (rd_T60 xs (i : Int)).f0)
def meanOf (xs : List S60) : Int × Int:=frac (area xs (xs.length - 1)) (2 * ((rd_T60 xs ((xs.length : Int) - 1)).f0 - (rd_T60 xs 0).f0))
end Go.Proofs.Ytbglkkepfddecaa.G

-- Written by wip/tools/gen.py out of the translation (the kit's printer, one namespace a seat). Lean checks it.
namespace Go.Proofs.Ytbglkkepfddecaa.G
open Go.RowKit Go.Proofs.YtbglkkepfddecaaW.PrintWords Go.Proofs.YtbglkkepfddecaaW.PrintLast Go.Proofs.YtbglkkepfddecaaW.PrintMore
attribute [local go_sem] max2_int min2_int max_two min_two max_three min_three max_four min_four   -- for this text's walks alone
set_option linter.unusedVariables false
set_option linter.unusedSimpArgs false

/-! ### spec_SteepestChange: function 27 -/
def spec_SteepestChange.l0:Nat → List (S60) → Int → Int → Int → Int → Option (Int × Int × Int × Bool)
 | 0,_,_,_,_,_=>none
 | k + 1,x0,x6,x7,x8,x9=>if (wrap64 (x9 + 1)) < (x0.length:Int) then (if 0 ≤ (wrap64 (x9 + 1)) then (if 0 ≤ x9 then (if x9 < (x0.length:Int) then ((spec_l1Most.f (wrap64 (((rd_T60 x0 (wrap64 (x9 + 1))).f1) - ((rd_T60 x0 x9).f1))) (wrap64 (-(wrap64 (((rd_T60 x0 (wrap64 (x9 + 1))).f1) - ((rd_T60 x0 x9).f1)))))).bind fun t314=>(if (wrap64 (t314 * x8)) > (wrap64 (x7 * (wrap64 (((rd_T60 x0 (wrap64 (x9 + 1))).f0) - ((rd_T60 x0 x9).f0))))) then (spec_SteepestChange.l0 k x0 x9 t314 (wrap64 (((rd_T60 x0 (wrap64 (x9 + 1))).f0) - ((rd_T60 x0 x9).f0))) (wrap64 (x9 + 1))) else (spec_SteepestChange.l0 k x0 x6 x7 x8 (wrap64 (x9 + 1))))) else (none)) else (none)) else (none)) else ((spec_l15Reduce.f k x7 x8).bind fun bt317=>(some (bt317.1,bt317.2,x6,true)))
def spec_SteepestChange.f (k:Nat) (l0:List (S60)):Option (Int × Int × Int × Bool):=(spec_l15Good.f k l0).bind fun t311=>(if t311 = true then (spec_SteepestChange.l0 k l0 0 (-1) 1 0) else (some (0,0,0,false)))
set_option maxHeartbeats 8000000 in
set_option maxRecDepth 100000 in
theorem spec_SteepestChange.calls (k:Nat) (A0:Option Addr) (c0:Nat) (l0:List (S60)) (r1:Int) (r2:Int) (r3:Int) (r4:Bool) (w:World) (hr0:Kd.C k60 w A0 l0.length l0) (hc0:l0.length ≤ c0) (h:spec_SteepestChange.f k l0 = some (r1,r2,r3,r4)) :
  Calls Try.prog 27 #[.slice A0 l0.length c0] w fun e w'=>e = .returned (.tuple #[.int .i64 r1,.int .i64 r2,.int .i64 r3,.bool r4]) ∧ Drawn0 w w':=by
 have HR0:=zM hr0;have HC0:=zM hc0;clear hr0 hc0;have H:((spec_l15Good.f k l0).bind fun t311=>(if t311 = true then (spec_SteepestChange.l0 k l0 0 (-1) 1 0) else (some (0,0,0,false)))) = some (r1,r2,r3,r4):=h
 clear h;replace H:=Option.bind_eq_some_iff.mp H;obtain ⟨t311,A20,H⟩:=H;replace H:(if t311 = true then (spec_SteepestChange.l0 k l0 0 (-1) 1 0) else (some (0,0,0,false))) = some (r1,r2,r3,r4):=H
 have A2:=zM A20;clear A20;by_cases c3:t311 = true
 ·subst c3
  have H1:(spec_SteepestChange.l0 k l0 0 (-1) 1 0) = some (r1,r2,r3,r4):=by rw [if_pos rfl] at H;exact H
  clear H;have H:=H1;clear H1;have H':=zM H;clear H;go_enter Try.func27,Try.ntmps27
  go_wp2_with (first|(go_at_call 52;(with_reducible refine (spec_l15Good.calls k _ _ l0 true _ ?side1 ?side2 A2.out).mono ?_);(case side1=>repeat (first|exact HR0.out|(with_reducible first|refine zG ?_ _|refine zH ?_ _|refine zI ?_)));(case side2=>exact HC0.out);rintro e w' ⟨rfl,⟨nd,rfl⟩⟩;(try first|exact ⟨rfl,_,World.drewN_drewN _ _ _⟩|exact ⟨rfl,_,zW _ _ _ _⟩)))
  repeat (go_quiet (first|(go_at_call 52;(with_reducible refine (spec_l15Good.calls k _ _ l0 true _ ?side1 ?side2 A2.out).mono ?_);(case side1=>repeat (first|exact HR0.out|(with_reducible first|refine zG ?_ _|refine zH ?_ _|refine zI ?_)));(case side2=>exact HC0.out);rintro e w' ⟨rfl,⟨nd,rfl⟩⟩;(try first|exact ⟨rfl,_,World.drewN_drewN _ _ _⟩|exact ⟨rfl,_,zW _ _ _ _⟩)));try go_wp2_with (first|(go_at_call 52;(with_reducible refine (spec_l15Good.calls k _ _ l0 true _ ?side1 ?side2 A2.out).mono ?_);(case side1=>repeat (first|exact HR0.out|(with_reducible first|refine zG ?_ _|refine zH ?_ _|refine zI ?_)));(case side2=>exact HC0.out);rintro e w' ⟨rfl,⟨nd,rfl⟩⟩;(try first|exact ⟨rfl,_,World.drewN_drewN _ _ _⟩|exact ⟨rfl,_,zW _ _ _ _⟩))))
  go_loopg [6,7,8,9] k (fun kq v6 v7 v8 v9 w' => ∃ (x6_1:Int) (x7_1:Int) (x8_1:Int) (x9_1:Int),v6 = .int .i64 x6_1 ∧ v7 = .int .i64 x7_1 ∧ v8 = .int .i64 x8_1 ∧ v9 = .int .i64 x9_1 ∧ Aside0 (spec_SteepestChange.l0 kq l0 x6_1 x7_1 x8_1 x9_1 = some (r1,r2,r3,r4)) ∧ Aside0 (kq ≤ k) ∧ Drawn0 w w')
  case atStart=>exact ⟨(0),((-1)),(1),(0),(by first|rfl|(simp;done)|(simp [*];done)),(by first|rfl|(simp;done)|(simp [*];done)),(by first|rfl|(simp;done)|(simp [*];done)),(by first|rfl|(simp;done)|(simp [*];done)),H',⟨Nat.le_refl _⟩,by repeat (first|exact Drawn0.refl _|apply Drawn0.step)⟩
  case round =>
   clear H';(try clear c2);(try clear p2);(try clear c3);obtain ⟨x6_1,x7_1,x8_1,x9_1,rfl,rfl,rfl,rfl,HA,HK1,⟨m1,rfl⟩⟩:=hrel;cases gk with
   | zero=>exact absurd HA.out (by simp [spec_SteepestChange.l0])
   | succ k1 =>
    have H:=HA.out;clear HA;simp only [spec_SteepestChange.l0] at H
    by_cases c4:(wrap64 (x9_1 + 1)) < (l0.length:Int)
    ·rw [if_pos c4] at H
     have c4b0:decide ((wrap64 (x9_1 + 1)) < (l0.length:Int)) = true:=decide_eq_true c4
     clear c4;obtain ⟨ji5,hji5⟩ : ∃ j_:Int,(wrap64 (x9_1 + 1)) = j_:=⟨_,rfl⟩
     replace H:(if 0 ≤ (ji5) then (if 0 ≤ x9_1 then (if x9_1 < (l0.length:Int) then ((spec_l1Most.f (wrap64 (((rd_T60 l0 (ji5)).f1) - ((rd_T60 l0 x9_1).f1))) (wrap64 (-(wrap64 (((rd_T60 l0 (ji5)).f1) - ((rd_T60 l0 x9_1).f1)))))).bind fun t314=>(if (wrap64 (t314 * x8_1)) > (wrap64 (x7_1 * (wrap64 (((rd_T60 l0 (ji5)).f0) - ((rd_T60 l0 x9_1).f0))))) then (spec_SteepestChange.l0 k1 l0 x9_1 t314 (wrap64 (((rd_T60 l0 (ji5)).f0) - ((rd_T60 l0 x9_1).f0))) ji5) else (spec_SteepestChange.l0 k1 l0 x6_1 x7_1 x8_1 ji5))) else (none)) else (none)) else (none)) = some (r1,r2,r3,r4):=by first|(rw [hji5] at H;exact H)|(simp only [hji5] at H ⊢;exact H)
     (try rw [hji5] at c4b0)
     have hji5w:(IntKind.i64.wrap (x9_1 + 1)) = ji5:=(i64_w _).trans hji5
     by_cases c6:0 ≤ (ji5)
     ·rw [if_pos c6] at H
      have c6b0:decide (0 ≤ (ji5)) = true:=decide_eq_true c6
      clear c6;by_cases c7:0 ≤ x9_1
      ·rw [if_pos c7] at H
       have c7b0:decide (0 ≤ x9_1) = true:=decide_eq_true c7
       clear c7;by_cases c8:x9_1 < (l0.length:Int)
       ·rw [if_pos c8] at H
        have c8b0:decide (x9_1 < (l0.length:Int)) = true:=decide_eq_true c8
        clear c8;replace H:=Option.bind_eq_some_iff.mp H;obtain ⟨t314,A90,H⟩:=H;replace H:(if (wrap64 (t314 * x8_1)) > (wrap64 (x7_1 * (wrap64 (((rd_T60 l0 (ji5)).f0) - ((rd_T60 l0 x9_1).f0))))) then (spec_SteepestChange.l0 k1 l0 x9_1 t314 (wrap64 (((rd_T60 l0 (ji5)).f0) - ((rd_T60 l0 x9_1).f0))) ji5) else (spec_SteepestChange.l0 k1 l0 x6_1 x7_1 x8_1 ji5)) = some (r1,r2,r3,r4):=H
        have A9:=zM A90;clear A90;by_cases c10:(wrap64 (t314 * x8_1)) > (wrap64 (x7_1 * (wrap64 (((rd_T60 l0 (ji5)).f0) - ((rd_T60 l0 x9_1).f0)))))
        ·rw [if_pos c10] at H
         have c10b0:decide ((wrap64 (x7_1 * (wrap64 (((rd_T60 l0 (ji5)).f0) - ((rd_T60 l0 x9_1).f0))))) < (wrap64 (t314 * x8_1))) = true:=decide_eq_true c10
         clear c10;have H':=zM H;clear H;have p312:0 ≤ ((ji5):Int):=of_decide_eq_true (by first|(with_reducible assumption)|assumption)
         have q312:(ji5) < (l0.length:Int):=of_decide_eq_true (by first|(with_reducible assumption)|assumption)
         obtain ⟨ad312,e312,hx312_0,hx312_1⟩:=at_T60 HR0.out (ji5) p312 q312;cases e312
         replace p312:=eq_true p312;replace q312:=eq_true q312;have p313:0 ≤ (x9_1:Int):=of_decide_eq_true (by first|(with_reducible assumption)|assumption)
         have q313:x9_1 < (l0.length:Int):=of_decide_eq_true (by first|(with_reducible assumption)|assumption)
         obtain ⟨ad313,e313,hx313_0,hx313_1⟩:=at_T60 HR0.out x9_1 p313 q313;obtain rfl:ad312 = ad313:=(by injection e313)
         replace p313:=eq_true p313;replace q313:=eq_true q313;go_wp2_with (first|(go_at_call 64;(with_reducible refine (spec_l1Most.calls (wrap64 (((rd_T60 l0 (ji5)).f1) - ((rd_T60 l0 x9_1).f1))) (wrap64 (-(wrap64 (((rd_T60 l0 (ji5)).f1) - ((rd_T60 l0 x9_1).f1))))) t314 _ A9.out).mono ?_);rintro e w' ⟨rfl,⟨nd,rfl⟩⟩;(try first|exact ⟨rfl,_,World.drewN_drewN _ _ _⟩|exact ⟨rfl,_,zW _ _ _ _⟩);have p315:0 ≤ ((ji5):Int):=of_decide_eq_true (by first|(with_reducible assumption)|assumption);have q315:(ji5) < (l0.length:Int):=of_decide_eq_true (by first|(with_reducible assumption)|assumption);obtain ⟨ad315,e315,hx315_0,hx315_1⟩:=at_T60 HR0.out (ji5) p315 q315;obtain rfl:ad312 = ad315:=(by injection e315);replace p315:=eq_true p315;replace q315:=eq_true q315;have p316:0 ≤ (x9_1:Int):=of_decide_eq_true (by first|(with_reducible assumption)|assumption);have q316:x9_1 < (l0.length:Int):=of_decide_eq_true (by first|(with_reducible assumption)|assumption);obtain ⟨ad316,e316,hx316_0,hx316_1⟩:=at_T60 HR0.out x9_1 p316 q316;obtain rfl:ad312 = ad316:=(by injection e316);replace p316:=eq_true p316;replace q316:=eq_true q316))
         repeat (go_quiet (first|(go_at_call 64;(with_reducible refine (spec_l1Most.calls (wrap64 (((rd_T60 l0 (ji5)).f1) - ((rd_T60 l0 x9_1).f1))) (wrap64 (-(wrap64 (((rd_T60 l0 (ji5)).f1) - ((rd_T60 l0 x9_1).f1))))) t314 _ A9.out).mono ?_);rintro e w' ⟨rfl,⟨nd,rfl⟩⟩;(try first|exact ⟨rfl,_,World.drewN_drewN _ _ _⟩|exact ⟨rfl,_,zW _ _ _ _⟩);have p315:0 ≤ ((ji5):Int):=of_decide_eq_true (by first|(with_reducible assumption)|assumption);have q315:(ji5) < (l0.length:Int):=of_decide_eq_true (by first|(with_reducible assumption)|assumption);obtain ⟨ad315,e315,hx315_0,hx315_1⟩:=at_T60 HR0.out (ji5) p315 q315;obtain rfl:ad312 = ad315:=(by injection e315);replace p315:=eq_true p315;replace q315:=eq_true q315;have p316:0 ≤ (x9_1:Int):=of_decide_eq_true (by first|(with_reducible assumption)|assumption);have q316:x9_1 < (l0.length:Int):=of_decide_eq_true (by first|(with_reducible assumption)|assumption);obtain ⟨ad316,e316,hx316_0,hx316_1⟩:=at_T60 HR0.out x9_1 p316 q316;obtain rfl:ad312 = ad316:=(by injection e316);replace p316:=eq_true p316;replace q316:=eq_true q316));try go_wp2_with (first|(go_at_call 64;(with_reducible refine (spec_l1Most.calls (wrap64 (((rd_T60 l0 (ji5)).f1) - ((rd_T60 l0 x9_1).f1))) (wrap64 (-(wrap64 (((rd_T60 l0 (ji5)).f1) - ((rd_T60 l0 x9_1).f1))))) t314 _ A9.out).mono ?_);rintro e w' ⟨rfl,⟨nd,rfl⟩⟩;(try first|exact ⟨rfl,_,World.drewN_drewN _ _ _⟩|exact ⟨rfl,_,zW _ _ _ _⟩);have p315:0 ≤ ((ji5):Int):=of_decide_eq_true (by first|(with_reducible assumption)|assumption);have q315:(ji5) < (l0.length:Int):=of_decide_eq_true (by first|(with_reducible assumption)|assumption);obtain ⟨ad315,e315,hx315_0,hx315_1⟩:=at_T60 HR0.out (ji5) p315 q315;obtain rfl:ad312 = ad315:=(by injection e315);replace p315:=eq_true p315;replace q315:=eq_true q315;have p316:0 ≤ (x9_1:Int):=of_decide_eq_true (by first|(with_reducible assumption)|assumption);have q316:x9_1 < (l0.length:Int):=of_decide_eq_true (by first|(with_reducible assumption)|assumption);obtain ⟨ad316,e316,hx316_0,hx316_1⟩:=at_T60 HR0.out x9_1 p316 q316;obtain rfl:ad312 = ad316:=(by injection e316);replace p316:=eq_true p316;replace q316:=eq_true q316)))
         go_roundg k1
         case measure=>have:=HK1.out;omega
         case rel=>exact ⟨(x9_1),(t314),(wrap64 (((rd_T60 l0 (ji5)).f0) - ((rd_T60 l0 x9_1).f0))),(ji5),(by first|rfl|(simp;done)|(simp [*];done)),(by first|rfl|(simp;done)|(simp [*];done)),(by first|rfl|(simp;done)|(simp only [← hji5] <;> (first|rfl|simp))|(simp [*];done)),(by first|rfl|(simp;done)|(simp only [← hji5] <;> (first|rfl|simp))|(simp [*];done)),H',⟨by have:=HK1.out;omega⟩,by repeat (first|exact Drawn0.refl _|apply Drawn0.step)⟩
        ·rw [if_neg c10] at H
         have c10b0:decide ((wrap64 (x7_1 * (wrap64 (((rd_T60 l0 (ji5)).f0) - ((rd_T60 l0 x9_1).f0))))) < (wrap64 (t314 * x8_1))) = false:=decide_eq_false c10
         clear c10;have H':=zM H;clear H;have p312:0 ≤ ((ji5):Int):=of_decide_eq_true (by first|(with_reducible assumption)|assumption)
         have q312:(ji5) < (l0.length:Int):=of_decide_eq_true (by first|(with_reducible assumption)|assumption)
         obtain ⟨ad312,e312,hx312_0,hx312_1⟩:=at_T60 HR0.out (ji5) p312 q312;cases e312
         replace p312:=eq_true p312;replace q312:=eq_true q312;have p313:0 ≤ (x9_1:Int):=of_decide_eq_true (by first|(with_reducible assumption)|assumption)
         have q313:x9_1 < (l0.length:Int):=of_decide_eq_true (by first|(with_reducible assumption)|assumption)
         obtain ⟨ad313,e313,hx313_0,hx313_1⟩:=at_T60 HR0.out x9_1 p313 q313;obtain rfl:ad312 = ad313:=(by injection e313)
         replace p313:=eq_true p313;replace q313:=eq_true q313;go_wp2_with (first|(go_at_call 64;(with_reducible refine (spec_l1Most.calls (wrap64 (((rd_T60 l0 (ji5)).f1) - ((rd_T60 l0 x9_1).f1))) (wrap64 (-(wrap64 (((rd_T60 l0 (ji5)).f1) - ((rd_T60 l0 x9_1).f1))))) t314 _ A9.out).mono ?_);rintro e w' ⟨rfl,⟨nd,rfl⟩⟩;(try first|exact ⟨rfl,_,World.drewN_drewN _ _ _⟩|exact ⟨rfl,_,zW _ _ _ _⟩);have p315:0 ≤ ((ji5):Int):=of_decide_eq_true (by first|(with_reducible assumption)|assumption);have q315:(ji5) < (l0.length:Int):=of_decide_eq_true (by first|(with_reducible assumption)|assumption);obtain ⟨ad315,e315,hx315_0,hx315_1⟩:=at_T60 HR0.out (ji5) p315 q315;obtain rfl:ad312 = ad315:=(by injection e315);replace p315:=eq_true p315;replace q315:=eq_true q315;have p316:0 ≤ (x9_1:Int):=of_decide_eq_true (by first|(with_reducible assumption)|assumption);have q316:x9_1 < (l0.length:Int):=of_decide_eq_true (by first|(with_reducible assumption)|assumption);obtain ⟨ad316,e316,hx316_0,hx316_1⟩:=at_T60 HR0.out x9_1 p316 q316;obtain rfl:ad312 = ad316:=(by injection e316);replace p316:=eq_true p316;replace q316:=eq_true q316))
         repeat (go_quiet (first|(go_at_call 64;(with_reducible refine (spec_l1Most.calls (wrap64 (((rd_T60 l0 (ji5)).f1) - ((rd_T60 l0 x9_1).f1))) (wrap64 (-(wrap64 (((rd_T60 l0 (ji5)).f1) - ((rd_T60 l0 x9_1).f1))))) t314 _ A9.out).mono ?_);rintro e w' ⟨rfl,⟨nd,rfl⟩⟩;(try first|exact ⟨rfl,_,World.drewN_drewN _ _ _⟩|exact ⟨rfl,_,zW _ _ _ _⟩);have p315:0 ≤ ((ji5):Int):=of_decide_eq_true (by first|(with_reducible assumption)|assumption);have q315:(ji5) < (l0.length:Int):=of_decide_eq_true (by first|(with_reducible assumption)|assumption);obtain ⟨ad315,e315,hx315_0,hx315_1⟩:=at_T60 HR0.out (ji5) p315 q315;obtain rfl:ad312 = ad315:=(by injection e315);replace p315:=eq_true p315;replace q315:=eq_true q315;have p316:0 ≤ (x9_1:Int):=of_decide_eq_true (by first|(with_reducible assumption)|assumption);have q316:x9_1 < (l0.length:Int):=of_decide_eq_true (by first|(with_reducible assumption)|assumption);obtain ⟨ad316,e316,hx316_0,hx316_1⟩:=at_T60 HR0.out x9_1 p316 q316;obtain rfl:ad312 = ad316:=(by injection e316);replace p316:=eq_true p316;replace q316:=eq_true q316));try go_wp2_with (first|(go_at_call 64;(with_reducible refine (spec_l1Most.calls (wrap64 (((rd_T60 l0 (ji5)).f1) - ((rd_T60 l0 x9_1).f1))) (wrap64 (-(wrap64 (((rd_T60 l0 (ji5)).f1) - ((rd_T60 l0 x9_1).f1))))) t314 _ A9.out).mono ?_);rintro e w' ⟨rfl,⟨nd,rfl⟩⟩;(try first|exact ⟨rfl,_,World.drewN_drewN _ _ _⟩|exact ⟨rfl,_,zW _ _ _ _⟩);have p315:0 ≤ ((ji5):Int):=of_decide_eq_true (by first|(with_reducible assumption)|assumption);have q315:(ji5) < (l0.length:Int):=of_decide_eq_true (by first|(with_reducible assumption)|assumption);obtain ⟨ad315,e315,hx315_0,hx315_1⟩:=at_T60 HR0.out (ji5) p315 q315;obtain rfl:ad312 = ad315:=(by injection e315);replace p315:=eq_true p315;replace q315:=eq_true q315;have p316:0 ≤ (x9_1:Int):=of_decide_eq_true (by first|(with_reducible assumption)|assumption);have q316:x9_1 < (l0.length:Int):=of_decide_eq_true (by first|(with_reducible assumption)|assumption);obtain ⟨ad316,e316,hx316_0,hx316_1⟩:=at_T60 HR0.out x9_1 p316 q316;obtain rfl:ad312 = ad316:=(by injection e316);replace p316:=eq_true p316;replace q316:=eq_true q316)))
         go_roundg k1
         case measure=>have:=HK1.out;omega
         case rel=>exact ⟨(x6_1),(x7_1),(x8_1),(ji5),(by first|rfl|(simp;done)|(simp [*];done)),(by first|rfl|(simp;done)|(simp [*];done)),(by first|rfl|(simp;done)|(simp [*];done)),(by first|rfl|(simp;done)|(simp only [← hji5] <;> (first|rfl|simp))|(simp [*];done)),H',⟨by have:=HK1.out;omega⟩,by repeat (first|exact Drawn0.refl _|apply Drawn0.step)⟩
       ·rw [if_neg c8] at H
        exact absurd H (by simp)
      ·rw [if_neg c7] at H
       exact absurd H (by simp)
     ·rw [if_neg c6] at H
      exact absurd H (by simp)
    ·rw [if_neg c4] at H
     have c4b0:decide ((wrap64 (x9_1 + 1)) < (l0.length:Int)) = false:=decide_eq_false c4
     clear c4;replace H:=Option.bind_eq_some_iff.mp H;obtain ⟨⟨t317,t318⟩,A110,H⟩:=H;replace H:(some (t317,t318,x6_1,true)) = some (r1,r2,r3,r4):=H
     have A11:=zM A110;clear A110;simp only [Option.some.injEq,Prod.mk.injEq] at H
     obtain ⟨rfl,rfl,rfl,rfl⟩:=H;go_wp2_with (first|(go_at_call 57;(with_reducible refine (spec_l15Reduce.calls k1 x7_1 x8_1 t317 t318 _ A11.out).mono ?_);rintro e w' ⟨rfl,⟨nd,rfl⟩⟩;(try first|exact ⟨rfl,_,World.drewN_drewN _ _ _⟩|exact ⟨rfl,_,zW _ _ _ _⟩)))
     repeat (go_quiet (first|(go_at_call 57;(with_reducible refine (spec_l15Reduce.calls k1 x7_1 x8_1 t317 t318 _ A11.out).mono ?_);rintro e w' ⟨rfl,⟨nd,rfl⟩⟩;(try first|exact ⟨rfl,_,World.drewN_drewN _ _ _⟩|exact ⟨rfl,_,zW _ _ _ _⟩)));try go_wp2_with (first|(go_at_call 57;(with_reducible refine (spec_l15Reduce.calls k1 x7_1 x8_1 t317 t318 _ A11.out).mono ?_);rintro e w' ⟨rfl,⟨nd,rfl⟩⟩;(try first|exact ⟨rfl,_,World.drewN_drewN _ _ _⟩|exact ⟨rfl,_,zW _ _ _ _⟩))))
     refine bodyPost_ret (results_list (rs:=[.tmp 2,.tmp 3,.tmp 4,.tmp 5]) rfl (by simp) (.tmp (.tmp (.tmp (.tmp .nil))))) rfl ?_
     exact ⟨by first|rfl|(simp;done)|(simp [*];done),by repeat (first|exact Drawn0.refl _|apply Drawn0.step)⟩
 ·replace c3:=Bool.eq_false_iff.mpr c3
  subst c3;have H1:(some (0,0,0,false)) = some (r1,r2,r3,r4):=by rw [if_neg (show ¬ (false = true) by decide)] at H;exact H
  clear H;have H:=H1;clear H1;simp only [Option.some.injEq,Prod.mk.injEq] at H
  obtain ⟨rfl,rfl,rfl,rfl⟩:=H;go_enter Try.func27,Try.ntmps27
  go_wp2_with (first|(go_at_call 52;(with_reducible refine (spec_l15Good.calls k _ _ l0 false _ ?side1 ?side2 A2.out).mono ?_);(case side1=>repeat (first|exact HR0.out|(with_reducible first|refine zG ?_ _|refine zH ?_ _|refine zI ?_)));(case side2=>exact HC0.out);rintro e w' ⟨rfl,⟨nd,rfl⟩⟩;(try first|exact ⟨rfl,_,World.drewN_drewN _ _ _⟩|exact ⟨rfl,_,zW _ _ _ _⟩)))
  repeat (go_quiet (first|(go_at_call 52;(with_reducible refine (spec_l15Good.calls k _ _ l0 false _ ?side1 ?side2 A2.out).mono ?_);(case side1=>repeat (first|exact HR0.out|(with_reducible first|refine zG ?_ _|refine zH ?_ _|refine zI ?_)));(case side2=>exact HC0.out);rintro e w' ⟨rfl,⟨nd,rfl⟩⟩;(try first|exact ⟨rfl,_,World.drewN_drewN _ _ _⟩|exact ⟨rfl,_,zW _ _ _ _⟩)));try go_wp2_with (first|(go_at_call 52;(with_reducible refine (spec_l15Good.calls k _ _ l0 false _ ?side1 ?side2 A2.out).mono ?_);(case side1=>repeat (first|exact HR0.out|(with_reducible first|refine zG ?_ _|refine zH ?_ _|refine zI ?_)));(case side2=>exact HC0.out);rintro e w' ⟨rfl,⟨nd,rfl⟩⟩;(try first|exact ⟨rfl,_,World.drewN_drewN _ _ _⟩|exact ⟨rfl,_,zW _ _ _ _⟩))))
  refine bodyPost_ret (results_list (rs:=[.tmp 2,.tmp 3,.tmp 4,.tmp 5]) rfl (by simp) (.tmp (.tmp (.tmp (.tmp .nil))))) rfl ?_
  exact ⟨by first|rfl|(simp;done)|(simp [*];done),by repeat (first|exact Drawn0.refl _|apply Drawn0.step)⟩

/-! ### impl_size: function 65 -/
def impl_size.f (a0:Int):Option (Int):=some (mx a0 (wrap64 (-a0)))
set_option maxHeartbeats 8000000 in
set_option maxRecDepth 100000 in
theorem impl_size.calls (a0:Int) (r:Int) (w:World) (h:impl_size.f a0 = some r) :
  Calls Try.prog 65 #[.int .i64 a0] w fun e w'=>e = .returned (.int .i64 r) ∧ Below w.heap.size w w':=by
 have HB:=zM (Below.refl w.heap.size w);have H:(some (mx a0 (wrap64 (-a0)))) = some r:=h
 clear h;obtain ⟨ji2,hji2⟩ : ∃ j_:Int,(mx a0 (wrap64 (-a0))) = j_:=⟨_,rfl⟩
 replace H:(some ji2) = some r:=by first|(rw [hji2] at H;exact H)|(simp only [hji2] at H ⊢;exact H)
 have hji2_:(if a0 < (wrap64 (-a0)) then (wrap64 (-a0)) else a0) = ji2:=hji2
 obtain rfl:=Option.some.inj H;go_enter Try.func65,Try.ntmps65
 go_wp2
 go_ret
 exact ⟨by first|rfl|(simp [errW_none,errW_some] <;> rfl)|(simp only [← hji2];first|rfl|(simp [errW_none,errW_some] <;> rfl))|(simp [*,errW_none,errW_some] <;> rfl),by repeat (first|(with_reducible first|exact HB.out|apply zD|apply zE|apply zF)|exact HB.out)⟩



/-! ### impl_SteepestChange: function 28 -/
def impl_SteepestChange.l0:Nat → List (S60) → Int → Int → Int → Int → Option (Int × Int × Int × Bool)
 | 0,_,_,_,_,_=>none
 | k + 1,x0,x6,x7,x8,x9=>if x9 < (x0.length:Int) then (if 0 ≤ x9 then (if 0 ≤ (wrap64 (x9 - 1)) then (if (wrap64 (x9 - 1)) < (x0.length:Int) then ((impl_size.f (wrap64 (((rd_T60 x0 x9).f1) - ((rd_T60 x0 (wrap64 (x9 - 1))).f1)))).bind fun t322=>(if (wrap64 (t322 * x7)) > (wrap64 (x6 * (wrap64 (((rd_T60 x0 x9).f0) - ((rd_T60 x0 (wrap64 (x9 - 1))).f0))))) then (impl_SteepestChange.l0 k x0 t322 (wrap64 (((rd_T60 x0 x9).f0) - ((rd_T60 x0 (wrap64 (x9 - 1))).f0))) (wrap64 (x9 - 1)) (wrap64 (x9 + 1))) else (impl_SteepestChange.l0 k x0 x6 x7 x8 (wrap64 (x9 + 1))))) else (none)) else (none)) else (none)) else ((impl_fraction.f k x6 x7).bind fun bt325=>(some (bt325.1,bt325.2,x8,true)))
def impl_SteepestChange.f (k:Nat) (l0:List (S60)):Option (Int × Int × Int × Bool):=(impl_IsValidTides.f k l0).bind fun t319=>(if t319 = true then (impl_SteepestChange.l0 k l0 0 1 0 1) else (some (0,0,0,false)))
def impl_SteepestChange.T7:Bool × List (List Nat × List Nat):=(true,[([],[]),([],[]),([0,1],[0,1]),([2],[2]),([3],[3]),([],[]),([],[]),([6],[6]),([5,7],[5,7]),([8],[8]),([9],[9]),([4,10],[4,10]),([11],[11]),([],[]),([],[]),([13,14],[13,14]),([15],[15]),([16],[16]),([],[]),([],[]),([19],[19]),([18,20],[18,20]),([21],[21]),([22],[22]),([17,23],[17,23]),([12,12,0,1,2,3,4,5,6,7,8,9,10,11,12],[12]),([24,25,0,1,2,3,4,5,6,7,8,9,10,11,12,13,14,15,16,17,18,19,20,21,22,23,24,25],[24])])
def impl_SteepestChange.B7:List Nat:=[0,0,3,7,15,0,0,64,224,480,992,2047,4095,0,0,24576,57344,122880,0,0,524288,1835008,3932160,8126464,16769024,8191,67108863]
theorem impl_SteepestChange.tab7:rtab .any (opsOf Try.f28 7) = impl_SteepestChange.T7:=by kernel_rfl
theorem impl_SteepestChange.bits7:waitsOk impl_SteepestChange.T7.2 impl_SteepestChange.B7 = true:=by kernel_rfl
set_option maxHeartbeats 8000000 in
set_option maxRecDepth 100000 in
theorem impl_SteepestChange.calls (k:Nat) (A0:Option Addr) (c0:Nat) (l0:List (S60)) (r1:Int) (r2:Int) (r3:Int) (r4:Bool) (w:World) (hr0:Kd.C k60 w A0 l0.length l0) (hc0:l0.length ≤ c0) (h:impl_SteepestChange.f k l0 = some (r1,r2,r3,r4)) :
  Calls Try.prog 28 #[.slice A0 l0.length c0] w fun e w'=>e = .returned (.tuple #[.int .i64 r1,.int .i64 r2,.int .i64 r3,.bool r4]) ∧ Below w.heap.size w w':=by
 have HR0:=zM hr0;have HC0:=zM hc0;clear hr0 hc0;have HB:=zM (Below.refl w.heap.size w);have H:((impl_IsValidTides.f k l0).bind fun t319=>(if t319 = true then (impl_SteepestChange.l0 k l0 0 1 0 1) else (some (0,0,0,false)))) = some (r1,r2,r3,r4):=h
 clear h;replace H:=Option.bind_eq_some_iff.mp H;obtain ⟨t319,A20,H⟩:=H;replace H:(if t319 = true then (impl_SteepestChange.l0 k l0 0 1 0 1) else (some (0,0,0,false))) = some (r1,r2,r3,r4):=H
 have A2:=zM A20;clear A20;by_cases c3:t319 = true
 ·subst c3
  have H1:(impl_SteepestChange.l0 k l0 0 1 0 1) = some (r1,r2,r3,r4):=by rw [if_pos rfl] at H;exact H
  clear H;have H:=H1;clear H1;have H':=zM H;clear H;go_enter Try.func28,Try.ntmps28
  go_wp2_with (first|((with_reducible refine gate_callee (f:=17) rfl ?_);refine goesL_ (some 13) rfl rfl Try.func17 (by kernel_rfl) rfl #[.slice A0 l0.length c0] rfl (by (try simp only [List.map_toArray,List.map_cons,List.map_nil]);first|done|rfl|(simp only [List.length_drop,List.length_take];rfl)) ?_;(with_reducible refine (impl_IsValidTides.calls k _ _ l0 true _ ?side1 ?side2 A2.out).mono ?_);(case side1=>repeat (first|exact HR0.out|(with_reducible first|refine zG ?_ _|refine zH ?_ _|refine zI ?_)));(case side2=>exact HC0.out);rintro e w4 ⟨rfl,hb⟩;refine ⟨_,rfl,?_⟩;have n0_:=zM (zQ (by repeat (first|(with_reducible first|exact HB.out|apply zD|apply zE|apply zF)|exact HB.out)) hb);clear HB;have HB:=n0_;clear n0_;(try clear hb);(try clear hb2);(try clear hk);(try clear hi)))
  go_loopg [6,7,8,9] k (fun kq v6 v7 v8 v9 w' => ∃ (x6_1:Int) (x7_1:Int) (x8_1:Int) (x9_1:Int),v6 = .int .i64 x6_1 ∧ v7 = .int .i64 x7_1 ∧ v8 = .int .i64 x8_1 ∧ v9 = .int .i64 x9_1 ∧ Aside0 (impl_SteepestChange.l0 kq l0 x6_1 x7_1 x8_1 x9_1 = some (r1,r2,r3,r4)) ∧ Aside0 (kq ≤ k) ∧ Aside0 (Below w.heap.size w w'))
  case atStart=>exact ⟨(0),(1),(0),(1),(by first|rfl|(simp;done)|(simp [*];done)),(by first|rfl|(simp;done)|(simp [*];done)),(by first|rfl|(simp;done)|(simp [*];done)),(by first|rfl|(simp;done)|(simp [*];done)),H',⟨Nat.le_refl _⟩,⟨by repeat (first|(with_reducible first|exact HB.out|apply zD|apply zE|apply zF)|exact HB.out)⟩⟩
  case round =>
   clear H';(try clear c1);(try clear c2);(try clear p2);(try clear c3);obtain ⟨x6_1,x7_1,x8_1,x9_1,rfl,rfl,rfl,rfl,HA,HK1,HB⟩:=hrel;cases gk with
   | zero=>exact absurd HA.out (by simp [impl_SteepestChange.l0])
   | succ k1 =>
    have H:=HA.out;clear HA;simp only [impl_SteepestChange.l0] at H
    by_cases c5:x9_1 < (l0.length:Int)
    ·rw [if_pos c5] at H
     have c5b0:decide (x9_1 < (l0.length:Int)) = true:=decide_eq_true c5
     clear c5;by_cases c6:0 ≤ x9_1
     ·rw [if_pos c6] at H
      have c6b0:decide (0 ≤ x9_1) = true:=decide_eq_true c6
      clear c6;obtain ⟨ji7,hji7⟩ : ∃ j_:Int,(wrap64 (x9_1 - 1)) = j_:=⟨_,rfl⟩
      replace H:(if 0 ≤ (ji7) then (if (ji7) < (l0.length:Int) then ((impl_size.f (wrap64 (((rd_T60 l0 x9_1).f1) - ((rd_T60 l0 (ji7)).f1)))).bind fun t322=>(if (wrap64 (t322 * x7_1)) > (wrap64 (x6_1 * (wrap64 (((rd_T60 l0 x9_1).f0) - ((rd_T60 l0 (ji7)).f0))))) then (impl_SteepestChange.l0 k1 l0 t322 (wrap64 (((rd_T60 l0 x9_1).f0) - ((rd_T60 l0 (ji7)).f0))) ji7 (wrap64 (x9_1 + 1))) else (impl_SteepestChange.l0 k1 l0 x6_1 x7_1 x8_1 (wrap64 (x9_1 + 1))))) else (none)) else (none)) = some (r1,r2,r3,r4):=by first|(rw [hji7] at H;exact H)|(simp only [hji7] at H ⊢;exact H)
      have hji7w:(IntKind.i64.wrap (x9_1 - 1)) = ji7:=(i64_w _).trans hji7
      by_cases c8:0 ≤ (ji7)
      ·rw [if_pos c8] at H
       have c8b0:decide (0 ≤ (ji7)) = true:=decide_eq_true c8
       clear c8;by_cases c9:(ji7) < (l0.length:Int)
       ·rw [if_pos c9] at H
        have c9b0:decide ((ji7) < (l0.length:Int)) = true:=decide_eq_true c9
        clear c9;replace H:=Option.bind_eq_some_iff.mp H;obtain ⟨t322,A100,H⟩:=H;replace H:(if (wrap64 (t322 * x7_1)) > (wrap64 (x6_1 * (wrap64 (((rd_T60 l0 x9_1).f0) - ((rd_T60 l0 (ji7)).f0))))) then (impl_SteepestChange.l0 k1 l0 t322 (wrap64 (((rd_T60 l0 x9_1).f0) - ((rd_T60 l0 (ji7)).f0))) ji7 (wrap64 (x9_1 + 1))) else (impl_SteepestChange.l0 k1 l0 x6_1 x7_1 x8_1 (wrap64 (x9_1 + 1)))) = some (r1,r2,r3,r4):=H
        have A10:=zM A100;clear A100;by_cases c11:(wrap64 (t322 * x7_1)) > (wrap64 (x6_1 * (wrap64 (((rd_T60 l0 x9_1).f0) - ((rd_T60 l0 (ji7)).f0)))))
        ·rw [if_pos c11] at H
         have c11b0:decide ((wrap64 (x6_1 * (wrap64 (((rd_T60 l0 x9_1).f0) - ((rd_T60 l0 (ji7)).f0))))) < (wrap64 (t322 * x7_1))) = true:=decide_eq_true c11
         clear c11;have H':=zM H;clear H;try go_wp2
         have n0_:=zM (zF HB.out);clear HB;have HB:=n0_;clear n0_;have p320:0 ≤ (x9_1:Int):=of_decide_eq_true (by first|(with_reducible assumption)|assumption)
         have q320:x9_1 < (l0.length:Int):=of_decide_eq_true (by first|(with_reducible assumption)|assumption)
         obtain ⟨ad320,e320,hx320_0,hx320_1⟩:=at_T60 HR0.out x9_1 p320 q320;have hw320_1:=hx320_1;have hw320_0:=hx320_0;cases e320
         replace hx320_0:=zS HB.out hx320_0;replace hx320_1:=zS HB.out hx320_1;replace p320:=eq_true p320;replace q320:=eq_true q320;have p321:0 ≤ ((ji7):Int):=of_decide_eq_true (by first|(with_reducible assumption)|assumption)
         have q321:(ji7) < (l0.length:Int):=of_decide_eq_true (by first|(with_reducible assumption)|assumption)
         obtain ⟨ad321,e321,hx321_0,hx321_1⟩:=at_T60 HR0.out (ji7) p321 q321;have hw321_1:=hx321_1;have hw321_0:=hx321_0;obtain rfl:ad320 = ad321:=(by injection e321)
         replace hx321_0:=zS HB.out hx321_0;replace hx321_1:=zS HB.out hx321_1;replace p321:=eq_true p321;replace q321:=eq_true q321;have p323:0 ≤ (x9_1:Int):=of_decide_eq_true (by first|(with_reducible assumption)|assumption)
         have q323:x9_1 < (l0.length:Int):=of_decide_eq_true (by first|(with_reducible assumption)|assumption)
         obtain ⟨ad323,e323,hx323_0,hx323_1⟩:=at_T60 HR0.out x9_1 p323 q323;have hw323_1:=hx323_1;have hw323_0:=hx323_0;obtain rfl:ad320 = ad323:=(by injection e323)
         replace hx323_0:=zS HB.out hx323_0;replace hx323_1:=zS HB.out hx323_1;replace p323:=eq_true p323;replace q323:=eq_true q323;have p324:0 ≤ ((ji7):Int):=of_decide_eq_true (by first|(with_reducible assumption)|assumption)
         have q324:(ji7) < (l0.length:Int):=of_decide_eq_true (by first|(with_reducible assumption)|assumption)
         obtain ⟨ad324,e324,hx324_0,hx324_1⟩:=at_T60 HR0.out (ji7) p324 q324;have hw324_1:=hx324_1;have hw324_0:=hx324_0;obtain rfl:ad320 = ad324:=(by injection e324)
         replace hx324_0:=zS HB.out hx324_0;replace hx324_1:=zS HB.out hx324_1;replace p324:=eq_true p324;replace q324:=eq_true q324;refine start_ (n:=27) (S:=fun w'=>w'.cell? (ad320.add ((x9_1).toNat * 2)) = some (.int .i64 ((rd_T60 l0 x9_1).f0)) ∧ w'.cell? ⟨(ad320.add ((x9_1).toNat * 2)).block,(ad320.add ((x9_1).toNat * 2)).off + 1,none⟩ = some (.int .i64 ((rd_T60 l0 x9_1).f1)) ∧ w'.cell? (ad320.add (((ji7)).toNat * 2)) = some (.int .i64 ((rd_T60 l0 (ji7)).f0)) ∧ w'.cell? ⟨(ad320.add (((ji7)).toNat * 2)).block,(ad320.add (((ji7)).toNat * 2)).off + 1,none⟩ = some (.int .i64 ((rd_T60 l0 (ji7)).f1)) ∧ w'.cell? (ad320.add ((x9_1).toNat * 2)) = some (.int .i64 ((rd_T60 l0 x9_1).f0)) ∧ w'.cell? ⟨(ad320.add ((x9_1).toNat * 2)).block,(ad320.add ((x9_1).toNat * 2)).off + 1,none⟩ = some (.int .i64 ((rd_T60 l0 x9_1).f1)) ∧ w'.cell? (ad320.add (((ji7)).toNat * 2)) = some (.int .i64 ((rd_T60 l0 (ji7)).f0)) ∧ w'.cell? ⟨(ad320.add (((ji7)).toNat * 2)).block,(ad320.add (((ji7)).toNat * 2)).off + 1,none⟩ = some (.int .i64 ((rd_T60 l0 (ji7)).f1))) (ds:=[]) #[false,false,false,false,false,false,false,false,false,false,false,false,false,false,false,false,false,false,false,false,false,false,false,false,false,false,false] (by kernel_rfl) rfl rfl ⟨(zS HB.out hw320_0),(zS HB.out hw320_1),(zS HB.out hw321_0),(zS HB.out hw321_1),(zS HB.out hw323_0),(zS HB.out hw323_1),(zS HB.out hw324_0),(zS HB.out hw324_1)⟩ (fun hHeld=>?_);refine with_tabW impl_SteepestChange.tab7 impl_SteepestChange.bits7 (fun HT_ HW_=>?_)
         generalize wr.drew = w12 at HB hx320_0 hx320_1 hx321_0 hx321_1 hx323_0 hx323_1 hx324_0 hx324_1 hHeld ⊢
         refine pure_ (i:=0) (N:=some 21) (v:=?_) (a':=?_) #[true,false,false,false,false,false,false,false,false,false,false,false,false,false,false,false,false,false,false,false,false,false,false,false,false,false,false] rfl rfl (any_of HT_.out (by kernel_rfl)) (fun _ _ _ h=>h) (Or.inl ⟨by rfl,?_⟩) ?_ ?_
         rotate_left
         ·intro w'
          go_simp
          with_reducible rfl
         rotate_left
         ·simp only [Act.put,zT,zU,zV,i64_w,i32_w]
          rfl
         refine pure_ (i:=1) (N:=some 22) (v:=?_) (a':=?_) #[true,true,false,false,false,false,false,false,false,false,false,false,false,false,false,false,false,false,false,false,false,false,false,false,false,false,false] rfl rfl (any_of HT_.out (by kernel_rfl)) (fun _ _ _ h=>h) (Or.inl ⟨by rfl,?_⟩) ?_ ?_
         rotate_left
         ·intro w'
          go_simp
          with_reducible rfl
         rotate_left
         ·simp only [Act.put,zT,zU,zV,i64_w,i32_w]
          rfl
         refine pure_ (i:=2) (N:=some 23) (v:=?_) (a':=?_) #[true,true,true,false,false,false,false,false,false,false,false,false,false,false,false,false,false,false,false,false,false,false,false,false,false,false,false] rfl rfl (any_of HT_.out (by kernel_rfl)) (fun _ _ _ h=>h) (Or.inl ⟨by rfl,?_⟩) ?_ ?_
         rotate_left
         ·intro w'
          go_simp
          with_reducible rfl
         rotate_left
         ·simp only [Act.put,zT,zU,zV,i64_w,i32_w]
          rfl
         refine pure_ (i:=3) (N:=some 24) (v:=?_) (a':=?_) #[true,true,true,true,false,false,false,false,false,false,false,false,false,false,false,false,false,false,false,false,false,false,false,false,false,false,false] rfl rfl (any_of HT_.out (by kernel_rfl)) (fun _ _ _ h=>h) (Or.inl ⟨by rfl,?_⟩) ?_ ?_
         rotate_left
         ·intro w'
          go_simp
          with_reducible rfl
         rotate_left
         ·simp only [Act.put,zT,zU,zV,i64_w,i32_w]
          rfl
         refine pure_ (i:=5) (N:=some 26) (v:=?_) (a':=?_) #[true,true,true,true,false,true,false,false,false,false,false,false,false,false,false,false,false,false,false,false,false,false,false,false,false,false,false] rfl rfl (any_of HT_.out (by kernel_rfl)) (fun _ _ _ h=>h) (Or.inl ⟨by rfl,?_⟩) ?_ ?_
         rotate_left
         ·intro w'
          go_simp
          with_reducible rfl
         rotate_left
         ·simp only [Act.put,zT,zU,zV,i64_w,i32_w]
          rfl
         refine pure_ (i:=6) (N:=some 27) (v:=?_) (a':=?_) #[true,true,true,true,false,true,true,false,false,false,false,false,false,false,false,false,false,false,false,false,false,false,false,false,false,false,false] rfl rfl (any_of HT_.out (by kernel_rfl)) (fun _ _ _ h=>h) (Or.inl ⟨by rfl,?_⟩) ?_ ?_
         rotate_left
         ·intro w'
          go_simp
          with_reducible rfl
         rotate_left
         ·simp only [Act.put,zT,zU,zV,i64_w,i32_w]
          rfl
         refine pure_ (i:=7) (N:=some 28) (v:=?_) (a':=?_) #[true,true,true,true,false,true,true,true,false,false,false,false,false,false,false,false,false,false,false,false,false,false,false,false,false,false,false] rfl rfl (any_of HT_.out (by kernel_rfl)) (fun _ _ _ h=>h) (Or.inl ⟨by rfl,?_⟩) ?_ ?_
         rotate_left
         ·intro w'
          go_simp
          with_reducible rfl
         rotate_left
         ·simp only [Act.put,zT,zU,zV,i64_w,i32_w]
          rfl
         refine pure_ (i:=8) (N:=some 29) (v:=?_) (a':=?_) #[true,true,true,true,false,true,true,true,true,false,false,false,false,false,false,false,false,false,false,false,false,false,false,false,false,false,false] rfl rfl (any_of HT_.out (by kernel_rfl)) (fun _ _ _ h=>h) (Or.inl ⟨by rfl,?_⟩) ?_ ?_
         rotate_left
         ·intro w'
          go_simp
          with_reducible rfl
         rotate_left
         ·simp only [Act.put,zT,zU,zV,i64_w,i32_w]
          rfl
         refine pure_ (i:=9) (N:=some 30) (v:=?_) (a':=?_) #[true,true,true,true,false,true,true,true,true,true,false,false,false,false,false,false,false,false,false,false,false,false,false,false,false,false,false] rfl rfl (any_of HT_.out (by kernel_rfl)) (fun _ _ _ h=>h) (Or.inl ⟨by rfl,?_⟩) ?_ ?_
         rotate_left
         ·intro w'
          go_simp
          with_reducible rfl
         rotate_left
         ·simp only [Act.put,zT,zU,zV,i64_w,i32_w]
          rfl
         refine pure_ (i:=13) (N:=some 34) (v:=?_) (a':=?_) #[true,true,true,true,false,true,true,true,true,true,false,false,false,true,false,false,false,false,false,false,false,false,false,false,false,false,false] rfl rfl (any_of HT_.out (by kernel_rfl)) (fun _ _ _ h=>h) (Or.inl ⟨by rfl,?_⟩) ?_ ?_
         rotate_left
         ·intro w'
          go_simp
          with_reducible rfl
         rotate_left
         ·simp only [Act.put,zT,zU,zV,i64_w,i32_w]
          rfl
         refine pure_ (i:=14) (N:=some 35) (v:=?_) (a':=?_) #[true,true,true,true,false,true,true,true,true,true,false,false,false,true,true,false,false,false,false,false,false,false,false,false,false,false,false] rfl rfl (any_of HT_.out (by kernel_rfl)) (fun _ _ _ h=>h) (Or.inl ⟨by rfl,?_⟩) ?_ ?_
         rotate_left
         ·intro w'
          go_simp
          with_reducible rfl
         rotate_left
         ·simp only [Act.put,zT,zU,zV,i64_w,i32_w]
          rfl
         refine pure_ (i:=15) (N:=some 36) (v:=?_) (a':=?_) #[true,true,true,true,false,true,true,true,true,true,false,false,false,true,true,true,false,false,false,false,false,false,false,false,false,false,false] rfl rfl (any_of HT_.out (by kernel_rfl)) (fun _ _ _ h=>h) (Or.inl ⟨by rfl,?_⟩) ?_ ?_
         rotate_left
         ·intro w'
          go_simp
          with_reducible rfl
         rotate_left
         ·simp only [Act.put,zT,zU,zV,i64_w,i32_w]
          rfl
         refine pure_ (i:=16) (N:=some 37) (v:=?_) (a':=?_) #[true,true,true,true,false,true,true,true,true,true,false,false,false,true,true,true,true,false,false,false,false,false,false,false,false,false,false] rfl rfl (any_of HT_.out (by kernel_rfl)) (fun _ _ _ h=>h) (Or.inl ⟨by rfl,?_⟩) ?_ ?_
         rotate_left
         ·intro w'
          go_simp
          with_reducible rfl
         rotate_left
         ·simp only [Act.put,zT,zU,zV,i64_w,i32_w]
          rfl
         refine pure_ (i:=18) (N:=some 39) (v:=?_) (a':=?_) #[true,true,true,true,false,true,true,true,true,true,false,false,false,true,true,true,true,false,true,false,false,false,false,false,false,false,false] rfl rfl (any_of HT_.out (by kernel_rfl)) (fun _ _ _ h=>h) (Or.inl ⟨by rfl,?_⟩) ?_ ?_
         rotate_left
         ·intro w'
          go_simp
          with_reducible rfl
         rotate_left
         ·simp only [Act.put,zT,zU,zV,i64_w,i32_w]
          rfl
         refine pure_ (i:=19) (N:=some 40) (v:=?_) (a':=?_) #[true,true,true,true,false,true,true,true,true,true,false,false,false,true,true,true,true,false,true,true,false,false,false,false,false,false,false] rfl rfl (any_of HT_.out (by kernel_rfl)) (fun _ _ _ h=>h) (Or.inl ⟨by rfl,?_⟩) ?_ ?_
         rotate_left
         ·intro w'
          go_simp
          with_reducible rfl
         rotate_left
         ·simp only [Act.put,zT,zU,zV,i64_w,i32_w]
          rfl
         refine pure_ (i:=20) (N:=some 41) (v:=?_) (a':=?_) #[true,true,true,true,false,true,true,true,true,true,false,false,false,true,true,true,true,false,true,true,true,false,false,false,false,false,false] rfl rfl (any_of HT_.out (by kernel_rfl)) (fun _ _ _ h=>h) (Or.inl ⟨by rfl,?_⟩) ?_ ?_
         rotate_left
         ·intro w'
          go_simp
          with_reducible rfl
         rotate_left
         ·simp only [Act.put,zT,zU,zV,i64_w,i32_w]
          rfl
         refine pure_ (i:=21) (N:=some 42) (v:=?_) (a':=?_) #[true,true,true,true,false,true,true,true,true,true,false,false,false,true,true,true,true,false,true,true,true,true,false,false,false,false,false] rfl rfl (any_of HT_.out (by kernel_rfl)) (fun _ _ _ h=>h) (Or.inl ⟨by rfl,?_⟩) ?_ ?_
         rotate_left
         ·intro w'
          go_simp
          with_reducible rfl
         rotate_left
         ·simp only [Act.put,zT,zU,zV,i64_w,i32_w]
          rfl
         refine pure_ (i:=22) (N:=some 43) (v:=?_) (a':=?_) #[true,true,true,true,false,true,true,true,true,true,false,false,false,true,true,true,true,false,true,true,true,true,true,false,false,false,false] rfl rfl (any_of HT_.out (by kernel_rfl)) (fun _ _ _ h=>h) (Or.inl ⟨by rfl,?_⟩) ?_ ?_
         rotate_left
         ·intro w'
          go_simp
          with_reducible rfl
         rotate_left
         ·simp only [Act.put,zT,zU,zV,i64_w,i32_w]
          rfl
         refine take_ (i:=4) (N:=some 25) (v:=?_) (a':=?_) #[true,true,true,true,true,true,true,true,true,true,false,false,false,true,true,true,true,false,true,true,true,true,true,false,false,false,false] rfl rfl (take_ofW HT_.out HW_.out (by kernel_rfl)) (fun _ _ _ h=>h) (Or.inl ⟨by rfl,?_⟩) hHeld ?_ ?_
         rotate_left
         ·rintro w' ⟨s0,s1,s2,s3,s4,s5,s6,s7⟩
          go_simp
          with_reducible rfl
         rotate_left
         ·simp only [Act.put,zT,zU,zV,i64_w,i32_w]
          rfl
         refine take_ (i:=10) (N:=some 31) (v:=?_) (a':=?_) #[true,true,true,true,true,true,true,true,true,true,true,false,false,true,true,true,true,false,true,true,true,true,true,false,false,false,false] rfl rfl (take_ofW HT_.out HW_.out (by kernel_rfl)) (fun _ _ _ h=>h) (Or.inl ⟨by rfl,?_⟩) hHeld ?_ ?_
         rotate_left
         ·rintro w' ⟨s0,s1,s2,s3,s4,s5,s6,s7⟩
          go_simp
          with_reducible rfl
         rotate_left
         ·simp only [Act.put,zT,zU,zV,i64_w,i32_w]
          rfl
         refine pure_ (i:=11) (N:=some 32) (v:=?_) (a':=?_) #[true,true,true,true,true,true,true,true,true,true,true,true,false,true,true,true,true,false,true,true,true,true,true,false,false,false,false] rfl rfl (any_of HT_.out (by kernel_rfl)) (fun _ _ _ h=>h) (Or.inl ⟨by rfl,?_⟩) ?_ ?_
         rotate_left
         ·intro w'
          go_simp
          with_reducible rfl
         rotate_left
         ·simp only [Act.put,zT,zU,zV,i64_w,i32_w]
          rfl
         refine take_ (i:=17) (N:=some 38) (v:=?_) (a':=?_) #[true,true,true,true,true,true,true,true,true,true,true,true,false,true,true,true,true,true,true,true,true,true,true,false,false,false,false] rfl rfl (take_ofW HT_.out HW_.out (by kernel_rfl)) (fun _ _ _ h=>h) (Or.inl ⟨by rfl,?_⟩) hHeld ?_ ?_
         rotate_left
         ·rintro w' ⟨s0,s1,s2,s3,s4,s5,s6,s7⟩
          go_simp
          with_reducible rfl
         rotate_left
         ·simp only [Act.put,zT,zU,zV,i64_w,i32_w]
          rfl
         refine take_ (i:=23) (N:=some 44) (v:=?_) (a':=?_) #[true,true,true,true,true,true,true,true,true,true,true,true,false,true,true,true,true,true,true,true,true,true,true,true,false,false,false] rfl rfl (take_ofW HT_.out HW_.out (by kernel_rfl)) (fun _ _ _ h=>h) (Or.inl ⟨by rfl,?_⟩) hHeld ?_ ?_
         rotate_left
         ·rintro w' ⟨s0,s1,s2,s3,s4,s5,s6,s7⟩
          go_simp
          with_reducible rfl
         rotate_left
         ·simp only [Act.put,zT,zU,zV,i64_w,i32_w]
          rfl
         refine pure_ (i:=24) (N:=some 45) (v:=?_) (a':=?_) #[true,true,true,true,true,true,true,true,true,true,true,true,false,true,true,true,true,true,true,true,true,true,true,true,true,false,false] rfl rfl (any_of HT_.out (by kernel_rfl)) (fun _ _ _ h=>h) (Or.inl ⟨by rfl,?_⟩) ?_ ?_
         rotate_left
         ·intro w'
          go_simp
          with_reducible rfl
         rotate_left
         ·simp only [Act.put,zT,zU,zV,i64_w,i32_w]
          rfl
         refine one_ (i:=12) (N:=some 33) #[true,true,true,true,true,true,true,true,true,true,true,true,true,true,true,true,true,true,true,true,true,true,true,true,true,false,false] rfl rfl (one_of HT_.out (by kernel_rfl)) (by decide) (fun K hK=>?_)
         refine goes_ Try.func65 (by kernel_rfl) rfl #[.int .i64 (wrap64 (((rd_T60 l0 x9_1).f1) - ((rd_T60 l0 (ji7)).f1)))] (by rfl) rfl rfl (by (try simp only [List.map_toArray,List.map_cons,List.map_nil]);first|done|(simp only [hji7];rfl)|rfl|(simp only [List.length_drop,List.length_take];rfl)) ?_
         with_reducible refine (impl_size.calls (wrap64 (((rd_T60 l0 x9_1).f1) - ((rd_T60 l0 (ji7)).f1))) t322 _ A10.out).mono ?_
         rintro e w13 ⟨rfl,hb⟩
         refine ⟨_,rfl,?_⟩
         have n0_:=zM (zQ (by repeat (first|(with_reducible first|exact HB.out|apply zD|apply zE|apply zF)|exact HB.out)) hb)
         clear HB;have HB:=n0_;clear n0_;(try clear hb)
         (try clear hb2)
         (try clear hk)
         (try clear hi)
         refine hK.out _ _ ⟨(zS HB.out hw320_0),(zS HB.out hw320_1),(zS HB.out hw321_0),(zS HB.out hw321_1),(zS HB.out hw323_0),(zS HB.out hw323_1),(zS HB.out hw324_0),(zS HB.out hw324_1)⟩ (fun hHeld=>?_)
         clear hK K;refine norm_ (a':=?_) ?_ ?_
         rotate_left
         ·show Act.put _ (some 33) _ = _
          simp only [Act.put,zT,zU,zV,i64_w,i32_w]
          rfl
         refine pure_ (i:=25) (N:=some 10) (v:=?_) (a':=?_) #[true,true,true,true,true,true,true,true,true,true,true,true,true,true,true,true,true,true,true,true,true,true,true,true,true,true,false] rfl rfl (any_of HT_.out (by kernel_rfl)) (fun _ _ _ h=>h) (Or.inl ⟨by rfl,?_⟩) ?_ ?_
         rotate_left
         ·intro w'
          go_simp
          with_reducible rfl
         rotate_left
         ·simp only [Act.put,zT,zU,zV,i64_w,i32_w]
          rfl
         refine pure_ (i:=26) (N:=some 11) (v:=?_) (a':=?_) #[true,true,true,true,true,true,true,true,true,true,true,true,true,true,true,true,true,true,true,true,true,true,true,true,true,true,true] rfl rfl (any_of HT_.out (by kernel_rfl)) (fun _ _ _ h=>h) (Or.inl ⟨by rfl,?_⟩) ?_ ?_
         rotate_left
         ·intro w'
          go_simp
          with_reducible rfl
         rotate_left
         ·simp only [Act.put,zT,zU,zV,i64_w,i32_w]
          rfl
         refine done_ (done_of HT_.out (by kernel_rfl)) ?_
         try go_wp2
         go_roundg k1
         case measure=>have:=HK1.out;omega
         case rel=>exact ⟨(t322),(wrap64 (((rd_T60 l0 x9_1).f0) - ((rd_T60 l0 (ji7)).f0))),(ji7),(wrap64 (x9_1 + 1)),(by first|rfl|(simp;done)|(simp [*];done)),(by first|rfl|(simp;done)|(simp only [← hji7] <;> (first|rfl|simp))|(simp [*];done)),(by first|rfl|(simp;done)|(simp only [← hji7] <;> (first|rfl|simp))|(simp [*];done)),(by first|rfl|(simp;done)|(simp [*];done)),H',⟨by have:=HK1.out;omega⟩,⟨by repeat (first|(with_reducible first|exact HB.out|apply zD|apply zE|apply zF)|exact HB.out)⟩⟩
        ·rw [if_neg c11] at H
         have c11b0:decide ((wrap64 (x6_1 * (wrap64 (((rd_T60 l0 x9_1).f0) - ((rd_T60 l0 (ji7)).f0))))) < (wrap64 (t322 * x7_1))) = false:=decide_eq_false c11
         clear c11;have H':=zM H;clear H;try go_wp2
         have n0_:=zM (zF HB.out);clear HB;have HB:=n0_;clear n0_;have p320:0 ≤ (x9_1:Int):=of_decide_eq_true (by first|(with_reducible assumption)|assumption)
         have q320:x9_1 < (l0.length:Int):=of_decide_eq_true (by first|(with_reducible assumption)|assumption)
         obtain ⟨ad320,e320,hx320_0,hx320_1⟩:=at_T60 HR0.out x9_1 p320 q320;have hw320_1:=hx320_1;have hw320_0:=hx320_0;cases e320
         replace hx320_0:=zS HB.out hx320_0;replace hx320_1:=zS HB.out hx320_1;replace p320:=eq_true p320;replace q320:=eq_true q320;have p321:0 ≤ ((ji7):Int):=of_decide_eq_true (by first|(with_reducible assumption)|assumption)
         have q321:(ji7) < (l0.length:Int):=of_decide_eq_true (by first|(with_reducible assumption)|assumption)
         obtain ⟨ad321,e321,hx321_0,hx321_1⟩:=at_T60 HR0.out (ji7) p321 q321;have hw321_1:=hx321_1;have hw321_0:=hx321_0;obtain rfl:ad320 = ad321:=(by injection e321)
         replace hx321_0:=zS HB.out hx321_0;replace hx321_1:=zS HB.out hx321_1;replace p321:=eq_true p321;replace q321:=eq_true q321;have p323:0 ≤ (x9_1:Int):=of_decide_eq_true (by first|(with_reducible assumption)|assumption)
         have q323:x9_1 < (l0.length:Int):=of_decide_eq_true (by first|(with_reducible assumption)|assumption)
         obtain ⟨ad323,e323,hx323_0,hx323_1⟩:=at_T60 HR0.out x9_1 p323 q323;have hw323_1:=hx323_1;have hw323_0:=hx323_0;obtain rfl:ad320 = ad323:=(by injection e323)
         replace hx323_0:=zS HB.out hx323_0;replace hx323_1:=zS HB.out hx323_1;replace p323:=eq_true p323;replace q323:=eq_true q323;have p324:0 ≤ ((ji7):Int):=of_decide_eq_true (by first|(with_reducible assumption)|assumption)
         have q324:(ji7) < (l0.length:Int):=of_decide_eq_true (by first|(with_reducible assumption)|assumption)
         obtain ⟨ad324,e324,hx324_0,hx324_1⟩:=at_T60 HR0.out (ji7) p324 q324;have hw324_1:=hx324_1;have hw324_0:=hx324_0;obtain rfl:ad320 = ad324:=(by injection e324)
         replace hx324_0:=zS HB.out hx324_0;replace hx324_1:=zS HB.out hx324_1;replace p324:=eq_true p324;replace q324:=eq_true q324;refine start_ (n:=27) (S:=fun w'=>w'.cell? (ad320.add ((x9_1).toNat * 2)) = some (.int .i64 ((rd_T60 l0 x9_1).f0)) ∧ w'.cell? ⟨(ad320.add ((x9_1).toNat * 2)).block,(ad320.add ((x9_1).toNat * 2)).off + 1,none⟩ = some (.int .i64 ((rd_T60 l0 x9_1).f1)) ∧ w'.cell? (ad320.add (((ji7)).toNat * 2)) = some (.int .i64 ((rd_T60 l0 (ji7)).f0)) ∧ w'.cell? ⟨(ad320.add (((ji7)).toNat * 2)).block,(ad320.add (((ji7)).toNat * 2)).off + 1,none⟩ = some (.int .i64 ((rd_T60 l0 (ji7)).f1)) ∧ w'.cell? (ad320.add ((x9_1).toNat * 2)) = some (.int .i64 ((rd_T60 l0 x9_1).f0)) ∧ w'.cell? ⟨(ad320.add ((x9_1).toNat * 2)).block,(ad320.add ((x9_1).toNat * 2)).off + 1,none⟩ = some (.int .i64 ((rd_T60 l0 x9_1).f1)) ∧ w'.cell? (ad320.add (((ji7)).toNat * 2)) = some (.int .i64 ((rd_T60 l0 (ji7)).f0)) ∧ w'.cell? ⟨(ad320.add (((ji7)).toNat * 2)).block,(ad320.add (((ji7)).toNat * 2)).off + 1,none⟩ = some (.int .i64 ((rd_T60 l0 (ji7)).f1))) (ds:=[]) #[false,false,false,false,false,false,false,false,false,false,false,false,false,false,false,false,false,false,false,false,false,false,false,false,false,false,false] (by kernel_rfl) rfl rfl ⟨(zS HB.out hw320_0),(zS HB.out hw320_1),(zS HB.out hw321_0),(zS HB.out hw321_1),(zS HB.out hw323_0),(zS HB.out hw323_1),(zS HB.out hw324_0),(zS HB.out hw324_1)⟩ (fun hHeld=>?_);refine with_tabW impl_SteepestChange.tab7 impl_SteepestChange.bits7 (fun HT_ HW_=>?_)
         generalize wr.drew = w14 at HB hx320_0 hx320_1 hx321_0 hx321_1 hx323_0 hx323_1 hx324_0 hx324_1 hHeld ⊢
         refine pure_ (i:=0) (N:=some 21) (v:=?_) (a':=?_) #[true,false,false,false,false,false,false,false,false,false,false,false,false,false,false,false,false,false,false,false,false,false,false,false,false,false,false] rfl rfl (any_of HT_.out (by kernel_rfl)) (fun _ _ _ h=>h) (Or.inl ⟨by rfl,?_⟩) ?_ ?_
         rotate_left
         ·intro w'
          go_simp
          with_reducible rfl
         rotate_left
         ·simp only [Act.put,zT,zU,zV,i64_w,i32_w]
          rfl
         refine pure_ (i:=1) (N:=some 22) (v:=?_) (a':=?_) #[true,true,false,false,false,false,false,false,false,false,false,false,false,false,false,false,false,false,false,false,false,false,false,false,false,false,false] rfl rfl (any_of HT_.out (by kernel_rfl)) (fun _ _ _ h=>h) (Or.inl ⟨by rfl,?_⟩) ?_ ?_
         rotate_left
         ·intro w'
          go_simp
          with_reducible rfl
         rotate_left
         ·simp only [Act.put,zT,zU,zV,i64_w,i32_w]
          rfl
         refine pure_ (i:=2) (N:=some 23) (v:=?_) (a':=?_) #[true,true,true,false,false,false,false,false,false,false,false,false,false,false,false,false,false,false,false,false,false,false,false,false,false,false,false] rfl rfl (any_of HT_.out (by kernel_rfl)) (fun _ _ _ h=>h) (Or.inl ⟨by rfl,?_⟩) ?_ ?_
         rotate_left
         ·intro w'
          go_simp
          with_reducible rfl
         rotate_left
         ·simp only [Act.put,zT,zU,zV,i64_w,i32_w]
          rfl
         refine pure_ (i:=3) (N:=some 24) (v:=?_) (a':=?_) #[true,true,true,true,false,false,false,false,false,false,false,false,false,false,false,false,false,false,false,false,false,false,false,false,false,false,false] rfl rfl (any_of HT_.out (by kernel_rfl)) (fun _ _ _ h=>h) (Or.inl ⟨by rfl,?_⟩) ?_ ?_
         rotate_left
         ·intro w'
          go_simp
          with_reducible rfl
         rotate_left
         ·simp only [Act.put,zT,zU,zV,i64_w,i32_w]
          rfl
         refine pure_ (i:=5) (N:=some 26) (v:=?_) (a':=?_) #[true,true,true,true,false,true,false,false,false,false,false,false,false,false,false,false,false,false,false,false,false,false,false,false,false,false,false] rfl rfl (any_of HT_.out (by kernel_rfl)) (fun _ _ _ h=>h) (Or.inl ⟨by rfl,?_⟩) ?_ ?_
         rotate_left
         ·intro w'
          go_simp
          with_reducible rfl
         rotate_left
         ·simp only [Act.put,zT,zU,zV,i64_w,i32_w]
          rfl
         refine pure_ (i:=6) (N:=some 27) (v:=?_) (a':=?_) #[true,true,true,true,false,true,true,false,false,false,false,false,false,false,false,false,false,false,false,false,false,false,false,false,false,false,false] rfl rfl (any_of HT_.out (by kernel_rfl)) (fun _ _ _ h=>h) (Or.inl ⟨by rfl,?_⟩) ?_ ?_
         rotate_left
         ·intro w'
          go_simp
          with_reducible rfl
         rotate_left
         ·simp only [Act.put,zT,zU,zV,i64_w,i32_w]
          rfl
         refine pure_ (i:=7) (N:=some 28) (v:=?_) (a':=?_) #[true,true,true,true,false,true,true,true,false,false,false,false,false,false,false,false,false,false,false,false,false,false,false,false,false,false,false] rfl rfl (any_of HT_.out (by kernel_rfl)) (fun _ _ _ h=>h) (Or.inl ⟨by rfl,?_⟩) ?_ ?_
         rotate_left
         ·intro w'
          go_simp
          with_reducible rfl
         rotate_left
         ·simp only [Act.put,zT,zU,zV,i64_w,i32_w]
          rfl
         refine pure_ (i:=8) (N:=some 29) (v:=?_) (a':=?_) #[true,true,true,true,false,true,true,true,true,false,false,false,false,false,false,false,false,false,false,false,false,false,false,false,false,false,false] rfl rfl (any_of HT_.out (by kernel_rfl)) (fun _ _ _ h=>h) (Or.inl ⟨by rfl,?_⟩) ?_ ?_
         rotate_left
         ·intro w'
          go_simp
          with_reducible rfl
         rotate_left
         ·simp only [Act.put,zT,zU,zV,i64_w,i32_w]
          rfl
         refine pure_ (i:=9) (N:=some 30) (v:=?_) (a':=?_) #[true,true,true,true,false,true,true,true,true,true,false,false,false,false,false,false,false,false,false,false,false,false,false,false,false,false,false] rfl rfl (any_of HT_.out (by kernel_rfl)) (fun _ _ _ h=>h) (Or.inl ⟨by rfl,?_⟩) ?_ ?_
         rotate_left
         ·intro w'
          go_simp
          with_reducible rfl
         rotate_left
         ·simp only [Act.put,zT,zU,zV,i64_w,i32_w]
          rfl
         refine pure_ (i:=13) (N:=some 34) (v:=?_) (a':=?_) #[true,true,true,true,false,true,true,true,true,true,false,false,false,true,false,false,false,false,false,false,false,false,false,false,false,false,false] rfl rfl (any_of HT_.out (by kernel_rfl)) (fun _ _ _ h=>h) (Or.inl ⟨by rfl,?_⟩) ?_ ?_
         rotate_left
         ·intro w'
          go_simp
          with_reducible rfl
         rotate_left
         ·simp only [Act.put,zT,zU,zV,i64_w,i32_w]
          rfl
         refine pure_ (i:=14) (N:=some 35) (v:=?_) (a':=?_) #[true,true,true,true,false,true,true,true,true,true,false,false,false,true,true,false,false,false,false,false,false,false,false,false,false,false,false] rfl rfl (any_of HT_.out (by kernel_rfl)) (fun _ _ _ h=>h) (Or.inl ⟨by rfl,?_⟩) ?_ ?_
         rotate_left
         ·intro w'
          go_simp
          with_reducible rfl
         rotate_left
         ·simp only [Act.put,zT,zU,zV,i64_w,i32_w]
          rfl
         refine pure_ (i:=15) (N:=some 36) (v:=?_) (a':=?_) #[true,true,true,true,false,true,true,true,true,true,false,false,false,true,true,true,false,false,false,false,false,false,false,false,false,false,false] rfl rfl (any_of HT_.out (by kernel_rfl)) (fun _ _ _ h=>h) (Or.inl ⟨by rfl,?_⟩) ?_ ?_
         rotate_left
         ·intro w'
          go_simp
          with_reducible rfl
         rotate_left
         ·simp only [Act.put,zT,zU,zV,i64_w,i32_w]
          rfl
         refine pure_ (i:=16) (N:=some 37) (v:=?_) (a':=?_) #[true,true,true,true,false,true,true,true,true,true,false,false,false,true,true,true,true,false,false,false,false,false,false,false,false,false,false] rfl rfl (any_of HT_.out (by kernel_rfl)) (fun _ _ _ h=>h) (Or.inl ⟨by rfl,?_⟩) ?_ ?_
         rotate_left
         ·intro w'
          go_simp
          with_reducible rfl
         rotate_left
         ·simp only [Act.put,zT,zU,zV,i64_w,i32_w]
          rfl
         refine pure_ (i:=18) (N:=some 39) (v:=?_) (a':=?_) #[true,true,true,true,false,true,true,true,true,true,false,false,false,true,true,true,true,false,true,false,false,false,false,false,false,false,false] rfl rfl (any_of HT_.out (by kernel_rfl)) (fun _ _ _ h=>h) (Or.inl ⟨by rfl,?_⟩) ?_ ?_
         rotate_left
         ·intro w'
          go_simp
          with_reducible rfl
         rotate_left
         ·simp only [Act.put,zT,zU,zV,i64_w,i32_w]
          rfl
         refine pure_ (i:=19) (N:=some 40) (v:=?_) (a':=?_) #[true,true,true,true,false,true,true,true,true,true,false,false,false,true,true,true,true,false,true,true,false,false,false,false,false,false,false] rfl rfl (any_of HT_.out (by kernel_rfl)) (fun _ _ _ h=>h) (Or.inl ⟨by rfl,?_⟩) ?_ ?_
         rotate_left
         ·intro w'
          go_simp
          with_reducible rfl
         rotate_left
         ·simp only [Act.put,zT,zU,zV,i64_w,i32_w]
          rfl
         refine pure_ (i:=20) (N:=some 41) (v:=?_) (a':=?_) #[true,true,true,true,false,true,true,true,true,true,false,false,false,true,true,true,true,false,true,true,true,false,false,false,false,false,false] rfl rfl (any_of HT_.out (by kernel_rfl)) (fun _ _ _ h=>h) (Or.inl ⟨by rfl,?_⟩) ?_ ?_
         rotate_left
         ·intro w'
          go_simp
          with_reducible rfl
         rotate_left
         ·simp only [Act.put,zT,zU,zV,i64_w,i32_w]
          rfl
         refine pure_ (i:=21) (N:=some 42) (v:=?_) (a':=?_) #[true,true,true,true,false,true,true,true,true,true,false,false,false,true,true,true,true,false,true,true,true,true,false,false,false,false,false] rfl rfl (any_of HT_.out (by kernel_rfl)) (fun _ _ _ h=>h) (Or.inl ⟨by rfl,?_⟩) ?_ ?_
         rotate_left
         ·intro w'
          go_simp
          with_reducible rfl
         rotate_left
         ·simp only [Act.put,zT,zU,zV,i64_w,i32_w]
          rfl
         refine pure_ (i:=22) (N:=some 43) (v:=?_) (a':=?_) #[true,true,true,true,false,true,true,true,true,true,false,false,false,true,true,true,true,false,true,true,true,true,true,false,false,false,false] rfl rfl (any_of HT_.out (by kernel_rfl)) (fun _ _ _ h=>h) (Or.inl ⟨by rfl,?_⟩) ?_ ?_
         rotate_left
         ·intro w'
          go_simp
          with_reducible rfl
         rotate_left
         ·simp only [Act.put,zT,zU,zV,i64_w,i32_w]
          rfl
         refine take_ (i:=4) (N:=some 25) (v:=?_) (a':=?_) #[true,true,true,true,true,true,true,true,true,true,false,false,false,true,true,true,true,false,true,true,true,true,true,false,false,false,false] rfl rfl (take_ofW HT_.out HW_.out (by kernel_rfl)) (fun _ _ _ h=>h) (Or.inl ⟨by rfl,?_⟩) hHeld ?_ ?_
         rotate_left
         ·rintro w' ⟨s0,s1,s2,s3,s4,s5,s6,s7⟩
          go_simp
          with_reducible rfl
         rotate_left
         ·simp only [Act.put,zT,zU,zV,i64_w,i32_w]
          rfl
         refine take_ (i:=10) (N:=some 31) (v:=?_) (a':=?_) #[true,true,true,true,true,true,true,true,true,true,true,false,false,true,true,true,true,false,true,true,true,true,true,false,false,false,false] rfl rfl (take_ofW HT_.out HW_.out (by kernel_rfl)) (fun _ _ _ h=>h) (Or.inl ⟨by rfl,?_⟩) hHeld ?_ ?_
         rotate_left
         ·rintro w' ⟨s0,s1,s2,s3,s4,s5,s6,s7⟩
          go_simp
          with_reducible rfl
         rotate_left
         ·simp only [Act.put,zT,zU,zV,i64_w,i32_w]
          rfl
         refine pure_ (i:=11) (N:=some 32) (v:=?_) (a':=?_) #[true,true,true,true,true,true,true,true,true,true,true,true,false,true,true,true,true,false,true,true,true,true,true,false,false,false,false] rfl rfl (any_of HT_.out (by kernel_rfl)) (fun _ _ _ h=>h) (Or.inl ⟨by rfl,?_⟩) ?_ ?_
         rotate_left
         ·intro w'
          go_simp
          with_reducible rfl
         rotate_left
         ·simp only [Act.put,zT,zU,zV,i64_w,i32_w]
          rfl
         refine take_ (i:=17) (N:=some 38) (v:=?_) (a':=?_) #[true,true,true,true,true,true,true,true,true,true,true,true,false,true,true,true,true,true,true,true,true,true,true,false,false,false,false] rfl rfl (take_ofW HT_.out HW_.out (by kernel_rfl)) (fun _ _ _ h=>h) (Or.inl ⟨by rfl,?_⟩) hHeld ?_ ?_
         rotate_left
         ·rintro w' ⟨s0,s1,s2,s3,s4,s5,s6,s7⟩
          go_simp
          with_reducible rfl
         rotate_left
         ·simp only [Act.put,zT,zU,zV,i64_w,i32_w]
          rfl
         refine take_ (i:=23) (N:=some 44) (v:=?_) (a':=?_) #[true,true,true,true,true,true,true,true,true,true,true,true,false,true,true,true,true,true,true,true,true,true,true,true,false,false,false] rfl rfl (take_ofW HT_.out HW_.out (by kernel_rfl)) (fun _ _ _ h=>h) (Or.inl ⟨by rfl,?_⟩) hHeld ?_ ?_
         rotate_left
         ·rintro w' ⟨s0,s1,s2,s3,s4,s5,s6,s7⟩
          go_simp
          with_reducible rfl
         rotate_left
         ·simp only [Act.put,zT,zU,zV,i64_w,i32_w]
          rfl
         refine pure_ (i:=24) (N:=some 45) (v:=?_) (a':=?_) #[true,true,true,true,true,true,true,true,true,true,true,true,false,true,true,true,true,true,true,true,true,true,true,true,true,false,false] rfl rfl (any_of HT_.out (by kernel_rfl)) (fun _ _ _ h=>h) (Or.inl ⟨by rfl,?_⟩) ?_ ?_
         rotate_left
         ·intro w'
          go_simp
          with_reducible rfl
         rotate_left
         ·simp only [Act.put,zT,zU,zV,i64_w,i32_w]
          rfl
         refine one_ (i:=12) (N:=some 33) #[true,true,true,true,true,true,true,true,true,true,true,true,true,true,true,true,true,true,true,true,true,true,true,true,true,false,false] rfl rfl (one_of HT_.out (by kernel_rfl)) (by decide) (fun K hK=>?_)
         refine goes_ Try.func65 (by kernel_rfl) rfl #[.int .i64 (wrap64 (((rd_T60 l0 x9_1).f1) - ((rd_T60 l0 (ji7)).f1)))] (by rfl) rfl rfl (by (try simp only [List.map_toArray,List.map_cons,List.map_nil]);first|done|(simp only [hji7];rfl)|rfl|(simp only [List.length_drop,List.length_take];rfl)) ?_
         with_reducible refine (impl_size.calls (wrap64 (((rd_T60 l0 x9_1).f1) - ((rd_T60 l0 (ji7)).f1))) t322 _ A10.out).mono ?_
         rintro e w15 ⟨rfl,hb⟩
         refine ⟨_,rfl,?_⟩
         have n0_:=zM (zQ (by repeat (first|(with_reducible first|exact HB.out|apply zD|apply zE|apply zF)|exact HB.out)) hb)
         clear HB;have HB:=n0_;clear n0_;(try clear hb)
         (try clear hb2)
         (try clear hk)
         (try clear hi)
         refine hK.out _ _ ⟨(zS HB.out hw320_0),(zS HB.out hw320_1),(zS HB.out hw321_0),(zS HB.out hw321_1),(zS HB.out hw323_0),(zS HB.out hw323_1),(zS HB.out hw324_0),(zS HB.out hw324_1)⟩ (fun hHeld=>?_)
         clear hK K;refine norm_ (a':=?_) ?_ ?_
         rotate_left
         ·show Act.put _ (some 33) _ = _
          simp only [Act.put,zT,zU,zV,i64_w,i32_w]
          rfl
         refine pure_ (i:=25) (N:=some 10) (v:=?_) (a':=?_) #[true,true,true,true,true,true,true,true,true,true,true,true,true,true,true,true,true,true,true,true,true,true,true,true,true,true,false] rfl rfl (any_of HT_.out (by kernel_rfl)) (fun _ _ _ h=>h) (Or.inl ⟨by rfl,?_⟩) ?_ ?_
         rotate_left
         ·intro w'
          go_simp
          with_reducible rfl
         rotate_left
         ·simp only [Act.put,zT,zU,zV,i64_w,i32_w]
          rfl
         refine pure_ (i:=26) (N:=some 11) (v:=?_) (a':=?_) #[true,true,true,true,true,true,true,true,true,true,true,true,true,true,true,true,true,true,true,true,true,true,true,true,true,true,true] rfl rfl (any_of HT_.out (by kernel_rfl)) (fun _ _ _ h=>h) (Or.inl ⟨by rfl,?_⟩) ?_ ?_
         rotate_left
         ·intro w'
          go_simp
          with_reducible rfl
         rotate_left
         ·simp only [Act.put,zT,zU,zV,i64_w,i32_w]
          rfl
         refine done_ (done_of HT_.out (by kernel_rfl)) ?_
         try go_wp2
         go_roundg k1
         case measure=>have:=HK1.out;omega
         case rel=>exact ⟨(x6_1),(x7_1),(x8_1),(wrap64 (x9_1 + 1)),(by first|rfl|(simp;done)|(simp [*];done)),(by first|rfl|(simp;done)|(simp [*];done)),(by first|rfl|(simp;done)|(simp [*];done)),(by first|rfl|(simp;done)|(simp [*];done)),H',⟨by have:=HK1.out;omega⟩,⟨by repeat (first|(with_reducible first|exact HB.out|apply zD|apply zE|apply zF)|exact HB.out)⟩⟩
       ·rw [if_neg c9] at H
        exact absurd H (by simp)
      ·rw [if_neg c8] at H
       exact absurd H (by simp)
     ·rw [if_neg c6] at H
      exact absurd H (by simp)
    ·rw [if_neg c5] at H
     have c5b0:decide (x9_1 < (l0.length:Int)) = false:=decide_eq_false c5
     clear c5;replace H:=Option.bind_eq_some_iff.mp H;obtain ⟨⟨t325,t326⟩,A160,H⟩:=H;replace H:(some (t325,t326,x8_1,true)) = some (r1,r2,r3,r4):=H
     have A16:=zM A160;clear A160;simp only [Option.some.injEq,Prod.mk.injEq] at H
     obtain ⟨rfl,rfl,rfl,rfl⟩:=H;go_wp2_with (first|((with_reducible refine gate_callee (f:=58) rfl ?_);refine goesL_ (some 60) rfl rfl Try.func58 (by kernel_rfl) rfl #[.int .i64 x6_1,.int .i64 x7_1] rfl (by (try simp only [List.map_toArray,List.map_cons,List.map_nil]);first|done|rfl|(simp only [List.length_drop,List.length_take];rfl)) ?_;(with_reducible refine (impl_fraction.calls k1 x6_1 x7_1 t325 t326 _ A16.out).mono ?_);rintro e w' ⟨rfl,⟨nd,rfl⟩⟩;refine ⟨_,rfl,?_⟩))
     refine bodyPost_ret (results_list (rs:=[.tmp 2,.tmp 3,.tmp 4,.tmp 5]) rfl (by simp) (.tmp (.tmp (.tmp (.tmp .nil))))) rfl ?_
     exact ⟨by first|rfl|(simp [errW_none,errW_some] <;> rfl)|(simp [*,errW_none,errW_some] <;> rfl),by repeat (first|(with_reducible first|exact HB.out|apply zD|apply zE|apply zF)|exact HB.out)⟩
 ·replace c3:=Bool.eq_false_iff.mpr c3
  subst c3;have H1:(some (0,0,0,false)) = some (r1,r2,r3,r4):=by rw [if_neg (show ¬ (false = true) by decide)] at H;exact H
  clear H;have H:=H1;clear H1;simp only [Option.some.injEq,Prod.mk.injEq] at H
  obtain ⟨rfl,rfl,rfl,rfl⟩:=H;go_enter Try.func28,Try.ntmps28
  go_wp2_with (first|((with_reducible refine gate_callee (f:=17) rfl ?_);refine goesL_ (some 13) rfl rfl Try.func17 (by kernel_rfl) rfl #[.slice A0 l0.length c0] rfl (by (try simp only [List.map_toArray,List.map_cons,List.map_nil]);first|done|rfl|(simp only [List.length_drop,List.length_take];rfl)) ?_;(with_reducible refine (impl_IsValidTides.calls k _ _ l0 false _ ?side1 ?side2 A2.out).mono ?_);(case side1=>repeat (first|exact HR0.out|(with_reducible first|refine zG ?_ _|refine zH ?_ _|refine zI ?_)));(case side2=>exact HC0.out);rintro e w17 ⟨rfl,hb⟩;refine ⟨_,rfl,?_⟩;have n0_:=zM (zQ (by repeat (first|(with_reducible first|exact HB.out|apply zD|apply zE|apply zF)|exact HB.out)) hb);clear HB;have HB:=n0_;clear n0_;(try clear hb);(try clear hb2);(try clear hk);(try clear hi)))
  refine bodyPost_ret (results_list (rs:=[.tmp 2,.tmp 3,.tmp 4,.tmp 5]) rfl (by simp) (.tmp (.tmp (.tmp (.tmp .nil))))) rfl ?_
  exact ⟨by first|rfl|(simp [errW_none,errW_some] <;> rfl)|(simp [*,errW_none,errW_some] <;> rfl),by repeat (first|(with_reducible first|exact HB.out|apply zD|apply zE|apply zF)|exact HB.out)⟩

end Go.Proofs.Ytbglkkepfddecaa.G

namespace Go.Proofs.Ytbglkkepfddecaa.G
open Go.RowKit Go.Proofs.YtbglkkepfddecaaW.PrintWords Go.Proofs.YtbglkkepfddecaaW.PrintLast
set_option linter.unusedVariables false
set_option linter.unusedSimpArgs false
def absI (x : Int) : Int:=if x > -x then x else -x
/-- The steepest segment before i: its number, its change and its hours. -/
def steep (xs : List S60) : Nat → Int × Int × Int
  | 0=>(0,0,1)
  | i + 1 =>
    let a:=absI ((rd_T60 xs ((i : Int) + 1)).f1 - (rd_T60 xs (i : Int)).f1)
    let b:=(rd_T60 xs ((i : Int) + 1)).f0 - (rd_T60 xs (i : Int)).f0
    if a * (steep xs i).2.2 > (steep xs i).2.1 * b then ((i : Int),a,b) else steep xs i
def steepOf (xs : List S60) : Int × Int × Int × Bool:=((frac (steep xs (xs.length - 1)).2.1 (steep xs (xs.length - 1)).2.2).1,(frac (steep xs (xs.length - 1)).2.1 (steep xs (xs.length - 1)).2.2).2,(steep xs (xs.length - 1)).1,true)
end Go.Proofs.Ytbglkkepfddecaa.G

-- Written by wip/tools/gen.py out of the translation (the kit's printer, one namespace a seat). Lean checks it.
namespace Go.Proofs.Ytbglkkepfddecaa.G
open Go.RowKit Go.Proofs.YtbglkkepfddecaaW.PrintWords Go.Proofs.YtbglkkepfddecaaW.PrintLast Go.Proofs.YtbglkkepfddecaaW.PrintMore
attribute [local go_sem] max2_int min2_int max_two min_two max_three min_three max_four min_four   -- for this text's walks alone
set_option linter.unusedVariables false
set_option linter.unusedSimpArgs false

/-! ### spec_TurningHours: function 29 -/
def spec_TurningHours.l0:Nat → List (S60) → Bool → List Int → Int → Option (List Int × Bool)
 | 0,_,_,_,_=>none
 | k + 1,x0,x1,x6,x7=>if x7 < (x0.length:Int) then (if x7 = 0 then (if 0 ≤ x7 then (if 1 < (x0.length:Int) then (if ((decide (((rd_T60 x0 x7).f1) > ((rd_T60 x0 1).f1))) == x1) = true then (if x6.length < 17592186044416 then (spec_TurningHours.l0 k x0 x1 (x6 ++ [(rd_T60 x0 x7).f0]) (wrap64 (x7 + 1))) else (none)) else (spec_TurningHours.l0 k x0 x1 x6 (wrap64 (x7 + 1)))) else (none)) else (none)) else (if 0 ≤ x7 then (if 0 ≤ (wrap64 (x7 - 1)) then (if (wrap64 (x7 - 1)) < (x0.length:Int) then (if ((decide (((rd_T60 x0 x7).f1) > ((rd_T60 x0 (wrap64 (x7 - 1))).f1))) == x1) = true then (if x6.length < 17592186044416 then (spec_TurningHours.l0 k x0 x1 (x6 ++ [(rd_T60 x0 x7).f0]) (wrap64 (x7 + 1))) else (none)) else (spec_TurningHours.l0 k x0 x1 x6 (wrap64 (x7 + 1)))) else (none)) else (none)) else (none))) else (some (x6,true))
def spec_TurningHours.f (k:Nat) (l0:List (S60)) (a1:Bool):Option (List Int × Bool):=(some (([]:List Int):List Int)).bind fun y346=>((spec_l15Good.f k l0).bind fun t349=>(if t349 = true then (spec_TurningHours.l0 k l0 a1 y346 0) else (some (y346,false))))
set_option maxHeartbeats 8000000 in
set_option maxRecDepth 100000 in
theorem spec_TurningHours.calls (k:Nat) (A0:Option Addr) (c0:Nat) (l0:List (S60)) (a1:Bool) (r1:List Int) (r2:Bool) (w:World) (hr0:Kd.C k60 w A0 l0.length l0) (hc0:l0.length ≤ c0) (h:spec_TurningHours.f k l0 a1 = some (r1,r2)) :
  Calls Try.prog 29 #[.slice A0 l0.length c0,.bool a1] w fun e w' => ∃ v0_:Value,e = .returned (.tuple #[v0_,.bool r2]) ∧ Kd.R (Kd.int .i64) 3 w' w.heap.size (fun _=>True) v0_ r1 ∧ Below w.heap.size w w':=by
 have HR0:=zM hr0;have HC0:=zM hc0;clear hr0 hc0;have HB:=zM (Below.refl w.heap.size w);have H:((some (([]:List Int):List Int)).bind fun y346=>((spec_l15Good.f k l0).bind fun t349=>(if t349 = true then (spec_TurningHours.l0 k l0 a1 y346 0) else (some (y346,false))))) = some (r1,r2):=h
 clear h;obtain ⟨y346,hy346⟩ : ∃ y_:List Int,y_ = (([]:List Int)):=⟨_,rfl⟩
 replace H:((spec_l15Good.f k l0).bind fun t349=>(if t349 = true then (spec_TurningHours.l0 k l0 a1 y346 0) else (some (y346,false)))) = some (r1,r2):=by first|(rw [hy346];with_reducible exact H)|(have H2_:=(Option.bind_some _ _).symm.trans H;rw [hy346];with_reducible exact H2_)|(have H2_:=(Option.bind_some _ _).symm.trans H;with_reducible exact H2_)|with_reducible exact H|(rw [hy346];exact H)|exact H
 have Ny346:=zM hy346;clear hy346;replace H:=Option.bind_eq_some_iff.mp H;obtain ⟨t349,A30,H⟩:=H;replace H:(if t349 = true then (spec_TurningHours.l0 k l0 a1 y346 0) else (some (y346,false))) = some (r1,r2):=H
 have A3:=zM A30;clear A30;by_cases c4:t349 = true
 ·subst c4
  have H1:(spec_TurningHours.l0 k l0 a1 y346 0) = some (r1,r2):=by rw [if_pos rfl] at H;exact H
  clear H;have H:=H1;clear H1;have H':=zM H;clear H;go_enter Try.func29,Try.ntmps29
  go_wp2_with (first|((with_reducible refine gate_dst (N:=9) rfl ?_);refine Kd.R_lit (Kd.int .i64) _ 3 ?hg (N:=9) ?hd (xs:=([]:List Int)) (inner:=[]) (ok:=fun _=>True) (okp:=fun _=>True) ?hr ?hp (fun _ hk=>hk) trivial (Below.refl _ _) (Nat.le_refl _) (by simp) ?_;(case hd=>rfl);(case hg=>rfl);(case hr=>first|(go_simp;done)|(go_simp;rfl));(case hp=>exact (Reps.none _ _));intro v347 w5 ho6 hb hg_ hnew_;clear hg_ hnew_;(first|rw [← Ny346.out] at ho6|(simp only [Int.reduceToNat] at ho6;rw [← Ny346.out] at ho6));have n0_:=zM (Kd.R_lower ho6 (zR (by repeat (first|(with_reducible first|exact HB.out|apply zD|apply zE|apply zF)|exact HB.out))));have n1_:=zM (zQ (by repeat (first|(with_reducible first|exact HB.out|apply zD|apply zE|apply zF)|exact HB.out)) hb);clear HB;have HO348:=n0_;have HB:=n1_;clear n0_ n1_;clear hb ho6)|(go_at_call 52;(with_reducible refine (spec_l15Good.calls k _ _ l0 true _ ?side1 ?side2 A3.out).mono ?_);(case side1=>repeat (first|exact (zO HR0.out HB.out)|(with_reducible first|refine zG ?_ _|refine zH ?_ _|refine zI ?_)));(case side2=>exact HC0.out);rintro e w' ⟨rfl,⟨nd,rfl⟩⟩;(try first|exact ⟨rfl,_,World.drewN_drewN _ _ _⟩|exact ⟨rfl,_,zW _ _ _ _⟩)))
  repeat (go_quiet (first|((with_reducible refine gate_dst (N:=9) rfl ?_);refine Kd.R_lit (Kd.int .i64) _ 3 ?hg (N:=9) ?hd (xs:=([]:List Int)) (inner:=[]) (ok:=fun _=>True) (okp:=fun _=>True) ?hr ?hp (fun _ hk=>hk) trivial (Below.refl _ _) (Nat.le_refl _) (by simp) ?_;(case hd=>rfl);(case hg=>rfl);(case hr=>first|(go_simp;done)|(go_simp;rfl));(case hp=>exact (Reps.none _ _));intro v347 w5 ho6 hb hg_ hnew_;clear hg_ hnew_;(first|rw [← Ny346.out] at ho6|(simp only [Int.reduceToNat] at ho6;rw [← Ny346.out] at ho6));have n0_:=zM (Kd.R_lower ho6 (zR (by repeat (first|(with_reducible first|exact HB.out|apply zD|apply zE|apply zF)|exact HB.out))));have n1_:=zM (zQ (by repeat (first|(with_reducible first|exact HB.out|apply zD|apply zE|apply zF)|exact HB.out)) hb);clear HB;have HO348:=n0_;have HB:=n1_;clear n0_ n1_;clear hb ho6)|(go_at_call 52;(with_reducible refine (spec_l15Good.calls k _ _ l0 true _ ?side1 ?side2 A3.out).mono ?_);(case side1=>repeat (first|exact (zO HR0.out HB.out)|(with_reducible first|refine zG ?_ _|refine zH ?_ _|refine zI ?_)));(case side2=>exact HC0.out);rintro e w' ⟨rfl,⟨nd,rfl⟩⟩;(try first|exact ⟨rfl,_,World.drewN_drewN _ _ _⟩|exact ⟨rfl,_,zW _ _ _ _⟩)));try go_wp2_with (first|((with_reducible refine gate_dst (N:=9) rfl ?_);refine Kd.R_lit (Kd.int .i64) _ 3 ?hg (N:=9) ?hd (xs:=([]:List Int)) (inner:=[]) (ok:=fun _=>True) (okp:=fun _=>True) ?hr ?hp (fun _ hk=>hk) trivial (Below.refl _ _) (Nat.le_refl _) (by simp) ?_;(case hd=>rfl);(case hg=>rfl);(case hr=>first|(go_simp;done)|(go_simp;rfl));(case hp=>exact (Reps.none _ _));intro v347 w5 ho6 hb hg_ hnew_;clear hg_ hnew_;(first|rw [← Ny346.out] at ho6|(simp only [Int.reduceToNat] at ho6;rw [← Ny346.out] at ho6));have n0_:=zM (Kd.R_lower ho6 (zR (by repeat (first|(with_reducible first|exact HB.out|apply zD|apply zE|apply zF)|exact HB.out))));have n1_:=zM (zQ (by repeat (first|(with_reducible first|exact HB.out|apply zD|apply zE|apply zF)|exact HB.out)) hb);clear HB;have HO348:=n0_;have HB:=n1_;clear n0_ n1_;clear hb ho6)|(go_at_call 52;(with_reducible refine (spec_l15Good.calls k _ _ l0 true _ ?side1 ?side2 A3.out).mono ?_);(case side1=>repeat (first|exact (zO HR0.out HB.out)|(with_reducible first|refine zG ?_ _|refine zH ?_ _|refine zI ?_)));(case side2=>exact HC0.out);rintro e w' ⟨rfl,⟨nd,rfl⟩⟩;(try first|exact ⟨rfl,_,World.drewN_drewN _ _ _⟩|exact ⟨rfl,_,zW _ _ _ _⟩))))
  go_loopg [6,7] k (fun kq v6 v7 w' => ∃ (x6_1:List Int) (x7_1:Int),v7 = .int .i64 x7_1 ∧ Aside0 (spec_TurningHours.l0 kq l0 a1 x6_1 x7_1 = some (r1,r2)) ∧ Aside0 (kq ≤ k) ∧ Aside0 (Kd.R (Kd.int .i64) 3 w' w.heap.size (fun _=>True) v6 x6_1) ∧ Aside0 (Below w.heap.size w w'))
  case atStart=>exact ⟨(y346),(0),(by first|rfl|(simp;done)|(simp [*];done)),H',⟨Nat.le_refl _⟩,⟨by (with_reducible repeat (first|apply zA|apply zB|apply zC));exact HO348.out⟩,⟨by repeat (first|(with_reducible first|exact HB.out|apply zD|apply zE|apply zF)|exact HB.out)⟩⟩
  case round =>
   clear H';(try clear c2);(try clear p2);(try clear c4);obtain ⟨x6_1,x7_1,rfl,HA,HK1,HO_6,HB⟩:=hrel;cases gk with
   | zero=>exact absurd HA.out (by simp [spec_TurningHours.l0])
   | succ k1 =>
    have H:=HA.out;clear HA;simp only [spec_TurningHours.l0] at H
    by_cases c7:x7_1 < (l0.length:Int)
    ·rw [if_pos c7] at H
     have c7b0:decide (x7_1 < (l0.length:Int)) = true:=decide_eq_true c7
     clear c7;by_cases c8:x7_1 = 0
     ·rw [if_pos c8] at H
      have c8b0:(x7_1 == 0) = true:=beq_iff_eq.mpr c8
      have c8b1:(x7_1 != 0) = false:=bne_eq_false_iff_eq.mpr c8
      clear c8;by_cases c9:0 ≤ x7_1
      ·rw [if_pos c9] at H
       have c9b0:decide (0 ≤ x7_1) = true:=decide_eq_true c9
       clear c9;by_cases c10:1 < (l0.length:Int)
       ·rw [if_pos c10] at H
        have c10b0:decide (1 < (l0.length:Int)) = true:=decide_eq_true c10
        have c10b1:decide (1 < l0.length) = true:=decide_eq_true (by omega)
        clear c10;by_cases c11:((decide (((rd_T60 l0 x7_1).f1) > ((rd_T60 l0 1).f1))) == a1) = true
        ·rw [if_pos c11] at H
         have c11b0:((decide (((rd_T60 l0 x7_1).f1) > ((rd_T60 l0 1).f1))) == a1) = true:=c11
         (try (have c11b1:decide ((decide (((rd_T60 l0 x7_1).f1) > ((rd_T60 l0 1).f1))) = a1) = true:=by simpa using c11))
         (try (have c11b2:((decide (((rd_T60 l0 x7_1).f1) > ((rd_T60 l0 1).f1))) == a1) = true:=by simpa using c11))
         clear c11;by_cases c12:x6_1.length < 17592186044416
         ·rw [if_pos c12] at H
          have LMc12:=zM c12;clear c12;obtain ⟨y353,hy353⟩ : ∃ y_:List Int,y_ = (x6_1 ++ [(rd_T60 l0 x7_1).f0]):=⟨_,rfl⟩
          replace H:(spec_TurningHours.l0 k1 l0 a1 y353 (wrap64 (x7_1 + 1))) = some (r1,r2):=by first|(rw [hy353];with_reducible exact H)|(have H2_:=(Option.bind_some _ _).symm.trans H;rw [hy353];with_reducible exact H2_)|(have H2_:=(Option.bind_some _ _).symm.trans H;with_reducible exact H2_)|with_reducible exact H|(rw [hy353];exact H)|exact H
          have Ny353:=zM hy353;clear hy353;have H':=zM H;clear H;have p350:0 ≤ (x7_1:Int):=of_decide_eq_true (by first|(with_reducible assumption)|assumption)
          have q350:x7_1 < (l0.length:Int):=of_decide_eq_true (by first|(with_reducible assumption)|assumption)
          obtain ⟨ad350,e350,hx350_0,hx350_1⟩:=at_T60 HR0.out x7_1 p350 q350;cases e350
          replace hx350_0:=zS HB.out hx350_0;replace hx350_1:=zS HB.out hx350_1;replace p350:=eq_true p350;replace q350:=eq_true q350;have p351:0 ≤ (1:Int):=(by omega)
          have q351:1 < (l0.length:Int):=of_decide_eq_true (by first|(with_reducible assumption)|assumption)
          obtain ⟨ad351,e351,hx351_0,hx351_1⟩:=at_T60 HR0.out 1 p351 q351;obtain rfl:ad350 = ad351:=(by injection e351)
          (try simp only [show (1:Int).toNat = 1 from rfl,Nat.reduceMul,Nat.reduceEqDiff,Go.Addr.add,↓reduceIte] at hx351_0)
          (try simp only [show (1:Int).toNat = 1 from rfl,Nat.reduceMul,Nat.reduceEqDiff,Go.Addr.add,↓reduceIte] at hx351_1)
          have qi351:(1 < l0.length) = True:=eq_true (by omega)
          (try rw [show ((1:Int)).toNat = 1 from rfl] at hx351_0)
          (try rw [show 1 * 2 = 2 from rfl] at hx351_0)
          (try rw [show ((1:Int)).toNat = 1 from rfl] at hx351_1)
          (try rw [show 1 * 2 = 2 from rfl] at hx351_1)
          replace hx351_0:=zS HB.out hx351_0;replace hx351_1:=zS HB.out hx351_1;replace p351:=eq_true p351;replace q351:=eq_true q351;have p352:0 ≤ (x7_1:Int):=of_decide_eq_true (by first|(with_reducible assumption)|assumption)
          have q352:x7_1 < (l0.length:Int):=of_decide_eq_true (by first|(with_reducible assumption)|assumption)
          obtain ⟨ad352,e352,hx352_0,hx352_1⟩:=at_T60 HR0.out x7_1 p352 q352;obtain rfl:ad350 = ad352:=(by injection e352)
          replace hx352_0:=zS HB.out hx352_0;replace hx352_1:=zS HB.out hx352_1;replace p352:=eq_true p352;replace q352:=eq_true q352;go_wp2_with (first|((with_reducible refine gate_builtin (b := .append) (xs := #[.tmp 37,.tmp 43]) rfl ?_);at_builtin;refine Kd.R_append (Kd.int .i64) (w0:=w) w.heap.size rfl (.tmp 37) (.tmp 43) 40 3 (.int .i64 0) 8 rfl Try.underlying40 info3 rfl (by decide) (by omega) u6 x6_1 ((rd_T60 l0 x7_1).f0) [.int .i64 ((rd_T60 l0 x7_1).f0)] (fun _=>True) (fun _=>False) rfl rfl ?aP (fun _ hk=>hk.elim) ?aF ?aO ?aB ?aS ?aL ?_;(case aP=>exact rfl);(case aB=>exact (by repeat (first|(with_reducible first|exact HB.out|apply zD|apply zE|apply zF)|exact HB.out)));(case aF=>exact (fun _ _=>trivial));(case aO=>exact (by (with_reducible repeat (first|apply zA|apply zB|apply zC));exact HO_6.out));(case aS=>exact (zR (by repeat (first|(with_reducible first|exact HB.out|apply zD|apply zE|apply zF)|exact HB.out))));(case aL=>have:=LMc12.out;omega);intro v354 w13 ho hb hg hat;rw [← Ny353.out] at ho;have n0_:=zM (hb);have n1_:=zM (ho);clear HB;clear HO_6;have HB:=n0_;have HO355:=n1_;clear n0_ n1_;clear ho hb hg hat))
          repeat (go_quiet (first|((with_reducible refine gate_builtin (b := .append) (xs := #[.tmp 37,.tmp 43]) rfl ?_);at_builtin;refine Kd.R_append (Kd.int .i64) (w0:=w) w.heap.size rfl (.tmp 37) (.tmp 43) 40 3 (.int .i64 0) 8 rfl Try.underlying40 info3 rfl (by decide) (by omega) u6 x6_1 ((rd_T60 l0 x7_1).f0) [.int .i64 ((rd_T60 l0 x7_1).f0)] (fun _=>True) (fun _=>False) rfl rfl ?aP (fun _ hk=>hk.elim) ?aF ?aO ?aB ?aS ?aL ?_;(case aP=>exact rfl);(case aB=>exact (by repeat (first|(with_reducible first|exact HB.out|apply zD|apply zE|apply zF)|exact HB.out)));(case aF=>exact (fun _ _=>trivial));(case aO=>exact (by (with_reducible repeat (first|apply zA|apply zB|apply zC));exact HO_6.out));(case aS=>exact (zR (by repeat (first|(with_reducible first|exact HB.out|apply zD|apply zE|apply zF)|exact HB.out))));(case aL=>have:=LMc12.out;omega);intro v354 w13 ho hb hg hat;rw [← Ny353.out] at ho;have n0_:=zM (hb);have n1_:=zM (ho);clear HB;clear HO_6;have HB:=n0_;have HO355:=n1_;clear n0_ n1_;clear ho hb hg hat));try go_wp2_with (first|((with_reducible refine gate_builtin (b := .append) (xs := #[.tmp 37,.tmp 43]) rfl ?_);at_builtin;refine Kd.R_append (Kd.int .i64) (w0:=w) w.heap.size rfl (.tmp 37) (.tmp 43) 40 3 (.int .i64 0) 8 rfl Try.underlying40 info3 rfl (by decide) (by omega) u6 x6_1 ((rd_T60 l0 x7_1).f0) [.int .i64 ((rd_T60 l0 x7_1).f0)] (fun _=>True) (fun _=>False) rfl rfl ?aP (fun _ hk=>hk.elim) ?aF ?aO ?aB ?aS ?aL ?_;(case aP=>exact rfl);(case aB=>exact (by repeat (first|(with_reducible first|exact HB.out|apply zD|apply zE|apply zF)|exact HB.out)));(case aF=>exact (fun _ _=>trivial));(case aO=>exact (by (with_reducible repeat (first|apply zA|apply zB|apply zC));exact HO_6.out));(case aS=>exact (zR (by repeat (first|(with_reducible first|exact HB.out|apply zD|apply zE|apply zF)|exact HB.out))));(case aL=>have:=LMc12.out;omega);intro v354 w13 ho hb hg hat;rw [← Ny353.out] at ho;have n0_:=zM (hb);have n1_:=zM (ho);clear HB;clear HO_6;have HB:=n0_;have HO355:=n1_;clear n0_ n1_;clear ho hb hg hat)))
          go_roundg k1
          case measure=>have:=HK1.out;omega
          case rel=>exact ⟨(y353),(wrap64 (x7_1 + 1)),(by first|rfl|(simp;done)|(simp [*];done)),H',⟨by have:=HK1.out;omega⟩,⟨by (with_reducible repeat (first|apply zA|apply zB|apply zC));exact HO355.out⟩,⟨by repeat (first|(with_reducible first|exact HB.out|apply zD|apply zE|apply zF)|exact HB.out)⟩⟩
         ·rw [if_neg c12] at H
          exact absurd H (by simp)
        ·rw [if_neg c11] at H
         have c11b0:((decide (((rd_T60 l0 x7_1).f1) > ((rd_T60 l0 1).f1))) == a1) = false:=by simpa using c11
         (try (have c11b1:decide ((decide (((rd_T60 l0 x7_1).f1) > ((rd_T60 l0 1).f1))) = a1) = false:=by simpa using c11))
         (try (have c11b2:((decide (((rd_T60 l0 x7_1).f1) > ((rd_T60 l0 1).f1))) == a1) = false:=by simpa using c11))
         (try (have c11b3:¬ ((decide (((rd_T60 l0 x7_1).f1) > ((rd_T60 l0 1).f1))) = a1):=by simpa using c11))
         clear c11;have H':=zM H;clear H;have p350:0 ≤ (x7_1:Int):=of_decide_eq_true (by first|(with_reducible assumption)|assumption)
         have q350:x7_1 < (l0.length:Int):=of_decide_eq_true (by first|(with_reducible assumption)|assumption)
         obtain ⟨ad350,e350,hx350_0,hx350_1⟩:=at_T60 HR0.out x7_1 p350 q350;cases e350
         replace hx350_0:=zS HB.out hx350_0;replace hx350_1:=zS HB.out hx350_1;replace p350:=eq_true p350;replace q350:=eq_true q350;have p351:0 ≤ (1:Int):=(by omega)
         have q351:1 < (l0.length:Int):=of_decide_eq_true (by first|(with_reducible assumption)|assumption)
         obtain ⟨ad351,e351,hx351_0,hx351_1⟩:=at_T60 HR0.out 1 p351 q351;obtain rfl:ad350 = ad351:=(by injection e351)
         (try simp only [show (1:Int).toNat = 1 from rfl,Nat.reduceMul,Nat.reduceEqDiff,Go.Addr.add,↓reduceIte] at hx351_0)
         (try simp only [show (1:Int).toNat = 1 from rfl,Nat.reduceMul,Nat.reduceEqDiff,Go.Addr.add,↓reduceIte] at hx351_1)
         have qi351:(1 < l0.length) = True:=eq_true (by omega)
         (try rw [show ((1:Int)).toNat = 1 from rfl] at hx351_0)
         (try rw [show 1 * 2 = 2 from rfl] at hx351_0)
         (try rw [show ((1:Int)).toNat = 1 from rfl] at hx351_1)
         (try rw [show 1 * 2 = 2 from rfl] at hx351_1)
         replace hx351_0:=zS HB.out hx351_0;replace hx351_1:=zS HB.out hx351_1;replace p351:=eq_true p351;replace q351:=eq_true q351;go_wp2
         repeat (go_quiet (fail);try go_wp2)
         go_roundg k1
         case measure=>have:=HK1.out;omega
         case rel=>exact ⟨(x6_1),(wrap64 (x7_1 + 1)),(by first|rfl|(simp;done)|(simp [*];done)),H',⟨by have:=HK1.out;omega⟩,⟨by (with_reducible repeat (first|apply zA|apply zB|apply zC));exact HO_6.out⟩,⟨by repeat (first|(with_reducible first|exact HB.out|apply zD|apply zE|apply zF)|exact HB.out)⟩⟩
       ·rw [if_neg c10] at H
        exact absurd H (by simp)
      ·rw [if_neg c9] at H
       exact absurd H (by simp)
     ·rw [if_neg c8] at H
      have c8b0:(x7_1 == 0) = false:=beq_eq_false_iff_ne.mpr c8
      have c8b1:(x7_1 != 0) = true:=bne_iff_ne.mpr c8
      by_cases c14:0 ≤ x7_1
      ·rw [if_pos c14] at H
       have c14b0:decide (0 ≤ x7_1) = true:=decide_eq_true c14
       clear c14;obtain ⟨ji15,hji15⟩ : ∃ j_:Int,(wrap64 (x7_1 - 1)) = j_:=⟨_,rfl⟩
       replace H:(if 0 ≤ (ji15) then (if (ji15) < (l0.length:Int) then (if ((decide (((rd_T60 l0 x7_1).f1) > ((rd_T60 l0 (ji15)).f1))) == a1) = true then (if x6_1.length < 17592186044416 then (spec_TurningHours.l0 k1 l0 a1 (x6_1 ++ [(rd_T60 l0 x7_1).f0]) (wrap64 (x7_1 + 1))) else (none)) else (spec_TurningHours.l0 k1 l0 a1 x6_1 (wrap64 (x7_1 + 1)))) else (none)) else (none)) = some (r1,r2):=by first|(rw [hji15] at H;exact H)|(simp only [hji15] at H ⊢;exact H)
       have hji15w:(IntKind.i64.wrap (x7_1 - 1)) = ji15:=(i64_w _).trans hji15
       by_cases c16:0 ≤ (ji15)
       ·rw [if_pos c16] at H
        have c16b0:decide (0 ≤ (ji15)) = true:=decide_eq_true c16
        clear c16;by_cases c17:(ji15) < (l0.length:Int)
        ·rw [if_pos c17] at H
         have c17b0:decide ((ji15) < (l0.length:Int)) = true:=decide_eq_true c17
         clear c17;by_cases c18:((decide (((rd_T60 l0 x7_1).f1) > ((rd_T60 l0 (ji15)).f1))) == a1) = true
         ·rw [if_pos c18] at H
          have c18b0:((decide (((rd_T60 l0 x7_1).f1) > ((rd_T60 l0 (ji15)).f1))) == a1) = true:=c18
          (try (have c18b1:decide ((decide (((rd_T60 l0 x7_1).f1) > ((rd_T60 l0 (ji15)).f1))) = a1) = true:=by simpa using c18))
          (try (have c18b2:((decide (((rd_T60 l0 x7_1).f1) > ((rd_T60 l0 (ji15)).f1))) == a1) = true:=by simpa using c18))
          clear c18;by_cases c19:x6_1.length < 17592186044416
          ·rw [if_pos c19] at H
           have LMc19:=zM c19;clear c19;obtain ⟨y359,hy359⟩ : ∃ y_:List Int,y_ = (x6_1 ++ [(rd_T60 l0 x7_1).f0]):=⟨_,rfl⟩
           replace H:(spec_TurningHours.l0 k1 l0 a1 y359 (wrap64 (x7_1 + 1))) = some (r1,r2):=by first|(rw [hy359];with_reducible exact H)|(have H2_:=(Option.bind_some _ _).symm.trans H;rw [hy359];with_reducible exact H2_)|(have H2_:=(Option.bind_some _ _).symm.trans H;with_reducible exact H2_)|with_reducible exact H|(rw [hy359];exact H)|exact H
           have Ny359:=zM hy359;clear hy359;have H':=zM H;clear H;have p356:0 ≤ (x7_1:Int):=of_decide_eq_true (by first|(with_reducible assumption)|assumption)
           have q356:x7_1 < (l0.length:Int):=of_decide_eq_true (by first|(with_reducible assumption)|assumption)
           obtain ⟨ad356,e356,hx356_0,hx356_1⟩:=at_T60 HR0.out x7_1 p356 q356;cases e356
           replace hx356_0:=zS HB.out hx356_0;replace hx356_1:=zS HB.out hx356_1;replace p356:=eq_true p356;replace q356:=eq_true q356;have p357:0 ≤ ((ji15):Int):=of_decide_eq_true (by first|(with_reducible assumption)|assumption)
           have q357:(ji15) < (l0.length:Int):=of_decide_eq_true (by first|(with_reducible assumption)|assumption)
           obtain ⟨ad357,e357,hx357_0,hx357_1⟩:=at_T60 HR0.out (ji15) p357 q357;obtain rfl:ad356 = ad357:=(by injection e357)
           replace hx357_0:=zS HB.out hx357_0;replace hx357_1:=zS HB.out hx357_1;replace p357:=eq_true p357;replace q357:=eq_true q357;have p358:0 ≤ (x7_1:Int):=of_decide_eq_true (by first|(with_reducible assumption)|assumption)
           have q358:x7_1 < (l0.length:Int):=of_decide_eq_true (by first|(with_reducible assumption)|assumption)
           obtain ⟨ad358,e358,hx358_0,hx358_1⟩:=at_T60 HR0.out x7_1 p358 q358;obtain rfl:ad356 = ad358:=(by injection e358)
           replace hx358_0:=zS HB.out hx358_0;replace hx358_1:=zS HB.out hx358_1;replace p358:=eq_true p358;replace q358:=eq_true q358;go_wp2_with (first|((with_reducible refine gate_builtin (b := .append) (xs := #[.tmp 37,.tmp 43]) rfl ?_);at_builtin;refine Kd.R_append (Kd.int .i64) (w0:=w) w.heap.size rfl (.tmp 37) (.tmp 43) 40 3 (.int .i64 0) 8 rfl Try.underlying40 info3 rfl (by decide) (by omega) u6 x6_1 ((rd_T60 l0 x7_1).f0) [.int .i64 ((rd_T60 l0 x7_1).f0)] (fun _=>True) (fun _=>False) rfl rfl ?aP (fun _ hk=>hk.elim) ?aF ?aO ?aB ?aS ?aL ?_;(case aP=>exact rfl);(case aB=>exact (by repeat (first|(with_reducible first|exact HB.out|apply zD|apply zE|apply zF)|exact HB.out)));(case aF=>exact (fun _ _=>trivial));(case aO=>exact (by (with_reducible repeat (first|apply zA|apply zB|apply zC));exact HO_6.out));(case aS=>exact (zR (by repeat (first|(with_reducible first|exact HB.out|apply zD|apply zE|apply zF)|exact HB.out))));(case aL=>have:=LMc19.out;omega);intro v360 w20 ho hb hg hat;rw [← Ny359.out] at ho;have n0_:=zM (hb);have n1_:=zM (ho);clear HB;clear HO_6;have HB:=n0_;have HO361:=n1_;clear n0_ n1_;clear ho hb hg hat))
           repeat (go_quiet (first|((with_reducible refine gate_builtin (b := .append) (xs := #[.tmp 37,.tmp 43]) rfl ?_);at_builtin;refine Kd.R_append (Kd.int .i64) (w0:=w) w.heap.size rfl (.tmp 37) (.tmp 43) 40 3 (.int .i64 0) 8 rfl Try.underlying40 info3 rfl (by decide) (by omega) u6 x6_1 ((rd_T60 l0 x7_1).f0) [.int .i64 ((rd_T60 l0 x7_1).f0)] (fun _=>True) (fun _=>False) rfl rfl ?aP (fun _ hk=>hk.elim) ?aF ?aO ?aB ?aS ?aL ?_;(case aP=>exact rfl);(case aB=>exact (by repeat (first|(with_reducible first|exact HB.out|apply zD|apply zE|apply zF)|exact HB.out)));(case aF=>exact (fun _ _=>trivial));(case aO=>exact (by (with_reducible repeat (first|apply zA|apply zB|apply zC));exact HO_6.out));(case aS=>exact (zR (by repeat (first|(with_reducible first|exact HB.out|apply zD|apply zE|apply zF)|exact HB.out))));(case aL=>have:=LMc19.out;omega);intro v360 w20 ho hb hg hat;rw [← Ny359.out] at ho;have n0_:=zM (hb);have n1_:=zM (ho);clear HB;clear HO_6;have HB:=n0_;have HO361:=n1_;clear n0_ n1_;clear ho hb hg hat));try go_wp2_with (first|((with_reducible refine gate_builtin (b := .append) (xs := #[.tmp 37,.tmp 43]) rfl ?_);at_builtin;refine Kd.R_append (Kd.int .i64) (w0:=w) w.heap.size rfl (.tmp 37) (.tmp 43) 40 3 (.int .i64 0) 8 rfl Try.underlying40 info3 rfl (by decide) (by omega) u6 x6_1 ((rd_T60 l0 x7_1).f0) [.int .i64 ((rd_T60 l0 x7_1).f0)] (fun _=>True) (fun _=>False) rfl rfl ?aP (fun _ hk=>hk.elim) ?aF ?aO ?aB ?aS ?aL ?_;(case aP=>exact rfl);(case aB=>exact (by repeat (first|(with_reducible first|exact HB.out|apply zD|apply zE|apply zF)|exact HB.out)));(case aF=>exact (fun _ _=>trivial));(case aO=>exact (by (with_reducible repeat (first|apply zA|apply zB|apply zC));exact HO_6.out));(case aS=>exact (zR (by repeat (first|(with_reducible first|exact HB.out|apply zD|apply zE|apply zF)|exact HB.out))));(case aL=>have:=LMc19.out;omega);intro v360 w20 ho hb hg hat;rw [← Ny359.out] at ho;have n0_:=zM (hb);have n1_:=zM (ho);clear HB;clear HO_6;have HB:=n0_;have HO361:=n1_;clear n0_ n1_;clear ho hb hg hat)))
           go_roundg k1
           case measure=>have:=HK1.out;omega
           case rel=>exact ⟨(y359),(wrap64 (x7_1 + 1)),(by first|rfl|(simp;done)|(simp [*];done)),H',⟨by have:=HK1.out;omega⟩,⟨by (with_reducible repeat (first|apply zA|apply zB|apply zC));exact HO361.out⟩,⟨by repeat (first|(with_reducible first|exact HB.out|apply zD|apply zE|apply zF)|exact HB.out)⟩⟩
          ·rw [if_neg c19] at H
           exact absurd H (by simp)
         ·rw [if_neg c18] at H
          have c18b0:((decide (((rd_T60 l0 x7_1).f1) > ((rd_T60 l0 (ji15)).f1))) == a1) = false:=by simpa using c18
          (try (have c18b1:decide ((decide (((rd_T60 l0 x7_1).f1) > ((rd_T60 l0 (ji15)).f1))) = a1) = false:=by simpa using c18))
          (try (have c18b2:((decide (((rd_T60 l0 x7_1).f1) > ((rd_T60 l0 (ji15)).f1))) == a1) = false:=by simpa using c18))
          (try (have c18b3:¬ ((decide (((rd_T60 l0 x7_1).f1) > ((rd_T60 l0 (ji15)).f1))) = a1):=by simpa using c18))
          clear c18;have H':=zM H;clear H;have p356:0 ≤ (x7_1:Int):=of_decide_eq_true (by first|(with_reducible assumption)|assumption)
          have q356:x7_1 < (l0.length:Int):=of_decide_eq_true (by first|(with_reducible assumption)|assumption)
          obtain ⟨ad356,e356,hx356_0,hx356_1⟩:=at_T60 HR0.out x7_1 p356 q356;cases e356
          replace hx356_0:=zS HB.out hx356_0;replace hx356_1:=zS HB.out hx356_1;replace p356:=eq_true p356;replace q356:=eq_true q356;have p357:0 ≤ ((ji15):Int):=of_decide_eq_true (by first|(with_reducible assumption)|assumption)
          have q357:(ji15) < (l0.length:Int):=of_decide_eq_true (by first|(with_reducible assumption)|assumption)
          obtain ⟨ad357,e357,hx357_0,hx357_1⟩:=at_T60 HR0.out (ji15) p357 q357;obtain rfl:ad356 = ad357:=(by injection e357)
          replace hx357_0:=zS HB.out hx357_0;replace hx357_1:=zS HB.out hx357_1;replace p357:=eq_true p357;replace q357:=eq_true q357;go_wp2
          repeat (go_quiet (fail);try go_wp2)
          go_roundg k1
          case measure=>have:=HK1.out;omega
          case rel=>exact ⟨(x6_1),(wrap64 (x7_1 + 1)),(by first|rfl|(simp;done)|(simp [*];done)),H',⟨by have:=HK1.out;omega⟩,⟨by (with_reducible repeat (first|apply zA|apply zB|apply zC));exact HO_6.out⟩,⟨by repeat (first|(with_reducible first|exact HB.out|apply zD|apply zE|apply zF)|exact HB.out)⟩⟩
        ·rw [if_neg c17] at H
         exact absurd H (by simp)
       ·rw [if_neg c16] at H
        exact absurd H (by simp)
      ·rw [if_neg c14] at H
       exact absurd H (by simp)
    ·rw [if_neg c7] at H
     have c7b0:decide (x7_1 < (l0.length:Int)) = false:=decide_eq_false c7
     clear c7;simp only [Option.some.injEq,Prod.mk.injEq] at H
     obtain ⟨rfl,rfl⟩:=H;go_wp2
     repeat (go_quiet (fail);try go_wp2)
     go_ret2
     exact ⟨_,by first|rfl|(simp [errW_none,errW_some] <;> rfl)|(simp [*,errW_none,errW_some] <;> rfl),by (with_reducible repeat (first|apply zA|apply zB|apply zC));exact HO_6.out,by repeat (first|(with_reducible first|exact HB.out|apply zD|apply zE|apply zF)|exact HB.out)⟩
 ·replace c4:=Bool.eq_false_iff.mpr c4
  subst c4;have H1:(some (y346,false)) = some (r1,r2):=by rw [if_neg (show ¬ (false = true) by decide)] at H;exact H
  clear H;have H:=H1;clear H1;simp only [Option.some.injEq,Prod.mk.injEq] at H
  obtain ⟨rfl,rfl⟩:=H;go_enter Try.func29,Try.ntmps29
  go_wp2_with (first|((with_reducible refine gate_dst (N:=9) rfl ?_);refine Kd.R_lit (Kd.int .i64) _ 3 ?hg (N:=9) ?hd (xs:=([]:List Int)) (inner:=[]) (ok:=fun _=>True) (okp:=fun _=>True) ?hr ?hp (fun _ hk=>hk) trivial (Below.refl _ _) (Nat.le_refl _) (by simp) ?_;(case hd=>rfl);(case hg=>rfl);(case hr=>first|(go_simp;done)|(go_simp;rfl));(case hp=>exact (Reps.none _ _));intro v347 w21 ho22 hb hg_ hnew_;clear hg_ hnew_;(first|rw [← Ny346.out] at ho22|(simp only [Int.reduceToNat] at ho22;rw [← Ny346.out] at ho22));have n0_:=zM (Kd.R_lower ho22 (zR (by repeat (first|(with_reducible first|exact HB.out|apply zD|apply zE|apply zF)|exact HB.out))));have n1_:=zM (zQ (by repeat (first|(with_reducible first|exact HB.out|apply zD|apply zE|apply zF)|exact HB.out)) hb);clear HB;have HO348:=n0_;have HB:=n1_;clear n0_ n1_;clear hb ho22)|(go_at_call 52;(with_reducible refine (spec_l15Good.calls k _ _ l0 false _ ?side1 ?side2 A3.out).mono ?_);(case side1=>repeat (first|exact (zO HR0.out HB.out)|(with_reducible first|refine zG ?_ _|refine zH ?_ _|refine zI ?_)));(case side2=>exact HC0.out);rintro e w' ⟨rfl,⟨nd,rfl⟩⟩;(try first|exact ⟨rfl,_,World.drewN_drewN _ _ _⟩|exact ⟨rfl,_,zW _ _ _ _⟩)))
  repeat (go_quiet (first|((with_reducible refine gate_dst (N:=9) rfl ?_);refine Kd.R_lit (Kd.int .i64) _ 3 ?hg (N:=9) ?hd (xs:=([]:List Int)) (inner:=[]) (ok:=fun _=>True) (okp:=fun _=>True) ?hr ?hp (fun _ hk=>hk) trivial (Below.refl _ _) (Nat.le_refl _) (by simp) ?_;(case hd=>rfl);(case hg=>rfl);(case hr=>first|(go_simp;done)|(go_simp;rfl));(case hp=>exact (Reps.none _ _));intro v347 w21 ho22 hb hg_ hnew_;clear hg_ hnew_;(first|rw [← Ny346.out] at ho22|(simp only [Int.reduceToNat] at ho22;rw [← Ny346.out] at ho22));have n0_:=zM (Kd.R_lower ho22 (zR (by repeat (first|(with_reducible first|exact HB.out|apply zD|apply zE|apply zF)|exact HB.out))));have n1_:=zM (zQ (by repeat (first|(with_reducible first|exact HB.out|apply zD|apply zE|apply zF)|exact HB.out)) hb);clear HB;have HO348:=n0_;have HB:=n1_;clear n0_ n1_;clear hb ho22)|(go_at_call 52;(with_reducible refine (spec_l15Good.calls k _ _ l0 false _ ?side1 ?side2 A3.out).mono ?_);(case side1=>repeat (first|exact (zO HR0.out HB.out)|(with_reducible first|refine zG ?_ _|refine zH ?_ _|refine zI ?_)));(case side2=>exact HC0.out);rintro e w' ⟨rfl,⟨nd,rfl⟩⟩;(try first|exact ⟨rfl,_,World.drewN_drewN _ _ _⟩|exact ⟨rfl,_,zW _ _ _ _⟩)));try go_wp2_with (first|((with_reducible refine gate_dst (N:=9) rfl ?_);refine Kd.R_lit (Kd.int .i64) _ 3 ?hg (N:=9) ?hd (xs:=([]:List Int)) (inner:=[]) (ok:=fun _=>True) (okp:=fun _=>True) ?hr ?hp (fun _ hk=>hk) trivial (Below.refl _ _) (Nat.le_refl _) (by simp) ?_;(case hd=>rfl);(case hg=>rfl);(case hr=>first|(go_simp;done)|(go_simp;rfl));(case hp=>exact (Reps.none _ _));intro v347 w21 ho22 hb hg_ hnew_;clear hg_ hnew_;(first|rw [← Ny346.out] at ho22|(simp only [Int.reduceToNat] at ho22;rw [← Ny346.out] at ho22));have n0_:=zM (Kd.R_lower ho22 (zR (by repeat (first|(with_reducible first|exact HB.out|apply zD|apply zE|apply zF)|exact HB.out))));have n1_:=zM (zQ (by repeat (first|(with_reducible first|exact HB.out|apply zD|apply zE|apply zF)|exact HB.out)) hb);clear HB;have HO348:=n0_;have HB:=n1_;clear n0_ n1_;clear hb ho22)|(go_at_call 52;(with_reducible refine (spec_l15Good.calls k _ _ l0 false _ ?side1 ?side2 A3.out).mono ?_);(case side1=>repeat (first|exact (zO HR0.out HB.out)|(with_reducible first|refine zG ?_ _|refine zH ?_ _|refine zI ?_)));(case side2=>exact HC0.out);rintro e w' ⟨rfl,⟨nd,rfl⟩⟩;(try first|exact ⟨rfl,_,World.drewN_drewN _ _ _⟩|exact ⟨rfl,_,zW _ _ _ _⟩))))
  go_ret2
  exact ⟨_,by first|rfl|(simp [errW_none,errW_some] <;> rfl)|(simp [*,errW_none,errW_some] <;> rfl),by (with_reducible repeat (first|apply zA|apply zB|apply zC));exact HO348.out,by repeat (first|(with_reducible first|exact HB.out|apply zD|apply zE|apply zF)|exact HB.out)⟩



theorem impl_TurningHours.set_same (w:World) (g o:Nat) (v v':Value):(w.setCell ⟨g,o,none⟩ v).setCell ⟨g,o,none⟩ v' = w.setCell ⟨g,o,none⟩ v':=by
 have h:∀ (x:Array Obj) (i:Nat) (f f':Obj → Obj),(x.modify i f).modify i f' = x.modify i (f' ∘ f):=by
  intro x i f f';apply Array.ext
  ·simp
  ·intro j h1 h2
   simp only [Array.getElem_modify]
   by_cases e:i = j <;> simp [e]
 unfold World.setCell
 simp only [h]
 congr 2
 funext o'
 cases o' <;> simp [Array.setIfInBounds_setIfInBounds]
theorem impl_TurningHours.set_back (w:World) (g:Nat) (a b c:Value):((w.setCell ⟨g,0,none⟩ a).setCell ⟨g,1,none⟩ b).setCell ⟨g,0,none⟩ c = (w.setCell ⟨g,0,none⟩ c).setCell ⟨g,1,none⟩ b:=by
 have h:∀ (x:Array Obj) (i:Nat) (f f':Obj → Obj),(x.modify i f).modify i f' = x.modify i (f' ∘ f):=by
  intro x i f f';apply Array.ext
  ·simp
  ·intro j h1 h2
   simp only [Array.getElem_modify]
   by_cases e:i = j <;> simp [e]
 unfold World.setCell
 simp only [h]
 congr 2
 funext o'
 cases o' with
 | cells cs e fr =>
  simp only [Function.comp,Option.isSome_none,Bool.false_eq_true,if_false]
  rw [Array.setIfInBounds_comm b c (show (1:Nat) ≠ 0 by omega),Array.setIfInBounds_setIfInBounds]
 | _=>rfl
theorem impl_TurningHours.cell_back (w:World) (g:Nat) (a b c d u:Value) (h:w.cell? ⟨g,1,none⟩ = some u):((((w.setCell ⟨g,0,none⟩ a).setCell ⟨g,1,none⟩ b).setCell ⟨g,0,none⟩ c).setCell ⟨g,1,none⟩ d).cell? ⟨g,1,none⟩ = some d:=by
 rw [impl_TurningHours.set_back,impl_TurningHours.set_same]
 simp only [World.cell?,World.setCell,Array.getElem?_modify,if_true] at h ⊢
 cases hb:w.heap[g]? with
 | none=>rw [hb] at h;simp at h
 | some o =>
  rw [hb] at h;cases o with
  | cells cs e fr =>
   have hl:1 < cs.size:=by
    apply Classical.byContradiction
    intro hn;simp at h
    rw [Array.getElem?_eq_none (by omega)] at h
    cases h
   simp [hl]
  | _=>simp at h
attribute [local go_sem] impl_TurningHours.cell_back
/-! ### impl_TurningHours: function 30 -/
def impl_TurningHours.l0:Nat → List (S60) → Bool → List Int → List (S60) → Int → Int → Option (List Int × Bool)
 | 0,_,_,_,_,_,_=>none
 | k + 1,x0,x1,x6,x14,x15,x16=>if x16 < x15 then (if 0 ≤ x16 then (if x16 < (x14.length:Int) then (if 1 < (x0.length:Int) then (if x16 > 0 then (if 0 ≤ (wrap64 (x16 - 1)) then (if (wrap64 (x16 - 1)) < (x0.length:Int) then (if ((decide (((rd_T60 x14 x16).f1) > ((rd_T60 x0 (wrap64 (x16 - 1))).f1))) == x1) = true then (if x6.length < 17592186044416 then (impl_TurningHours.l0 k x0 x1 (x6 ++ [(rd_T60 x14 x16).f0]) x14 x15 (wrap64 (x16 + 1))) else (none)) else (impl_TurningHours.l0 k x0 x1 x6 x14 x15 (wrap64 (x16 + 1)))) else (none)) else (none)) else (if ((decide (((rd_T60 x14 x16).f1) > ((rd_T60 x0 1).f1))) == x1) = true then (if x6.length < 17592186044416 then (impl_TurningHours.l0 k x0 x1 (x6 ++ [(rd_T60 x14 x16).f0]) x14 x15 (wrap64 (x16 + 1))) else (none)) else (impl_TurningHours.l0 k x0 x1 x6 x14 x15 (wrap64 (x16 + 1))))) else (none)) else (none)) else (none)) else (some (x6,true))
def impl_TurningHours.f (k:Nat) (l0:List (S60)) (a1:Bool):Option (List Int × Bool):=(impl_IsValidTides.f k l0).bind fun t362=>(if t362 = true then (impl_TurningHours.l0 k l0 a1 (([]:List Int)) l0 (l0.length:Int) 0) else (some (([]:List Int),false)))
set_option maxHeartbeats 8000000 in
set_option maxRecDepth 100000 in
theorem impl_TurningHours.calls (k:Nat) (A0:Option Addr) (c0:Nat) (l0:List (S60)) (a1:Bool) (r1:List Int) (r2:Bool) (w:World) (hr0:Kd.C k60 w A0 l0.length l0) (hc0:l0.length ≤ c0) (h:impl_TurningHours.f k l0 a1 = some (r1,r2)) :
  Calls Try.prog 30 #[.slice A0 l0.length c0,.bool a1] w fun e w' => ∃ v0_:Value,e = .returned (.tuple #[v0_,.bool r2]) ∧ Kd.R (Kd.int .i64) 3 w' w.heap.size (fun _=>True) v0_ r1 ∧ Below w.heap.size w w':=by
 have hu60:=Try.underlying60;have HR0:=zM hr0;have HC0:=zM hc0;clear hr0 hc0;have HB:=zM (Below.refl w.heap.size w);have H:((impl_IsValidTides.f k l0).bind fun t362=>(if t362 = true then (impl_TurningHours.l0 k l0 a1 (([]:List Int)) l0 (l0.length:Int) 0) else (some (([]:List Int),false)))) = some (r1,r2):=h
 clear h;replace H:=Option.bind_eq_some_iff.mp H;obtain ⟨t362,A30,H⟩:=H;replace H:(if t362 = true then (impl_TurningHours.l0 k l0 a1 (([]:List Int)) l0 (l0.length:Int) 0) else (some (([]:List Int),false))) = some (r1,r2):=H
 have A3:=zM A30;clear A30;by_cases c4:t362 = true
 ·subst c4
  have H1:(impl_TurningHours.l0 k l0 a1 (([]:List Int)) l0 (l0.length:Int) 0) = some (r1,r2):=by rw [if_pos rfl] at H;exact H
  clear H;have H:=H1;clear H1;obtain ⟨y363,hy363⟩ : ∃ y_:List Int,y_ = (([]:List Int)):=⟨_,rfl⟩
  replace H:(impl_TurningHours.l0 k l0 a1 y363 l0 (l0.length:Int) 0) = some (r1,r2):=by first|(rw [hy363];with_reducible exact H)|(have H2_:=(Option.bind_some _ _).symm.trans H;rw [hy363];with_reducible exact H2_)|(have H2_:=(Option.bind_some _ _).symm.trans H;with_reducible exact H2_)|with_reducible exact H|(rw [hy363];exact H)|exact H
  have Ny363:=zM hy363;clear hy363;have H':=zM H;clear H;go_enter Try.func30,Try.ntmps30
  go_wp2_with (first|((with_reducible refine gate_callee (f:=17) rfl ?_);refine goesL_ (some 11) rfl rfl Try.func17 (by kernel_rfl) rfl #[.slice A0 l0.length c0] rfl (by (try simp only [List.map_toArray,List.map_cons,List.map_nil]);first|done|rfl|(simp only [List.length_drop,List.length_take];rfl)) ?_;(with_reducible refine (impl_IsValidTides.calls k _ _ l0 true _ ?side1 ?side2 A3.out).mono ?_);(case side1=>repeat (first|exact HR0.out|(with_reducible first|refine zG ?_ _|refine zH ?_ _|refine zI ?_)));(case side2=>exact HC0.out);rintro e w5 ⟨rfl,hb⟩;refine ⟨_,rfl,?_⟩;have n0_:=zM (zQ (by repeat (first|(with_reducible first|exact HB.out|apply zD|apply zE|apply zF)|exact HB.out)) hb);clear HB;have HB:=n0_;clear n0_;(try clear hb);(try clear hb2);(try clear hk);(try clear hi))|((with_reducible refine gate_dst (N:=13) rfl ?_);refine Kd.R_lit (Kd.int .i64) _ 3 ?hg (N:=13) ?hd (xs:=([]:List Int)) (inner:=[]) (ok:=fun _=>True) (okp:=fun _=>True) ?hr ?hp (fun _ hk=>hk) trivial (Below.refl _ _) (Nat.le_refl _) (by simp) ?_;(case hd=>rfl);(case hg=>rfl);(case hr=>first|(go_simp;done)|(go_simp;rfl));(case hp=>exact (Reps.none _ _));intro v364 w6 ho7 hb hg_ hnew_;clear hg_ hnew_;(first|rw [← Ny363.out] at ho7|(simp only [Int.reduceToNat] at ho7;rw [← Ny363.out] at ho7));have n0_:=zM (Kd.R_lower ho7 (zR (by repeat (first|(with_reducible first|exact HB.out|apply zD|apply zE|apply zF)|exact HB.out))));have n1_:=zM (zQ (by repeat (first|(with_reducible first|exact HB.out|apply zD|apply zE|apply zF)|exact HB.out)) hb);clear HB;have HO365:=n0_;have HB:=n1_;clear n0_ n1_;clear hb ho7))
  go_loopg [6,16] k (fun kq v6 v16 w' => ∃ (x6_1:List Int) (x16_1:Int),v16 = .int .i64 x16_1 ∧ Aside0 (impl_TurningHours.l0 kq l0 a1 x6_1 l0 (l0.length:Int) x16_1 = some (r1,r2)) ∧ Aside0 (kq ≤ k) ∧ Aside0 (Kd.R (Kd.int .i64) 3 w' w.heap.size (fun _=>True) v6 x6_1) ∧ Aside0 (Below w.heap.size w w'))
  case atStart=>exact ⟨(y363),(0),(by first|rfl|(simp;done)|(simp [*];done)),H',⟨Nat.le_refl _⟩,⟨by (with_reducible repeat (first|apply zA|apply zB|apply zC));exact HO365.out⟩,⟨by repeat (first|(with_reducible first|exact HB.out|apply zD|apply zE|apply zF)|exact HB.out)⟩⟩
  case round =>
   clear H';(try clear c1);(try clear p2);(try clear c3);(try clear c4);obtain ⟨x6_1,x16_1,rfl,HA,HK1,HO_6,HB⟩:=hrel;cases gk with
   | zero=>exact absurd HA.out (by simp [impl_TurningHours.l0])
   | succ k1 =>
    have H:=HA.out;clear HA;simp only [impl_TurningHours.l0] at H
    by_cases c8:x16_1 < (l0.length:Int)
    ·rw [if_pos c8] at H
     have c8b0:decide (x16_1 < (l0.length:Int)) = true:=decide_eq_true c8
     clear c8;by_cases c9:0 ≤ x16_1
     ·rw [if_pos c9] at H
      have c9b0:decide (0 ≤ x16_1) = true:=decide_eq_true c9
      clear c9;by_cases c10:x16_1 < (l0.length:Int)
      ·rw [if_pos c10] at H
       have c10b0:decide (x16_1 < (l0.length:Int)) = true:=decide_eq_true c10
       clear c10;by_cases c11:1 < (l0.length:Int)
       ·rw [if_pos c11] at H
        have c11b0:decide (1 < (l0.length:Int)) = true:=decide_eq_true c11
        have c11b1:decide (1 < l0.length) = true:=decide_eq_true (by omega)
        clear c11;by_cases c12:x16_1 > 0
        ·rw [if_pos c12] at H
         have c12b0:decide (0 < x16_1) = true:=decide_eq_true c12
         clear c12;obtain ⟨ji13,hji13⟩ : ∃ j_:Int,(wrap64 (x16_1 - 1)) = j_:=⟨_,rfl⟩
         replace H:(if 0 ≤ (ji13) then (if (ji13) < (l0.length:Int) then (if ((decide (((rd_T60 l0 x16_1).f1) > ((rd_T60 l0 (ji13)).f1))) == a1) = true then (if x6_1.length < 17592186044416 then (impl_TurningHours.l0 k1 l0 a1 (x6_1 ++ [(rd_T60 l0 x16_1).f0]) l0 (l0.length:Int) (wrap64 (x16_1 + 1))) else (none)) else (impl_TurningHours.l0 k1 l0 a1 x6_1 l0 (l0.length:Int) (wrap64 (x16_1 + 1)))) else (none)) else (none)) = some (r1,r2):=by first|(rw [hji13] at H;exact H)|(simp only [hji13] at H ⊢;exact H)
         have hji13w:(IntKind.i64.wrap (x16_1 - 1)) = ji13:=(i64_w _).trans hji13
         by_cases c14:0 ≤ (ji13)
         ·rw [if_pos c14] at H
          have c14b0:decide (0 ≤ (ji13)) = true:=decide_eq_true c14
          clear c14;by_cases c15:(ji13) < (l0.length:Int)
          ·rw [if_pos c15] at H
           have c15b0:decide ((ji13) < (l0.length:Int)) = true:=decide_eq_true c15
           clear c15;by_cases c16:((decide (((rd_T60 l0 x16_1).f1) > ((rd_T60 l0 (ji13)).f1))) == a1) = true
           ·rw [if_pos c16] at H
            have c16b0:((decide (((rd_T60 l0 x16_1).f1) > ((rd_T60 l0 (ji13)).f1))) == a1) = true:=c16
            (try (have c16b1:decide ((decide (((rd_T60 l0 x16_1).f1) > ((rd_T60 l0 (ji13)).f1))) = a1) = true:=by simpa using c16))
            (try (have c16b2:((decide (((rd_T60 l0 x16_1).f1) > ((rd_T60 l0 (ji13)).f1))) == a1) = true:=by simpa using c16))
            clear c16;by_cases c17:x6_1.length < 17592186044416
            ·rw [if_pos c17] at H
             have LMc17:=zM c17;clear c17;obtain ⟨y371,hy371⟩ : ∃ y_:List Int,y_ = (x6_1 ++ [(rd_T60 l0 x16_1).f0]):=⟨_,rfl⟩
             replace H:(impl_TurningHours.l0 k1 l0 a1 y371 l0 (l0.length:Int) (wrap64 (x16_1 + 1))) = some (r1,r2):=by first|(rw [hy371];with_reducible exact H)|(have H2_:=(Option.bind_some _ _).symm.trans H;rw [hy371];with_reducible exact H2_)|(have H2_:=(Option.bind_some _ _).symm.trans H;with_reducible exact H2_)|with_reducible exact H|(rw [hy371];exact H)|exact H
             have Ny371:=zM hy371;clear hy371;have H':=zM H;clear H;have p366:0 ≤ (x16_1:Int):=of_decide_eq_true (by first|(with_reducible assumption)|assumption)
             have q366:x16_1 < (l0.length:Int):=of_decide_eq_true (by first|(with_reducible assumption)|assumption)
             obtain ⟨ad366,e366,hx366_0,hx366_1⟩:=at_T60 HR0.out x16_1 p366 q366;cases e366
             replace hx366_0:=zS HB.out hx366_0;replace hx366_1:=zS HB.out hx366_1;replace p366:=eq_true p366;replace q366:=eq_true q366;go_wp2_with (first|((with_reducible refine gate_dst (N:=8) rfl ?_);refine box_event ?hg (N:=8) ?hd (cs := #[.int .i64 0,.int .i64 0]) (t:=60) ?hr ?_;(case hd=>rfl);(case hg=>rfl);(case hr=>first|(go_simp;done)|(go_simp;rfl));intro gb367 hg w18 hbox hb;have n0_:=zM (zP (by (with_reducible repeat (first|apply zA|apply zB|apply zC));exact HO_6.out) hb);have n1_:=zM (zQ (by repeat (first|(with_reducible first|exact HB.out|apply zD|apply zE|apply zF)|exact HB.out)) hb);have n2_:=zM (hbox);have n3_:=zM ((by rw [hg];exact (zR (by repeat (first|(with_reducible first|exact HB.out|apply zD|apply zE|apply zF)|exact HB.out))):w.heap.size ≤ gb367));have n4_:=zM ((by rw [hg];exact (zR (by repeat (first|(with_reducible first|exact HB.out|apply zD|apply zE|apply zF)|exact HB.out))):w.heap.size ≤ gb367));clear HO_6;clear HB;have HO_6:=n0_;have HB:=n1_;have BK367:=n2_;have GW367:=n3_;have GE367:=n4_;clear n0_ n1_ n2_ n3_ n4_;clear hb hbox hg;have hcz19_0:w18.cell? ⟨gb367,0,none⟩ = some (.int .i64 0):=(blk_cell BK367.out 0).trans rfl;have hcz19_1:w18.cell? ⟨gb367,1,none⟩ = some (.int .i64 0):=(blk_cell BK367.out 1).trans rfl;have hfz19_0:=blk_frozen BK367.out 0;have hfz19_1:=blk_frozen BK367.out 1;have p368:0 ≤ (1:Int):=(by omega);have q368:1 < (l0.length:Int):=of_decide_eq_true (by first|(with_reducible assumption)|assumption);obtain ⟨ad368,e368,hx368_0,hx368_1⟩:=at_T60 HR0.out 1 p368 q368;obtain rfl:ad366 = ad368:=(by injection e368);(try simp only [show (1:Int).toNat = 1 from rfl,Nat.reduceMul,Nat.reduceEqDiff,Go.Addr.add,↓reduceIte] at hx368_0);(try simp only [show (1:Int).toNat = 1 from rfl,Nat.reduceMul,Nat.reduceEqDiff,Go.Addr.add,↓reduceIte] at hx368_1);have qi368:(1 < l0.length) = True:=eq_true (by omega);(try rw [show ((1:Int)).toNat = 1 from rfl] at hx368_0);(try rw [show 1 * 2 = 2 from rfl] at hx368_0);(try rw [show ((1:Int)).toNat = 1 from rfl] at hx368_1);(try rw [show 1 * 2 = 2 from rfl] at hx368_1);have hn368_0:ad366.block ≠ gb367:=Nat.ne_of_lt (Nat.lt_of_lt_of_le (by have:=World.block_lt_of_cell? _ _ hx368_0;first|rwa [add_block] at this|exact this) GW367.out);have hn368_1:ad366.block ≠ gb367:=Nat.ne_of_lt (Nat.lt_of_lt_of_le (by have:=World.block_lt_of_cell? _ _ hx368_0;first|rwa [add_block] at this|exact this) GW367.out);replace hx368_0:=zS HB.out hx368_0;replace hx368_1:=zS HB.out hx368_1;replace hx368_0:=(cell_far (p:=⟨gb367,0,none⟩) (by first|(rw [add_block];exact hn368_0)|(show (Addr.add _ _).block ≠ _;rw [add_block];exact hn368_0)|exact hn368_0) (.int .i64 ((rd_T60 l0 x16_1).f0))).trans hx368_0;replace hx368_1:=(cell_far (p:=⟨gb367,0,none⟩) (by first|(rw [add_block];exact hn368_0)|(show (Addr.add _ _).block ≠ _;rw [add_block];exact hn368_0)|exact hn368_0) (.int .i64 ((rd_T60 l0 x16_1).f0))).trans hx368_1;replace hx368_0:=(cell_far (p:=⟨gb367,1,none⟩) (by first|(rw [add_block];exact hn368_1)|(show (Addr.add _ _).block ≠ _;rw [add_block];exact hn368_1)|exact hn368_1) (.int .i64 ((rd_T60 l0 x16_1).f1))).trans hx368_0;replace hx368_1:=(cell_far (p:=⟨gb367,1,none⟩) (by first|(rw [add_block];exact hn368_1)|(show (Addr.add _ _).block ≠ _;rw [add_block];exact hn368_1)|exact hn368_1) (.int .i64 ((rd_T60 l0 x16_1).f1))).trans hx368_1;clear hn368_0;clear hn368_1;replace p368:=eq_true p368;replace q368:=eq_true q368)|((with_reducible refine gate_dst (N:=9) rfl ?_);refine box_event ?hg (N:=9) ?hd (cs := #[.int .i64 0,.int .i64 0]) (t:=60) ?hr ?_;(case hd=>rfl);(case hg=>rfl);(case hr=>first|(go_simp;done)|(go_simp;rfl));intro gb369 hg w20 hbox hb;have n0_:=zM (zP (by (with_reducible repeat (first|apply zA|apply zB|apply zC));exact (Kd.R_mono (Kd.R_far (p:=⟨gb367,1,none⟩) (Kd.R_far (p:=⟨gb367,0,none⟩) (Kd.R_types HO_6.out BK367.out (by decide)) (fun _ hk=>hk.2) (.int .i64 ((rd_T60 l0 x16_1).f0))) (fun _ hk=>hk.2) (.int .i64 ((rd_T60 l0 x16_1).f1))) (fun _ h_=>h_.1))) hb);have n1_:=zM (blk_below (g:=gb367) (o := .cells #[.int .i64 ((rd_T60 l0 x16_1).f0),.int .i64 ((rd_T60 l0 x16_1).f1)] 60 (0,0)) (by (with_reducible repeat (first|refine zJ ?_ _|refine zK ?_|refine zL ?_ _));refine blk_put (cs := #[.int .i64 ((rd_T60 l0 x16_1).f0),.int .i64 0]) ?_ 1 _ rfl;(with_reducible repeat (first|refine zJ ?_ _|refine zK ?_|refine zL ?_ _));refine blk_put (cs := #[.int .i64 0,.int .i64 0]) ?_ 0 _ rfl;(with_reducible repeat (first|refine zJ ?_ _|refine zK ?_|refine zL ?_ _));exact BK367.out) hb);have n2_:=zM (zQ (by repeat (first|(with_reducible first|exact HB.out|apply zD|apply zE|apply zF|refine below_set ?_ GE367.out)|exact HB.out)) hb);have n3_:=zM (hbox);have n4_:=zM ((by rw [hg];exact (zR (by repeat (first|(with_reducible first|exact HB.out|apply zD|apply zE|apply zF|refine below_set ?_ GE367.out)|exact HB.out))):w.heap.size ≤ gb369));have n5_:=zM ((by rw [hg];exact (zR (by repeat (first|(with_reducible first|exact HB.out|apply zD|apply zE|apply zF|refine below_set ?_ GE367.out)|exact HB.out))):w.heap.size ≤ gb369));have n6_:=zM ((by rw [hg];exact Nat.ne_of_lt (blk_lt (g:=gb367) (o := .cells #[.int .i64 ((rd_T60 l0 x16_1).f0),.int .i64 ((rd_T60 l0 x16_1).f1)] 60 (0,0)) (by (with_reducible repeat (first|refine zJ ?_ _|refine zK ?_|refine zL ?_ _));refine blk_put (cs := #[.int .i64 ((rd_T60 l0 x16_1).f0),.int .i64 0]) ?_ 1 _ rfl;(with_reducible repeat (first|refine zJ ?_ _|refine zK ?_|refine zL ?_ _));refine blk_put (cs := #[.int .i64 0,.int .i64 0]) ?_ 0 _ rfl;(with_reducible repeat (first|refine zJ ?_ _|refine zK ?_|refine zL ?_ _));exact BK367.out)):gb367 ≠ gb369));have n7_:=zM ((by rw [hg];exact Nat.ne_of_gt (blk_lt (g:=gb367) (o := .cells #[.int .i64 ((rd_T60 l0 x16_1).f0),.int .i64 ((rd_T60 l0 x16_1).f1)] 60 (0,0)) (by (with_reducible repeat (first|refine zJ ?_ _|refine zK ?_|refine zL ?_ _));refine blk_put (cs := #[.int .i64 ((rd_T60 l0 x16_1).f0),.int .i64 0]) ?_ 1 _ rfl;(with_reducible repeat (first|refine zJ ?_ _|refine zK ?_|refine zL ?_ _));refine blk_put (cs := #[.int .i64 0,.int .i64 0]) ?_ 0 _ rfl;(with_reducible repeat (first|refine zJ ?_ _|refine zK ?_|refine zL ?_ _));exact BK367.out)):gb369 ≠ gb367));clear HO_6;clear BK367;clear HB;have HO_6:=n0_;have BK367:=n1_;have HB:=n2_;have BK369:=n3_;have GW369:=n4_;have GE369:=n5_;have NB367_369:=n6_;have NB369_367:=n7_;clear n0_ n1_ n2_ n3_ n4_ n5_ n6_ n7_;clear hb hbox hg;have hnb21:=NB369_367.out;have hnc21:=NB367_369.out;have hcz22_0:w20.cell? ⟨gb369,0,none⟩ = some (.int .i64 0):=(blk_cell BK369.out 0).trans rfl;have hcz22_1:w20.cell? ⟨gb369,1,none⟩ = some (.int .i64 0):=(blk_cell BK369.out 1).trans rfl;have hfz22_0:=blk_frozen BK369.out 0;have hfz22_1:=blk_frozen BK369.out 1;have p370:0 ≤ ((ji13):Int):=of_decide_eq_true (by first|(with_reducible assumption)|assumption);have q370:(ji13) < (l0.length:Int):=of_decide_eq_true (by first|(with_reducible assumption)|assumption);obtain ⟨ad370,e370,hx370_0,hx370_1⟩:=at_T60 HR0.out (ji13) p370 q370;obtain rfl:ad366 = ad370:=(by injection e370);have hn370_0:ad366.block ≠ gb369:=Nat.ne_of_lt (Nat.lt_of_lt_of_le (by have:=World.block_lt_of_cell? _ _ hx370_0;first|rwa [add_block] at this|exact this) GW369.out);have hn370_1:ad366.block ≠ gb369:=Nat.ne_of_lt (Nat.lt_of_lt_of_le (by have:=World.block_lt_of_cell? _ _ hx370_0;first|rwa [add_block] at this|exact this) GW369.out);replace hx370_0:=zS HB.out hx370_0;replace hx370_1:=zS HB.out hx370_1;replace hx370_0:=(cell_far (p:=⟨gb369,0,none⟩) (by first|(rw [add_block];exact hn370_0)|(show (Addr.add _ _).block ≠ _;rw [add_block];exact hn370_0)|exact hn370_0) (.int .i64 ((rd_T60 l0 1).f0))).trans hx370_0;replace hx370_1:=(cell_far (p:=⟨gb369,0,none⟩) (by first|(rw [add_block];exact hn370_0)|(show (Addr.add _ _).block ≠ _;rw [add_block];exact hn370_0)|exact hn370_0) (.int .i64 ((rd_T60 l0 1).f0))).trans hx370_1;replace hx370_0:=(cell_far (p:=⟨gb369,1,none⟩) (by first|(rw [add_block];exact hn370_1)|(show (Addr.add _ _).block ≠ _;rw [add_block];exact hn370_1)|exact hn370_1) (.int .i64 ((rd_T60 l0 1).f1))).trans hx370_0;replace hx370_1:=(cell_far (p:=⟨gb369,1,none⟩) (by first|(rw [add_block];exact hn370_1)|(show (Addr.add _ _).block ≠ _;rw [add_block];exact hn370_1)|exact hn370_1) (.int .i64 ((rd_T60 l0 1).f1))).trans hx370_1;clear hn370_0;clear hn370_1;replace p370:=eq_true p370;replace q370:=eq_true q370;have hcz23_0:w20.cell? ⟨gb367,0,none⟩ = some (.int .i64 ((rd_T60 l0 x16_1).f0)):=(blk_cell BK367.out 0).trans rfl;have hcz23_1:w20.cell? ⟨gb367,1,none⟩ = some (.int .i64 ((rd_T60 l0 x16_1).f1)):=(blk_cell BK367.out 1).trans rfl;have hfz23_0:=blk_frozen BK367.out 0;have hfz23_1:=blk_frozen BK367.out 1)|((with_reducible refine gate_builtin (b := .append) (xs := #[.tmp 38,.tmp 41]) rfl ?_);at_builtin;refine Kd.R_append (Kd.int .i64) (w0:=w) w.heap.size rfl (.tmp 38) (.tmp 41) 40 3 (.int .i64 0) 8 rfl Try.underlying40 info3 rfl (by decide) (by omega) u6 x6_1 ((rd_T60 l0 x16_1).f0) [.int .i64 ((rd_T60 l0 x16_1).f0)] (fun _=>True) (fun _=>False) rfl (by first|(go_simp;done)|(go_simp;rfl)) ?aP (fun _ hk=>hk.elim) ?aF ?aO ?aB ?aS ?aL ?_;(case aP=>exact rfl);(case aB=>exact (by repeat (first|(with_reducible first|exact HB.out|apply zD|apply zE|apply zF|refine below_set ?_ GE367.out|refine below_set ?_ GE369.out)|exact HB.out)));(case aF=>exact (fun _ _=>trivial));(case aO=>exact (by (with_reducible repeat (first|apply zA|apply zB|apply zC));exact Kd.R_mono (Kd.R_far (p:=⟨gb369,1,none⟩) (Kd.R_far (p:=⟨gb369,0,none⟩) (Kd.R_far (p:=⟨gb369,1,none⟩) (Kd.R_far (p:=⟨gb369,0,none⟩) (Kd.R_types HO_6.out BK369.out (by decide)) (fun _ hk=>hk.2) (.int .i64 ((rd_T60 l0 1).f0))) (fun _ hk=>hk.2) (.int .i64 ((rd_T60 l0 1).f1))) (fun _ hk=>hk.2) (.int .i64 ((rd_T60 l0 (ji13)).f0))) (fun _ hk=>hk.2) (.int .i64 ((rd_T60 l0 (ji13)).f1))) (fun _ hk=>trivial)));(case aS=>exact (zR (by repeat (first|(with_reducible first|exact HB.out|apply zD|apply zE|apply zF|refine below_set ?_ GE367.out|refine below_set ?_ GE369.out)|exact HB.out))));(case aL=>have:=LMc17.out;omega);intro v372 w24 ho hb hg hat;rw [← Ny371.out] at ho;have n0_:=zM (blk_grown (g:=gb367) (o := .cells #[.int .i64 ((rd_T60 l0 x16_1).f0),.int .i64 ((rd_T60 l0 x16_1).f1)] 60 (0,0)) (by (with_reducible repeat (first|refine zJ ?_ _|refine zK ?_|refine zL ?_ _));refine blk_far ?_ NB367_369.out _;(with_reducible repeat (first|refine zJ ?_ _|refine zK ?_|refine zL ?_ _));refine blk_far ?_ NB367_369.out _;(with_reducible repeat (first|refine zJ ?_ _|refine zK ?_|refine zL ?_ _));refine blk_far ?_ NB367_369.out _;(with_reducible repeat (first|refine zJ ?_ _|refine zK ?_|refine zL ?_ _));refine blk_far ?_ NB367_369.out _;(with_reducible repeat (first|refine zJ ?_ _|refine zK ?_|refine zL ?_ _));exact BK367.out) hg (Kd.R_ne HO_6.out BK367.out (by decide)));have n1_:=zM (blk_grown (g:=gb369) (o := .cells #[.int .i64 ((rd_T60 l0 (ji13)).f0),.int .i64 ((rd_T60 l0 (ji13)).f1)] 60 (0,0)) (by (with_reducible repeat (first|refine zJ ?_ _|refine zK ?_|refine zL ?_ _));refine blk_put (cs := #[.int .i64 ((rd_T60 l0 (ji13)).f0),.int .i64 ((rd_T60 l0 1).f1)]) ?_ 1 _ rfl;(with_reducible repeat (first|refine zJ ?_ _|refine zK ?_|refine zL ?_ _));refine blk_put (cs := #[.int .i64 ((rd_T60 l0 1).f0),.int .i64 ((rd_T60 l0 1).f1)]) ?_ 0 _ rfl;(with_reducible repeat (first|refine zJ ?_ _|refine zK ?_|refine zL ?_ _));refine blk_put (cs := #[.int .i64 ((rd_T60 l0 1).f0),.int .i64 0]) ?_ 1 _ rfl;(with_reducible repeat (first|refine zJ ?_ _|refine zK ?_|refine zL ?_ _));refine blk_put (cs := #[.int .i64 0,.int .i64 0]) ?_ 0 _ rfl;(with_reducible repeat (first|refine zJ ?_ _|refine zK ?_|refine zL ?_ _));exact BK369.out) hg (Kd.R_ne HO_6.out BK369.out (by decide)));have n2_:=zM (hb);have n3_:=zM (ho);clear BK367;clear BK369;clear HB;clear HO_6;have BK367:=n0_;have BK369:=n1_;have HB:=n2_;have HO373:=n3_;clear n0_ n1_ n2_ n3_;clear ho hb hg hat))
             go_roundg k1
             case measure=>have:=HK1.out;omega
             case rel=>exact ⟨(y371),(wrap64 (x16_1 + 1)),(by first|rfl|(simp;done)|(simp [*];done)),H',⟨by have:=HK1.out;omega⟩,⟨by (with_reducible repeat (first|apply zA|apply zB|apply zC));exact HO373.out⟩,⟨by repeat (first|(with_reducible first|exact HB.out|apply zD|apply zE|apply zF|refine below_set ?_ GE367.out|refine below_set ?_ GE369.out)|exact HB.out)⟩⟩
            ·rw [if_neg c17] at H
             exact absurd H (by simp)
           ·rw [if_neg c16] at H
            have c16b0:((decide (((rd_T60 l0 x16_1).f1) > ((rd_T60 l0 (ji13)).f1))) == a1) = false:=by simpa using c16
            (try (have c16b1:decide ((decide (((rd_T60 l0 x16_1).f1) > ((rd_T60 l0 (ji13)).f1))) = a1) = false:=by simpa using c16))
            (try (have c16b2:((decide (((rd_T60 l0 x16_1).f1) > ((rd_T60 l0 (ji13)).f1))) == a1) = false:=by simpa using c16))
            (try (have c16b3:¬ ((decide (((rd_T60 l0 x16_1).f1) > ((rd_T60 l0 (ji13)).f1))) = a1):=by simpa using c16))
            clear c16;have H':=zM H;clear H;have p366:0 ≤ (x16_1:Int):=of_decide_eq_true (by first|(with_reducible assumption)|assumption)
            have q366:x16_1 < (l0.length:Int):=of_decide_eq_true (by first|(with_reducible assumption)|assumption)
            obtain ⟨ad366,e366,hx366_0,hx366_1⟩:=at_T60 HR0.out x16_1 p366 q366;cases e366
            replace hx366_0:=zS HB.out hx366_0;replace hx366_1:=zS HB.out hx366_1;replace p366:=eq_true p366;replace q366:=eq_true q366;go_wp2_with (first|((with_reducible refine gate_dst (N:=8) rfl ?_);refine box_event ?hg (N:=8) ?hd (cs := #[.int .i64 0,.int .i64 0]) (t:=60) ?hr ?_;(case hd=>rfl);(case hg=>rfl);(case hr=>first|(go_simp;done)|(go_simp;rfl));intro gb367 hg w25 hbox hb;have n0_:=zM (zP (by (with_reducible repeat (first|apply zA|apply zB|apply zC));exact HO_6.out) hb);have n1_:=zM (zQ (by repeat (first|(with_reducible first|exact HB.out|apply zD|apply zE|apply zF)|exact HB.out)) hb);have n2_:=zM (hbox);have n3_:=zM ((by rw [hg];exact (zR (by repeat (first|(with_reducible first|exact HB.out|apply zD|apply zE|apply zF)|exact HB.out))):w.heap.size ≤ gb367));have n4_:=zM ((by rw [hg];exact (zR (by repeat (first|(with_reducible first|exact HB.out|apply zD|apply zE|apply zF)|exact HB.out))):w.heap.size ≤ gb367));clear HO_6;clear HB;have HO_6:=n0_;have HB:=n1_;have BK367:=n2_;have GW367:=n3_;have GE367:=n4_;clear n0_ n1_ n2_ n3_ n4_;clear hb hbox hg;have hcz26_0:w25.cell? ⟨gb367,0,none⟩ = some (.int .i64 0):=(blk_cell BK367.out 0).trans rfl;have hcz26_1:w25.cell? ⟨gb367,1,none⟩ = some (.int .i64 0):=(blk_cell BK367.out 1).trans rfl;have hfz26_0:=blk_frozen BK367.out 0;have hfz26_1:=blk_frozen BK367.out 1;have p368:0 ≤ (1:Int):=(by omega);have q368:1 < (l0.length:Int):=of_decide_eq_true (by first|(with_reducible assumption)|assumption);obtain ⟨ad368,e368,hx368_0,hx368_1⟩:=at_T60 HR0.out 1 p368 q368;obtain rfl:ad366 = ad368:=(by injection e368);(try simp only [show (1:Int).toNat = 1 from rfl,Nat.reduceMul,Nat.reduceEqDiff,Go.Addr.add,↓reduceIte] at hx368_0);(try simp only [show (1:Int).toNat = 1 from rfl,Nat.reduceMul,Nat.reduceEqDiff,Go.Addr.add,↓reduceIte] at hx368_1);have qi368:(1 < l0.length) = True:=eq_true (by omega);(try rw [show ((1:Int)).toNat = 1 from rfl] at hx368_0);(try rw [show 1 * 2 = 2 from rfl] at hx368_0);(try rw [show ((1:Int)).toNat = 1 from rfl] at hx368_1);(try rw [show 1 * 2 = 2 from rfl] at hx368_1);have hn368_0:ad366.block ≠ gb367:=Nat.ne_of_lt (Nat.lt_of_lt_of_le (by have:=World.block_lt_of_cell? _ _ hx368_0;first|rwa [add_block] at this|exact this) GW367.out);have hn368_1:ad366.block ≠ gb367:=Nat.ne_of_lt (Nat.lt_of_lt_of_le (by have:=World.block_lt_of_cell? _ _ hx368_0;first|rwa [add_block] at this|exact this) GW367.out);replace hx368_0:=zS HB.out hx368_0;replace hx368_1:=zS HB.out hx368_1;replace hx368_0:=(cell_far (p:=⟨gb367,0,none⟩) (by first|(rw [add_block];exact hn368_0)|(show (Addr.add _ _).block ≠ _;rw [add_block];exact hn368_0)|exact hn368_0) (.int .i64 ((rd_T60 l0 x16_1).f0))).trans hx368_0;replace hx368_1:=(cell_far (p:=⟨gb367,0,none⟩) (by first|(rw [add_block];exact hn368_0)|(show (Addr.add _ _).block ≠ _;rw [add_block];exact hn368_0)|exact hn368_0) (.int .i64 ((rd_T60 l0 x16_1).f0))).trans hx368_1;replace hx368_0:=(cell_far (p:=⟨gb367,1,none⟩) (by first|(rw [add_block];exact hn368_1)|(show (Addr.add _ _).block ≠ _;rw [add_block];exact hn368_1)|exact hn368_1) (.int .i64 ((rd_T60 l0 x16_1).f1))).trans hx368_0;replace hx368_1:=(cell_far (p:=⟨gb367,1,none⟩) (by first|(rw [add_block];exact hn368_1)|(show (Addr.add _ _).block ≠ _;rw [add_block];exact hn368_1)|exact hn368_1) (.int .i64 ((rd_T60 l0 x16_1).f1))).trans hx368_1;clear hn368_0;clear hn368_1;replace p368:=eq_true p368;replace q368:=eq_true q368)|((with_reducible refine gate_dst (N:=9) rfl ?_);refine box_event ?hg (N:=9) ?hd (cs := #[.int .i64 0,.int .i64 0]) (t:=60) ?hr ?_;(case hd=>rfl);(case hg=>rfl);(case hr=>first|(go_simp;done)|(go_simp;rfl));intro gb369 hg w27 hbox hb;have n0_:=zM (zP (by (with_reducible repeat (first|apply zA|apply zB|apply zC));exact (Kd.R_mono (Kd.R_far (p:=⟨gb367,1,none⟩) (Kd.R_far (p:=⟨gb367,0,none⟩) (Kd.R_types HO_6.out BK367.out (by decide)) (fun _ hk=>hk.2) (.int .i64 ((rd_T60 l0 x16_1).f0))) (fun _ hk=>hk.2) (.int .i64 ((rd_T60 l0 x16_1).f1))) (fun _ h_=>h_.1))) hb);have n1_:=zM (blk_below (g:=gb367) (o := .cells #[.int .i64 ((rd_T60 l0 x16_1).f0),.int .i64 ((rd_T60 l0 x16_1).f1)] 60 (0,0)) (by (with_reducible repeat (first|refine zJ ?_ _|refine zK ?_|refine zL ?_ _));refine blk_put (cs := #[.int .i64 ((rd_T60 l0 x16_1).f0),.int .i64 0]) ?_ 1 _ rfl;(with_reducible repeat (first|refine zJ ?_ _|refine zK ?_|refine zL ?_ _));refine blk_put (cs := #[.int .i64 0,.int .i64 0]) ?_ 0 _ rfl;(with_reducible repeat (first|refine zJ ?_ _|refine zK ?_|refine zL ?_ _));exact BK367.out) hb);have n2_:=zM (zQ (by repeat (first|(with_reducible first|exact HB.out|apply zD|apply zE|apply zF|refine below_set ?_ GE367.out)|exact HB.out)) hb);have n3_:=zM (hbox);have n4_:=zM ((by rw [hg];exact (zR (by repeat (first|(with_reducible first|exact HB.out|apply zD|apply zE|apply zF|refine below_set ?_ GE367.out)|exact HB.out))):w.heap.size ≤ gb369));have n5_:=zM ((by rw [hg];exact (zR (by repeat (first|(with_reducible first|exact HB.out|apply zD|apply zE|apply zF|refine below_set ?_ GE367.out)|exact HB.out))):w.heap.size ≤ gb369));have n6_:=zM ((by rw [hg];exact Nat.ne_of_lt (blk_lt (g:=gb367) (o := .cells #[.int .i64 ((rd_T60 l0 x16_1).f0),.int .i64 ((rd_T60 l0 x16_1).f1)] 60 (0,0)) (by (with_reducible repeat (first|refine zJ ?_ _|refine zK ?_|refine zL ?_ _));refine blk_put (cs := #[.int .i64 ((rd_T60 l0 x16_1).f0),.int .i64 0]) ?_ 1 _ rfl;(with_reducible repeat (first|refine zJ ?_ _|refine zK ?_|refine zL ?_ _));refine blk_put (cs := #[.int .i64 0,.int .i64 0]) ?_ 0 _ rfl;(with_reducible repeat (first|refine zJ ?_ _|refine zK ?_|refine zL ?_ _));exact BK367.out)):gb367 ≠ gb369));have n7_:=zM ((by rw [hg];exact Nat.ne_of_gt (blk_lt (g:=gb367) (o := .cells #[.int .i64 ((rd_T60 l0 x16_1).f0),.int .i64 ((rd_T60 l0 x16_1).f1)] 60 (0,0)) (by (with_reducible repeat (first|refine zJ ?_ _|refine zK ?_|refine zL ?_ _));refine blk_put (cs := #[.int .i64 ((rd_T60 l0 x16_1).f0),.int .i64 0]) ?_ 1 _ rfl;(with_reducible repeat (first|refine zJ ?_ _|refine zK ?_|refine zL ?_ _));refine blk_put (cs := #[.int .i64 0,.int .i64 0]) ?_ 0 _ rfl;(with_reducible repeat (first|refine zJ ?_ _|refine zK ?_|refine zL ?_ _));exact BK367.out)):gb369 ≠ gb367));clear HO_6;clear BK367;clear HB;have HO_6:=n0_;have BK367:=n1_;have HB:=n2_;have BK369:=n3_;have GW369:=n4_;have GE369:=n5_;have NB367_369:=n6_;have NB369_367:=n7_;clear n0_ n1_ n2_ n3_ n4_ n5_ n6_ n7_;clear hb hbox hg;have hnb28:=NB369_367.out;have hnc28:=NB367_369.out;have hcz29_0:w27.cell? ⟨gb369,0,none⟩ = some (.int .i64 0):=(blk_cell BK369.out 0).trans rfl;have hcz29_1:w27.cell? ⟨gb369,1,none⟩ = some (.int .i64 0):=(blk_cell BK369.out 1).trans rfl;have hfz29_0:=blk_frozen BK369.out 0;have hfz29_1:=blk_frozen BK369.out 1;have p370:0 ≤ ((ji13):Int):=of_decide_eq_true (by first|(with_reducible assumption)|assumption);have q370:(ji13) < (l0.length:Int):=of_decide_eq_true (by first|(with_reducible assumption)|assumption);obtain ⟨ad370,e370,hx370_0,hx370_1⟩:=at_T60 HR0.out (ji13) p370 q370;obtain rfl:ad366 = ad370:=(by injection e370);have hn370_0:ad366.block ≠ gb369:=Nat.ne_of_lt (Nat.lt_of_lt_of_le (by have:=World.block_lt_of_cell? _ _ hx370_0;first|rwa [add_block] at this|exact this) GW369.out);have hn370_1:ad366.block ≠ gb369:=Nat.ne_of_lt (Nat.lt_of_lt_of_le (by have:=World.block_lt_of_cell? _ _ hx370_0;first|rwa [add_block] at this|exact this) GW369.out);replace hx370_0:=zS HB.out hx370_0;replace hx370_1:=zS HB.out hx370_1;replace hx370_0:=(cell_far (p:=⟨gb369,0,none⟩) (by first|(rw [add_block];exact hn370_0)|(show (Addr.add _ _).block ≠ _;rw [add_block];exact hn370_0)|exact hn370_0) (.int .i64 ((rd_T60 l0 1).f0))).trans hx370_0;replace hx370_1:=(cell_far (p:=⟨gb369,0,none⟩) (by first|(rw [add_block];exact hn370_0)|(show (Addr.add _ _).block ≠ _;rw [add_block];exact hn370_0)|exact hn370_0) (.int .i64 ((rd_T60 l0 1).f0))).trans hx370_1;replace hx370_0:=(cell_far (p:=⟨gb369,1,none⟩) (by first|(rw [add_block];exact hn370_1)|(show (Addr.add _ _).block ≠ _;rw [add_block];exact hn370_1)|exact hn370_1) (.int .i64 ((rd_T60 l0 1).f1))).trans hx370_0;replace hx370_1:=(cell_far (p:=⟨gb369,1,none⟩) (by first|(rw [add_block];exact hn370_1)|(show (Addr.add _ _).block ≠ _;rw [add_block];exact hn370_1)|exact hn370_1) (.int .i64 ((rd_T60 l0 1).f1))).trans hx370_1;clear hn370_0;clear hn370_1;replace p370:=eq_true p370;replace q370:=eq_true q370;have hcz30_0:w27.cell? ⟨gb367,0,none⟩ = some (.int .i64 ((rd_T60 l0 x16_1).f0)):=(blk_cell BK367.out 0).trans rfl;have hcz30_1:w27.cell? ⟨gb367,1,none⟩ = some (.int .i64 ((rd_T60 l0 x16_1).f1)):=(blk_cell BK367.out 1).trans rfl;have hfz30_0:=blk_frozen BK367.out 0;have hfz30_1:=blk_frozen BK367.out 1))
            go_roundg k1
            case measure=>have:=HK1.out;omega
            case rel=>exact ⟨(x6_1),(wrap64 (x16_1 + 1)),(by first|rfl|(simp;done)|(simp [*];done)),H',⟨by have:=HK1.out;omega⟩,⟨by (with_reducible repeat (first|apply zA|apply zB|apply zC));exact Kd.R_mono (Kd.R_far (p:=⟨gb369,1,none⟩) (Kd.R_far (p:=⟨gb369,0,none⟩) (Kd.R_far (p:=⟨gb369,1,none⟩) (Kd.R_far (p:=⟨gb369,0,none⟩) (Kd.R_types HO_6.out BK369.out (by decide)) (fun _ hk=>hk.2) (.int .i64 ((rd_T60 l0 1).f0))) (fun _ hk=>hk.2) (.int .i64 ((rd_T60 l0 1).f1))) (fun _ hk=>hk.2) (.int .i64 ((rd_T60 l0 (ji13)).f0))) (fun _ hk=>hk.2) (.int .i64 ((rd_T60 l0 (ji13)).f1))) (fun _ hk=>trivial)⟩,⟨by repeat (first|(with_reducible first|exact HB.out|apply zD|apply zE|apply zF|refine below_set ?_ GE367.out|refine below_set ?_ GE369.out)|exact HB.out)⟩⟩
          ·rw [if_neg c15] at H
           exact absurd H (by simp)
         ·rw [if_neg c14] at H
          exact absurd H (by simp)
        ·rw [if_neg c12] at H
         have c12b0:decide (0 < x16_1) = false:=decide_eq_false c12
         clear c12;by_cases c31:((decide (((rd_T60 l0 x16_1).f1) > ((rd_T60 l0 1).f1))) == a1) = true
         ·rw [if_pos c31] at H
          have c31b0:((decide (((rd_T60 l0 x16_1).f1) > ((rd_T60 l0 1).f1))) == a1) = true:=c31
          (try (have c31b1:decide ((decide (((rd_T60 l0 x16_1).f1) > ((rd_T60 l0 1).f1))) = a1) = true:=by simpa using c31))
          (try (have c31b2:((decide (((rd_T60 l0 x16_1).f1) > ((rd_T60 l0 1).f1))) == a1) = true:=by simpa using c31))
          clear c31;by_cases c32:x6_1.length < 17592186044416
          ·rw [if_pos c32] at H
           have LMc32:=zM c32;clear c32;obtain ⟨y374,hy374⟩ : ∃ y_:List Int,y_ = (x6_1 ++ [(rd_T60 l0 x16_1).f0]):=⟨_,rfl⟩
           replace H:(impl_TurningHours.l0 k1 l0 a1 y374 l0 (l0.length:Int) (wrap64 (x16_1 + 1))) = some (r1,r2):=by first|(rw [hy374];with_reducible exact H)|(have H2_:=(Option.bind_some _ _).symm.trans H;rw [hy374];with_reducible exact H2_)|(have H2_:=(Option.bind_some _ _).symm.trans H;with_reducible exact H2_)|with_reducible exact H|(rw [hy374];exact H)|exact H
           have Ny374:=zM hy374;clear hy374;have H':=zM H;clear H;have p366:0 ≤ (x16_1:Int):=of_decide_eq_true (by first|(with_reducible assumption)|assumption)
           have q366:x16_1 < (l0.length:Int):=of_decide_eq_true (by first|(with_reducible assumption)|assumption)
           obtain ⟨ad366,e366,hx366_0,hx366_1⟩:=at_T60 HR0.out x16_1 p366 q366;cases e366
           replace hx366_0:=zS HB.out hx366_0;replace hx366_1:=zS HB.out hx366_1;replace p366:=eq_true p366;replace q366:=eq_true q366;go_wp2_with (first|((with_reducible refine gate_dst (N:=8) rfl ?_);refine box_event ?hg (N:=8) ?hd (cs := #[.int .i64 0,.int .i64 0]) (t:=60) ?hr ?_;(case hd=>rfl);(case hg=>rfl);(case hr=>first|(go_simp;done)|(go_simp;rfl));intro gb367 hg w33 hbox hb;have n0_:=zM (zP (by (with_reducible repeat (first|apply zA|apply zB|apply zC));exact HO_6.out) hb);have n1_:=zM (zQ (by repeat (first|(with_reducible first|exact HB.out|apply zD|apply zE|apply zF)|exact HB.out)) hb);have n2_:=zM (hbox);have n3_:=zM ((by rw [hg];exact (zR (by repeat (first|(with_reducible first|exact HB.out|apply zD|apply zE|apply zF)|exact HB.out))):w.heap.size ≤ gb367));have n4_:=zM ((by rw [hg];exact (zR (by repeat (first|(with_reducible first|exact HB.out|apply zD|apply zE|apply zF)|exact HB.out))):w.heap.size ≤ gb367));clear HO_6;clear HB;have HO_6:=n0_;have HB:=n1_;have BK367:=n2_;have GW367:=n3_;have GE367:=n4_;clear n0_ n1_ n2_ n3_ n4_;clear hb hbox hg;have hcz34_0:w33.cell? ⟨gb367,0,none⟩ = some (.int .i64 0):=(blk_cell BK367.out 0).trans rfl;have hcz34_1:w33.cell? ⟨gb367,1,none⟩ = some (.int .i64 0):=(blk_cell BK367.out 1).trans rfl;have hfz34_0:=blk_frozen BK367.out 0;have hfz34_1:=blk_frozen BK367.out 1;have p368:0 ≤ (1:Int):=(by omega);have q368:1 < (l0.length:Int):=of_decide_eq_true (by first|(with_reducible assumption)|assumption);obtain ⟨ad368,e368,hx368_0,hx368_1⟩:=at_T60 HR0.out 1 p368 q368;obtain rfl:ad366 = ad368:=(by injection e368);(try simp only [show (1:Int).toNat = 1 from rfl,Nat.reduceMul,Nat.reduceEqDiff,Go.Addr.add,↓reduceIte] at hx368_0);(try simp only [show (1:Int).toNat = 1 from rfl,Nat.reduceMul,Nat.reduceEqDiff,Go.Addr.add,↓reduceIte] at hx368_1);have qi368:(1 < l0.length) = True:=eq_true (by omega);(try rw [show ((1:Int)).toNat = 1 from rfl] at hx368_0);(try rw [show 1 * 2 = 2 from rfl] at hx368_0);(try rw [show ((1:Int)).toNat = 1 from rfl] at hx368_1);(try rw [show 1 * 2 = 2 from rfl] at hx368_1);have hn368_0:ad366.block ≠ gb367:=Nat.ne_of_lt (Nat.lt_of_lt_of_le (by have:=World.block_lt_of_cell? _ _ hx368_0;first|rwa [add_block] at this|exact this) GW367.out);have hn368_1:ad366.block ≠ gb367:=Nat.ne_of_lt (Nat.lt_of_lt_of_le (by have:=World.block_lt_of_cell? _ _ hx368_0;first|rwa [add_block] at this|exact this) GW367.out);replace hx368_0:=zS HB.out hx368_0;replace hx368_1:=zS HB.out hx368_1;replace hx368_0:=(cell_far (p:=⟨gb367,0,none⟩) (by first|(rw [add_block];exact hn368_0)|(show (Addr.add _ _).block ≠ _;rw [add_block];exact hn368_0)|exact hn368_0) (.int .i64 ((rd_T60 l0 x16_1).f0))).trans hx368_0;replace hx368_1:=(cell_far (p:=⟨gb367,0,none⟩) (by first|(rw [add_block];exact hn368_0)|(show (Addr.add _ _).block ≠ _;rw [add_block];exact hn368_0)|exact hn368_0) (.int .i64 ((rd_T60 l0 x16_1).f0))).trans hx368_1;replace hx368_0:=(cell_far (p:=⟨gb367,1,none⟩) (by first|(rw [add_block];exact hn368_1)|(show (Addr.add _ _).block ≠ _;rw [add_block];exact hn368_1)|exact hn368_1) (.int .i64 ((rd_T60 l0 x16_1).f1))).trans hx368_0;replace hx368_1:=(cell_far (p:=⟨gb367,1,none⟩) (by first|(rw [add_block];exact hn368_1)|(show (Addr.add _ _).block ≠ _;rw [add_block];exact hn368_1)|exact hn368_1) (.int .i64 ((rd_T60 l0 x16_1).f1))).trans hx368_1;clear hn368_0;clear hn368_1;replace p368:=eq_true p368;replace q368:=eq_true q368)|((with_reducible refine gate_dst (N:=9) rfl ?_);refine box_event ?hg (N:=9) ?hd (cs := #[.int .i64 0,.int .i64 0]) (t:=60) ?hr ?_;(case hd=>rfl);(case hg=>rfl);(case hr=>first|(go_simp;done)|(go_simp;rfl));intro gb369 hg w35 hbox hb;have n0_:=zM (zP (by (with_reducible repeat (first|apply zA|apply zB|apply zC));exact (Kd.R_mono (Kd.R_far (p:=⟨gb367,1,none⟩) (Kd.R_far (p:=⟨gb367,0,none⟩) (Kd.R_types HO_6.out BK367.out (by decide)) (fun _ hk=>hk.2) (.int .i64 ((rd_T60 l0 x16_1).f0))) (fun _ hk=>hk.2) (.int .i64 ((rd_T60 l0 x16_1).f1))) (fun _ h_=>h_.1))) hb);have n1_:=zM (blk_below (g:=gb367) (o := .cells #[.int .i64 ((rd_T60 l0 x16_1).f0),.int .i64 ((rd_T60 l0 x16_1).f1)] 60 (0,0)) (by (with_reducible repeat (first|refine zJ ?_ _|refine zK ?_|refine zL ?_ _));refine blk_put (cs := #[.int .i64 ((rd_T60 l0 x16_1).f0),.int .i64 0]) ?_ 1 _ rfl;(with_reducible repeat (first|refine zJ ?_ _|refine zK ?_|refine zL ?_ _));refine blk_put (cs := #[.int .i64 0,.int .i64 0]) ?_ 0 _ rfl;(with_reducible repeat (first|refine zJ ?_ _|refine zK ?_|refine zL ?_ _));exact BK367.out) hb);have n2_:=zM (zQ (by repeat (first|(with_reducible first|exact HB.out|apply zD|apply zE|apply zF|refine below_set ?_ GE367.out)|exact HB.out)) hb);have n3_:=zM (hbox);have n4_:=zM ((by rw [hg];exact (zR (by repeat (first|(with_reducible first|exact HB.out|apply zD|apply zE|apply zF|refine below_set ?_ GE367.out)|exact HB.out))):w.heap.size ≤ gb369));have n5_:=zM ((by rw [hg];exact (zR (by repeat (first|(with_reducible first|exact HB.out|apply zD|apply zE|apply zF|refine below_set ?_ GE367.out)|exact HB.out))):w.heap.size ≤ gb369));have n6_:=zM ((by rw [hg];exact Nat.ne_of_lt (blk_lt (g:=gb367) (o := .cells #[.int .i64 ((rd_T60 l0 x16_1).f0),.int .i64 ((rd_T60 l0 x16_1).f1)] 60 (0,0)) (by (with_reducible repeat (first|refine zJ ?_ _|refine zK ?_|refine zL ?_ _));refine blk_put (cs := #[.int .i64 ((rd_T60 l0 x16_1).f0),.int .i64 0]) ?_ 1 _ rfl;(with_reducible repeat (first|refine zJ ?_ _|refine zK ?_|refine zL ?_ _));refine blk_put (cs := #[.int .i64 0,.int .i64 0]) ?_ 0 _ rfl;(with_reducible repeat (first|refine zJ ?_ _|refine zK ?_|refine zL ?_ _));exact BK367.out)):gb367 ≠ gb369));have n7_:=zM ((by rw [hg];exact Nat.ne_of_gt (blk_lt (g:=gb367) (o := .cells #[.int .i64 ((rd_T60 l0 x16_1).f0),.int .i64 ((rd_T60 l0 x16_1).f1)] 60 (0,0)) (by (with_reducible repeat (first|refine zJ ?_ _|refine zK ?_|refine zL ?_ _));refine blk_put (cs := #[.int .i64 ((rd_T60 l0 x16_1).f0),.int .i64 0]) ?_ 1 _ rfl;(with_reducible repeat (first|refine zJ ?_ _|refine zK ?_|refine zL ?_ _));refine blk_put (cs := #[.int .i64 0,.int .i64 0]) ?_ 0 _ rfl;(with_reducible repeat (first|refine zJ ?_ _|refine zK ?_|refine zL ?_ _));exact BK367.out)):gb369 ≠ gb367));clear HO_6;clear BK367;clear HB;have HO_6:=n0_;have BK367:=n1_;have HB:=n2_;have BK369:=n3_;have GW369:=n4_;have GE369:=n5_;have NB367_369:=n6_;have NB369_367:=n7_;clear n0_ n1_ n2_ n3_ n4_ n5_ n6_ n7_;clear hb hbox hg;have hnb36:=NB369_367.out;have hnc36:=NB367_369.out;have hcz37_0:w35.cell? ⟨gb369,0,none⟩ = some (.int .i64 0):=(blk_cell BK369.out 0).trans rfl;have hcz37_1:w35.cell? ⟨gb369,1,none⟩ = some (.int .i64 0):=(blk_cell BK369.out 1).trans rfl;have hfz37_0:=blk_frozen BK369.out 0;have hfz37_1:=blk_frozen BK369.out 1;have hcz38_0:w35.cell? ⟨gb367,0,none⟩ = some (.int .i64 ((rd_T60 l0 x16_1).f0)):=(blk_cell BK367.out 0).trans rfl;have hcz38_1:w35.cell? ⟨gb367,1,none⟩ = some (.int .i64 ((rd_T60 l0 x16_1).f1)):=(blk_cell BK367.out 1).trans rfl;have hfz38_0:=blk_frozen BK367.out 0;have hfz38_1:=blk_frozen BK367.out 1)|((with_reducible refine gate_builtin (b := .append) (xs := #[.tmp 38,.tmp 41]) rfl ?_);at_builtin;refine Kd.R_append (Kd.int .i64) (w0:=w) w.heap.size rfl (.tmp 38) (.tmp 41) 40 3 (.int .i64 0) 8 rfl Try.underlying40 info3 rfl (by decide) (by omega) u6 x6_1 ((rd_T60 l0 x16_1).f0) [.int .i64 ((rd_T60 l0 x16_1).f0)] (fun _=>True) (fun _=>False) rfl (by first|(go_simp;done)|(go_simp;rfl)) ?aP (fun _ hk=>hk.elim) ?aF ?aO ?aB ?aS ?aL ?_;(case aP=>exact rfl);(case aB=>exact (by repeat (first|(with_reducible first|exact HB.out|apply zD|apply zE|apply zF|refine below_set ?_ GE367.out|refine below_set ?_ GE369.out)|exact HB.out)));(case aF=>exact (fun _ _=>trivial));(case aO=>exact (by (with_reducible repeat (first|apply zA|apply zB|apply zC));exact Kd.R_mono (Kd.R_far (p:=⟨gb369,1,none⟩) (Kd.R_far (p:=⟨gb369,0,none⟩) (Kd.R_types HO_6.out BK369.out (by decide)) (fun _ hk=>hk.2) (.int .i64 ((rd_T60 l0 1).f0))) (fun _ hk=>hk.2) (.int .i64 ((rd_T60 l0 1).f1))) (fun _ hk=>trivial)));(case aS=>exact (zR (by repeat (first|(with_reducible first|exact HB.out|apply zD|apply zE|apply zF|refine below_set ?_ GE367.out|refine below_set ?_ GE369.out)|exact HB.out))));(case aL=>have:=LMc32.out;omega);intro v375 w39 ho hb hg hat;rw [← Ny374.out] at ho;have n0_:=zM (blk_grown (g:=gb367) (o := .cells #[.int .i64 ((rd_T60 l0 x16_1).f0),.int .i64 ((rd_T60 l0 x16_1).f1)] 60 (0,0)) (by (with_reducible repeat (first|refine zJ ?_ _|refine zK ?_|refine zL ?_ _));refine blk_far ?_ NB367_369.out _;(with_reducible repeat (first|refine zJ ?_ _|refine zK ?_|refine zL ?_ _));refine blk_far ?_ NB367_369.out _;(with_reducible repeat (first|refine zJ ?_ _|refine zK ?_|refine zL ?_ _));exact BK367.out) hg (Kd.R_ne HO_6.out BK367.out (by decide)));have n1_:=zM (blk_grown (g:=gb369) (o := .cells #[.int .i64 ((rd_T60 l0 1).f0),.int .i64 ((rd_T60 l0 1).f1)] 60 (0,0)) (by (with_reducible repeat (first|refine zJ ?_ _|refine zK ?_|refine zL ?_ _));refine blk_put (cs := #[.int .i64 ((rd_T60 l0 1).f0),.int .i64 0]) ?_ 1 _ rfl;(with_reducible repeat (first|refine zJ ?_ _|refine zK ?_|refine zL ?_ _));refine blk_put (cs := #[.int .i64 0,.int .i64 0]) ?_ 0 _ rfl;(with_reducible repeat (first|refine zJ ?_ _|refine zK ?_|refine zL ?_ _));exact BK369.out) hg (Kd.R_ne HO_6.out BK369.out (by decide)));have n2_:=zM (hb);have n3_:=zM (ho);clear BK367;clear BK369;clear HB;clear HO_6;have BK367:=n0_;have BK369:=n1_;have HB:=n2_;have HO376:=n3_;clear n0_ n1_ n2_ n3_;clear ho hb hg hat))
           go_roundg k1
           case measure=>have:=HK1.out;omega
           case rel=>exact ⟨(y374),(wrap64 (x16_1 + 1)),(by first|rfl|(simp;done)|(simp [*];done)),H',⟨by have:=HK1.out;omega⟩,⟨by (with_reducible repeat (first|apply zA|apply zB|apply zC));exact HO376.out⟩,⟨by repeat (first|(with_reducible first|exact HB.out|apply zD|apply zE|apply zF|refine below_set ?_ GE367.out|refine below_set ?_ GE369.out)|exact HB.out)⟩⟩
          ·rw [if_neg c32] at H
           exact absurd H (by simp)
         ·rw [if_neg c31] at H
          have c31b0:((decide (((rd_T60 l0 x16_1).f1) > ((rd_T60 l0 1).f1))) == a1) = false:=by simpa using c31
          (try (have c31b1:decide ((decide (((rd_T60 l0 x16_1).f1) > ((rd_T60 l0 1).f1))) = a1) = false:=by simpa using c31))
          (try (have c31b2:((decide (((rd_T60 l0 x16_1).f1) > ((rd_T60 l0 1).f1))) == a1) = false:=by simpa using c31))
          (try (have c31b3:¬ ((decide (((rd_T60 l0 x16_1).f1) > ((rd_T60 l0 1).f1))) = a1):=by simpa using c31))
          clear c31;have H':=zM H;clear H;have p366:0 ≤ (x16_1:Int):=of_decide_eq_true (by first|(with_reducible assumption)|assumption)
          have q366:x16_1 < (l0.length:Int):=of_decide_eq_true (by first|(with_reducible assumption)|assumption)
          obtain ⟨ad366,e366,hx366_0,hx366_1⟩:=at_T60 HR0.out x16_1 p366 q366;cases e366
          replace hx366_0:=zS HB.out hx366_0;replace hx366_1:=zS HB.out hx366_1;replace p366:=eq_true p366;replace q366:=eq_true q366;go_wp2_with (first|((with_reducible refine gate_dst (N:=8) rfl ?_);refine box_event ?hg (N:=8) ?hd (cs := #[.int .i64 0,.int .i64 0]) (t:=60) ?hr ?_;(case hd=>rfl);(case hg=>rfl);(case hr=>first|(go_simp;done)|(go_simp;rfl));intro gb367 hg w40 hbox hb;have n0_:=zM (zP (by (with_reducible repeat (first|apply zA|apply zB|apply zC));exact HO_6.out) hb);have n1_:=zM (zQ (by repeat (first|(with_reducible first|exact HB.out|apply zD|apply zE|apply zF)|exact HB.out)) hb);have n2_:=zM (hbox);have n3_:=zM ((by rw [hg];exact (zR (by repeat (first|(with_reducible first|exact HB.out|apply zD|apply zE|apply zF)|exact HB.out))):w.heap.size ≤ gb367));have n4_:=zM ((by rw [hg];exact (zR (by repeat (first|(with_reducible first|exact HB.out|apply zD|apply zE|apply zF)|exact HB.out))):w.heap.size ≤ gb367));clear HO_6;clear HB;have HO_6:=n0_;have HB:=n1_;have BK367:=n2_;have GW367:=n3_;have GE367:=n4_;clear n0_ n1_ n2_ n3_ n4_;clear hb hbox hg;have hcz41_0:w40.cell? ⟨gb367,0,none⟩ = some (.int .i64 0):=(blk_cell BK367.out 0).trans rfl;have hcz41_1:w40.cell? ⟨gb367,1,none⟩ = some (.int .i64 0):=(blk_cell BK367.out 1).trans rfl;have hfz41_0:=blk_frozen BK367.out 0;have hfz41_1:=blk_frozen BK367.out 1;have p368:0 ≤ (1:Int):=(by omega);have q368:1 < (l0.length:Int):=of_decide_eq_true (by first|(with_reducible assumption)|assumption);obtain ⟨ad368,e368,hx368_0,hx368_1⟩:=at_T60 HR0.out 1 p368 q368;obtain rfl:ad366 = ad368:=(by injection e368);(try simp only [show (1:Int).toNat = 1 from rfl,Nat.reduceMul,Nat.reduceEqDiff,Go.Addr.add,↓reduceIte] at hx368_0);(try simp only [show (1:Int).toNat = 1 from rfl,Nat.reduceMul,Nat.reduceEqDiff,Go.Addr.add,↓reduceIte] at hx368_1);have qi368:(1 < l0.length) = True:=eq_true (by omega);(try rw [show ((1:Int)).toNat = 1 from rfl] at hx368_0);(try rw [show 1 * 2 = 2 from rfl] at hx368_0);(try rw [show ((1:Int)).toNat = 1 from rfl] at hx368_1);(try rw [show 1 * 2 = 2 from rfl] at hx368_1);have hn368_0:ad366.block ≠ gb367:=Nat.ne_of_lt (Nat.lt_of_lt_of_le (by have:=World.block_lt_of_cell? _ _ hx368_0;first|rwa [add_block] at this|exact this) GW367.out);have hn368_1:ad366.block ≠ gb367:=Nat.ne_of_lt (Nat.lt_of_lt_of_le (by have:=World.block_lt_of_cell? _ _ hx368_0;first|rwa [add_block] at this|exact this) GW367.out);replace hx368_0:=zS HB.out hx368_0;replace hx368_1:=zS HB.out hx368_1;replace hx368_0:=(cell_far (p:=⟨gb367,0,none⟩) (by first|(rw [add_block];exact hn368_0)|(show (Addr.add _ _).block ≠ _;rw [add_block];exact hn368_0)|exact hn368_0) (.int .i64 ((rd_T60 l0 x16_1).f0))).trans hx368_0;replace hx368_1:=(cell_far (p:=⟨gb367,0,none⟩) (by first|(rw [add_block];exact hn368_0)|(show (Addr.add _ _).block ≠ _;rw [add_block];exact hn368_0)|exact hn368_0) (.int .i64 ((rd_T60 l0 x16_1).f0))).trans hx368_1;replace hx368_0:=(cell_far (p:=⟨gb367,1,none⟩) (by first|(rw [add_block];exact hn368_1)|(show (Addr.add _ _).block ≠ _;rw [add_block];exact hn368_1)|exact hn368_1) (.int .i64 ((rd_T60 l0 x16_1).f1))).trans hx368_0;replace hx368_1:=(cell_far (p:=⟨gb367,1,none⟩) (by first|(rw [add_block];exact hn368_1)|(show (Addr.add _ _).block ≠ _;rw [add_block];exact hn368_1)|exact hn368_1) (.int .i64 ((rd_T60 l0 x16_1).f1))).trans hx368_1;clear hn368_0;clear hn368_1;replace p368:=eq_true p368;replace q368:=eq_true q368)|((with_reducible refine gate_dst (N:=9) rfl ?_);refine box_event ?hg (N:=9) ?hd (cs := #[.int .i64 0,.int .i64 0]) (t:=60) ?hr ?_;(case hd=>rfl);(case hg=>rfl);(case hr=>first|(go_simp;done)|(go_simp;rfl));intro gb369 hg w42 hbox hb;have n0_:=zM (zP (by (with_reducible repeat (first|apply zA|apply zB|apply zC));exact (Kd.R_mono (Kd.R_far (p:=⟨gb367,1,none⟩) (Kd.R_far (p:=⟨gb367,0,none⟩) (Kd.R_types HO_6.out BK367.out (by decide)) (fun _ hk=>hk.2) (.int .i64 ((rd_T60 l0 x16_1).f0))) (fun _ hk=>hk.2) (.int .i64 ((rd_T60 l0 x16_1).f1))) (fun _ h_=>h_.1))) hb);have n1_:=zM (blk_below (g:=gb367) (o := .cells #[.int .i64 ((rd_T60 l0 x16_1).f0),.int .i64 ((rd_T60 l0 x16_1).f1)] 60 (0,0)) (by (with_reducible repeat (first|refine zJ ?_ _|refine zK ?_|refine zL ?_ _));refine blk_put (cs := #[.int .i64 ((rd_T60 l0 x16_1).f0),.int .i64 0]) ?_ 1 _ rfl;(with_reducible repeat (first|refine zJ ?_ _|refine zK ?_|refine zL ?_ _));refine blk_put (cs := #[.int .i64 0,.int .i64 0]) ?_ 0 _ rfl;(with_reducible repeat (first|refine zJ ?_ _|refine zK ?_|refine zL ?_ _));exact BK367.out) hb);have n2_:=zM (zQ (by repeat (first|(with_reducible first|exact HB.out|apply zD|apply zE|apply zF|refine below_set ?_ GE367.out)|exact HB.out)) hb);have n3_:=zM (hbox);have n4_:=zM ((by rw [hg];exact (zR (by repeat (first|(with_reducible first|exact HB.out|apply zD|apply zE|apply zF|refine below_set ?_ GE367.out)|exact HB.out))):w.heap.size ≤ gb369));have n5_:=zM ((by rw [hg];exact (zR (by repeat (first|(with_reducible first|exact HB.out|apply zD|apply zE|apply zF|refine below_set ?_ GE367.out)|exact HB.out))):w.heap.size ≤ gb369));have n6_:=zM ((by rw [hg];exact Nat.ne_of_lt (blk_lt (g:=gb367) (o := .cells #[.int .i64 ((rd_T60 l0 x16_1).f0),.int .i64 ((rd_T60 l0 x16_1).f1)] 60 (0,0)) (by (with_reducible repeat (first|refine zJ ?_ _|refine zK ?_|refine zL ?_ _));refine blk_put (cs := #[.int .i64 ((rd_T60 l0 x16_1).f0),.int .i64 0]) ?_ 1 _ rfl;(with_reducible repeat (first|refine zJ ?_ _|refine zK ?_|refine zL ?_ _));refine blk_put (cs := #[.int .i64 0,.int .i64 0]) ?_ 0 _ rfl;(with_reducible repeat (first|refine zJ ?_ _|refine zK ?_|refine zL ?_ _));exact BK367.out)):gb367 ≠ gb369));have n7_:=zM ((by rw [hg];exact Nat.ne_of_gt (blk_lt (g:=gb367) (o := .cells #[.int .i64 ((rd_T60 l0 x16_1).f0),.int .i64 ((rd_T60 l0 x16_1).f1)] 60 (0,0)) (by (with_reducible repeat (first|refine zJ ?_ _|refine zK ?_|refine zL ?_ _));refine blk_put (cs := #[.int .i64 ((rd_T60 l0 x16_1).f0),.int .i64 0]) ?_ 1 _ rfl;(with_reducible repeat (first|refine zJ ?_ _|refine zK ?_|refine zL ?_ _));refine blk_put (cs := #[.int .i64 0,.int .i64 0]) ?_ 0 _ rfl;(with_reducible repeat (first|refine zJ ?_ _|refine zK ?_|refine zL ?_ _));exact BK367.out)):gb369 ≠ gb367));clear HO_6;clear BK367;clear HB;have HO_6:=n0_;have BK367:=n1_;have HB:=n2_;have BK369:=n3_;have GW369:=n4_;have GE369:=n5_;have NB367_369:=n6_;have NB369_367:=n7_;clear n0_ n1_ n2_ n3_ n4_ n5_ n6_ n7_;clear hb hbox hg;have hnb43:=NB369_367.out;have hnc43:=NB367_369.out;have hcz44_0:w42.cell? ⟨gb369,0,none⟩ = some (.int .i64 0):=(blk_cell BK369.out 0).trans rfl;have hcz44_1:w42.cell? ⟨gb369,1,none⟩ = some (.int .i64 0):=(blk_cell BK369.out 1).trans rfl;have hfz44_0:=blk_frozen BK369.out 0;have hfz44_1:=blk_frozen BK369.out 1;have hcz45_0:w42.cell? ⟨gb367,0,none⟩ = some (.int .i64 ((rd_T60 l0 x16_1).f0)):=(blk_cell BK367.out 0).trans rfl;have hcz45_1:w42.cell? ⟨gb367,1,none⟩ = some (.int .i64 ((rd_T60 l0 x16_1).f1)):=(blk_cell BK367.out 1).trans rfl;have hfz45_0:=blk_frozen BK367.out 0;have hfz45_1:=blk_frozen BK367.out 1))
          go_roundg k1
          case measure=>have:=HK1.out;omega
          case rel=>exact ⟨(x6_1),(wrap64 (x16_1 + 1)),(by first|rfl|(simp;done)|(simp [*];done)),H',⟨by have:=HK1.out;omega⟩,⟨by (with_reducible repeat (first|apply zA|apply zB|apply zC));exact Kd.R_mono (Kd.R_far (p:=⟨gb369,1,none⟩) (Kd.R_far (p:=⟨gb369,0,none⟩) (Kd.R_types HO_6.out BK369.out (by decide)) (fun _ hk=>hk.2) (.int .i64 ((rd_T60 l0 1).f0))) (fun _ hk=>hk.2) (.int .i64 ((rd_T60 l0 1).f1))) (fun _ hk=>trivial)⟩,⟨by repeat (first|(with_reducible first|exact HB.out|apply zD|apply zE|apply zF|refine below_set ?_ GE367.out|refine below_set ?_ GE369.out)|exact HB.out)⟩⟩
       ·rw [if_neg c11] at H
        exact absurd H (by simp)
      ·rw [if_neg c10] at H
       exact absurd H (by simp)
     ·rw [if_neg c9] at H
      exact absurd H (by simp)
    ·rw [if_neg c8] at H
     have c8b0:decide (x16_1 < (l0.length:Int)) = false:=decide_eq_false c8
     clear c8;simp only [Option.some.injEq,Prod.mk.injEq] at H
     obtain ⟨rfl,rfl⟩:=H;go_wp2
     go_ret2
     exact ⟨_,by first|rfl|(simp [errW_none,errW_some] <;> rfl)|(simp [*,errW_none,errW_some] <;> rfl),by (with_reducible repeat (first|apply zA|apply zB|apply zC));exact HO_6.out,by repeat (first|(with_reducible first|exact HB.out|apply zD|apply zE|apply zF)|exact HB.out)⟩
 ·replace c4:=Bool.eq_false_iff.mpr c4
  subst c4;have H1:(some (([]:List Int),false)) = some (r1,r2):=by rw [if_neg (show ¬ (false = true) by decide)] at H;exact H
  clear H;have H:=H1;clear H1;simp only [Option.some.injEq,Prod.mk.injEq] at H
  obtain ⟨rfl,rfl⟩:=H;go_enter Try.func30,Try.ntmps30
  go_wp2_with (first|((with_reducible refine gate_callee (f:=17) rfl ?_);refine goesL_ (some 11) rfl rfl Try.func17 (by kernel_rfl) rfl #[.slice A0 l0.length c0] rfl (by (try simp only [List.map_toArray,List.map_cons,List.map_nil]);first|done|rfl|(simp only [List.length_drop,List.length_take];rfl)) ?_;(with_reducible refine (impl_IsValidTides.calls k _ _ l0 false _ ?side1 ?side2 A3.out).mono ?_);(case side1=>repeat (first|exact HR0.out|(with_reducible first|refine zG ?_ _|refine zH ?_ _|refine zI ?_)));(case side2=>exact HC0.out);rintro e w46 ⟨rfl,hb⟩;refine ⟨_,rfl,?_⟩;have n0_:=zM (zQ (by repeat (first|(with_reducible first|exact HB.out|apply zD|apply zE|apply zF)|exact HB.out)) hb);clear HB;have HB:=n0_;clear n0_;(try clear hb);(try clear hb2);(try clear hk);(try clear hi)))
  go_ret2
  exact ⟨_,by first|rfl|(simp [errW_none,errW_some] <;> rfl)|(simp [*,errW_none,errW_some] <;> rfl),by first|exact Kd.R_nil _ _ _ _ _|exact Kd.N_nil _ _ _ _ _|exact Kd.V_nil _ _ _ _ _|exact Kd.Q_nil _ _ _ _ _|exact Kd.S_nil _ _ _ _ _,by repeat (first|(with_reducible first|exact HB.out|apply zD|apply zE|apply zF)|exact HB.out)⟩

end Go.Proofs.Ytbglkkepfddecaa.G

namespace Go.Proofs.Ytbglkkepfddecaa.G
open Go.RowKit Go.Proofs.YtbglkkepfddecaaW.PrintWords Go.Proofs.YtbglkkepfddecaaW.PrintLast
set_option linter.unusedVariables false
set_option linter.unusedSimpArgs false
/-- Whether tide i is the higher one of its pair. -/
def upAt (xs : List S60) (i : Int) : Bool:=decide ((rd_T60 xs i).f1 > (rd_T60 xs (if i = 0 then 1 else i - 1)).f1)
def turnTo (xs : List S60) (up : Bool) : Nat → List Int
  | 0=>[]
  | d + 1=>if (upAt xs d == up) = true then turnTo xs up d ++ [(rd_T60 xs d).f0] else turnTo xs up d
end Go.Proofs.Ytbglkkepfddecaa.G

-- Written by wip/tools/gen.py out of the translation (the kit's printer, one namespace a seat). Lean checks it.
namespace Go.Proofs.Ytbglkkepfddecaa.G
open Go.RowKit Go.Proofs.YtbglkkepfddecaaW.PrintWords Go.Proofs.YtbglkkepfddecaaW.PrintLast Go.Proofs.YtbglkkepfddecaaW.PrintMore
attribute [local go_sem] max2_int min2_int max_two min_two max_three min_three max_four min_four   -- for this text's walks alone
set_option linter.unusedVariables false
set_option linter.unusedSimpArgs false

/-! ### spec_ShiftTides: function 19 -/
mutual
def spec_ShiftTides.j0:Nat → List (S60) → Int → Int → Bool → Option ((List (S60)) × Bool)
 | 0,_,_,_,_=>none
 | k + 1,x0,x1,x2,x22=>if x22 = true then (some ((([]:List (S60))),false)) else (spec_ShiftTides.l0 k x0 x1 x2 (([]:List (S60))) 0)
def spec_ShiftTides.l0:Nat → List (S60) → Int → Int → List (S60) → Int → Option ((List (S60)) × Bool)
 | 0,_,_,_,_,_=>none
 | k + 1,x0,x1,x2,x8,x9=>if x9 < (x0.length:Int) then (if 0 ≤ x9 then (if x8.length < 8796093022208 then (spec_ShiftTides.l0 k x0 x1 x2 (x8 ++ [(⟨wrap64 (((rd_T60 x0 x9).f0) + x1),wrap64 (((rd_T60 x0 x9).f1) + x2)⟩ : S60)]) (wrap64 (x9 + 1))) else (none)) else (none)) else ((spec_l15Good.f k x8).bind fun t167=>(if t167 = true then (some (x8,true)) else (some ((([]:List (S60))),false))))
end
def spec_ShiftTides.f (k:Nat) (l0:List (S60)) (a1:Int) (a2:Int):Option ((List (S60)) × Bool):=(spec_l15Good.f k l0).bind fun t153=>(if t153 = true then ((spec_l1In.f a1 (-240) 240).bind fun t154=>(if t154 = true then ((spec_l1In.f a2 (-2000) 2000).bind fun t155=>(spec_ShiftTides.j0 k l0 a1 a2 (!t155))) else (spec_ShiftTides.j0 k l0 a1 a2 true))) else (spec_ShiftTides.j0 k l0 a1 a2 true))
def spec_ShiftTides.T7:Bool × List (List Nat × List Nat):=(true,[([],[]),([],[]),([],[]),([1,2],[1,2]),([3],[3]),([4],[4]),([],[]),([5,6],[5,6]),([],[]),([],[]),([8,9],[8,9]),([10],[10]),([11],[11]),([],[]),([12,13],[12,13]),([7,14],[7,14]),([15],[15]),([0,16],[0,16]),([17,17,0,1,2,3,4,5,6,7,8,9,10,11,12,13,14,15,16,17],[0,17])])
def spec_ShiftTides.B7:List Nat:=[0,0,0,6,14,30,0,126,0,0,768,1792,3840,0,16128,32766,65534,131071,262143]
theorem spec_ShiftTides.tab7:rtab .any (opsOf Try.f19 7) = spec_ShiftTides.T7:=by kernel_rfl
theorem spec_ShiftTides.bits7:waitsOk spec_ShiftTides.T7.2 spec_ShiftTides.B7 = true:=by kernel_rfl
set_option maxHeartbeats 8000000 in
set_option maxRecDepth 100000 in
theorem spec_ShiftTides.calls (k:Nat) (A0:Option Addr) (c0:Nat) (l0:List (S60)) (a1:Int) (a2:Int) (r1:List (S60)) (r2:Bool) (w:World) (hr0:Kd.C k60 w A0 l0.length l0) (hc0:l0.length ≤ c0) (h:spec_ShiftTides.f k l0 a1 a2 = some (r1,r2)) :
  Calls Try.prog 19 #[.slice A0 l0.length c0,.int .i64 a1,.int .i64 a2] w fun e w' => ∃ v0_:Value,e = .returned (.tuple #[v0_,.bool r2]) ∧ Kd.R k60 60 w' w.heap.size (fun _=>True) v0_ r1 ∧ Below w.heap.size w w':=by
 have hu60:=Try.underlying60;have HR0:=zM hr0;have HC0:=zM hc0;clear hr0 hc0;have HB:=zM (Below.refl w.heap.size w);have H:((spec_l15Good.f k l0).bind fun t153=>(if t153 = true then ((spec_l1In.f a1 (-240) 240).bind fun t154=>(if t154 = true then ((spec_l1In.f a2 (-2000) 2000).bind fun t155=>(spec_ShiftTides.j0 k l0 a1 a2 (!t155))) else (spec_ShiftTides.j0 k l0 a1 a2 true))) else (spec_ShiftTides.j0 k l0 a1 a2 true))) = some (r1,r2):=h
 clear h;have HC4:=zM H;clear H;go_enter Try.func19,Try.ntmps19
 go_upto_region 1 with (fail)
 go_cut [22] (fun v22 wc => ∃ (kq:Nat) (x22_3:Bool),v22 = .bool x22_3 ∧ Aside0 (spec_ShiftTides.j0 kq l0 a1 a2 x22_3 = some (r1,r2)) ∧ Aside0 (kq ≤ k) ∧ Aside0 (Below w.heap.size w wc))
 case first =>
  have H:=HC4.out;clear HC4;replace H:=Option.bind_eq_some_iff.mp H;obtain ⟨t153,A50,H⟩:=H;replace H:(if t153 = true then ((spec_l1In.f a1 (-240) 240).bind fun t154=>(if t154 = true then ((spec_l1In.f a2 (-2000) 2000).bind fun t155=>(spec_ShiftTides.j0 k l0 a1 a2 (!t155))) else (spec_ShiftTides.j0 k l0 a1 a2 true))) else (spec_ShiftTides.j0 k l0 a1 a2 true)) = some (r1,r2):=H
  have A5:=zM A50;clear A50;by_cases c6:t153 = true
  ·subst c6
   have H1:((spec_l1In.f a1 (-240) 240).bind fun t154=>(if t154 = true then ((spec_l1In.f a2 (-2000) 2000).bind fun t155=>(spec_ShiftTides.j0 k l0 a1 a2 (!t155))) else (spec_ShiftTides.j0 k l0 a1 a2 true))) = some (r1,r2):=by rw [if_pos rfl] at H;exact H
   clear H;have H:=H1;clear H1;replace H:=Option.bind_eq_some_iff.mp H;obtain ⟨t154,A70,H⟩:=H;replace H:(if t154 = true then ((spec_l1In.f a2 (-2000) 2000).bind fun t155=>(spec_ShiftTides.j0 k l0 a1 a2 (!t155))) else (spec_ShiftTides.j0 k l0 a1 a2 true)) = some (r1,r2):=H
   have A7:=zM A70;clear A70;by_cases c8:t154 = true
   ·subst c8
    have H1:((spec_l1In.f a2 (-2000) 2000).bind fun t155=>(spec_ShiftTides.j0 k l0 a1 a2 (!t155))) = some (r1,r2):=by rw [if_pos rfl] at H;exact H
    clear H;have H:=H1;clear H1;replace H:=Option.bind_eq_some_iff.mp H;obtain ⟨t155,A90,H⟩:=H;replace H:(spec_ShiftTides.j0 k l0 a1 a2 (!t155)) = some (r1,r2):=H
    have A9:=zM A90;clear A90;have H':=zM H;clear H;go_wp2_with (first|((with_reducible refine gate_callee (f:=52) rfl ?_);refine goesL_ (some 11) rfl rfl Try.func52 (by kernel_rfl) rfl #[.slice A0 l0.length c0] rfl (by (try simp only [List.map_toArray,List.map_cons,List.map_nil]);first|done|rfl|(simp only [List.length_drop,List.length_take];rfl)) ?_;(with_reducible refine (spec_l15Good.calls k _ _ l0 true _ ?side1 ?side2 A5.out).mono ?_);(case side1=>repeat (first|exact (zO HR0.out HB.out)|(with_reducible first|refine zG ?_ _|refine zH ?_ _|refine zI ?_)));(case side2=>exact HC0.out);rintro e w' ⟨rfl,⟨nd,rfl⟩⟩;refine ⟨_,rfl,?_⟩)|(go_at_call 56;(with_reducible refine (spec_l1In.calls a1 (-240) 240 true _ A7.out).mono ?_);rintro e w' ⟨rfl,⟨nd,rfl⟩⟩)|(go_at_call 56;(with_reducible refine (spec_l1In.calls a2 (-2000) 2000 t155 _ A9.out).mono ?_);rintro e w' ⟨rfl,⟨nd,rfl⟩⟩))
    go_meet
    case rel=>exact ⟨_,(!t155),(by first|rfl|(simp;done)|(simp [*];done)),H',⟨by first|omega|exact Nat.le_refl _⟩,⟨by repeat (first|(with_reducible first|exact HB.out|apply zD|apply zE|apply zF)|exact HB.out)⟩⟩
   ·replace c8:=Bool.eq_false_iff.mpr c8
    subst c8;have H1:(spec_ShiftTides.j0 k l0 a1 a2 true) = some (r1,r2):=by rw [if_neg (show ¬ (false = true) by decide)] at H;exact H
    clear H;have H:=H1;clear H1;have H':=zM H;clear H;go_wp2_with (first|((with_reducible refine gate_callee (f:=52) rfl ?_);refine goesL_ (some 11) rfl rfl Try.func52 (by kernel_rfl) rfl #[.slice A0 l0.length c0] rfl (by (try simp only [List.map_toArray,List.map_cons,List.map_nil]);first|done|rfl|(simp only [List.length_drop,List.length_take];rfl)) ?_;(with_reducible refine (spec_l15Good.calls k _ _ l0 true _ ?side1 ?side2 A5.out).mono ?_);(case side1=>repeat (first|exact (zO HR0.out HB.out)|(with_reducible first|refine zG ?_ _|refine zH ?_ _|refine zI ?_)));(case side2=>exact HC0.out);rintro e w' ⟨rfl,⟨nd,rfl⟩⟩;refine ⟨_,rfl,?_⟩)|(go_at_call 56;(with_reducible refine (spec_l1In.calls a1 (-240) 240 false _ A7.out).mono ?_);rintro e w' ⟨rfl,⟨nd,rfl⟩⟩))
    go_meet
    case rel=>exact ⟨_,(true),(by first|rfl|(simp;done)|(simp [*];done)),H',⟨by first|omega|exact Nat.le_refl _⟩,⟨by repeat (first|(with_reducible first|exact HB.out|apply zD|apply zE|apply zF)|exact HB.out)⟩⟩
  ·replace c6:=Bool.eq_false_iff.mpr c6
   subst c6;have H1:(spec_ShiftTides.j0 k l0 a1 a2 true) = some (r1,r2):=by rw [if_neg (show ¬ (false = true) by decide)] at H;exact H
   clear H;have H:=H1;clear H1;have H':=zM H;clear H;go_wp2_with (first|((with_reducible refine gate_callee (f:=52) rfl ?_);refine goesL_ (some 11) rfl rfl Try.func52 (by kernel_rfl) rfl #[.slice A0 l0.length c0] rfl (by (try simp only [List.map_toArray,List.map_cons,List.map_nil]);first|done|rfl|(simp only [List.length_drop,List.length_take];rfl)) ?_;(with_reducible refine (spec_l15Good.calls k _ _ l0 false _ ?side1 ?side2 A5.out).mono ?_);(case side1=>repeat (first|exact (zO HR0.out HB.out)|(with_reducible first|refine zG ?_ _|refine zH ?_ _|refine zI ?_)));(case side2=>exact HC0.out);rintro e w' ⟨rfl,⟨nd,rfl⟩⟩;refine ⟨_,rfl,?_⟩))
   go_meet
   case rel=>exact ⟨_,(true),(by first|rfl|(simp;done)|(simp [*];done)),H',⟨by first|omega|exact Nat.le_refl _⟩,⟨by repeat (first|(with_reducible first|exact HB.out|apply zD|apply zE|apply zF)|exact HB.out)⟩⟩
 case rest =>
  clear HC4;(try clear c1);(try clear p2);(try clear c5);(try clear c6);(try clear c8);obtain ⟨kq,x22_3,rfl,HA,HJ3,HB⟩:=hcut;cases kq with
  | zero=>exact absurd HA.out (by simp [spec_ShiftTides.j0])
  | succ kj3 =>
   have H:=HA.out;clear HA;simp only [spec_ShiftTides.j0] at H
   by_cases c10:x22_3 = true
   ·subst c10
    have H1:(some ((([]:List (S60))),false)) = some (r1,r2):=by rw [if_pos rfl] at H;exact H
    clear H;have H:=H1;clear H1;obtain ⟨y156,hy156⟩ : ∃ y_:List (S60),y_ = (([]:List (S60))):=⟨_,rfl⟩
    replace H:(some (y156,false)) = some (r1,r2):=by first|(rw [hy156];with_reducible exact H)|(have H2_:=(Option.bind_some _ _).symm.trans H;rw [hy156];with_reducible exact H2_)|(have H2_:=(Option.bind_some _ _).symm.trans H;with_reducible exact H2_)|with_reducible exact H|(rw [hy156];exact H)|exact H
    have Ny156:=zM hy156;clear hy156;simp only [Option.some.injEq,Prod.mk.injEq] at H
    obtain ⟨rfl,rfl⟩:=H;go_wp2_with (first|((with_reducible refine gate_dst (N:=23) rfl ?_);refine Kd.R_lit k60 _ 60 ?hg (N:=23) ?hd (xs:=([]:List (S60))) (inner:=[]) (ok:=fun _=>True) (okp:=fun _=>True) ?hr ?hp (fun _ hk=>hk) trivial (Below.refl _ _) (Nat.le_refl _) (by simp) ?_;(case hd=>rfl);(case hg=>rfl);(case hr=>first|(go_simp;done)|(go_simp;rfl));(case hp=>exact (Reps.none _ _));intro v157 w11 ho12 hb hg_ hnew_;clear hg_ hnew_;(first|rw [← Ny156.out] at ho12|(simp only [Int.reduceToNat] at ho12;rw [← Ny156.out] at ho12));have n0_:=zM (Kd.R_lower ho12 (zR (by repeat (first|(with_reducible first|exact HB.out|apply zD|apply zE|apply zF)|exact HB.out))));have n1_:=zM (zQ (by repeat (first|(with_reducible first|exact HB.out|apply zD|apply zE|apply zF)|exact HB.out)) hb);clear HB;have HO158:=n0_;have HB:=n1_;clear n0_ n1_;clear hb ho12))
    go_ret2
    exact ⟨_,by first|rfl|(simp [errW_none,errW_some] <;> rfl)|(simp [*,errW_none,errW_some] <;> rfl),by (with_reducible repeat (first|apply zA|apply zB|apply zC));exact HO158.out,by repeat (first|(with_reducible first|exact HB.out|apply zD|apply zE|apply zF)|exact HB.out)⟩
   ·replace c10:=Bool.eq_false_iff.mpr c10
    subst c10;have H1:(spec_ShiftTides.l0 kj3 l0 a1 a2 (([]:List (S60))) 0) = some (r1,r2):=by rw [if_neg (show ¬ (false = true) by decide)] at H;exact H
    clear H;have H:=H1;clear H1;obtain ⟨y159,hy159⟩ : ∃ y_:List (S60),y_ = (([]:List (S60))):=⟨_,rfl⟩
    replace H:(spec_ShiftTides.l0 kj3 l0 a1 a2 y159 0) = some (r1,r2):=by first|(rw [hy159];with_reducible exact H)|(have H2_:=(Option.bind_some _ _).symm.trans H;rw [hy159];with_reducible exact H2_)|(have H2_:=(Option.bind_some _ _).symm.trans H;with_reducible exact H2_)|with_reducible exact H|(rw [hy159];exact H)|exact H
    have Ny159:=zM hy159;clear hy159;have H':=zM H;clear H;go_wp2_with (first|((with_reducible refine gate_dst (N:=24) rfl ?_);refine Kd.R_lit k60 _ 60 ?hg (N:=24) ?hd (xs:=([]:List (S60))) (inner:=[]) (ok:=fun _=>True) (okp:=fun _=>True) ?hr ?hp (fun _ hk=>hk) trivial (Below.refl _ _) (Nat.le_refl _) (by simp) ?_;(case hd=>rfl);(case hg=>rfl);(case hr=>first|(go_simp;done)|(go_simp;rfl));(case hp=>exact (Reps.none _ _));intro v160 w13 ho14 hb hg_ hnew_;clear hg_ hnew_;(first|rw [← Ny159.out] at ho14|(simp only [Int.reduceToNat] at ho14;rw [← Ny159.out] at ho14));have n0_:=zM (Kd.R_lower ho14 (zR (by repeat (first|(with_reducible first|exact HB.out|apply zD|apply zE|apply zF)|exact HB.out))));have n1_:=zM (zQ (by repeat (first|(with_reducible first|exact HB.out|apply zD|apply zE|apply zF)|exact HB.out)) hb);clear HB;have HO161:=n0_;have HB:=n1_;clear n0_ n1_;clear hb ho14))
    go_loopg [8,9] kj3 (fun kq v8 v9 w' => ∃ (x8_2:List (S60)) (x9_2:Int),v9 = .int .i64 x9_2 ∧ Aside0 (spec_ShiftTides.l0 kq l0 a1 a2 x8_2 x9_2 = some (r1,r2)) ∧ Aside0 (kq ≤ kj3) ∧ Aside0 (Kd.R k60 60 w' w.heap.size (fun _=>True) v8 x8_2) ∧ Aside0 (Below w.heap.size w w'))
    case atStart=>exact ⟨(y159),(0),(by first|rfl|(simp;done)|(simp [*];done)),H',⟨Nat.le_refl _⟩,⟨by (with_reducible repeat (first|apply zA|apply zB|apply zC));exact HO161.out⟩,⟨by repeat (first|(with_reducible first|exact HB.out|apply zD|apply zE|apply zF)|exact HB.out)⟩⟩
    case round =>
     clear H';(try clear c1);(try clear p2);(try clear c5);(try clear c6);(try clear c8);(try clear c10);(try clear p2);obtain ⟨x8_2,x9_2,rfl,HA,HK2,HO_8,HB⟩:=hrel;cases gk with
     | zero=>exact absurd HA.out (by simp [spec_ShiftTides.l0])
     | succ k2 =>
      have H:=HA.out;clear HA;simp only [spec_ShiftTides.l0] at H
      by_cases c15:x9_2 < (l0.length:Int)
      ·rw [if_pos c15] at H
       have c15b0:decide (x9_2 < (l0.length:Int)) = true:=decide_eq_true c15
       clear c15;by_cases c16:0 ≤ x9_2
       ·rw [if_pos c16] at H
        have c16b0:decide (0 ≤ x9_2) = true:=decide_eq_true c16
        clear c16;by_cases c17:x8_2.length < 8796093022208
        ·rw [if_pos c17] at H
         have LMc17:=zM c17;clear c17;obtain ⟨y164,hy164⟩ : ∃ y_:List (S60),y_ = (x8_2 ++ [(⟨wrap64 (((rd_T60 l0 x9_2).f0) + a1),wrap64 (((rd_T60 l0 x9_2).f1) + a2)⟩ : S60)]):=⟨_,rfl⟩
         replace H:(spec_ShiftTides.l0 k2 l0 a1 a2 y164 (wrap64 (x9_2 + 1))) = some (r1,r2):=by first|(rw [hy164];with_reducible exact H)|(have H2_:=(Option.bind_some _ _).symm.trans H;rw [hy164];with_reducible exact H2_)|(have H2_:=(Option.bind_some _ _).symm.trans H;with_reducible exact H2_)|with_reducible exact H|(rw [hy164];exact H)|exact H
         have Ny164:=zM hy164;clear hy164;have H':=zM H;clear H;try go_wp2
         have n0_:=zM (zC HO_8.out);have n1_:=zM (zF HB.out);clear HO_8;clear HB;have HO_8:=n0_;have HB:=n1_;clear n0_ n1_;have p162:0 ≤ (x9_2:Int):=of_decide_eq_true (by first|(with_reducible assumption)|assumption)
         have q162:x9_2 < (l0.length:Int):=of_decide_eq_true (by first|(with_reducible assumption)|assumption)
         obtain ⟨ad162,e162,hx162_0,hx162_1⟩:=at_T60 HR0.out x9_2 p162 q162;have hw162_1:=hx162_1;have hw162_0:=hx162_0;cases e162
         replace hx162_0:=zS HB.out hx162_0;replace hx162_1:=zS HB.out hx162_1;replace p162:=eq_true p162;replace q162:=eq_true q162;have p163:0 ≤ (x9_2:Int):=of_decide_eq_true (by first|(with_reducible assumption)|assumption)
         have q163:x9_2 < (l0.length:Int):=of_decide_eq_true (by first|(with_reducible assumption)|assumption)
         obtain ⟨ad163,e163,hx163_0,hx163_1⟩:=at_T60 HR0.out x9_2 p163 q163;have hw163_1:=hx163_1;have hw163_0:=hx163_0;obtain rfl:ad162 = ad163:=(by injection e163)
         replace hx163_0:=zS HB.out hx163_0;replace hx163_1:=zS HB.out hx163_1;replace p163:=eq_true p163;replace q163:=eq_true q163;refine start_ (n:=19) (S:=fun w'=>w'.cell? (ad162.add ((x9_2).toNat * 2)) = some (.int .i64 ((rd_T60 l0 x9_2).f0)) ∧ w'.cell? ⟨(ad162.add ((x9_2).toNat * 2)).block,(ad162.add ((x9_2).toNat * 2)).off + 1,none⟩ = some (.int .i64 ((rd_T60 l0 x9_2).f1)) ∧ w'.cell? (ad162.add ((x9_2).toNat * 2)) = some (.int .i64 ((rd_T60 l0 x9_2).f0)) ∧ w'.cell? ⟨(ad162.add ((x9_2).toNat * 2)).block,(ad162.add ((x9_2).toNat * 2)).off + 1,none⟩ = some (.int .i64 ((rd_T60 l0 x9_2).f1))) (ds:=[]) #[false,false,false,false,false,false,false,false,false,false,false,false,false,false,false,false,false,false,false] (by kernel_rfl) rfl rfl ⟨(zS HB.out hw162_0),(zS HB.out hw162_1),(zS HB.out hw163_0),(zS HB.out hw163_1)⟩ (fun hHeld=>?_);refine with_tabW spec_ShiftTides.tab7 spec_ShiftTides.bits7 (fun HT_ HW_=>?_)
         generalize wr.drew = w18 at HO_8 HB hx162_0 hx162_1 hx163_0 hx163_1 hHeld ⊢
         refine pure_ (i:=0) (N:=some 31) (v:=?_) (a':=?_) #[true,false,false,false,false,false,false,false,false,false,false,false,false,false,false,false,false,false,false] rfl rfl (any_of HT_.out (by kernel_rfl)) (fun _ _ _ h=>h) (Or.inl ⟨by rfl,?_⟩) ?_ ?_
         rotate_left
         ·intro w'
          go_simp
          with_reducible rfl
         rotate_left
         ·simp only [Act.put,zT,zU,zV,i64_w,i32_w]
          rfl
         refine pure_ (i:=1) (N:=some 32) (v:=?_) (a':=?_) #[true,true,false,false,false,false,false,false,false,false,false,false,false,false,false,false,false,false,false] rfl rfl (any_of HT_.out (by kernel_rfl)) (fun _ _ _ h=>h) (Or.inl ⟨by rfl,?_⟩) ?_ ?_
         rotate_left
         ·intro w'
          go_simp
          with_reducible rfl
         rotate_left
         ·simp only [Act.put,zT,zU,zV,i64_w,i32_w]
          rfl
         refine pure_ (i:=2) (N:=some 33) (v:=?_) (a':=?_) #[true,true,true,false,false,false,false,false,false,false,false,false,false,false,false,false,false,false,false] rfl rfl (any_of HT_.out (by kernel_rfl)) (fun _ _ _ h=>h) (Or.inl ⟨by rfl,?_⟩) ?_ ?_
         rotate_left
         ·intro w'
          go_simp
          with_reducible rfl
         rotate_left
         ·simp only [Act.put,zT,zU,zV,i64_w,i32_w]
          rfl
         refine pure_ (i:=3) (N:=some 34) (v:=?_) (a':=?_) #[true,true,true,true,false,false,false,false,false,false,false,false,false,false,false,false,false,false,false] rfl rfl (any_of HT_.out (by kernel_rfl)) (fun _ _ _ h=>h) (Or.inl ⟨by rfl,?_⟩) ?_ ?_
         rotate_left
         ·intro w'
          go_simp
          with_reducible rfl
         rotate_left
         ·simp only [Act.put,zT,zU,zV,i64_w,i32_w]
          rfl
         refine pure_ (i:=4) (N:=some 35) (v:=?_) (a':=?_) #[true,true,true,true,true,false,false,false,false,false,false,false,false,false,false,false,false,false,false] rfl rfl (any_of HT_.out (by kernel_rfl)) (fun _ _ _ h=>h) (Or.inl ⟨by rfl,?_⟩) ?_ ?_
         rotate_left
         ·intro w'
          go_simp
          with_reducible rfl
         rotate_left
         ·simp only [Act.put,zT,zU,zV,i64_w,i32_w]
          rfl
         refine pure_ (i:=6) (N:=some 37) (v:=?_) (a':=?_) #[true,true,true,true,true,false,true,false,false,false,false,false,false,false,false,false,false,false,false] rfl rfl (any_of HT_.out (by kernel_rfl)) (fun _ _ _ h=>h) (Or.inl ⟨by rfl,?_⟩) ?_ ?_
         rotate_left
         ·intro w'
          go_simp
          with_reducible rfl
         rotate_left
         ·simp only [Act.put,zT,zU,zV,i64_w,i32_w]
          rfl
         refine pure_ (i:=8) (N:=some 39) (v:=?_) (a':=?_) #[true,true,true,true,true,false,true,false,true,false,false,false,false,false,false,false,false,false,false] rfl rfl (any_of HT_.out (by kernel_rfl)) (fun _ _ _ h=>h) (Or.inl ⟨by rfl,?_⟩) ?_ ?_
         rotate_left
         ·intro w'
          go_simp
          with_reducible rfl
         rotate_left
         ·simp only [Act.put,zT,zU,zV,i64_w,i32_w]
          rfl
         refine pure_ (i:=9) (N:=some 40) (v:=?_) (a':=?_) #[true,true,true,true,true,false,true,false,true,true,false,false,false,false,false,false,false,false,false] rfl rfl (any_of HT_.out (by kernel_rfl)) (fun _ _ _ h=>h) (Or.inl ⟨by rfl,?_⟩) ?_ ?_
         rotate_left
         ·intro w'
          go_simp
          with_reducible rfl
         rotate_left
         ·simp only [Act.put,zT,zU,zV,i64_w,i32_w]
          rfl
         refine pure_ (i:=10) (N:=some 41) (v:=?_) (a':=?_) #[true,true,true,true,true,false,true,false,true,true,true,false,false,false,false,false,false,false,false] rfl rfl (any_of HT_.out (by kernel_rfl)) (fun _ _ _ h=>h) (Or.inl ⟨by rfl,?_⟩) ?_ ?_
         rotate_left
         ·intro w'
          go_simp
          with_reducible rfl
         rotate_left
         ·simp only [Act.put,zT,zU,zV,i64_w,i32_w]
          rfl
         refine pure_ (i:=11) (N:=some 42) (v:=?_) (a':=?_) #[true,true,true,true,true,false,true,false,true,true,true,true,false,false,false,false,false,false,false] rfl rfl (any_of HT_.out (by kernel_rfl)) (fun _ _ _ h=>h) (Or.inl ⟨by rfl,?_⟩) ?_ ?_
         rotate_left
         ·intro w'
          go_simp
          with_reducible rfl
         rotate_left
         ·simp only [Act.put,zT,zU,zV,i64_w,i32_w]
          rfl
         refine pure_ (i:=13) (N:=some 44) (v:=?_) (a':=?_) #[true,true,true,true,true,false,true,false,true,true,true,true,false,true,false,false,false,false,false] rfl rfl (any_of HT_.out (by kernel_rfl)) (fun _ _ _ h=>h) (Or.inl ⟨by rfl,?_⟩) ?_ ?_
         rotate_left
         ·intro w'
          go_simp
          with_reducible rfl
         rotate_left
         ·simp only [Act.put,zT,zU,zV,i64_w,i32_w]
          rfl
         refine take_ (i:=5) (N:=some 36) (v:=?_) (a':=?_) #[true,true,true,true,true,true,true,false,true,true,true,true,false,true,false,false,false,false,false] rfl rfl (take_ofW HT_.out HW_.out (by kernel_rfl)) (fun _ _ _ h=>h) (Or.inl ⟨by rfl,?_⟩) hHeld ?_ ?_
         rotate_left
         ·rintro w' ⟨s0,s1,s2,s3⟩
          go_simp
          with_reducible rfl
         rotate_left
         ·simp only [Act.put,zT,zU,zV,i64_w,i32_w]
          rfl
         refine pure_ (i:=7) (N:=some 38) (v:=?_) (a':=?_) #[true,true,true,true,true,true,true,true,true,true,true,true,false,true,false,false,false,false,false] rfl rfl (any_of HT_.out (by kernel_rfl)) (fun _ _ _ h=>h) (Or.inl ⟨by rfl,?_⟩) ?_ ?_
         rotate_left
         ·intro w'
          go_simp
          with_reducible rfl
         rotate_left
         ·simp only [Act.put,zT,zU,zV,i64_w,i32_w]
          rfl
         refine take_ (i:=12) (N:=some 43) (v:=?_) (a':=?_) #[true,true,true,true,true,true,true,true,true,true,true,true,true,true,false,false,false,false,false] rfl rfl (take_ofW HT_.out HW_.out (by kernel_rfl)) (fun _ _ _ h=>h) (Or.inl ⟨by rfl,?_⟩) hHeld ?_ ?_
         rotate_left
         ·rintro w' ⟨s0,s1,s2,s3⟩
          go_simp
          with_reducible rfl
         rotate_left
         ·simp only [Act.put,zT,zU,zV,i64_w,i32_w]
          rfl
         refine pure_ (i:=14) (N:=some 45) (v:=?_) (a':=?_) #[true,true,true,true,true,true,true,true,true,true,true,true,true,true,true,false,false,false,false] rfl rfl (any_of HT_.out (by kernel_rfl)) (fun _ _ _ h=>h) (Or.inl ⟨by rfl,?_⟩) ?_ ?_
         rotate_left
         ·intro w'
          go_simp
          with_reducible rfl
         rotate_left
         ·simp only [Act.put,zT,zU,zV,i64_w,i32_w]
          rfl
         refine pure_ (i:=15) (N:=some 46) (v:=?_) (a':=?_) #[true,true,true,true,true,true,true,true,true,true,true,true,true,true,true,true,false,false,false] rfl rfl (any_of HT_.out (by kernel_rfl)) (fun _ _ _ h=>h) (Or.inl ⟨by rfl,?_⟩) ?_ ?_
         rotate_left
         ·intro w'
          go_simp
          with_reducible rfl
         rotate_left
         ·simp only [Act.put,zT,zU,zV,i64_w,i32_w]
          rfl
         refine one_ (i:=16) (N:=some 47) #[true,true,true,true,true,true,true,true,true,true,true,true,true,true,true,true,true,false,false] rfl rfl (one_of HT_.out (by kernel_rfl)) (by decide) (fun K hK=>?_)
         refine value_ (w1:=?_) (v:=?_) (by rfl) rfl ?_ ?_
         rotate_left 2
         ·go_simp
          constructor
          ·rfl
          ·rfl
         refine hK.out _ _ ⟨(World.cell?_alloc_lt _ _ _ (World.block_lt_of_cell? _ _ ((zS HB.out hw162_0)))).trans ((zS HB.out hw162_0)),(World.cell?_alloc_lt _ _ _ (World.block_lt_of_cell? _ _ ((zS HB.out hw162_1)))).trans ((zS HB.out hw162_1)),(World.cell?_alloc_lt _ _ _ (World.block_lt_of_cell? _ _ ((zS HB.out hw163_0)))).trans ((zS HB.out hw163_0)),(World.cell?_alloc_lt _ _ _ (World.block_lt_of_cell? _ _ ((zS HB.out hw163_1)))).trans ((zS HB.out hw163_1))⟩ (fun hHeld=>?_)
         clear hK K;refine norm_ (a':=?_) ?_ ?_
         rotate_left
         ·show Act.put _ (some 47) _ = _
          simp only [Act.put,zT,zU,zV,i64_w,i32_w]
          rfl
         refine one_ (i:=17) (N:=some 48) #[true,true,true,true,true,true,true,true,true,true,true,true,true,true,true,true,true,true,false] rfl rfl (one_of HT_.out (by kernel_rfl)) (by decide) (fun K hK=>?_)
         refine Kd.R_append_step k60 (w0:=w) w.heap.size (by rfl) (.tmp 31) (.tmp 47) 25 60 (.agg #[(.int .i64 0),(.int .i64 0)]) 16 rfl Try.underlying25 info60 rfl (by decide) (by omega) u8 x8_2 (⟨wrap64 (((rd_T60 l0 x9_2).f0) + a1),wrap64 (((rd_T60 l0 x9_2).f1) + a2)⟩ : S60) [.int .i64 (wrap64 (((rd_T60 l0 x9_2).f0) + a1)),.int .i64 (wrap64 (((rd_T60 l0 x9_2).f1) + a2))] (fun _=>True) (fun _=>False) rfl rfl ?aP (fun _ hk=>hk.elim) ?aF ?aO ?aB ?aS ?aL ?_
         (case aP=>exact k60_mkM _ _ _ (⟨wrap64 (((rd_T60 l0 x9_2).f0) + a1),wrap64 (((rd_T60 l0 x9_2).f1) + a2)⟩ : S60))
         (case aB=>exact (by repeat (first|(with_reducible first|exact HB.out|apply zD|apply zE|apply zF)|exact HB.out)))
         (case aF=>exact (fun _ _=>trivial))
         (case aO=>exact (by (with_reducible repeat (first|apply zA|apply zB|apply zC));exact HO_8.out))
         (case aS=>exact (zR (by repeat (first|(with_reducible first|exact HB.out|apply zD|apply zE|apply zF)|exact HB.out))))
         (case aL=>have:=LMc17.out;omega)
         intro v165 w19 ho hb hg hat;rw [← Ny164.out] at ho;have n0_:=zM (hb);have n1_:=zM (ho);clear HB;clear HO_8;have HB:=n0_;have HO166:=n1_;clear n0_ n1_;clear ho hb hg hat;refine hK.out _ _ ⟨(zS HB.out hw162_0),(zS HB.out hw162_1),(zS HB.out hw163_0),(zS HB.out hw163_1)⟩ (fun hHeld=>?_)
         clear hK K;refine norm_ (a':=?_) ?_ ?_
         rotate_left
         ·show Act.put _ (some 48) _ = _
          simp only [Act.put,zT,zU,zV,i64_w,i32_w]
          rfl
         refine pure_ (i:=18) (N:=some 8) (v:=?_) (a':=?_) #[true,true,true,true,true,true,true,true,true,true,true,true,true,true,true,true,true,true,true] rfl rfl (any_of HT_.out (by kernel_rfl)) (fun _ _ _ h=>h) (Or.inl ⟨by rfl,?_⟩) ?_ ?_
         rotate_left
         ·intro w'
          go_simp
          with_reducible rfl
         rotate_left
         ·simp only [Act.put,zT,zU,zV,i64_w,i32_w]
          rfl
         refine done_ (done_of HT_.out (by kernel_rfl)) ?_
         try go_wp2
         go_roundg k2
         case measure=>have:=HJ3.out;have:=HK2.out;omega
         case rel=>exact ⟨(y164),(wrap64 (x9_2 + 1)),(by first|rfl|(simp;done)|(simp [*];done)),H',⟨by have:=HJ3.out;have:=HK2.out;omega⟩,⟨by (with_reducible repeat (first|apply zA|apply zB|apply zC));exact HO166.out⟩,⟨by repeat (first|(with_reducible first|exact HB.out|apply zD|apply zE|apply zF)|exact HB.out)⟩⟩
        ·rw [if_neg c17] at H
         exact absurd H (by simp)
       ·rw [if_neg c16] at H
        exact absurd H (by simp)
      ·rw [if_neg c15] at H
       have c15b0:decide (x9_2 < (l0.length:Int)) = false:=decide_eq_false c15
       clear c15;replace H:=Option.bind_eq_some_iff.mp H;obtain ⟨t167,A200,H⟩:=H;replace H:(if t167 = true then (some (x8_2,true)) else (some ((([]:List (S60))),false))) = some (r1,r2):=H
       have A20:=zM A200;clear A200;by_cases c21:t167 = true
       ·subst c21
        have H1:(some (x8_2,true)) = some (r1,r2):=by rw [if_pos rfl] at H;exact H
        clear H;have H:=H1;clear H1;simp only [Option.some.injEq,Prod.mk.injEq] at H
        obtain ⟨rfl,rfl⟩:=H;obtain ⟨Ao22,co22,eo22⟩:=Kd.R_slice HO_8.out;subst eo22;go_wp2_with (first|((with_reducible refine gate_callee (f:=52) rfl ?_);refine goesL_ (some 50) rfl rfl Try.func52 (by kernel_rfl) rfl #[.slice Ao22 x8_2.length co22] rfl (by (try simp only [List.map_toArray,List.map_cons,List.map_nil]);first|done|rfl|(simp only [List.length_drop,List.length_take];rfl)) ?_;(with_reducible refine (spec_l15Good.calls k2 _ _ x8_2 true _ ?side1 ?side2 A20.out).mono ?_);(case side1=>repeat (first|exact (zN HO_8.out).2.2|(with_reducible first|refine zG ?_ _|refine zH ?_ _|refine zI ?_)));(case side2=>exact (zN HO_8.out).2.1);rintro e w' ⟨rfl,⟨nd,rfl⟩⟩;refine ⟨_,rfl,?_⟩))
        go_ret2
        exact ⟨_,by first|rfl|(simp [errW_none,errW_some] <;> rfl)|(simp [*,errW_none,errW_some] <;> rfl),by (with_reducible repeat (first|apply zA|apply zB|apply zC));exact HO_8.out,by repeat (first|(with_reducible first|exact HB.out|apply zD|apply zE|apply zF)|exact HB.out)⟩
       ·replace c21:=Bool.eq_false_iff.mpr c21
        subst c21;have H1:(some ((([]:List (S60))),false)) = some (r1,r2):=by rw [if_neg (show ¬ (false = true) by decide)] at H;exact H
        clear H;have H:=H1;clear H1;obtain ⟨y168,hy168⟩ : ∃ y_:List (S60),y_ = (([]:List (S60))):=⟨_,rfl⟩
        replace H:(some (y168,false)) = some (r1,r2):=by first|(rw [hy168];with_reducible exact H)|(have H2_:=(Option.bind_some _ _).symm.trans H;rw [hy168];with_reducible exact H2_)|(have H2_:=(Option.bind_some _ _).symm.trans H;with_reducible exact H2_)|with_reducible exact H|(rw [hy168];exact H)|exact H
        have Ny168:=zM hy168;clear hy168;simp only [Option.some.injEq,Prod.mk.injEq] at H
        obtain ⟨rfl,rfl⟩:=H;obtain ⟨Ao23,co23,eo23⟩:=Kd.R_slice HO_8.out;subst eo23;go_wp2_with (first|((with_reducible refine gate_callee (f:=52) rfl ?_);refine goesL_ (some 50) rfl rfl Try.func52 (by kernel_rfl) rfl #[.slice Ao23 x8_2.length co23] rfl (by (try simp only [List.map_toArray,List.map_cons,List.map_nil]);first|done|rfl|(simp only [List.length_drop,List.length_take];rfl)) ?_;(with_reducible refine (spec_l15Good.calls k2 _ _ x8_2 false _ ?side1 ?side2 A20.out).mono ?_);(case side1=>repeat (first|exact (zN HO_8.out).2.2|(with_reducible first|refine zG ?_ _|refine zH ?_ _|refine zI ?_)));(case side2=>exact (zN HO_8.out).2.1);rintro e w' ⟨rfl,⟨nd,rfl⟩⟩;refine ⟨_,rfl,?_⟩)|((with_reducible refine gate_dst (N:=52) rfl ?_);refine Kd.R_lit k60 _ 60 ?hg (N:=52) ?hd (xs:=([]:List (S60))) (inner:=[]) (ok:=fun _=>True) (okp:=fun _=>True) ?hr ?hp (fun _ hk=>hk) trivial (Below.refl _ _) (Nat.le_refl _) (by simp) ?_;(case hd=>rfl);(case hg=>rfl);(case hr=>first|(go_simp;done)|(go_simp;rfl));(case hp=>exact (Reps.none _ _));intro v169 w24 ho25 hb hg_ hnew_;clear hg_ hnew_;(first|rw [← Ny168.out] at ho25|(simp only [Int.reduceToNat] at ho25;rw [← Ny168.out] at ho25));have n0_:=zM (Kd.R_elder' (by (with_reducible repeat (first|apply zA|apply zB|apply zC));exact HO_8.out) (Kd.R_base ho25) hb);have n1_:=zM (Kd.R_lower (Kd.R_new' ho25 (Kd.R_lt (by (with_reducible repeat (first|apply zA|apply zB|apply zC));exact HO_8.out))) (zR (by repeat (first|(with_reducible first|exact HB.out|apply zD|apply zE|apply zF)|exact HB.out))));have n2_:=zM (zQ (by repeat (first|(with_reducible first|exact HB.out|apply zD|apply zE|apply zF)|exact HB.out)) hb);clear HO_8;clear HB;have HO_8:=n0_;have HO170:=n1_;have HB:=n2_;clear n0_ n1_ n2_;clear hb ho25))
        go_ret2
        exact ⟨_,by first|rfl|(simp [errW_none,errW_some] <;> rfl)|(simp [*,errW_none,errW_some] <;> rfl),by (with_reducible repeat (first|apply zA|apply zB|apply zC));exact Kd.R_mono HO170.out (fun _ hk=>trivial),by repeat (first|(with_reducible first|exact HB.out|apply zD|apply zE|apply zF)|exact HB.out)⟩

end Go.Proofs.Ytbglkkepfddecaa.G
