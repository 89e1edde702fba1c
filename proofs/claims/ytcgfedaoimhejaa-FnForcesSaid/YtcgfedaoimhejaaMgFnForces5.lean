/- Texts of the proof of FnForces, joined in build order. -/
import Derived.Test.YtcgfedaoimhejaaMgFnForces3
import Derived.Test.YtcgfedaoimhejaaMgFnForces4
import Derived.Test.YtcgfedaoimhejaaMgFnForces2
import Derived.Test.YtcgfedaoimhejaaMgFnForces1
import Derived.Deep.Slices
import Derived.ChangeArms
import Derived.WideShapes
import Derived.ChangeShapes
/- HeavyFirst: the reference and the program answer alike: the weights, the heaviest first. -/
namespace Go.Proofs.Ytcgfedaoimhejaa.G
open Go.RowKit Go.Proofs.YtcgfedaoimhejaaW.PrintWords Go.Proofs.YtcgfedaoimhejaaW.PrintLast
set_option linter.unusedVariables false
set_option linter.unusedSimpArgs false
theorem down_unique : ∀ {a b : List Int},a.Pairwise (· ≥ ·) → b.Pairwise (· ≥ ·) → a.Perm b → a = b
  | [],b,_,_,h=>(List.nil_perm.1 h).symm
  | x :: xs,[],_,_,h=>absurd h.length_eq (by simp)
  | x :: xs,y :: ys,ha,hb,h=>by
    rw [List.pairwise_cons] at ha hb
    have h1 : x ≤ y:=by
      have m : x ∈ y :: ys:=h.mem_iff.1 List.mem_cons_self
      rcases List.mem_cons.1 m with e|m
      · omega
      · exact hb.1 x m
    have h2 : y ≤ x:=by
      have m : y ∈ x :: xs:=h.mem_iff.2 List.mem_cons_self
      rcases List.mem_cons.1 m with e|m
      · omega
      · exact ha.1 y m
    obtain rfl : x = y:=by omega
    rw [down_unique ha.2 hb.2 (List.perm_cons x |>.1 h)]
theorem heavy_perm (l : List Int) : (heavy l).Perm l:=(List.reverse_perm _).trans (List.mergeSort_perm l _)
theorem heavy_down (l : List Int) : (heavy l).Pairwise (· ≥ ·):=by
  unfold heavy
  rw [List.pairwise_reverse]
  have h:=List.pairwise_mergeSort (le:=fun x y : Int=>decide (x ≤ y)) (fun a b c h1 h2=>by simp at *;omega) (fun a b=>by simp;omega) l
  exact h.imp (fun h=>by simpa using h)
theorem heavy_len (l : List Int) : (heavy l).length = l.length:=(heavy_perm l).length_eq
noncomputable def heavyR (l : List Int) : List Int × Bool:=chk (Col l) (heavy l,true) ([],false)
theorem heavyR_len (l : List Int) : ((heavyR l).1.length : Int) ≤ 4:=by
  unfold heavyR
  by_cases h : Col l
  · rw [chk_pos h]
    show ((heavy l).length : Int) ≤ 4
    rw [heavy_len]
    exact h.1
  · rw [chk_neg h]
    simp
theorem impl_heavyR (l : List Int) : impl_HeavyFirst.f l = some (heavyR l):=by
  unfold impl_HeavyFirst.f heavyR
  rw [impl_col]
  by_cases h : Col l
  · rw [chk_pos h,chk_pos h];rfl
  · rw [chk_neg h,chk_neg h];rfl
/-- A number put into a falling list where it belongs. -/
theorem put_down {out : List Int} (h : out.Pairwise (· ≥ ·)) (x : Int) (d : Nat) (hd : d ≤ out.length) (hlo : ∀ j : Nat,d ≤ j → j < out.length → rd out (j : Int) < x) (hhi : 0 < d → x ≤ rd out ((d : Int) - 1)) :
    (out.take d ++ [x] ++ out.drop d).Pairwise (· ≥ ·) ∧ (out.take d ++ [x] ++ out.drop d).Perm (out ++ [x]):=by
  have hg : ∀ j : Nat,(hj : j < out.length) → rd out (j : Int) = out[j]:=fun j hj=>by
    unfold rd
    rw [Int.toNat_natCast,List.getD_eq_getElem?_getD,List.getElem?_eq_getElem hj]
    rfl
  have hP:=List.pairwise_iff_getElem.1 h
  have hdrop : ∀ y ∈ out.drop d,y < x:=fun y hy=>by
    obtain ⟨j,hj,e⟩:=List.mem_iff_getElem.1 hy
    rw [List.length_drop] at hj
    have h1:=hlo (d + j) (by omega) (by omega)
    rw [hg (d + j) (by omega)] at h1
    rw [List.getElem_drop] at e
    omega
  have htake : ∀ y ∈ out.take d,x ≤ y:=fun y hy=>by
    obtain ⟨j,hj,e⟩:=List.mem_iff_getElem.1 hy
    rw [List.length_take] at hj
    have h1:=hhi (by omega)
    rw [show (d : Int) - 1 = ((d - 1 : Nat) : Int) by omega,hg (d - 1) (by omega)] at h1
    rw [List.getElem_take] at e
    by_cases e2 : j = d - 1
    · subst e2;omega
    · have h2:=hP j (d - 1) (by omega) (by omega) (by omega)
      omega
  constructor
  · rw [List.append_assoc,List.pairwise_append]
    refine ⟨h.sublist (List.take_sublist d out),?_,fun a ha b hb=>?_⟩
    · rw [List.singleton_append,List.pairwise_cons]
      exact ⟨fun y hy=>by have:=hdrop y hy;omega,h.sublist (List.drop_sublist d out)⟩
    · have h1:=htake a ha
      rcases List.mem_append.1 hb with hb|hb
      · have:=List.mem_singleton.1 hb;omega
      · have:=hdrop b hb;omega
  · have h1 : (out.take d ++ [x] ++ out.drop d).Perm (out.take d ++ out.drop d ++ [x]):=by
      rw [List.append_assoc,List.append_assoc]
      exact List.Perm.append_left _ List.perm_append_comm
    rwa [List.take_append_drop] at h1
theorem spec_heavyR (l : List Int) (hl : (l.length : Int) ≤ 1099511627776) : Ev (fun k=>spec_HeavyFirst.f k l) (heavyR l):=by
  unfold spec_HeavyFirst.f heavyR
  simp only [Option.bind_some]
  refine Ev.bind (spec_col l hl) ?_
  by_cases hc : Col l
  · rw [chk_pos hc,chk_pos hc]
    have h4:=hc.1
    simp only [if_true]
    refine Ev.up (fun k out i=>spec_HeavyFirst.l0 k l out i) (fun _ _=>(heavy l,true)) (fun out i=>0 ≤ i ∧ out.Pairwise (· ≥ ·) ∧ out.Perm (l.take i.toNat)) (l.length : Int) ?_ ?_ [] 0 ⟨by omega,List.Pairwise.nil,by simp⟩ (by omega)
    · rintro out ⟨_,hs,hp⟩
      refine Ev.step (fun k=>by rw [spec_HeavyFirst.l0]) ?_
      simp only [Int.lt_irrefl,if_false]
      rw [Int.toNat_natCast,List.take_length] at hp
      rw [down_unique hs (heavy_down l) (hp.trans (heavy_perm l).symm)]
      exact Ev.now _
    · rintro out i ⟨i0,hs,hp⟩ hlt ih
      refine Ev.step (fun k=>by rw [spec_HeavyFirst.l0]) ?_
      simp only [if_pos hlt]
      have hol : out.length = i.toNat:=by
        have:=hp.length_eq
        rw [List.length_take] at this
        omega
      have e9 : wrap64 (i + 1) = i + 1:=wrap64_id (by omega) (by omega)
      have hnext : l.take (i + 1).toNat = l.take i.toNat ++ [rd l i]:=by
        rw [show (i + 1).toNat = i.toNat + 1 by omega,List.take_add_one,List.getElem?_eq_getElem (by omega)]
        unfold rd
        rw [List.getD_eq_getElem?_getD,List.getElem?_eq_getElem (by omega)]
        rfl
      have fin : ∀ d : Nat,d ≤ out.length → (∀ j : Nat,d ≤ j → j < out.length → rd out (j : Int) < rd l i) → (0 < d → rd l i ≤ rd out ((d : Int) - 1)) → Ev (fun k=>spec_HeavyFirst.l0 k l (out.take d ++ [rd l i] ++ out.drop d) (i + 1)) (heavy l,true):=fun d hd hlo hhi=>by
        obtain ⟨p1,p2⟩:=put_down hs (rd l i) d hd hlo hhi
        exact ih _ ⟨by omega,p1,by rw [hnext];exact p2.trans (hp.append_right _)⟩
      have inner : ∀ d : Nat,d ≤ out.length → (∀ j : Nat,d ≤ j → j < out.length → rd out (j : Int) < rd l i) → Ev (fun k=>spec_HeavyFirst.l1 k l out i (d : Int)) (heavy l,true):=by
        intro d
        induction d with
        | zero =>
          intro hd hlo
          refine Ev.step (fun k=>by rw [spec_HeavyFirst.l1]) ?_
          have hf:=fin 0 hd hlo (fun h=>absurd h (by omega))
          simp only [Option.bind_some,List.nil_append,List.length_nil,List.length_take,List.length_drop,List.length_append,List.length_cons,Int.toNat_natCast,e9]
          simp (disch:=omega) only [if_pos,if_neg]
          exact hf
        | succ d ihd =>
          intro hd hlo
          refine Ev.step (fun k=>by rw [spec_HeavyFirst.l1]) ?_
          have e1 : wrap64 (((d + 1 : Nat) : Int) - 1) = (d : Int):=(wrap64_id (by omega) (by omega)).trans (by omega)
          simp only [Option.bind_some,List.nil_append,List.length_nil,List.length_take,List.length_drop,List.length_append,List.length_cons,Int.toNat_natCast,e9,e1]
          by_cases hx : rd out (d : Int) < rd l i
          · have hf:=ihd (by omega) (fun j h1 h2=>by
              by_cases e : j = d
              · rw [e];exact hx
              · exact hlo j (by omega) h2)
            simp (disch:=omega) only [if_pos]
            exact hf
          · have hf:=fin (d + 1) hd hlo (fun _=>by rw [show ((d + 1 : Nat) : Int) - 1 = (d : Int) by omega];omega)
            simp (disch:=omega) only [if_pos,if_neg]
            exact hf
      exact inner out.length (Nat.le_refl _) (fun j h1 h2=>absurd h2 (by omega))
  · rw [chk_neg hc,chk_neg hc]
    simp only [Bool.false_eq_true,if_false]
    exact Ev.now _
end Go.Proofs.Ytcgfedaoimhejaa.G

namespace Go.Proofs.Ytcgfedaoimhejaa.G
open Go.RowKit Go.Proofs.YtcgfedaoimhejaaW.PrintWords Go.Proofs.YtcgfedaoimhejaaW.PrintLast
set_option linter.unusedVariables false
set_option linter.unusedSimpArgs false
theorem own_some (l : List Int) (h : (l.length : Int) ≤ 1048576) : spec_l1Own.f l = some l:=by
  unfold spec_l1Own.f
  simp only [Option.bind_some,List.length_nil,List.nil_append]
  rw [if_pos (by omega)]
theorem ordIn_len (f : List Int → List (List Int)) (jobs : List Int) (B : Nat) (hf : ∀ l,(f l).length ≤ B) : ∀ (r : Nat) (i : Int),(ordIn f jobs r i).length ≤ r * B:=by
  intro r
  induction r with
  | zero=>intro i;unfold ordIn;simp
  | succ r ih =>
    intro i
    unfold ordIn
    rw [List.length_append,Nat.succ_mul]
    have h1:=ih (i + 1)
    by_cases hh : Has jobs i
    · rw [chk_pos hh];simp only [List.length_nil];omega
    · rw [chk_neg hh];have:=hf (jobs ++ [i]);omega
theorem ords_len {n : Nat} (hn : n ≤ 4) : ∀ (d : Nat) (jobs : List Int),(ords n d jobs).length ≤ 4 ^ d:=by
  intro d
  induction d with
  | zero=>intro jobs;unfold ords;simp
  | succ d ih =>
    intro jobs
    unfold ords
    have h1:=ordIn_len (ords n d) jobs (4 ^ d) ih n 0
    have h2 : n * 4 ^ d ≤ 4 * 4 ^ d:=Nat.mul_le_mul_right _ hn
    rw [Nat.pow_succ]
    omega
def UsedOk (used : List Bool) (jobs : List Int) (n : Nat) : Prop:=used.length = n ∧ ∀ i : Int,0 ≤ i → i < (n : Int) → (rdOf false used i = true ↔ Has jobs i)
theorem used_set {used : List Bool} {jobs : List Int} {n : Nat} (h : UsedOk used jobs n) (i : Int) (i0 : 0 ≤ i) (i1 : i < (n : Int)) : UsedOk ((([] : List Bool) ++ used).set i.toNat true) (jobs ++ [i]) n:=by
  refine ⟨by rw [List.length_set,List.nil_append];exact h.1,fun j j0 j1=>?_⟩
  have hl:=h.1
  rw [List.nil_append]
  unfold rdOf
  rw [getD_set _ _ _ _ _ (by omega),has_mem,List.mem_append,List.mem_singleton,← has_mem]
  by_cases e : j = i
  · rw [if_pos (by omega)]
    exact ⟨fun _ => .inr e,fun _=>rfl⟩
  · rw [if_neg (by omega)]
    have:=h.2 j j0 j1
    unfold rdOf at this
    rw [this]
    exact ⟨fun m => .inl m,fun m=>m.elim id (fun m=>absurd m e)⟩
theorem spec_orders {xs : List Int} (hn : xs.length ≤ 4) : ∀ (d : Nat) (jobs : List Int) (used : List Bool),jobs.length + d = xs.length → UsedOk used jobs xs.length → Ev (fun k=>spec_l12Orders.f k xs used (jobs.map (rd xs))) ((ords xs.length d jobs).map (List.map (rd xs))):=by
  intro d
  induction d with
  | zero =>
    intro jobs used hd hu
    refine Ev.step (fun k=>by rw [spec_l12Orders.f]) ?_
    simp only [if_pos (show ((jobs.map (rd xs)).length : Int) = (xs.length : Int) by rw [List.length_map];omega)]
    exact Ev.now _
  | succ d ih =>
    intro jobs used hd hu
    have hul:=hu.1
    have main : ∀ (r : Nat) (i : Int) (acc : List (List Int)),0 ≤ i → i + r = (xs.length : Int) → (acc.length : Int) ≤ 256 * i → Ev (fun k=>spec_l12Orders.l0 k xs used (jobs.map (rd xs)) acc i) (acc ++ (ordIn (ords xs.length d) jobs r i).map (List.map (rd xs))):=by
      intro r
      induction r with
      | zero =>
        intro i acc i0 hi ha
        refine Ev.step (fun k=>by rw [spec_l12Orders.l0]) ?_
        simp (disch:=omega) only [if_neg]
        unfold ordIn
        rw [List.map_nil,List.append_nil]
        exact Ev.now _
      | succ r ihr =>
        intro i acc i0 hi ha
        have hlt : i < (xs.length : Int):=by omega
        have hu1:=hu.2 i i0 hlt
        refine Ev.step (fun k=>by rw [spec_l12Orders.l0]) ?_
        simp only [if_pos hlt,if_pos i0,if_pos (show i < (used.length : Int) by omega)]
        rw [wrap64_id (x:=i + 1) (by omega) (by omega)]
        unfold ordIn
        by_cases hh : Has jobs i
        · simp only [if_pos (hu1.2 hh)]
          rw [chk_pos hh,List.nil_append]
          exact ihr (i + 1) acc (by omega) (by omega) (by omega)
        · simp only [if_neg (fun h=>hh (hu1.1 h)),Option.bind_some]
          rw [chk_neg hh,own_some _ (by rw [List.length_map];omega)]
          have h1 : ([] : List Bool).length + used.length < 140737488355328:=by simp only [List.length_nil];omega
          have h2 : i < (((([] : List Bool) ++ used)).length : Int):=by rw [List.nil_append];omega
          have h3 : (jobs.map (rd xs)).length + [rd xs i].length < 17592186044416:=by rw [List.length_map];simp only [List.length_cons,List.length_nil];omega
          simp only [if_pos h1,if_pos h2,Option.bind_some,if_pos h3]
          have e : jobs.map (rd xs) ++ [rd xs i] = (jobs ++ [i]).map (rd xs):=by rw [List.map_append];rfl
          rw [e]
          refine Ev.bind (ih (jobs ++ [i]) _ (by simp;omega) (used_set hu i i0 hlt)) ?_
          have hB : ((ords xs.length d (jobs ++ [i])).map (List.map (rd xs))).length ≤ 256:=by
            rw [List.length_map]
            exact Nat.le_trans (ords_len hn d _) (Nat.pow_le_pow_right (n:=4) (by decide) (show d ≤ 4 by omega))
          simp only [if_pos (show acc.length + ((ords xs.length d (jobs ++ [i])).map (List.map (rd xs))).length < 5864062014805 by omega)]
          rw [List.map_append,← List.append_assoc]
          exact ihr (i + 1) _ (by omega) (by omega) (by rw [List.length_append];omega)
    refine Ev.step (fun k=>by rw [spec_l12Orders.f]) ?_
    simp only [if_neg (show ¬ (((jobs.map (rd xs)).length : Int) = (xs.length : Int)) by rw [List.length_map];omega)]
    have:=main xs.length 0 [] (by omega) (by omega) (by simp)
    rw [List.nil_append] at this
    exact this
theorem rdL_get (ls : List (List Int)) (i : Int) (i0 : 0 ≤ i) (h : i < (ls.length : Int)) : rd_L1 ls i = ls[i.toNat]'(by omega):=by
  unfold rd_L1
  rw [List.getD_eq_getElem?_getD,List.getElem?_eq_getElem (show i.toNat < ls.length by omega)]
  rfl
/-- The state while lists are held against the best: none so far, or a list of n numbers. -/
def LightS (n : Nat) (s : List Int × Int) : Prop:=s.2 < 0 ∨ s.1.length = n
theorem light_loop {n : Nat} (hn : n ≤ 4) {L T S : Int} (hT : 0 ≤ T ∧ T ≤ 100) (ls : List (List Int)) (hls : ∀ l ∈ ls,Col l ∧ l.length = n) (hl : (ls.length : Int) ≤ 1000) : ∀ (d : Nat) (i : Int) (s : List Int × Int),0 ≤ i → i + d = (ls.length : Int) → LightS n s →
    Ev (fun k=>spec_LightestForce.l0 k ls s.1 s.2 i L T S) (((ls.drop i.toNat).foldl (stepL T) s).1,((ls.drop i.toNat).foldl (stepL T) s).2,true):=by
  intro d
  induction d with
  | zero =>
    intro i s i0 hi hs
    refine Ev.step (fun k=>by rw [spec_LightestForce.l0]) ?_
    simp (disch:=omega) only [if_neg]
    rw [List.drop_of_length_le (by omega)]
    exact Ev.now _
  | succ d ih =>
    intro i s i0 hi hs
    have hlt : i < (ls.length : Int):=by omega
    have hm : rd_L1 ls i ∈ ls:=by rw [rdL_get ls i i0 hlt];exact List.getElem_mem _
    have hc:=hls _ hm
    have ed : ls.drop i.toNat = rd_L1 ls i :: ls.drop (i + 1).toNat:=by
      rw [rdL_get ls i i0 hlt,show (i + 1).toNat = i.toNat + 1 from by omega]
      exact List.drop_eq_getElem_cons (by omega)
    rw [ed,List.foldl_cons]
    refine Ev.step (fun k=>by rw [spec_LightestForce.l0]) ?_
    simp only [if_pos hlt,if_pos i0]
    generalize rd_L1 ls i = l at hc ⊢
    refine Ev.bind (spec_forces T hc.1 hT) (Ev.bind (spec_forceSum hc.1 hT) ?_)
    rw [wrap64_id (x:=i + 1) (by omega) (by omega)]
    have yes : s.2 < 0 ∨ forceSum l T < s.2 ∨ (forceSum l T = s.2 ∧ cmpR l s.1 < 0) → stepL T s l = (l,forceSum l T):=fun h=>if_pos h
    have no : ¬ (s.2 < 0 ∨ forceSum l T < s.2 ∨ (forceSum l T = s.2 ∧ cmpR l s.1 < 0)) → stepL T s l = s:=fun h=>if_neg h
    have new : LightS n (l,forceSum l T) := .inr hc.2
    refine Ev.ite (fun g1=>?_) (fun g1=>?_)
    · rw [yes (.inl g1)];exact ih (i + 1) _ (by omega) (by omega) new
    · refine Ev.ite (fun g2=>?_) (fun g2=>?_)
      · rw [yes (.inr (.inl g2))];exact ih (i + 1) _ (by omega) (by omega) new
      · refine Ev.ite (fun g3=>?_) (fun g3=>?_)
        · have hb : s.1.length = n:=hs.elim (fun h=>absurd h g1) id
          obtain ⟨t,ht,hi3⟩:=(cmpR_ok l s.1 (by omega)).2 (by omega)
          refine Ev.bind ht ?_
          refine Ev.ite (fun g4=>?_) (fun g4=>?_)
          · rw [yes (.inr (.inr ⟨g3,hi3.2 g4⟩))];exact ih (i + 1) _ (by omega) (by omega) new
          · rw [no (fun h=>by rcases h with h|h|h;exact g1 h;exact g2 h;exact g4 (hi3.1 h.2))];exact ih (i + 1) _ (by omega) (by omega) hs
        · rw [no (fun h=>by rcases h with h|h|h;exact g1 h;exact g2 h;exact g3 h.1)];exact ih (i + 1) _ (by omega) (by omega) hs
theorem foldL_map (xs : List Int) (T : Int) : ∀ (ls : List (List Int)) (s : List Int × Int),(ls.map (List.map (rd xs))).foldl (stepL T) s = ls.foldl (fun s o=>stepL T s (o.map (rd xs))) s:=by
  intro ls
  induction ls with
  | nil=>intro s;rfl
  | cons o ls ih=>intro s;exact ih _
noncomputable def lightR (l : List Int) (L T S : Int) : List Int × Int × Bool:=chk (Lashed l L T S) ((foldL l T).1,(foldL l T).2,true) ([],0,false)
theorem impl_lightR (l : List Int) (L T S : Int) : impl_LightestForce.f l L T S = some (lightR l L T S):=rfl
/-- What the lightest is: an order of the column's, and no order is lighter. -/
theorem foldL_inv {xs : List Int} (hc : Col xs) {T : Int} (hT : 0 ≤ T ∧ T ≤ 100) : (∃ o,OrdOk o xs.length ∧ foldL xs T = (o.map (rd xs),forceSum (o.map (rd xs)) T)) ∧ ∀ o,OrdOk o xs.length → (foldL xs T).2 ≤ forceSum (o.map (rd xs)) T:=by
  have key : ∀ (ls : List (List Int)),(∀ o ∈ ls,OrdOk o xs.length) → ∀ s : List Int × Int,(s = ([], -1) ∨ ∃ o,OrdOk o xs.length ∧ s = (o.map (rd xs),forceSum (o.map (rd xs)) T)) →
      ((ls.foldl (fun s o=>stepL T s (o.map (rd xs))) s = ([], -1) ∧ ls = [] ∨ ∃ o,OrdOk o xs.length ∧ ls.foldl (fun s o=>stepL T s (o.map (rd xs))) s = (o.map (rd xs),forceSum (o.map (rd xs)) T)) ∧
        (0 ≤ s.2 → 0 ≤ (ls.foldl (fun s o=>stepL T s (o.map (rd xs))) s).2 ∧ (ls.foldl (fun s o=>stepL T s (o.map (rd xs))) s).2 ≤ s.2) ∧ ∀ o ∈ ls,0 ≤ (ls.foldl (fun s o=>stepL T s (o.map (rd xs))) s).2 ∧ (ls.foldl (fun s o=>stepL T s (o.map (rd xs))) s).2 ≤ forceSum (o.map (rd xs)) T):=by
    intro ls
    induction ls with
    | nil =>
      intro _ s h
      refine ⟨?_,fun e=>⟨e,Int.le_refl _⟩,fun o ho=>by cases ho⟩
      rcases h with h|h
      · exact .inl ⟨h,rfl⟩
      · exact .inr h
    | cons o ls ih =>
      intro hP s h
      rw [List.foldl_cons]
      have hp:=hP o List.mem_cons_self
      have hf:=forceSum_nonneg (ord_col hc hp) hT
      by_cases g : s.2 < 0 ∨ forceSum (o.map (rd xs)) T < s.2 ∨ (forceSum (o.map (rd xs)) T = s.2 ∧ cmpR (o.map (rd xs)) s.1 < 0)
      · rw [show stepL T s (o.map (rd xs)) = (o.map (rd xs),forceSum (o.map (rd xs)) T) from if_pos g]
        obtain ⟨a,b,c⟩:=ih (fun o ho=>hP o (List.mem_cons_of_mem _ ho)) _ (.inr ⟨o,hp,rfl⟩)
        have b':=b hf
        dsimp only at b'
        refine ⟨?_,fun e=>⟨b'.1,by omega⟩,fun o' ho'=>?_⟩
        · rcases a with ⟨a,rfl⟩|a
          · exact .inr ⟨o,hp,rfl⟩
          · exact .inr a
        · rcases List.mem_cons.1 ho' with rfl|h2
          · exact b'
          · exact c o' h2
      · rw [show stepL T s (o.map (rd xs)) = s from if_neg g]
        have hs0 : 0 ≤ s.2:=by omega
        have hs1 : ∃ o,OrdOk o xs.length ∧ s = (o.map (rd xs),forceSum (o.map (rd xs)) T):=h.elim (fun e=>by rw [e] at hs0;exact absurd hs0 (by decide)) id
        obtain ⟨a,b,c⟩:=ih (fun o ho=>hP o (List.mem_cons_of_mem _ ho)) s h
        have b':=b hs0
        refine ⟨?_,fun e=>b',fun o' ho'=>?_⟩
        · rcases a with ⟨a,rfl⟩|a
          · exact .inr hs1
          · exact .inr a
        · rcases List.mem_cons.1 ho' with rfl|h2
          · exact ⟨b'.1,by omega⟩
          · exact c o' h2
  have h:=key (ords xs.length xs.length []) (fun o ho=>(ords_all o).1 ho) ([], -1) (.inl rfl)
  refine ⟨?_,fun o ho=>(h.2.2 o ((ords_all o).2 ho)).2⟩
  rcases h.1 with ⟨_,e⟩|h
  · exfalso
    have hid : OrdOk ((List.range xs.length).map (fun (i : Nat)=>(i : Int))) xs.length:=by
      refine ⟨by simp,?_,fun y hy=>?_⟩
      · rw [List.nodup_iff_pairwise_ne,List.pairwise_map]
        exact List.nodup_range.imp (fun h e=>h (by omega))
      · obtain ⟨i,hi,rfl⟩:=List.mem_map.1 hy
        have:=List.mem_range.1 hi
        omega
    have:=(ords_all _).2 hid
    rw [e] at this
    cases this
  · exact h
theorem lightR_len (l : List Int) (L T S : Int) : ((lightR l L T S).1.length : Int) ≤ 4:=by
  unfold lightR
  by_cases h : Lashed l L T S
  · rw [chk_pos h]
    obtain ⟨o,ho,e⟩:=(foldL_inv h.1 h.2.2.1).1
    rw [e]
    show ((o.map (rd l)).length : Int) ≤ 4
    rw [List.length_map,ho.1]
    exact h.1.1
  · rw [chk_neg h];decide
theorem spec_lightR (l : List Int) (hl : (l.length : Int) ≤ 1099511627776) (L T S : Int) : Ev (fun k=>spec_LightestForce.f k l L T S) (lightR l L T S):=by
  have no : ¬ Lashed l L T S → Ev (fun k=>spec_LightestForce.j0 k l true L T S) (lightR l L T S):=by
    intro h
    unfold lightR
    rw [chk_neg h]
    refine Ev.step (fun k=>by rw [spec_LightestForce.j0]) ?_
    simp only [if_true]
    exact Ev.now _
  unfold spec_LightestForce.f
  refine Ev.bind (spec_col l hl) ?_
  by_cases hc : Col l
  · rw [chk_pos hc]
    simp only [if_true,spec_rules,Option.bind_some]
    by_cases hr : Rules L T S
    · rw [chk_pos hr]
      unfold lightR
      rw [chk_pos ⟨hc,hr⟩]
      refine Ev.step (fun k=>by rw [spec_LightestForce.j0]) ?_
      have h4:=hc.1
      simp (disch:=omega) only [Bool.not_true,Bool.false_eq_true,if_false,if_pos]
      have hu : UsedOk (List.replicate ((l.length : Int) : Int).toNat false) [] l.length:=by
        refine ⟨by rw [List.length_replicate];omega,fun i i0 i1=>?_⟩
        unfold rdOf
        rw [List.getD_eq_getElem?_getD,List.getElem?_replicate,if_pos (by omega),has_iff]
        exact ⟨(fun h=>by cases h),fun ⟨j,a,b,_⟩=>by simp at b;omega⟩
      have ho:=spec_orders (xs:=l) (by omega) l.length [] _ (by simp) hu
      rw [List.map_nil] at ho
      refine Ev.bind ho ?_
      have hB : ((ords l.length l.length []).map (List.map (rd l))).length ≤ 256:=by
        rw [List.length_map]
        exact Nat.le_trans (ords_len (by omega) _ _) (Nat.pow_le_pow_right (n:=4) (by decide) (show l.length ≤ 4 by omega))
      have:=light_loop (n:=l.length) (by omega) (L:=L) (S:=S) hr.2.1 ((ords l.length l.length []).map (List.map (rd l))) (fun x hx=>by
        obtain ⟨o,ho,rfl⟩:=List.mem_map.1 hx
        have:=(ords_all o).1 ho
        exact ⟨ord_col hc this,by rw [List.length_map];exact this.1⟩) (by omega) _ 0 ([], -1) (by omega) (Int.zero_add _) (.inl (by decide))
      rw [show (0 : Int).toNat = 0 from rfl,List.drop_zero,foldL_map] at this
      exact this
    · rw [chk_neg hr]
      exact no (fun m=>hr m.2)
  · rw [chk_neg hc]
    simp only [Bool.false_eq_true,if_false]
    exact no (fun m=>hc m.1)
end Go.Proofs.Ytcgfedaoimhejaa.G

/- Facts on forces, lashings and sums, for the law FnForces. -/
namespace Go.Proofs.Ytcgfedaoimhejaa.G
open Go.RowKit Go.Proofs.YtcgfedaoimhejaaW.PrintWords Go.Proofs.YtcgfedaoimhejaaW.PrintLast
set_option linter.unusedVariables false
set_option linter.unusedSimpArgs false
def sumI : List Int → Int
  | []=>0
  | x :: xs=>x + sumI xs
theorem sumI_append : ∀ a b : List Int,sumI (a ++ b) = sumI a + sumI b
  | [],b=>by simp [sumI]
  | x :: a,b=>by rw [List.cons_append,sumI,sumI,sumI_append a b];omega
theorem sumI_perm {a b : List Int} (h : a.Perm b) : sumI a = sumI b:=by
  induction h with
  | nil=>rfl
  | cons x _ ih=>rw [sumI,sumI,ih]
  | swap x y l=>simp only [sumI];omega
  | trans _ _ i1 i2=>exact i1.trans i2
theorem rd_get (l : List Int) (i : Nat) (h : i < l.length) : rd l (i : Int) = l[i]:=by
  unfold rd
  rw [Int.toNat_natCast,List.getD_eq_getElem?_getD,List.getElem?_eq_getElem h]
  rfl
theorem tot_take (l : List Int) : ∀ d : Nat,d ≤ l.length → tot l 0 d = sumI (l.take d)
  | 0,_=>by simp [tot,sumI]
  | d + 1,h=>by
    have e : l.take (d + 1) = l.take d ++ [l[d]'(by omega)]:=by rw [List.take_add_one,List.getElem?_eq_getElem (by omega)];rfl
    rw [tot_succ,tot_take l d (by omega),e,sumI_append,Int.zero_add,rd_get l d (by omega)]
    simp [sumI]
theorem tot_sum (l : List Int) : tot l 0 l.length = sumI l:=by rw [tot_take l l.length (Nat.le_refl _),List.take_length]
/-- What the law's sum makes, and that it is the sum where it is small. -/
theorem rSum_any (l : List Int) (h : (l.length : Int) ≤ 1048576) : ∃ r,Ev (fun k=>laws_rSum.f k l) r ∧ ((∀ x ∈ l,0 ≤ x ∧ x ≤ 1000000) → r = sumI l):=by
  have main : ∀ (d : Nat) (x i : Int),0 ≤ i → i + d = (l.length : Int) → ∃ r,Ev (fun k=>laws_rSum.l0 k l x i) r ∧ ((∀ x ∈ l,0 ≤ x ∧ x ≤ 1000000) → x = tot l 0 i.toNat → r = sumI l):=by
    intro d
    induction d with
    | zero =>
      intro x i i0 hd
      refine ⟨x,?_,fun _ e=>?_⟩
      · refine Ev.step (fun k=>by rw [laws_rSum.l0]) ?_
        simp (disch:=omega) only [if_neg]
        exact Ev.now _
      · rw [e,show i.toNat = l.length by omega,tot_sum]
    | succ d ih =>
      intro x i i0 hd
      obtain ⟨r,h1,h2⟩:=ih (wrap64 (x + rd l i)) (i + 1) (by omega) (by omega)
      refine ⟨r,?_,fun hb e=>h2 hb ?_⟩
      · refine Ev.step (fun k=>by rw [laws_rSum.l0]) ?_
        have e9 : wrap64 (i + 1) = i + 1:=wrap64_id (by omega) (by omega)
        simp only [e9]
        simp (disch:=omega) only [if_pos]
        exact h1
      · have bd : ∀ m : Nat,m ≤ l.length → 0 ≤ tot l 0 m ∧ tot l 0 m ≤ 1000000 * (m : Int):=by
          intro m
          induction m with
          | zero=>intro _;simp [tot]
          | succ m ihm =>
            intro hm
            have h3:=ihm (by omega)
            have h4:=hb _ (rd_mem l (0 + (m : Int)) (by omega) (by omega))
            rw [tot_succ]
            omega
        have b1:=bd i.toNat (by omega)
        have b2:=hb _ (rd_mem l i i0 (by omega))
        rw [show (i + 1).toNat = i.toNat + 1 by omega,tot_succ,← e,show (0 : Int) + (i.toNat : Int) = i by omega]
        rw [← e] at b1
        exact wrap64_id (by omega) (by omega)
  obtain ⟨r,h1,h2⟩:=main l.length 0 0 (by omega) (by omega)
  exact ⟨r,h1,fun hb=>h2 hb (by simp [tot])⟩
theorem rInts_I (xs : List Int) (h : (xs.length : Int) ≤ 1048576) : Ev (fun k=>laws_rInts.f k xs xs) true:=by
  unfold laws_rInts.f
  simp only [if_true]
  refine Ev.upc (fun k i=>laws_rInts.l0 k xs xs i) true (xs.length : Int) 0 ?_ ?_ 0 (by omega) (by omega)
  · refine Ev.step (fun k=>by rw [laws_rInts.l0]) ?_
    simp only [Int.lt_irrefl,if_false]
    exact Ev.now _
  · intro i h0 hlt hr
    refine Ev.step (fun k=>by rw [laws_rInts.l0]) ?_
    simp (disch:=omega) only [wrap64_id,if_pos,if_true]
    exact hr
/-- Forces fall with the height. -/
theorem rd_forces (l : List Int) (T : Int) : ∀ (d i : Nat),i < d → rd (forcesTo l T d) (i : Int) = fr l T i
  | 0,i,h=>absurd h (by omega)
  | d + 1,i,h=>by
    have hl:=forces_len l T d
    have hl2:=forces_len l T (d + 1)
    rw [rd_get _ i (by omega)]
    simp only [forcesTo_succ]
    by_cases e : i = d
    · subst e
      rw [List.getElem_append_right (by omega)]
      simp [hl]
    · rw [List.getElem_append_left (by omega),← rd_get _ i (by omega),rd_forces l T d i (by omega)]
theorem tot_head (l : List Int) (i : Int) : ∀ d : Nat,tot l i (d + 1) = rd l i + tot l (i + 1) d
  | 0=>by simp [tot]
  | d + 1=>by
    rw [tot_succ,tot_head l i d,tot_succ,show i + ((d + 1 : Nat) : Int) = i + 1 + (d : Int) by omega]
    omega
theorem fr_falls {l : List Int} (h : Col l) {T : Int} (hT : 0 ≤ T ∧ T ≤ 100) (i : Int) (h1 : 1 ≤ i) (h2 : i < (l.length : Int)) : fr l T i ≤ fr l T (i - 1):=by
  unfold fr
  have e : l.length - (i - 1).toNat = (l.length - i.toNat) + 1:=by omega
  have o:=h.2 (i - 1) (by omega) (by omega)
  unfold okW at o
  have hh:=tot_head l (i - 1) (l.length - i.toNat)
  rw [show i - 1 + 1 = i by omega] at hh
  have hp:=prod_bd h T hT i (by omega) (by omega)
  have hm : T * tot l i (l.length - i.toNat) ≤ T * tot l (i - 1) (l.length - (i - 1).toNat):=by
    rw [e,hh]
    exact Int.mul_le_mul_of_nonneg_left (by omega) hT.1
  rw [Int.tdiv_eq_ediv_of_nonneg (by omega),Int.tdiv_eq_ediv_of_nonneg (by omega)]
  exact Int.ediv_le_ediv (by omega) (by omega)
/-- The lashings are just enough. -/
theorem need_all (F : List Int) (S : Int) : ∀ (d : Nat) (i : Int) (a : List Int),0 ≤ i → (a.length : Int) = i → (∀ j : Int,0 ≤ j → j < i → rd a j = Int.tdiv (rd F j + S - 1) S ∧ rd a j ≤ 4) →
    need F S d i a = ([],false) ∨ ((need F S d i a).1.length : Int) = i + d ∧ (need F S d i a).2 = true ∧ ∀ j : Int,0 ≤ j → j < i + d → rd (need F S d i a).1 j = Int.tdiv (rd F j + S - 1) S ∧ rd (need F S d i a).1 j ≤ 4
  | 0,i,a,i0,hl,h => .inr ⟨by show (a.length : Int) = _;omega,rfl,fun j j0 j1=>h j j0 (by omega)⟩
  | d + 1,i,a,i0,hl,h=>by
    rw [need_succ]
    by_cases g : Int.tdiv (rd F i + S - 1) S > 4
    · rw [if_pos g];exact .inl rfl
    · rw [if_neg g]
      have step : ∀ j : Int,0 ≤ j → j < i + 1 → rd (a ++ [Int.tdiv (rd F i + S - 1) S]) j = Int.tdiv (rd F j + S - 1) S ∧ rd (a ++ [Int.tdiv (rd F i + S - 1) S]) j ≤ 4:=fun j j0 j1=>by
        obtain ⟨n,rfl⟩ : ∃ n : Nat,j = (n : Int):=⟨j.toNat,by omega⟩
        rw [rd_get _ n (by rw [List.length_append,List.length_singleton];omega)]
        by_cases e : n = a.length
        · subst e
          rw [List.getElem_append_right (Nat.le_refl _)]
          simp only [Nat.sub_self,List.getElem_singleton]
          rw [hl]
          exact ⟨rfl,by omega⟩
        · rw [List.getElem_append_left (by omega),← rd_get a n (by omega)]
          exact h n j0 (by omega)
      have r:=need_all F S d (i + 1) _ (by omega) (by rw [List.length_append,List.length_singleton];omega) step
      rw [show i + ((d + 1 : Nat) : Int) = i + 1 + (d : Int) by omega]
      exact r
theorem just_enough {x S : Int} (hS : 1 ≤ S ∧ S ≤ 100000) (hx : 0 ≤ x ∧ x ≤ 200000) : x ≤ Int.tdiv (x + S - 1) S * S ∧ (Int.tdiv (x + S - 1) S - 1) * S < x + (if Int.tdiv (x + S - 1) S > 0 then 0 else 1) ∧ 0 ≤ Int.tdiv (x + S - 1) S:=by
  rw [Int.tdiv_eq_ediv_of_nonneg (by omega)]
  have h1:=Int.mul_ediv_add_emod (x + S - 1) S
  have h2:=Int.emod_lt_of_pos (x + S - 1) (show 0 < S by omega)
  have h3:=Int.emod_nonneg (x + S - 1) (show S ≠ 0 by omega)
  have h4 : 0 ≤ (x + S - 1) / S:=Int.ediv_nonneg (by omega) (by omega)
  have h5 : (x + S - 1) / S * S = S * ((x + S - 1) / S):=Int.mul_comm _ _
  have h6 : ((x + S - 1) / S - 1) * S = S * ((x + S - 1) / S) - S:=by rw [Int.sub_mul,Int.mul_comm];omega
  refine ⟨by omega,?_,h4⟩
  rw [h6]
  split <;> omega
def sumTo (f : Int → Int) : Nat → Int
  | 0=>0
  | n + 1=>sumTo f n + f (n : Int)
theorem pig : ∀ (n : Nat) (o : List Int),o.Nodup → (∀ y ∈ o,0 ≤ y ∧ y < (n : Int)) → o.length ≤ n
  | 0,o,_,h=>by
    cases o with
    | nil=>exact Nat.le_refl _
    | cons y o=>have:=h y List.mem_cons_self;omega
  | n + 1,o,hd,h=>by
    by_cases m : (n : Int) ∈ o
    · have h1:=pig n (o.erase (n : Int)) (hd.erase _) (fun y hy=>by
        have h2:=h y (List.mem_of_mem_erase hy)
        have h3 : y ≠ (n : Int):=fun e=>by rw [e] at hy;exact (List.Nodup.mem_erase_iff hd).1 hy |>.1 rfl
        omega)
      rw [List.length_erase_of_mem m] at h1
      omega
    · have h1:=pig n o hd (fun y hy=>by
        have h2:=h y hy
        have h3 : y ≠ (n : Int):=fun e=>m (e ▸ hy)
        omega)
      omega
theorem ord_sum (f : Int → Int) : ∀ (n : Nat) (o : List Int),OrdOk o n → sumI (o.map f) = sumTo f n
  | 0,o,h=>by
    obtain rfl:=List.length_eq_zero_iff.1 h.1
    rfl
  | n + 1,o,h=>by
    have m : (n : Int) ∈ o:=by
      apply Classical.byContradiction
      intro m
      have h1:=pig n o h.2.1 (fun y hy=>by
        have h2:=h.2.2 y hy
        have h3 : y ≠ (n : Int):=fun e=>m (e ▸ hy)
        omega)
      have:=h.1
      omega
    have h1:=ord_sum f n (o.erase (n : Int)) ⟨by rw [List.length_erase_of_mem m,h.1];rfl,h.2.1.erase _,fun y hy=>by
      have h2:=h.2.2 y (List.mem_of_mem_erase hy)
      have h3 : y ≠ (n : Int):=fun e=>by rw [e] at hy;exact (List.Nodup.mem_erase_iff h.2.1).1 hy |>.1 rfl
      omega⟩
    rw [sumI_perm ((List.perm_cons_erase m).map f),List.map_cons,sumI,h1,sumTo]
    omega
theorem tot_sumTo (l : List Int) : ∀ d : Nat,tot l 0 d = sumTo (rd l) d
  | 0=>rfl
  | d + 1=>by rw [tot_succ,tot_sumTo l d,sumTo,Int.zero_add]
theorem ord_all (l o : List Int) (h : OrdOk o l.length) : sumI (o.map (rd l)) = sumI l:=by
  rw [ord_sum (rd l) l.length o h,← tot_sumTo,tot_sum]
def idO (n : Nat) : List Int:=(List.range n).map (fun (i : Nat)=>(i : Int))
theorem idO_ok (n : Nat) : OrdOk (idO n) n:=by
  refine ⟨by simp [idO],?_,fun y hy=>?_⟩
  · rw [idO,List.nodup_iff_pairwise_ne,List.pairwise_map]
    exact List.nodup_range.imp (fun h e=>h (by omega))
  · obtain ⟨i,hi,rfl⟩:=List.mem_map.1 hy
    have:=List.mem_range.1 hi
    omega
theorem idO_map (l : List Int) : (idO l.length).map (rd l) = l:=by
  apply List.ext_getElem
  · simp [idO]
  · intro i h1 h2
    rw [List.getElem_map]
    unfold idO
    rw [List.getElem_map,List.getElem_range,rd_get l i h2]
end Go.Proofs.Ytcgfedaoimhejaa.G

/- FnForces: forces never rise towards the top, the number of lashings is just enough, and the heaviest first is an order of all weights (for drawn bytes of at most 2^16; else the statement is true at once). -/
namespace Go.Proofs.Ytcgfedaoimhejaa.Pure
open Go.RowKit Go.Proofs.Ytcgfedaoimhejaa.G Go.Proofs.YtcgfedaoimhejaaW.PrintWords Go.Proofs.YtcgfedaoimhejaaW.PrintLast
set_option linter.unusedVariables false
set_option linter.unusedSimpArgs false
theorem col_small {c : List Int} (h : Col c) : ∀ x ∈ c,0 ≤ x ∧ x ≤ 1000000:=fun x hx=>by
  obtain ⟨i,hi,e⟩:=List.mem_iff_getElem.1 hx
  have o:=h.2 (i : Int) (by omega) (by omega)
  unfold okW at o
  rw [rd_get c i hi,e] at o
  omega
theorem forces5 (c : List Int) (L T S : Int) (hl : (c.length : Int) ≤ 100) : Ev (fun k=>laws_FnForces.j5 k c (forcesR c L T S).1 (lightR c L T S).1 (lightR c L T S).2.1 (lightR c L T S).2.2 false) true:=by
  refine Ev.step (fun k=>by rw [laws_FnForces.j5]) ?_
  simp only [Bool.false_eq_true,if_false]
  by_cases h : Lashed c L T S
  · obtain ⟨⟨o,ho,e⟩,hleast⟩:=foldL_inv h.1 h.2.2.1
    have hF : (forcesR c L T S).1 = forcesTo c T c.length:=by unfold forcesR;rw [chk_pos h]
    have h1 : (lightR c L T S).1 = o.map (rd c):=by unfold lightR;rw [chk_pos h,e]
    have h2 : (lightR c L T S).2.1 = (foldL c T).2:=by unfold lightR;rw [chk_pos h]
    have h3 : (lightR c L T S).2.2 = true:=by unfold lightR;rw [chk_pos h]
    rw [hF,h1,h2,h3]
    have fl:=forces_len c T c.length
    have h4:=h.1.1
    obtain ⟨s1,e1,b1⟩:=rSum_any (forcesTo c T c.length) (by omega)
    have b1:=b1 (force_mem h.1 h.2.2.1)
    obtain ⟨s2,e2,b2⟩:=rSum_any (o.map (rd c)) (by rw [List.length_map,ho.1];omega)
    have b2:=b2 (col_small (ord_col h.1 ho))
    obtain ⟨s3,e3,b3⟩:=rSum_any c (by omega)
    have b3:=b3 (col_small h.1)
    have hs : (foldL c T).2 ≤ s1:=by
      have h5:=hleast (idO c.length) (idO_ok c.length)
      rw [idO_map] at h5
      have h6:=tot_sum (forcesTo c T c.length)
      rw [fl] at h6
      rw [b1,← h6]
      exact h5
    have hq : s2 = s3:=by rw [b2,b3,ord_all c o ho]
    simp only [if_true]
    refine Ev.bind e1 ?_
    simp only [if_pos hs]
    refine Ev.bind e2 (Ev.bind e3 ?_)
    rw [hq,beq_self_eq_true]
    exact Ev.now _
  · have h3 : (lightR c L T S).2.2 = false:=by unfold lightR;rw [chk_neg h]
    rw [h3]
    simp only [Bool.false_eq_true,if_false]
    exact Ev.now _
theorem forces4 (c : List Int) (L T S : Int) (hl : (c.length : Int) ≤ 100) : Ev (fun k=>laws_FnForces.j4 k c (forcesR c L T S).1 false L T S) true:=by
  refine Ev.step (fun k=>by rw [laws_FnForces.j4]) ?_
  simp only [Bool.false_eq_true,if_false,impl_lightR,Option.bind_some]
  refine Ev.bind (spec_lightR c (by omega) L T S) ?_
  simp only [bne_self_eq_false,Bool.false_eq_true,if_false,if_true]
  refine Ev.bind (rInts_I _ (by have:=lightR_len c L T S;omega)) ?_
  simp only [Bool.not_true]
  exact forces5 c L T S hl
theorem heavy_sums (c : List Int) (hl : (c.length : Int) ≤ 100) : ∃ s1 s2,Ev (fun k=>laws_rSum.f k (heavyR c).1) s1 ∧ Ev (fun k=>laws_rSum.f k c) s2 ∧ (s1 = s2 ∨ (heavyR c).2 = false):=by
  obtain ⟨s1,e1,b1⟩:=rSum_any (heavyR c).1 (by have:=heavyR_len c;omega)
  obtain ⟨s2,e2,b2⟩:=rSum_any c (by omega)
  refine ⟨s1,s2,e1,e2,?_⟩
  by_cases h : Col c
  · left
    have h1 : (heavyR c).1 = heavy c:=by unfold heavyR;rw [chk_pos h]
    rw [h1] at b1
    rw [b1 (fun x hx=>col_small h x ((heavy_perm c).mem_iff.1 hx)),b2 (col_small h),sumI_perm (heavy_perm c)]
  · right
    unfold heavyR
    rw [chk_neg h]
theorem forcesL1 (c : List Int) (L T S : Int) (hl : (c.length : Int) ≤ 100) : Ev (fun k=>laws_FnForces.l1 k c (forcesR c L T S).1 (needR c L T S).1 0 L T S) true:=by
  refine Ev.upc (fun k i=>laws_FnForces.l1 k c (forcesR c L T S).1 (needR c L T S).1 i L T S) true ((needR c L T S).1.length : Int) 0 ?_ ?_ 0 (by omega) (by omega)
  · refine Ev.step (fun k=>by rw [laws_FnForces.l1]) ?_
    simp only [Int.lt_irrefl,if_false,impl_heavyR,Option.bind_some]
    refine Ev.bind (spec_heavyR c (by omega)) ?_
    simp only [bne_self_eq_false,Bool.false_eq_true,if_false]
    refine Ev.bind (rInts_I _ (by have:=heavyR_len c;omega)) ?_
    simp only [if_true]
    obtain ⟨s1,s2,e1,e2,hs⟩:=heavy_sums c hl
    refine Ev.bind e1 (Ev.bind e2 ?_)
    refine Ev.ite (fun _=>forces4 c L T S hl) (fun g=>?_)
    rcases hs with hs|hs
    · exact absurd hs g
    · rw [hs]
      exact forces4 c L T S hl
  · intro i i0 hlt hr
    refine Ev.step (fun k=>by rw [laws_FnForces.l1]) ?_
    have hn4:=needR_len c L T S
    by_cases h : Lashed c L T S
    · have hF : (forcesR c L T S).1 = forcesTo c T c.length:=by unfold forcesR;rw [chk_pos h]
      have hN : (needR c L T S) = need (forcesTo c T c.length) S c.length 0 []:=by unfold needR;rw [chk_pos h]
      have fl:=forces_len c T c.length
      rcases need_all (forcesTo c T c.length) S c.length 0 [] (Int.le_refl _) (by simp) (fun j j0 j1=>by omega) with hz|⟨hz,_,hz2⟩
      · rw [hN,hz] at hlt
        exact absurd hlt (by simp;omega)
      · rw [← hN] at hz hz2
        have hi:=hz2 i i0 (by omega)
        rw [hF]
        have hx:=forces_mem h.1 T h.2.2.1 c.length (Nat.le_refl _) _ (rd_mem (forcesTo c T c.length) i i0 (by omega))
        obtain ⟨q1,q2,q3⟩:=just_enough (x:=rd (forcesTo c T c.length) i) h.2.2.2 hx
        rw [← hi.1] at q1 q2 q3
        rw [hF] at hr
        have hS:=h.2.2.2
        generalize hn : rd (needR c L T S).1 i = n at hi q1 q2 q3
        generalize hf : rd (forcesTo c T c.length) i = f at hx q1 q2
        have hm1 : n * S ≤ 4 * S:=Int.mul_le_mul_of_nonneg_right hi.2 (by omega)
        have hm0 : 0 ≤ n * S:=Int.mul_nonneg q3 (by omega)
        have hm2 : (n - 1) * S = n * S - S:=by rw [Int.sub_mul,Int.one_mul]
        have w1 : wrap64 (n * S) = n * S:=wrap64_id (by omega) (by omega)
        have w2 : wrap64 (n - 1) = n - 1:=wrap64_id (by omega) (by omega)
        have w3 : wrap64 ((n - 1) * S) = (n - 1) * S:=wrap64_id (by omega) (by omega)
        have w4 : wrap64 (i + 1) = i + 1:=wrap64_id (by omega) (by omega)
        simp only [if_pos hlt,if_pos i0,if_pos (show i < ((forcesTo c T c.length).length : Int) by omega),hn,hf,w1,w2,w3,w4,if_neg (show ¬ n * S < f by omega),if_neg (show ¬ n > 4 by omega)]
        refine Ev.ite (fun g=>?_) (fun g=>hr)
        rw [if_pos g] at q2
        simp only [if_neg (show ¬ (n - 1) * S ≥ f by omega)]
        exact hr
    · have hN : (needR c L T S) = ([],false):=by unfold needR;rw [chk_neg h]
      rw [hN] at hlt
      exact absurd hlt (by simp;omega)
theorem forcesL0 (c : List Int) (L T S : Int) (hl : (c.length : Int) ≤ 100) : Ev (fun k=>laws_FnForces.l0 k c (forcesR c L T S).1 1 L T S) true:=by
  have hf4:=forcesR_len c L T S
  have fin : ∀ i : Int,((forcesR c L T S).1.length : Int) ≤ i → Ev (fun k=>laws_FnForces.l0 k c (forcesR c L T S).1 i L T S) true:=fun i hi=>by
    refine Ev.step (fun k=>by rw [laws_FnForces.l0]) ?_
    simp only [if_neg (show ¬ i < ((forcesR c L T S).1.length : Int) by omega)]
    refine Ev.bind (impl_LashN c L T S) (Ev.bind (spec_LashN c (by omega) L T S) ?_)
    simp only [bne_self_eq_false,Bool.false_eq_true,if_false]
    refine Ev.bind (rInts_I _ (by have:=needR_len c L T S;omega)) ?_
    simp only [Bool.not_true]
    refine Ev.step (fun k=>by rw [laws_FnForces.j2]) ?_
    simp only [Bool.false_eq_true,if_false]
    exact forcesL1 c L T S hl
  by_cases h0 : ((forcesR c L T S).1.length : Int) ≤ 1
  · exact fin 1 h0
  · refine Ev.upc (fun k i=>laws_FnForces.l0 k c (forcesR c L T S).1 i L T S) true ((forcesR c L T S).1.length : Int) 1 (fin _ (Int.le_refl _)) ?_ 1 (by omega) (by omega)
    intro i i0 hlt hr
    refine Ev.step (fun k=>by rw [laws_FnForces.l0]) ?_
    by_cases h : Lashed c L T S
    · have hF : (forcesR c L T S).1 = forcesTo c T c.length:=by unfold forcesR;rw [chk_pos h]
      have fl:=forces_len c T c.length
      rw [hF] at hlt hr ⊢
      have w1 : wrap64 (i - 1) = i - 1:=wrap64_id (by omega) (by omega)
      have w4 : wrap64 (i + 1) = i + 1:=wrap64_id (by omega) (by omega)
      have hfall:=fr_falls h.1 h.2.2.1 i i0 (by omega)
      have r1:=rd_forces c T c.length i.toNat (by omega)
      have r2:=rd_forces c T c.length (i - 1).toNat (by omega)
      rw [show ((i.toNat : Nat) : Int) = i by omega] at r1
      rw [show (((i - 1).toNat : Nat) : Int) = i - 1 by omega] at r2
      simp only [if_pos hlt,if_pos (show 0 ≤ i by omega),w1,w4,if_pos (show 0 ≤ i - 1 by omega),if_pos (show i - 1 < ((forcesTo c T c.length).length : Int) by omega),r1,r2,if_neg (show ¬ fr c T i > fr c T (i - 1) by omega)]
      exact hr
    · have hF : (forcesR c L T S) = ([],false):=by unfold forcesR;rw [chk_neg h]
      rw [hF] at hlt
      exact absurd hlt (by simp;omega)
theorem FnForces : laws_FnForces.Pure:=by
  intro l0 h0
  refine Ev.rounds (g:=fun k=>laws_FnForces.f k l0) (r:=true) ?_
  unfold laws_FnForces.f laws_rBig.f
  simp only [Option.bind_some,decide_eq_true_eq]
  refine Ev.ite (fun _=>Ev.now _) (fun g0=>?_)
  obtain ⟨⟨c,L,T,S⟩,hc,e⟩:=drawLash (cd_of (by omega) h0.2)
  have hc : (c.length : Int) ≤ 100:=hc
  refine Ev.bind e ?_
  dsimp only
  refine Ev.bind (impl_LashF c L T S) (Ev.bind (spec_LashF c (by omega) L T S) ?_)
  simp only [bne_self_eq_false,Bool.false_eq_true,if_false]
  refine Ev.bind (rInts_I _ (by have:=forcesR_len c L T S;omega)) ?_
  simp only [if_true,impl_col,Option.bind_some]
  have last : Ev (fun k=>laws_FnForces.j0 k c (forcesR c L T S).1 false L T S) true:=by
    refine Ev.step (fun k=>by rw [laws_FnForces.j0]) ?_
    simp only [Bool.false_eq_true,if_false]
    exact forcesL0 c L T S hc
  refine Ev.ite (fun g=>?_) (fun g=>last)
  by_cases h : Lashed c L T S
  · rw [chk_pos h.1]
    exact last
  · exact absurd g (by unfold forcesR;rw [chk_neg h];decide)
end Go.Proofs.Ytcgfedaoimhejaa.Pure

-- Written by wip/tools/gen.py out of the translation (the kit's printer, one namespace a seat). Lean checks it.
namespace Go.Proofs.Ytcgfedaoimhejaa.G
open Go.RowKit Go.ChangeShapes Go.WideShapes Go.Deep Go.Proofs.YtcgfedaoimhejaaW.PrintWords Go.Proofs.YtcgfedaoimhejaaW.PrintLast
set_option linter.unusedVariables false
/-! Opening the arguments of a law: whatever reads as data of type t reads as a value of kind d, within what its type allows. -/
def Opens {α : Type} (P : Program) (t : TypeId) (d : Kd α) (Wf : α → Prop) : Prop :=
  ∀ {H : Type} {enc : TypeId × Value → H} {W : World} {spare : Nat → Bool} {held : Bool} {fuel : Nat} {cs : List Value} {x : DataW H × List MemPlace},
    DataW.trod enc P W 0 spare held fuel t cs = some x → ∃ a,d.K W a cs ∧ Wf a
theorem opens_int {P : Program} {t : TypeId} {k : IntKind} (ht : P.underlying t = some (.int k)) : Opens P t (Kd.int k) (fun x=>(Lit.int k x).wf = true):=by
  intro H enc W spare held fuel cs x h
  obtain ⟨n,rfl,_,hw⟩:=DataW.trod_int ht h
  exact ⟨n,rfl,hw⟩
theorem opens_row {α : Type} {d : Kd α} {Wf : α → Prop} {W : World} (Q : Nat → List Value → Prop) (hq : ∀ i cs,Q i cs → ∃ a,d.K W a cs ∧ Wf a) (n : Nat) (h : ∀ i,i < n → ∃ cs,Q i cs) :
    ∃ xs : List α,xs.length = n ∧ (∀ y ∈ xs,Wf y) ∧ ∀ j p,xs[j]? = some p → ∃ cs,Q j cs ∧ d.K W p cs:=by
  induction n with
  | zero=>exact ⟨[],rfl,fun y hy=>by simp at hy,fun j p hp=>by simp at hp⟩
  | succ n ih =>
    obtain ⟨xs,hl,hw,hx⟩:=ih (fun i hi=>h i (by omega))
    obtain ⟨cs,hcs⟩:=h n (by omega)
    obtain ⟨a,ha,hwa⟩:=hq n cs hcs
    refine ⟨xs ++ [a],by simp [hl],fun y hy=>?_,fun j p hp=>?_⟩
    · rcases List.mem_append.1 hy with hy|hy
      · exact hw y hy
      · rw [List.mem_singleton.1 hy];exact hwa
    · rcases Nat.lt_or_ge j xs.length with hj|hj
      · rw [List.getElem?_append_left hj] at hp
        exact hx j p hp
      · rw [List.getElem?_append_right hj] at hp
        have h0 : j - xs.length = 0:=by
          rcases Nat.eq_zero_or_pos (j - xs.length) with h0|h0
          · exact h0
          · rw [List.getElem?_eq_none (by simp;omega)] at hp;cases hp
        rw [h0] at hp
        simp at hp
        subst hp
        have : j = n:=by omega
        subst this
        exact ⟨cs,hcs,ha⟩
theorem opens_slice {α : Type} {P : Program} {t e : TypeId} {d : Kd α} {Wf : α → Prop} (ht : P.underlying t = some (.slice e)) (hC : P.cellsOf e = d.sz) (ho : Opens P e d Wf) :
    Opens P t (Kd.slice e d) (fun xs=>xs.length ≤ maxLen ∧ ∀ y ∈ xs,Wf y):=by
  intro H enc W spare held fuel cs x h
  rcases open_slice ht h with ⟨rfl,_⟩|⟨a,len,cap,m,n,D,Pl,rfl,_,hl,hm,hmm,_,hi⟩
  · exact ⟨[],⟨none,0,rfl,Nat.le_refl _,rfl,by simp,fun h=>by simp at h⟩,by simp [maxLen],fun y hy=>by simp at hy⟩
  · have hml : len ≤ m:=by rw [hmm];split <;> omega
    obtain ⟨xs,hxl,hw,hx⟩:=opens_row (W:=W) (d:=d) (Wf:=Wf) (fun i cs'=>W.cells? 0 (a.add (i * P.cellsOf e)) (P.cellsOf e) = some cs' ∧ DataW.trod enc P W 0 spare held n e cs' = some (D i,Pl i))
      (fun i cs' hq=>ho hq.2) len (fun i hi'=>hi i (by omega))
    refine ⟨xs,⟨some a,cap,by rw [hxl],by omega,rfl,?_,fun _=>⟨a,rfl,fun j p hj=>?_⟩⟩,by omega,hw⟩
    · simp only [maxLen] at hm
      omega
    · obtain ⟨cs',⟨hc,_⟩,hK⟩:=hx j p hj
      obtain ⟨_,hcl,hat⟩:=World.cells?_some hc
      refine ⟨cs',d.K_len hK,hK,fun i u hu=>?_⟩
      have hil : i < cs'.length:=(List.getElem?_eq_some_iff.1 hu).1
      have h1:=hat i (by omega)
      rw [hC] at h1
      rw [← Go.Deep.add_add,h1,hu]
section
variable {α β γ δ : Type} {P : Program} {t : TypeId} {f0 f1 f2 f3 : Field} {d0 : Kd α} {d1 : Kd β} {d2 : Kd γ} {d3 : Kd δ} {W0 : α → Prop} {W1 : β → Prop} {W2 : γ → Prop} {W3 : δ → Prop}
end
theorem opens_arg {α : Type} {P : Program} {t e : TypeId} {d : Kd α} {Wf : List α → Prop} (ho : Opens P t (Kd.slice e d) Wf) {H : Type} {enc : TypeId × Value → H} {W : World} {spare : Nat → Bool} {held : Bool} {a : Option Addr} {len cap : Nat} {dd : DataW H} {p : List MemPlace}
    (h : DataW.Trod enc P W 0 spare held t (.slice a len cap) dd p) : ∃ l : List α,len = l.length ∧ l.length ≤ cap ∧ Kd.C d W a l.length l ∧ Wf l:=by
  obtain ⟨fuel,hf⟩:=h
  obtain ⟨l,⟨A,c,he,hl,hC⟩,hw⟩:=ho hf
  simp [Value.cells] at he
  obtain ⟨rfl,rfl,rfl⟩:=he
  exact ⟨l,rfl,hl,hC,hw⟩
end Go.Proofs.Ytcgfedaoimhejaa.G
