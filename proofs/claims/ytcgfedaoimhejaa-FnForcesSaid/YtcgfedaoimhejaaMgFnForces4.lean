/- Texts of the proof of FnForces, joined in build order. -/
import Derived.Test.YtcgfedaoimhejaaMgFnForces3
import Derived.Test.YtcgfedaoimhejaaMgFnForces1
import Derived.Test.YtcgfedaoimhejaaMgFnForces2
namespace Go.Proofs.Ytcgfedaoimhejaa.G
open Go.RowKit Go.Proofs.YtcgfedaoimhejaaW.PrintWords Go.Proofs.YtcgfedaoimhejaaW.PrintLast
set_option linter.unusedVariables false
set_option linter.unusedSimpArgs false
def okW (l : List Int) (i : Int) : Prop:=1 ≤ rd l i ∧ rd l i ≤ 32000
def Col (l : List Int) : Prop:=(l.length : Int) ≤ 4 ∧ All (okW l) 0 (l.length : Int)
def Rules (L T S : Int) : Prop:=(1 ≤ L ∧ L ≤ 200000) ∧ (0 ≤ T ∧ T ≤ 100) ∧ (1 ≤ S ∧ S ≤ 100000)
def Lashed (l : List Int) (L T S : Int) : Prop:=Col l ∧ Rules L T S
theorem cont76_eq (l : List Int) : slices_ContainsFunc_int_int_76.f l = some (chk (All (okW l) 0 (l.length : Int)) false true):=by
  unfold slices_ContainsFunc_int_int_76.f
  congr 1
  have hb : (bad76 l l.length 0 ≥ 0) ↔ ¬ All (okW l) 0 (l.length : Int):=by
    rw [bad76_iff]
    constructor
    · intro h a
      refine h fun j _ hj=>?_
      have:=a (j : Int) (by omega) (by omega)
      unfold okW at this
      unfold good76;exact decide_eq_true this
    · intro h a
      refine h fun j h0 hj=>?_
      have:=a j.toNat (by omega) (by omega)
      rw [show ((j.toNat : Nat) : Int) = j from by omega] at this
      unfold good76 at this
      have h':=of_decide_eq_true this
      exact h'
  by_cases ha : All (okW l) 0 (l.length : Int)
  · rw [chk_pos ha];exact decide_eq_false (fun x=>hb.1 x ha)
  · rw [chk_neg ha];exact decide_eq_true (hb.2 ha)
theorem impl_col (l : List Int) : impl_IsValidColumn.f l = some (chk (Col l) true false):=by
  unfold impl_IsValidColumn.f
  simp only [cont76_eq,Option.bind_some]
  by_cases h1 : (l.length : Int) ≤ 4
  · rw [if_pos h1]
    by_cases h2 : All (okW l) 0 (l.length : Int)
    · rw [chk_pos h2,chk_pos (show Col l from ⟨h1,h2⟩)];rfl
    · rw [chk_neg h2,chk_neg (fun m : Col l=>h2 m.2)];rfl
  · rw [if_neg h1,chk_neg (fun m : Col l=>h1 m.1)]
theorem impl_lashed (l : List Int) (L T S : Int) : impl_isLashed.f l L T S = some (chk (Lashed l L T S) true false):=by
  unfold impl_isLashed.f
  simp only [impl_col,impl_within_eq,Option.bind_some,decide_eq_true_eq]
  by_cases h1 : Col l
  · rw [chk_pos h1]
    simp only [if_true]
    by_cases h2 : 1 ≤ L ∧ L ≤ 200000
    · rw [if_pos h2]
      by_cases h3 : 0 ≤ T ∧ T ≤ 100
      · rw [if_pos h3]
        by_cases h4 : 1 ≤ S ∧ S ≤ 100000
        · rw [decide_eq_true h4,chk_pos (show Lashed l L T S from ⟨h1,h2,h3,h4⟩)]
        · rw [decide_eq_false h4,chk_neg (fun m : Lashed l L T S=>h4 m.2.2.2)]
      · rw [if_neg h3,chk_neg (fun m : Lashed l L T S=>h3 m.2.2.1)]
    · rw [if_neg h2,chk_neg (fun m : Lashed l L T S=>h2 m.2.1)]
  · rw [chk_neg h1,chk_neg (fun m : Lashed l L T S=>h1 m.1)]
    rfl
theorem spec_col (l : List Int) (hl : (l.length : Int) ≤ 1099511627776) : Ev (fun k=>spec_l12Good.f k l) (chk (Col l) true false):=by
  unfold spec_l12Good.f spec_l12Weights.f
  have h:=Ev.check (fun k i=>spec_l12Weights.l0 k l 4 i) (l.length : Int) (okW l) (decide ((l.length : Int) ≤ 4)) false 0 (by
    refine Ev.step (fun k=>by rw [spec_l12Weights.l0]) ?_
    simp only [Int.lt_irrefl,if_false]
    exact Ev.now _) (by
    intro i h0 hlt r hr
    refine Ev.step (fun k=>by rw [spec_l12Weights.l0]) ?_
    simp (disch:=omega) only [if_pos,wrap64_id,spec_l1In_eq,Option.bind_some,decide_eq_true_eq]
    refine Ev.ite (fun g=>?_) (fun g=>?_)
    · rw [chk_pos (show okW l i from g)];exact hr
    · rw [chk_neg (show ¬ okW l i from g)];exact Ev.now _) 0 (by omega) (by omega)
  refine Ev.bind h ?_
  refine Ev.val ?_
  by_cases ha : All (okW l) 0 (l.length : Int)
  · rw [chk_pos ha]
    by_cases h4 : (l.length : Int) ≤ 4
    · rw [decide_eq_true h4,chk_pos (show Col l from ⟨h4,ha⟩)]
    · rw [decide_eq_false h4,chk_neg (fun m : Col l=>h4 m.1)]
  · rw [chk_neg ha,chk_neg (fun m : Col l=>ha m.2)]
theorem spec_rules (L T S : Int) : spec_l12Rules.f L T S = some (chk (Rules L T S) true false):=by
  unfold spec_l12Rules.f
  simp only [spec_l1In_eq,Option.bind_some,decide_eq_true_eq]
  by_cases h2 : 1 ≤ L ∧ L ≤ 200000
  · rw [if_pos h2]
    by_cases h3 : 0 ≤ T ∧ T ≤ 100
    · rw [if_pos h3]
      by_cases h4 : 1 ≤ S ∧ S ≤ 100000
      · rw [decide_eq_true h4,chk_pos (show Rules L T S from ⟨h2,h3,h4⟩)]
      · rw [decide_eq_false h4,chk_neg (fun m : Rules L T S=>h4 m.2.2)]
    · rw [if_neg h3,chk_neg (fun m : Rules L T S=>h3 m.2.1)]
  · rw [if_neg h2,chk_neg (fun m : Rules L T S=>h2 m.1)]
/-- The sum of d weights from i on. -/
def tot (l : List Int) (i : Int) : Nat → Int
  | 0=>0
  | d + 1=>tot l i d + rd l (i + d)
theorem tot_succ (l : List Int) (i : Int) (d : Nat) : tot l i (d + 1) = tot l i d + rd l (i + d):=rfl
theorem tot_bd {l : List Int} (h : Col l) (i : Int) (h0 : 0 ≤ i) : ∀ d : Nat,i + d ≤ (l.length : Int) → 0 ≤ tot l i d ∧ tot l i d ≤ 32000 * d:=by
  intro d
  induction d with
  | zero=>intro _;simp [tot]
  | succ d ih =>
    intro hd
    have:=ih (by omega)
    have o:=h.2 (i + d) (by omega) (by omega)
    unfold okW at o
    rw [tot_succ]
    omega
/-- The force at the foot of container i. -/
def fr (l : List Int) (T i : Int) : Int:=Int.tdiv (T * tot l i (l.length - i.toNat) + 99) 100
theorem rd_drop (l : List Int) (i j : Int) (h0 : 0 ≤ i) (j0 : 0 ≤ j) : rd (l.drop i.toNat) j = rd l (i + j):=by
  unfold rd
  rw [List.getD_eq_getElem?_getD,List.getD_eq_getElem?_getD,List.getElem?_drop,show i.toNat + j.toNat = (i + j).toNat from by omega]
theorem impl_sum {l : List Int} (h : Col l) (i : Int) (h0 : 0 ≤ i) (h1 : i ≤ (l.length : Int)) : Ev (fun k=>impl_sumOf.f k (l.drop i.toNat)) (tot l i (l.length - i.toNat)):=by
  have h4:=h.1
  have hd : (((l.drop i.toNat)).length : Int) = (l.length : Int) - i:=by rw [List.length_drop];omega
  unfold impl_sumOf.f
  rw [hd]
  refine Ev.up (fun k (s : Int) j=>impl_sumOf.l0 k s (l.drop i.toNat) ((l.length : Int) - i) j) (fun _ _=>tot l i (l.length - i.toNat)) (fun s j=>0 ≤ j ∧ s = tot l i j.toNat) ((l.length : Int) - i) ?_ ?_ 0 0 ⟨by omega,rfl⟩ (by omega)
  · rintro s ⟨_,rfl⟩
    refine Ev.step (fun k=>by rw [impl_sumOf.l0]) ?_
    simp only [Int.lt_irrefl,if_false]
    rw [show ((l.length : Int) - i).toNat = l.length - i.toNat from by omega]
    exact Ev.now _
  · rintro s j ⟨j0,rfl⟩ jlt ih
    have b:=tot_bd h i h0 j.toNat (by omega)
    have o:=h.2 (i + j) (by omega) (by omega)
    unfold okW at o
    refine Ev.step (fun k=>by rw [impl_sumOf.l0]) ?_
    simp (disch:=omega) only [if_pos,wrap64_id,rd_drop]
    refine ih _ ⟨by omega,?_⟩
    rw [show (j + 1).toNat = j.toNat + 1 from by omega,tot_succ,show ((j.toNat : Nat) : Int) = j from by omega]
theorem spec_sum {l : List Int} (h : Col l) (i : Int) (h0 : 0 ≤ i) (h1 : i ≤ (l.length : Int)) : Ev (fun k=>spec_l12Sum.f k l i) (tot l i (l.length - i.toNat)):=by
  have h4:=h.1
  unfold spec_l12Sum.f
  refine Ev.up (fun k (s : Int) j=>spec_l12Sum.l0 k l s j) (fun _ _=>tot l i (l.length - i.toNat)) (fun s j=>i ≤ j ∧ s = tot l i (j - i).toNat) (l.length : Int) ?_ ?_ 0 i ⟨by omega,by rw [show (i - i).toNat = 0 from by omega];rfl⟩ (by omega)
  · rintro s ⟨_,rfl⟩
    refine Ev.step (fun k=>by rw [spec_l12Sum.l0]) ?_
    simp only [Int.lt_irrefl,if_false]
    rw [show ((l.length : Int) - i).toNat = l.length - i.toNat from by omega]
    exact Ev.now _
  · rintro s j ⟨j0,rfl⟩ jlt ih
    have b:=tot_bd h i h0 (j - i).toNat (by omega)
    have o:=h.2 j (by omega) (by omega)
    unfold okW at o
    refine Ev.step (fun k=>by rw [spec_l12Sum.l0]) ?_
    simp (disch:=omega) only [if_pos,wrap64_id]
    refine ih _ ⟨by omega,?_⟩
    rw [show (j + 1 - i).toNat = (j - i).toNat + 1 from by omega,tot_succ,show i + (((j - i).toNat : Nat) : Int) = j from by omega]
def forcesTo (l : List Int) (T : Int) : Nat → List Int
  | 0=>[]
  | d + 1=>forcesTo l T d ++ [fr l T d]
theorem forcesTo_succ (l : List Int) (T : Int) (d : Nat) : forcesTo l T (d + 1) = forcesTo l T d ++ [fr l T d]:=rfl
theorem forces_len (l : List Int) (T : Int) : ∀ d : Nat,(forcesTo l T d).length = d:=by
  intro d
  induction d with
  | zero=>rfl
  | succ d ih=>rw [forcesTo_succ,List.length_append,ih];rfl
theorem prod_bd {l : List Int} (h : Col l) (T : Int) (hT : 0 ≤ T ∧ T ≤ 100) (i : Int) (h0 : 0 ≤ i) (h1 : i ≤ (l.length : Int)) : 0 ≤ T * tot l i (l.length - i.toNat) ∧ T * tot l i (l.length - i.toNat) ≤ 12800000:=by
  have h4:=h.1
  have b:=tot_bd h i h0 (l.length - i.toNat) (by omega)
  have m:=mul_bd (x:=T) (y:=tot l i (l.length - i.toNat)) (A:=100) (B:=128000) (by omega) (by omega) (by omega) (by omega) (by omega) (by omega)
  exact ⟨Int.mul_nonneg hT.1 b.1,by omega⟩
theorem fr_bd {l : List Int} (h : Col l) (T : Int) (hT : 0 ≤ T ∧ T ≤ 100) (i : Int) (h0 : 0 ≤ i) (h1 : i ≤ (l.length : Int)) : 0 ≤ fr l T i ∧ fr l T i ≤ 200000:=by
  have p:=prod_bd h T hT i h0 h1
  unfold fr
  rw [Int.tdiv_eq_ediv_of_nonneg (by omega)]
  omega
theorem forces_mem {l : List Int} (h : Col l) (T : Int) (hT : 0 ≤ T ∧ T ≤ 100) : ∀ d : Nat,d ≤ l.length → ∀ x ∈ forcesTo l T d,0 ≤ x ∧ x ≤ 200000:=by
  intro d
  induction d with
  | zero=>intro _ x hx;cases hx
  | succ d ih =>
    intro hd x hx
    rw [forcesTo_succ,List.mem_append] at hx
    rcases hx with hx|hx
    · exact ih (by omega) x hx
    · rw [List.mem_singleton] at hx
      rw [hx]
      exact fr_bd h T hT d (by omega) (by omega)
theorem rd_mem (xs : List Int) (i : Int) (h0 : 0 ≤ i) (h1 : i < (xs.length : Int)) : rd xs i ∈ xs:=by
  unfold rd
  rw [List.getD_eq_getElem?_getD,List.getElem?_eq_getElem (show i.toNat < xs.length by omega)]
  exact List.getElem_mem _
theorem impl_forces {l : List Int} (L T S : Int) (h : Col l) (hT : 0 ≤ T ∧ T ≤ 100) : Ev (fun k=>impl_forcesOf.f k l L T S) (forcesTo l T l.length):=by
  have h4:=h.1
  unfold impl_forcesOf.f
  refine Ev.up (fun k (s : List Int) j=>impl_forcesOf.l0 k l s (l.length : Int) j L T S) (fun _ _=>forcesTo l T l.length) (fun s j=>0 ≤ j ∧ s = forcesTo l T j.toNat) (l.length : Int) ?_ ?_ [] 0 ⟨by omega,rfl⟩ (by omega)
  · rintro s ⟨_,rfl⟩
    refine Ev.step (fun k=>by rw [impl_forcesOf.l0]) ?_
    simp only [Int.lt_irrefl,if_false,Int.toNat_natCast]
    exact Ev.now _
  · rintro s j ⟨j0,rfl⟩ jlt ih
    have p:=prod_bd h T hT j j0 (by omega)
    have fl:=forces_len l T j.toNat
    refine Ev.step (fun k=>by rw [impl_forcesOf.l0]) ?_
    simp (disch:=omega) only [if_pos]
    refine Ev.bind (impl_sum h j j0 (by omega)) ?_
    have e : impl_ceiling.f (wrap64 (T * tot l j (l.length - j.toNat))) 100 = some (fr l T j):=by
      unfold impl_ceiling.f fr
      rw [if_neg (by decide),wrap64_id (x:=T * tot l j (l.length - j.toNat)) (by omega) (by omega),wrap64_id (x:=T * tot l j (l.length - j.toNat) + 100) (by omega) (by omega),wrap64_id (x:=T * tot l j (l.length - j.toNat) + 100 - 1) (by omega) (by omega),show T * tot l j (l.length - j.toNat) + 100 - 1 = T * tot l j (l.length - j.toNat) + 99 from by omega]
      rw [wrap64_id]
      · rw [Int.tdiv_eq_ediv_of_nonneg (by omega)];omega
      · rw [Int.tdiv_eq_ediv_of_nonneg (by omega)];omega
    rw [e]
    simp (disch:=omega) only [if_pos,Option.bind_some,wrap64_id]
    refine ih _ ⟨by omega,?_⟩
    rw [show (j + 1).toNat = j.toNat + 1 from by omega,forcesTo_succ,show ((j.toNat : Nat) : Int) = j from by omega]
theorem spec_forces {l : List Int} (T : Int) (h : Col l) (hT : 0 ≤ T ∧ T ≤ 100) : Ev (fun k=>spec_l12Forces.f k l T) (forcesTo l T l.length):=by
  have h4:=h.1
  unfold spec_l12Forces.f
  refine Ev.up (fun k (s : List Int) j=>spec_l12Forces.l0 k l T s j) (fun _ _=>forcesTo l T l.length) (fun s j=>0 ≤ j ∧ s = forcesTo l T j.toNat) (l.length : Int) ?_ ?_ [] 0 ⟨by omega,rfl⟩ (by omega)
  · rintro s ⟨_,rfl⟩
    refine Ev.step (fun k=>by rw [spec_l12Forces.l0]) ?_
    simp only [Int.lt_irrefl,if_false,Int.toNat_natCast]
    exact Ev.now _
  · rintro s j ⟨j0,rfl⟩ jlt ih
    have p:=prod_bd h T hT j j0 (by omega)
    have fl:=forces_len l T j.toNat
    refine Ev.step (fun k=>by rw [spec_l12Forces.l0]) ?_
    simp (disch:=omega) only [if_pos]
    refine Ev.bind (spec_sum h j j0 (by omega)) ?_
    have e : wrap64 (Int.tdiv (wrap64 ((wrap64 (tot l j (l.length - j.toNat) * T)) + 99)) 100) = fr l T j:=by
      unfold fr
      rw [Int.mul_comm (tot l j (l.length - j.toNat)) T,wrap64_id (x:=T * tot l j (l.length - j.toNat)) (by omega) (by omega),wrap64_id (x:=T * tot l j (l.length - j.toNat) + 99) (by omega) (by omega)]
      rw [wrap64_id]
      · rw [Int.tdiv_eq_ediv_of_nonneg (by omega)];omega
      · rw [Int.tdiv_eq_ediv_of_nonneg (by omega)];omega
    rw [e]
    simp (disch:=omega) only [if_pos,wrap64_id]
    refine ih _ ⟨by omega,?_⟩
    rw [show (j + 1).toNat = j.toNat + 1 from by omega,forcesTo_succ,show ((j.toNat : Nat) : Int) = j from by omega]
noncomputable def forcesR (l : List Int) (L T S : Int) : List Int × Bool:=chk (Lashed l L T S) (forcesTo l T l.length,true) ([],false)
theorem forcesR_len (l : List Int) (L T S : Int) : ((forcesR l L T S).1.length : Int) ≤ 4:=by
  unfold forcesR
  by_cases h : Lashed l L T S
  · rw [chk_pos h]
    have:=h.1.1
    show ((forcesTo l T l.length).length : Int) ≤ 4
    rw [forces_len];exact this
  · rw [chk_neg h];decide
theorem impl_LashF (l : List Int) (L T S : Int) : Ev (fun k=>impl_LashForces.f k l L T S) (forcesR l L T S):=by
  unfold impl_LashForces.f forcesR
  simp only [impl_lashed,Option.bind_some]
  refine Ev.ite (fun h=>?_) (fun h=>?_)
  · have h:=chk_true.1 h
    rw [chk_pos h]
    exact Ev.bind (impl_forces L T S h.1 h.2.2.1) (Ev.now _)
  · rw [chk_neg (fun m=>h (chk_true.2 m))];exact Ev.now _
theorem spec_LashF (l : List Int) (hl : (l.length : Int) ≤ 1099511627776) (L T S : Int) : Ev (fun k=>spec_LashForces.f k l L T S) (forcesR l L T S):=by
  unfold spec_LashForces.f forcesR
  refine Ev.bind (spec_col l hl) ?_
  refine Ev.ite (fun h=>?_) (fun h=>?_)
  · have h:=chk_true.1 h
    simp only [spec_rules,Option.bind_some]
    refine Ev.ite (fun g=>?_) (fun g=>?_)
    · have g:=chk_true.1 g
      rw [chk_pos (show Lashed l L T S from ⟨h,g⟩)]
      exact Ev.bind (spec_forces T h g.2.1) (Ev.now _)
    · rw [chk_neg (fun m : Lashed l L T S=>g (chk_true.2 m.2))];exact Ev.now _
  · rw [chk_neg (fun m : Lashed l L T S=>h (chk_true.2 m.1))];exact Ev.now _
/-- The lashings for forces, from index i on. -/
def need (F : List Int) (S : Int) : Nat → Int → List Int → List Int × Bool
  | 0,_,a=>(a,true)
  | d + 1,i,a=>if Int.tdiv (rd F i + S - 1) S > 4 then ([],false) else need F S d (i + 1) (a ++ [Int.tdiv (rd F i + S - 1) S])
theorem need_succ (F : List Int) (S : Int) (d : Nat) (i : Int) (a : List Int) : need F S (d + 1) i a = if Int.tdiv (rd F i + S - 1) S > 4 then ([],false) else need F S d (i + 1) (a ++ [Int.tdiv (rd F i + S - 1) S]):=rfl
theorem need_len (F : List Int) (S : Int) : ∀ (d : Nat) (i : Int) (a : List Int),((need F S d i a).1.length : Int) ≤ d + a.length:=by
  intro d
  induction d with
  | zero=>intro i a;show (a.length : Int) ≤ _;omega
  | succ d ih =>
    intro i a
    rw [need_succ]
    split
    · show ((0 : Nat) : Int) ≤ _;omega
    · have:=ih (i + 1) (a ++ [Int.tdiv (rd F i + S - 1) S])
      rw [List.length_append,List.length_singleton] at this
      omega
theorem tdiv_bd (x S : Int) (h0 : 0 ≤ x) (h1 : x ≤ 1000000) (hS : 1 ≤ S) : 0 ≤ Int.tdiv x S ∧ Int.tdiv x S ≤ 1000000:=by
  rw [Int.tdiv_eq_ediv_of_nonneg h0]
  refine ⟨Int.ediv_nonneg h0 (by omega),?_⟩
  have:=Int.ediv_le_self S h0
  omega
theorem impl_need (F : List Int) (L T S : Int) (hS : 1 ≤ S ∧ S ≤ 100000) (hF : ∀ x ∈ F,0 ≤ x ∧ x ≤ 200000) (h4 : (F.length : Int) ≤ 4) : ∀ (d : Nat) (i : Int) (a : List Int),0 ≤ i → i + d = (F.length : Int) → (a.length : Int) ≤ i → Ev (fun k=>impl_LashingsNeeded.l0 k a F (F.length : Int) i L T S) (need F S d i a):=by
  intro d
  induction d with
  | zero =>
    intro i a i0 hd ha
    refine Ev.step (fun k=>by rw [impl_LashingsNeeded.l0]) ?_
    simp (disch:=omega) only [if_neg]
    exact Ev.now _
  | succ d ih =>
    intro i a i0 hd ha
    have m:=hF _ (rd_mem F i i0 (by omega))
    have t:=tdiv_bd (rd F i + S - 1) S (by omega) (by omega) (by omega)
    refine Ev.step (fun k=>by rw [impl_LashingsNeeded.l0]) ?_
    simp (disch:=omega) only [if_pos,if_neg,impl_ceiling.f,Option.bind_some,wrap64_id]
    rw [need_succ]
    refine Ev.ite (fun g=>?_) (fun g=>?_)
    · rw [if_pos g];exact Ev.now _
    · rw [if_neg g]
      exact ih (i + 1) _ (by omega) (by omega) (by rw [List.length_append,List.length_singleton];omega)
theorem spec_need (F : List Int) (L T S : Int) (hS : 1 ≤ S ∧ S ≤ 100000) (hF : ∀ x ∈ F,0 ≤ x ∧ x ≤ 200000) (h4 : (F.length : Int) ≤ 4) : ∀ (d : Nat) (i : Int) (a : List Int),0 ≤ i → i + d = (F.length : Int) → (a.length : Int) ≤ i → Ev (fun k=>spec_LashingsNeeded.l0 k a F i L T S) (need F S d i a):=by
  intro d
  induction d with
  | zero =>
    intro i a i0 hd ha
    refine Ev.step (fun k=>by rw [spec_LashingsNeeded.l0]) ?_
    simp (disch:=omega) only [if_neg]
    exact Ev.now _
  | succ d ih =>
    intro i a i0 hd ha
    have m:=hF _ (rd_mem F i i0 (by omega))
    have t:=tdiv_bd (rd F i + S - 1) S (by omega) (by omega) (by omega)
    refine Ev.step (fun k=>by rw [spec_LashingsNeeded.l0]) ?_
    simp (disch:=omega) only [if_pos,if_neg,wrap64_id]
    rw [need_succ]
    refine Ev.ite (fun g=>?_) (fun g=>?_)
    · rw [if_pos g];exact Ev.now _
    · rw [if_neg g]
      exact ih (i + 1) _ (by omega) (by omega) (by rw [List.length_append,List.length_singleton];omega)
noncomputable def needR (l : List Int) (L T S : Int) : List Int × Bool:=chk (Lashed l L T S) (need (forcesTo l T l.length) S l.length 0 []) ([],false)
theorem needR_len (l : List Int) (L T S : Int) : ((needR l L T S).1.length : Int) ≤ 4:=by
  unfold needR
  by_cases h : Lashed l L T S
  · rw [chk_pos h]
    have:=h.1.1
    have n:=need_len (forcesTo l T l.length) S l.length 0 []
    rw [List.length_nil] at n
    omega
  · rw [chk_neg h];decide
theorem impl_LashN (l : List Int) (L T S : Int) : Ev (fun k=>impl_LashingsNeeded.f k l L T S) (needR l L T S):=by
  unfold impl_LashingsNeeded.f needR
  simp only [impl_lashed,Option.bind_some]
  refine Ev.ite (fun h=>?_) (fun h=>?_)
  · have h:=chk_true.1 h
    rw [chk_pos h]
    have h4:=h.1.1
    have fl:=forces_len l T l.length
    refine Ev.bind (impl_forces L T S h.1 h.2.2.1) ?_
    exact impl_need _ L T S h.2.2.2 (forces_mem h.1 T h.2.2.1 l.length (Nat.le_refl _)) (by omega) l.length 0 [] (by omega) (by omega) (by simp)
  · rw [chk_neg (fun m=>h (chk_true.2 m))];exact Ev.now _
theorem spec_LashN (l : List Int) (hl : (l.length : Int) ≤ 1099511627776) (L T S : Int) : Ev (fun k=>spec_LashingsNeeded.f k l L T S) (needR l L T S):=by
  have no : ¬ Lashed l L T S → Ev (fun k=>spec_LashingsNeeded.j0 k l [] true L T S) (needR l L T S):=by
    intro h
    unfold needR
    rw [chk_neg h]
    refine Ev.step (fun k=>by rw [spec_LashingsNeeded.j0]) ?_
    simp only [if_true];exact Ev.now _
  unfold spec_LashingsNeeded.f
  simp only [Option.bind_some]
  refine Ev.bind (spec_col l hl) ?_
  refine Ev.ite (fun h=>?_) (fun h=>no (fun m=>h (chk_true.2 m.1)))
  have h:=chk_true.1 h
  simp only [spec_rules,Option.bind_some]
  by_cases g : Rules L T S
  · rw [chk_pos g]
    refine Ev.step (fun k=>by rw [spec_LashingsNeeded.j0]) ?_
    simp only [Bool.not_true,Bool.false_eq_true,if_false]
    refine Ev.bind (spec_forces T h g.2.1) ?_
    unfold needR
    rw [chk_pos (show Lashed l L T S from ⟨h,g⟩)]
    have h4:=h.1
    have fl:=forces_len l T l.length
    exact spec_need _ L T S g.2.2 (forces_mem h T g.2.1 l.length (Nat.le_refl _)) (by omega) l.length 0 [] (by omega) (by omega) (by simp)
  · rw [chk_neg g]
    exact no (fun m=>g m.2)
end Go.Proofs.Ytcgfedaoimhejaa.G

-- Written by wip/tools/gen.py out of the translation (the kit's printer, one namespace a seat). Lean checks it.
namespace Go.Proofs.Ytcgfedaoimhejaa.G
open Go.RowKit Go.Proofs.YtcgfedaoimhejaaW.PrintWords Go.Proofs.YtcgfedaoimhejaaW.PrintLast Go.Proofs.YtcgfedaoimhejaaW.PrintMore
attribute [local go_sem] max2_int min2_int max_two min_two max_three min_three max_four min_four   -- for this text's walks alone
set_option linter.unusedVariables false
set_option linter.unusedSimpArgs false

/-! ### cmp_isNaN_int: function 88 -/
def cmp_isNaN_int.f (a0:Int):Option (Bool):=some (a0 != a0)
set_option maxHeartbeats 8000000 in
set_option maxRecDepth 100000 in
theorem cmp_isNaN_int.calls (a0:Int) (r:Bool) (w:World) (h:cmp_isNaN_int.f a0 = some r) :
  Calls Try.prog 88 #[.int .i64 a0] w fun e w'=>e = .returned (.bool r) ∧ Drawn0 w w':=by
 have H:(some (a0 != a0)) = some r:=h
 clear h;obtain rfl:=Option.some.inj H;go_enter Try.func88,Try.ntmps88
 go_wp2
 go_ret
 exact ⟨by first|rfl|(simp;done)|(simp [*];done),by repeat (first|exact Drawn0.refl _|apply Drawn0.step)⟩



/-! ### cmp_Compare_int: function 82 -/
def cmp_Compare_int.f (a0:Int) (a1:Int):Option (Int):=(cmp_isNaN_int.f a0).bind fun t105=>((cmp_isNaN_int.f a1).bind fun t106=>(if t105 = true then (if t106 = true then (some 0) else (some (-1))) else (if t106 = true then (some 1) else (if a0 < a1 then (some (-1)) else (if a0 > a1 then (some 1) else (some 0))))))
set_option maxHeartbeats 8000000 in
set_option maxRecDepth 100000 in
theorem cmp_Compare_int.calls (a0:Int) (a1:Int) (r:Int) (w:World) (h:cmp_Compare_int.f a0 a1 = some r) :
  Calls Try.prog 82 #[.int .i64 a0,.int .i64 a1] w fun e w'=>e = .returned (.int .i64 r) ∧ Drawn0 w w':=by
 have H:((cmp_isNaN_int.f a0).bind fun t105=>((cmp_isNaN_int.f a1).bind fun t106=>(if t105 = true then (if t106 = true then (some 0) else (some (-1))) else (if t106 = true then (some 1) else (if a0 < a1 then (some (-1)) else (if a0 > a1 then (some 1) else (some 0))))))) = some r:=h
 clear h;replace H:=Option.bind_eq_some_iff.mp H;obtain ⟨t105,A30,H⟩:=H;replace H:((cmp_isNaN_int.f a1).bind fun t106=>(if t105 = true then (if t106 = true then (some 0) else (some (-1))) else (if t106 = true then (some 1) else (if a0 < a1 then (some (-1)) else (if a0 > a1 then (some 1) else (some 0)))))) = some r:=H
 have A3:=zM A30;clear A30;replace H:=Option.bind_eq_some_iff.mp H;obtain ⟨t106,A40,H⟩:=H;replace H:(if t105 = true then (if t106 = true then (some 0) else (some (-1))) else (if t106 = true then (some 1) else (if a0 < a1 then (some (-1)) else (if a0 > a1 then (some 1) else (some 0))))) = some r:=H
 have A4:=zM A40;clear A40;by_cases c5:t105 = true
 ·subst c5
  have H1:(if t106 = true then (some 0) else (some (-1))) = some r:=by rw [if_pos rfl] at H;exact H
  clear H;have H:=H1;clear H1;by_cases c6:t106 = true
  ·subst c6
   have H1:(some 0) = some r:=by rw [if_pos rfl] at H;exact H
   clear H;have H:=H1;clear H1;obtain rfl:=Option.some.inj H;go_enter Try.func82,Try.ntmps82
   go_wp2_with (first|((with_reducible refine gate_callee (f:=88) rfl ?_);refine goesL_ (some 8) rfl rfl Try.func88 (by kernel_rfl) rfl #[.int .i64 a0] rfl (by (try simp only [List.map_toArray,List.map_cons,List.map_nil]);first|done|rfl|(simp only [List.length_drop,List.length_take];rfl)) ?_;(with_reducible refine (cmp_isNaN_int.calls a0 true _ A3.out).mono ?_);rintro e w' ⟨rfl,⟨nd,rfl⟩⟩;refine ⟨_,rfl,?_⟩)|((with_reducible refine gate_callee (f:=88) rfl ?_);refine goesL_ (some 10) rfl rfl Try.func88 (by kernel_rfl) rfl #[.int .i64 a1] rfl (by (try simp only [List.map_toArray,List.map_cons,List.map_nil]);first|done|rfl|(simp only [List.length_drop,List.length_take];rfl)) ?_;(with_reducible refine (cmp_isNaN_int.calls a1 true _ A4.out).mono ?_);rintro e w' ⟨rfl,⟨nd,rfl⟩⟩;refine ⟨_,rfl,?_⟩))
   go_ret
   exact ⟨by first|rfl|(simp;done)|(simp [*];done),by repeat (first|exact Drawn0.refl _|apply Drawn0.step)⟩
  ·replace c6:=Bool.eq_false_iff.mpr c6
   subst c6;have H1:(some (-1)) = some r:=by rw [if_neg (show ¬ (false = true) by decide)] at H;exact H
   clear H;have H:=H1;clear H1;obtain rfl:=Option.some.inj H;go_enter Try.func82,Try.ntmps82
   go_wp2_with (first|((with_reducible refine gate_callee (f:=88) rfl ?_);refine goesL_ (some 8) rfl rfl Try.func88 (by kernel_rfl) rfl #[.int .i64 a0] rfl (by (try simp only [List.map_toArray,List.map_cons,List.map_nil]);first|done|rfl|(simp only [List.length_drop,List.length_take];rfl)) ?_;(with_reducible refine (cmp_isNaN_int.calls a0 true _ A3.out).mono ?_);rintro e w' ⟨rfl,⟨nd,rfl⟩⟩;refine ⟨_,rfl,?_⟩)|((with_reducible refine gate_callee (f:=88) rfl ?_);refine goesL_ (some 10) rfl rfl Try.func88 (by kernel_rfl) rfl #[.int .i64 a1] rfl (by (try simp only [List.map_toArray,List.map_cons,List.map_nil]);first|done|rfl|(simp only [List.length_drop,List.length_take];rfl)) ?_;(with_reducible refine (cmp_isNaN_int.calls a1 false _ A4.out).mono ?_);rintro e w' ⟨rfl,⟨nd,rfl⟩⟩;refine ⟨_,rfl,?_⟩))
   go_ret
   exact ⟨by first|rfl|(simp;done)|(simp [*];done),by repeat (first|exact Drawn0.refl _|apply Drawn0.step)⟩
 ·replace c5:=Bool.eq_false_iff.mpr c5
  subst c5;have H1:(if t106 = true then (some 1) else (if a0 < a1 then (some (-1)) else (if a0 > a1 then (some 1) else (some 0)))) = some r:=by rw [if_neg (show ¬ (false = true) by decide)] at H;exact H
  clear H;have H:=H1;clear H1;by_cases c7:t106 = true
  ·subst c7
   have H1:(some 1) = some r:=by rw [if_pos rfl] at H;exact H
   clear H;have H:=H1;clear H1;obtain rfl:=Option.some.inj H;go_enter Try.func82,Try.ntmps82
   go_wp2_with (first|((with_reducible refine gate_callee (f:=88) rfl ?_);refine goesL_ (some 8) rfl rfl Try.func88 (by kernel_rfl) rfl #[.int .i64 a0] rfl (by (try simp only [List.map_toArray,List.map_cons,List.map_nil]);first|done|rfl|(simp only [List.length_drop,List.length_take];rfl)) ?_;(with_reducible refine (cmp_isNaN_int.calls a0 false _ A3.out).mono ?_);rintro e w' ⟨rfl,⟨nd,rfl⟩⟩;refine ⟨_,rfl,?_⟩)|((with_reducible refine gate_callee (f:=88) rfl ?_);refine goesL_ (some 10) rfl rfl Try.func88 (by kernel_rfl) rfl #[.int .i64 a1] rfl (by (try simp only [List.map_toArray,List.map_cons,List.map_nil]);first|done|rfl|(simp only [List.length_drop,List.length_take];rfl)) ?_;(with_reducible refine (cmp_isNaN_int.calls a1 true _ A4.out).mono ?_);rintro e w' ⟨rfl,⟨nd,rfl⟩⟩;refine ⟨_,rfl,?_⟩))
   go_ret
   exact ⟨by first|rfl|(simp;done)|(simp [*];done),by repeat (first|exact Drawn0.refl _|apply Drawn0.step)⟩
  ·replace c7:=Bool.eq_false_iff.mpr c7
   subst c7;have H1:(if a0 < a1 then (some (-1)) else (if a0 > a1 then (some 1) else (some 0))) = some r:=by rw [if_neg (show ¬ (false = true) by decide)] at H;exact H
   clear H;have H:=H1;clear H1;by_cases c8:a0 < a1
   ·rw [if_pos c8] at H
    have c8b0:decide (a0 < a1) = true:=decide_eq_true c8
    clear c8;obtain rfl:=Option.some.inj H;go_enter Try.func82,Try.ntmps82
    go_wp2_with (first|((with_reducible refine gate_callee (f:=88) rfl ?_);refine goesL_ (some 8) rfl rfl Try.func88 (by kernel_rfl) rfl #[.int .i64 a0] rfl (by (try simp only [List.map_toArray,List.map_cons,List.map_nil]);first|done|rfl|(simp only [List.length_drop,List.length_take];rfl)) ?_;(with_reducible refine (cmp_isNaN_int.calls a0 false _ A3.out).mono ?_);rintro e w' ⟨rfl,⟨nd,rfl⟩⟩;refine ⟨_,rfl,?_⟩)|((with_reducible refine gate_callee (f:=88) rfl ?_);refine goesL_ (some 10) rfl rfl Try.func88 (by kernel_rfl) rfl #[.int .i64 a1] rfl (by (try simp only [List.map_toArray,List.map_cons,List.map_nil]);first|done|rfl|(simp only [List.length_drop,List.length_take];rfl)) ?_;(with_reducible refine (cmp_isNaN_int.calls a1 false _ A4.out).mono ?_);rintro e w' ⟨rfl,⟨nd,rfl⟩⟩;refine ⟨_,rfl,?_⟩))
    go_ret
    exact ⟨by first|rfl|(simp;done)|(simp [*];done),by repeat (first|exact Drawn0.refl _|apply Drawn0.step)⟩
   ·rw [if_neg c8] at H
    have c8b0:decide (a0 < a1) = false:=decide_eq_false c8
    clear c8;by_cases c9:a0 > a1
    ·rw [if_pos c9] at H
     have c9b0:decide (a1 < a0) = true:=decide_eq_true c9
     clear c9;obtain rfl:=Option.some.inj H;go_enter Try.func82,Try.ntmps82
     go_wp2_with (first|((with_reducible refine gate_callee (f:=88) rfl ?_);refine goesL_ (some 8) rfl rfl Try.func88 (by kernel_rfl) rfl #[.int .i64 a0] rfl (by (try simp only [List.map_toArray,List.map_cons,List.map_nil]);first|done|rfl|(simp only [List.length_drop,List.length_take];rfl)) ?_;(with_reducible refine (cmp_isNaN_int.calls a0 false _ A3.out).mono ?_);rintro e w' ⟨rfl,⟨nd,rfl⟩⟩;refine ⟨_,rfl,?_⟩)|((with_reducible refine gate_callee (f:=88) rfl ?_);refine goesL_ (some 10) rfl rfl Try.func88 (by kernel_rfl) rfl #[.int .i64 a1] rfl (by (try simp only [List.map_toArray,List.map_cons,List.map_nil]);first|done|rfl|(simp only [List.length_drop,List.length_take];rfl)) ?_;(with_reducible refine (cmp_isNaN_int.calls a1 false _ A4.out).mono ?_);rintro e w' ⟨rfl,⟨nd,rfl⟩⟩;refine ⟨_,rfl,?_⟩))
     go_ret
     exact ⟨by first|rfl|(simp;done)|(simp [*];done),by repeat (first|exact Drawn0.refl _|apply Drawn0.step)⟩
    ·rw [if_neg c9] at H
     have c9b0:decide (a1 < a0) = false:=decide_eq_false c9
     clear c9;obtain rfl:=Option.some.inj H;go_enter Try.func82,Try.ntmps82
     go_wp2_with (first|((with_reducible refine gate_callee (f:=88) rfl ?_);refine goesL_ (some 8) rfl rfl Try.func88 (by kernel_rfl) rfl #[.int .i64 a0] rfl (by (try simp only [List.map_toArray,List.map_cons,List.map_nil]);first|done|rfl|(simp only [List.length_drop,List.length_take];rfl)) ?_;(with_reducible refine (cmp_isNaN_int.calls a0 false _ A3.out).mono ?_);rintro e w' ⟨rfl,⟨nd,rfl⟩⟩;refine ⟨_,rfl,?_⟩)|((with_reducible refine gate_callee (f:=88) rfl ?_);refine goesL_ (some 10) rfl rfl Try.func88 (by kernel_rfl) rfl #[.int .i64 a1] rfl (by (try simp only [List.map_toArray,List.map_cons,List.map_nil]);first|done|rfl|(simp only [List.length_drop,List.length_take];rfl)) ?_;(with_reducible refine (cmp_isNaN_int.calls a1 false _ A4.out).mono ?_);rintro e w' ⟨rfl,⟨nd,rfl⟩⟩;refine ⟨_,rfl,?_⟩))
     go_ret
     exact ⟨by first|rfl|(simp;done)|(simp [*];done),by repeat (first|exact Drawn0.refl _|apply Drawn0.step)⟩



/-! ### slices_Compare_int_int: function 67 -/
def slices_Compare_int_int.l0:Nat → List Int → List Int → List Int → Int → Int → Option (Int)
 | 0,_,_,_,_,_=>none
 | k + 1,x0,x1,x9,x10,x11=>if x11 < x10 then (if 0 ≤ x11 then (if x11 < (x9.length:Int) then (if x11 ≥ (x1.length:Int) then (some 1) else (if x11 < (x1.length:Int) then ((cmp_Compare_int.f (rd x9 x11) (rd x1 x11)).bind fun t109=>(if t109 = 0 then (slices_Compare_int_int.l0 k x0 x1 x9 x10 (wrap64 (x11 + 1))) else (some t109))) else (none))) else (none)) else (none)) else (if (x0.length:Int) < (x1.length:Int) then (some (-1)) else (some 0))
def slices_Compare_int_int.f (k:Nat) (l0:List Int) (l1:List Int):Option (Int):=slices_Compare_int_int.l0 k l0 l1 l0 (l0.length:Int) 0
set_option maxHeartbeats 8000000 in
set_option maxRecDepth 100000 in
theorem slices_Compare_int_int.calls (k:Nat) (A0:Option Addr) (c0:Nat) (l0:List Int) (A1:Option Addr) (c1:Nat) (l1:List Int) (r:Int) (w:World) (hr0:Kd.C (Kd.int .i64) w A0 l0.length l0) (hc0:l0.length ≤ c0) (hr1:Kd.C (Kd.int .i64) w A1 l1.length l1) (hc1:l1.length ≤ c1) (h:slices_Compare_int_int.f k l0 l1 = some r) :
  Calls Try.prog 67 #[.slice A0 l0.length c0,.slice A1 l1.length c1] w fun e w'=>e = .returned (.int .i64 r) ∧ Drawn0 w w':=by
 have HR0:=zM hr0;have HC0:=zM hc0;clear hr0 hc0;have HR1:=zM hr1;have HC1:=zM hc1;clear hr1 hc1;have H:(slices_Compare_int_int.l0 k l0 l1 l0 (l0.length:Int) 0) = some r:=h
 clear h;have H':=zM H;clear H;go_enter Try.func67,Try.ntmps67
 go_wp2
 go_loopg [11] k (fun kq v11 w' => ∃ (x11_1:Int),v11 = .int .i64 x11_1 ∧ Aside0 (slices_Compare_int_int.l0 kq l0 l1 l0 (l0.length:Int) x11_1 = some r) ∧ Aside0 (kq ≤ k) ∧ Drawn0 w w')
 case atStart=>exact ⟨(0),(by first|rfl|(simp;done)|(simp [*];done)),H',⟨Nat.le_refl _⟩,by repeat (first|exact Drawn0.refl _|apply Drawn0.step)⟩
 case round =>
  clear H';(try clear c1);(try clear p2);obtain ⟨x11_1,rfl,HA,HK1,⟨m1,rfl⟩⟩:=hrel;cases gk with
  | zero=>exact absurd HA.out (by simp [slices_Compare_int_int.l0])
  | succ k1 =>
   have H:=HA.out;clear HA;simp only [slices_Compare_int_int.l0] at H
   by_cases c3:x11_1 < (l0.length:Int)
   ·rw [if_pos c3] at H
    have c3b0:decide (x11_1 < (l0.length:Int)) = true:=decide_eq_true c3
    clear c3;by_cases c4:0 ≤ x11_1
    ·rw [if_pos c4] at H
     have c4b0:decide (0 ≤ x11_1) = true:=decide_eq_true c4
     clear c4;by_cases c5:x11_1 < (l0.length:Int)
     ·rw [if_pos c5] at H
      have c5b0:decide (x11_1 < (l0.length:Int)) = true:=decide_eq_true c5
      clear c5;by_cases c6:x11_1 ≥ (l1.length:Int)
      ·rw [if_pos c6] at H
       have c6b0:decide ((l1.length:Int) ≤ x11_1) = true:=decide_eq_true c6
       clear c6;obtain rfl:=Option.some.inj H;have p107:0 ≤ (x11_1:Int):=of_decide_eq_true (by first|(with_reducible assumption)|assumption)
       have q107:x11_1 < (l0.length:Int):=of_decide_eq_true (by first|(with_reducible assumption)|assumption)
       obtain ⟨ad107,e107,hx107_0⟩:=Kd.at_int HR0.out x11_1 p107 q107;cases e107
       replace p107:=eq_true p107;replace q107:=eq_true q107;go_wp2
       go_ret
       exact ⟨by first|rfl|(simp;done)|(simp [*];done),by repeat (first|exact Drawn0.refl _|apply Drawn0.step)⟩
      ·rw [if_neg c6] at H
       have c6b0:decide ((l1.length:Int) ≤ x11_1) = false:=decide_eq_false c6
       clear c6;by_cases c7:x11_1 < (l1.length:Int)
       ·rw [if_pos c7] at H
        have c7b0:decide (x11_1 < (l1.length:Int)) = true:=decide_eq_true c7
        clear c7;replace H:=Option.bind_eq_some_iff.mp H;obtain ⟨t109,A80,H⟩:=H;replace H:(if t109 = 0 then (slices_Compare_int_int.l0 k1 l0 l1 l0 (l0.length:Int) (wrap64 (x11_1 + 1))) else (some t109)) = some r:=H
        have A8:=zM A80;clear A80;by_cases c9:t109 = 0
        ·rw [if_pos c9] at H
         have c9b0:(t109 == 0) = true:=beq_iff_eq.mpr c9
         have c9b1:(t109 != 0) = false:=bne_eq_false_iff_eq.mpr c9
         clear c9;have H':=zM H;clear H;have p107:0 ≤ (x11_1:Int):=of_decide_eq_true (by first|(with_reducible assumption)|assumption)
         have q107:x11_1 < (l0.length:Int):=of_decide_eq_true (by first|(with_reducible assumption)|assumption)
         obtain ⟨ad107,e107,hx107_0⟩:=Kd.at_int HR0.out x11_1 p107 q107;cases e107
         replace p107:=eq_true p107;replace q107:=eq_true q107;have p108:0 ≤ (x11_1:Int):=of_decide_eq_true (by first|(with_reducible assumption)|assumption)
         have q108:x11_1 < (l1.length:Int):=of_decide_eq_true (by first|(with_reducible assumption)|assumption)
         obtain ⟨ad108,e108,hx108_0⟩:=Kd.at_int HR1.out x11_1 p108 q108;cases e108
         replace p108:=eq_true p108;replace q108:=eq_true q108;go_wp2_with (first|((with_reducible refine gate_callee (f:=82) rfl ?_);refine goesL_ (some 26) rfl rfl Try.func82 (by kernel_rfl) rfl #[.int .i64 (rd l0 x11_1),.int .i64 (rd l1 x11_1)] rfl (by (try simp only [List.map_toArray,List.map_cons,List.map_nil]);first|done|rfl|(simp only [List.length_drop,List.length_take];rfl)) ?_;(with_reducible refine (cmp_Compare_int.calls (rd l0 x11_1) (rd l1 x11_1) t109 _ A8.out).mono ?_);rintro e w' ⟨rfl,⟨nd,rfl⟩⟩;refine ⟨_,rfl,?_⟩))
         go_roundg k1
         case measure=>have:=HK1.out;omega
         case rel=>exact ⟨(wrap64 (x11_1 + 1)),(by first|rfl|(simp;done)|(simp [*];done)),H',⟨by have:=HK1.out;omega⟩,by repeat (first|exact Drawn0.refl _|apply Drawn0.step)⟩
        ·rw [if_neg c9] at H
         have c9b0:(t109 == 0) = false:=beq_eq_false_iff_ne.mpr c9
         have c9b1:(t109 != 0) = true:=bne_iff_ne.mpr c9
         obtain rfl:=Option.some.inj H;have p107:0 ≤ (x11_1:Int):=of_decide_eq_true (by first|(with_reducible assumption)|assumption)
         have q107:x11_1 < (l0.length:Int):=of_decide_eq_true (by first|(with_reducible assumption)|assumption)
         obtain ⟨ad107,e107,hx107_0⟩:=Kd.at_int HR0.out x11_1 p107 q107;cases e107
         replace p107:=eq_true p107;replace q107:=eq_true q107;have p108:0 ≤ (x11_1:Int):=of_decide_eq_true (by first|(with_reducible assumption)|assumption)
         have q108:x11_1 < (l1.length:Int):=of_decide_eq_true (by first|(with_reducible assumption)|assumption)
         obtain ⟨ad108,e108,hx108_0⟩:=Kd.at_int HR1.out x11_1 p108 q108;cases e108
         replace p108:=eq_true p108;replace q108:=eq_true q108;go_wp2_with (first|((with_reducible refine gate_callee (f:=82) rfl ?_);refine goesL_ (some 26) rfl rfl Try.func82 (by kernel_rfl) rfl #[.int .i64 (rd l0 x11_1),.int .i64 (rd l1 x11_1)] rfl (by (try simp only [List.map_toArray,List.map_cons,List.map_nil]);first|done|rfl|(simp only [List.length_drop,List.length_take];rfl)) ?_;(with_reducible refine (cmp_Compare_int.calls (rd l0 x11_1) (rd l1 x11_1) t109 _ A8.out).mono ?_);rintro e w' ⟨rfl,⟨nd,rfl⟩⟩;refine ⟨_,rfl,?_⟩))
         go_ret
         exact ⟨by first|rfl|(simp;done)|(simp [*];done),by repeat (first|exact Drawn0.refl _|apply Drawn0.step)⟩
       ·rw [if_neg c7] at H
        exact absurd H (by simp)
     ·rw [if_neg c5] at H
      exact absurd H (by simp)
    ·rw [if_neg c4] at H
     exact absurd H (by simp)
   ·rw [if_neg c3] at H
    have c3b0:decide (x11_1 < (l0.length:Int)) = false:=decide_eq_false c3
    clear c3;by_cases c10:(l0.length:Int) < (l1.length:Int)
    ·rw [if_pos c10] at H
     have c10b0:decide ((l0.length:Int) < (l1.length:Int)) = true:=decide_eq_true c10
     have c10b1:decide (l0.length < l1.length) = true:=decide_eq_true (Int.ofNat_lt.mp c10)
     clear c10;obtain rfl:=Option.some.inj H;go_wp2
     go_ret
     exact ⟨by first|rfl|(simp;done)|(simp [*];done),by repeat (first|exact Drawn0.refl _|apply Drawn0.step)⟩
    ·rw [if_neg c10] at H
     have c10b0:decide ((l0.length:Int) < (l1.length:Int)) = false:=decide_eq_false c10
     have c10b1:decide (l0.length < l1.length) = false:=decide_eq_false (fun h=>c10 (Int.ofNat_lt.mpr h))
     clear c10;obtain rfl:=Option.some.inj H;go_wp2
     go_ret
     exact ⟨by first|rfl|(simp;done)|(simp [*];done),by repeat (first|exact Drawn0.refl _|apply Drawn0.step)⟩

end Go.Proofs.Ytcgfedaoimhejaa.G

namespace Go.Proofs.Ytcgfedaoimhejaa.G
open Go.RowKit Go.Proofs.YtcgfedaoimhejaaW.PrintWords Go.Proofs.YtcgfedaoimhejaaW.PrintLast
set_option linter.unusedVariables false
set_option linter.unusedSimpArgs false
/-! The orders of a column: what they are, their forces, and how two lists are held against each other. -/
theorem has_iff (l : List Int) (x : Int) : Has l x ↔ ∃ j,0 ≤ j ∧ j < (l.length : Int) ∧ rd l j = x:=by
  unfold Has All
  constructor
  · intro h
    refine Classical.byContradiction fun hn=>h fun j a b e=>hn ⟨j,a,b,e⟩
  · rintro ⟨j,a,b,e⟩ h
    exact h j a b e
theorem has_mem (l : List Int) (x : Int) : Has l x ↔ x ∈ l:=by
  rw [has_iff]
  constructor
  · rintro ⟨j,a,b,e⟩
    rw [← e]
    exact rd_mem l j a b
  · intro h
    obtain ⟨i,hi,e⟩:=List.getElem_of_mem h
    refine ⟨(i : Int),by omega,by omega,?_⟩
    unfold rd
    rw [List.getD_eq_getElem?_getD,Int.toNat_natCast,List.getElem?_eq_getElem hi]
    exact e
theorem ordIn_mem (f : List Int → List (List Int)) (jobs l : List Int) : ∀ (r : Nat) (i : Int),l ∈ ordIn f jobs r i ↔ ∃ k : Int,i ≤ k ∧ k < i + r ∧ ¬ Has jobs k ∧ l ∈ f (jobs ++ [k]):=by
  intro r
  induction r with
  | zero =>
    intro i
    unfold ordIn
    constructor
    · intro h;cases h
    · rintro ⟨k,a,b,_⟩;omega
  | succ r ih =>
    intro i
    unfold ordIn
    rw [List.mem_append,ih (i + 1)]
    constructor
    · rintro (h|⟨k,a,b,c⟩)
      · by_cases hh : Has jobs i
        · rw [chk_pos hh] at h;cases h
        · rw [chk_neg hh] at h;exact ⟨i,by omega,by omega,hh,h⟩
      · exact ⟨k,by omega,by omega,c⟩
    · rintro ⟨k,a,b,c,h⟩
      by_cases e : k = i
      · subst e;rw [chk_neg c];exact .inl h
      · exact .inr ⟨k,by omega,by omega,c,h⟩
/-- An order of the numbers from 0 up to, and without, n. -/
def OrdOk (l : List Int) (n : Nat) : Prop:=l.length = n ∧ l.Nodup ∧ ∀ y ∈ l,0 ≤ y ∧ y < (n : Int)
theorem ords_mem {n : Nat} (l : List Int) : ∀ (d : Nat) (jobs : List Int),jobs.length + d = n → jobs.Nodup → (∀ y ∈ jobs,0 ≤ y ∧ y < (n : Int)) → (l ∈ ords n d jobs ↔ ∃ t,l = jobs ++ t ∧ OrdOk l n):=by
  intro d
  induction d with
  | zero =>
    intro jobs hd hn hp
    unfold ords
    rw [List.mem_singleton]
    constructor
    · rintro rfl;exact ⟨[],by simp,by omega,hn,hp⟩
    · rintro ⟨t,e,h⟩
      have h1:=h.1
      rw [e,List.length_append] at h1
      rw [e,List.eq_nil_of_length_eq_zero (show t.length = 0 by omega),List.append_nil]
  | succ d ih =>
    intro jobs hd hn hp
    unfold ords
    rw [ordIn_mem]
    have nod : ∀ k : Int,k ∉ jobs → (jobs ++ [k]).Nodup:=fun k hk=>by
      rw [List.nodup_append]
      exact ⟨hn,by simp,fun a ha b hb e=>by rw [List.mem_singleton] at hb;subst hb;subst e;exact hk ha⟩
    have rng : ∀ k : Int,0 ≤ k → k < (n : Int) → ∀ y ∈ jobs ++ [k],0 ≤ y ∧ y < (n : Int):=fun k a b y hy=>by
      rcases List.mem_append.1 hy with h|h
      · exact hp y h
      · rw [List.mem_singleton] at h;subst h;exact ⟨a,b⟩
    constructor
    · rintro ⟨k,k0,k1,hh,h⟩
      rw [has_mem] at hh
      obtain ⟨t,e,hP⟩:=(ih (jobs ++ [k]) (by simp;omega) (nod k hh) (rng k k0 (by omega))).1 h
      exact ⟨k :: t,by rw [e];simp,hP⟩
    · rintro ⟨t,e,hP⟩
      cases t with
      | nil =>
        have:=hP.1
        rw [e,List.append_nil] at this
        omega
      | cons k t =>
        have hk:=hP.2.2 k (by rw [e];simp)
        have hnd:=hP.2.1
        rw [e,List.nodup_append] at hnd
        have hk2 : k ∉ jobs:=fun m=>hnd.2.2 k m k (by simp) rfl
        refine ⟨k,hk.1,by omega,by rw [has_mem];exact hk2,(ih (jobs ++ [k]) (by simp;omega) (nod k hk2) (rng k hk.1 hk.2)).2 ⟨t,by rw [e];simp,hP⟩⟩
theorem ords_all {n : Nat} (l : List Int) : l ∈ ords n n [] ↔ OrdOk l n:=by
  rw [ords_mem l n [] (by simp) List.nodup_nil (fun y hy=>by cases hy)]
  exact ⟨fun ⟨_,_,h⟩=>h,fun h=>⟨l,rfl,h⟩⟩
theorem rd_map (xs : List Int) (o : List Int) (i : Int) (h0 : 0 ≤ i) (h1 : i < (o.length : Int)) : rd (o.map (rd xs)) i = rd xs (rd o i):=by
  unfold rd
  rw [List.getD_eq_getElem?_getD,List.getElem?_map,List.getElem?_eq_getElem (show i.toNat < o.length by omega),List.getD_eq_getElem?_getD (l:=o),List.getElem?_eq_getElem (show i.toNat < o.length by omega)]
  rfl
theorem ord_col {xs o : List Int} (hc : Col xs) (ho : OrdOk o xs.length) : Col (o.map (rd xs)):=by
  refine ⟨by rw [List.length_map,ho.1];exact hc.1,?_⟩
  rw [List.length_map]
  intro i i0 i1
  show okW (o.map (rd xs)) i
  unfold okW
  rw [rd_map xs o i i0 i1]
  have:=ho.2.2 _ (rd_mem o i i0 i1)
  exact hc.2 _ this.1 this.2
theorem tot_bnd {l : List Int} (hb : ∀ x ∈ l,0 ≤ x ∧ x ≤ 1000000) : ∀ d : Nat,d ≤ l.length → 0 ≤ tot l 0 d ∧ tot l 0 d ≤ 1000000 * d:=by
  intro d
  induction d with
  | zero=>intro _;exact ⟨Int.le_refl _,by simp [tot]⟩
  | succ d ih =>
    intro h
    have h1:=ih (by omega)
    have h2:=hb _ (rd_mem l (d : Int) (by omega) (by omega))
    rw [tot_succ,show (0 : Int) + (d : Int) = (d : Int) from by omega]
    omega
theorem impl_sumB {l : List Int} (h8 : l.length ≤ 8) (hb : ∀ x ∈ l,0 ≤ x ∧ x ≤ 1000000) : Ev (fun k=>impl_sumOf.f k l) (tot l 0 l.length):=by
  unfold impl_sumOf.f
  refine Ev.up (fun k (s : Int) i=>impl_sumOf.l0 k s l (l.length : Int) i) (fun _ _=>tot l 0 l.length) (fun s i=>0 ≤ i ∧ s = tot l 0 i.toNat) (l.length : Int) ?_ ?_ 0 0 ⟨by omega,rfl⟩ (by omega)
  · rintro s ⟨_,rfl⟩
    refine Ev.step (fun k=>by rw [impl_sumOf.l0]) ?_
    simp only [Int.lt_irrefl,if_false,Int.toNat_natCast]
    exact Ev.now _
  · rintro s i ⟨i0,rfl⟩ hlt ih
    have b1:=tot_bnd hb i.toNat (by omega)
    have b2:=hb _ (rd_mem l i i0 hlt)
    refine Ev.step (fun k=>by rw [impl_sumOf.l0]) ?_
    simp (disch:=omega) only [if_pos,wrap64_id]
    refine ih _ ⟨by omega,?_⟩
    rw [show (i + 1).toNat = i.toNat + 1 from by omega,tot_succ,show (0 : Int) + ((i.toNat : Nat) : Int) = i from by omega]
theorem spec_sumB {l : List Int} (h8 : l.length ≤ 8) (hb : ∀ x ∈ l,0 ≤ x ∧ x ≤ 1000000) : Ev (fun k=>spec_l12Sum.f k l 0) (tot l 0 l.length):=by
  unfold spec_l12Sum.f
  refine Ev.up (fun k (s : Int) i=>spec_l12Sum.l0 k l s i) (fun _ _=>tot l 0 l.length) (fun s i=>0 ≤ i ∧ s = tot l 0 i.toNat) (l.length : Int) ?_ ?_ 0 0 ⟨by omega,rfl⟩ (by omega)
  · rintro s ⟨_,rfl⟩
    refine Ev.step (fun k=>by rw [spec_l12Sum.l0]) ?_
    simp only [Int.lt_irrefl,if_false,Int.toNat_natCast]
    exact Ev.now _
  · rintro s i ⟨i0,rfl⟩ hlt ih
    have b1:=tot_bnd hb i.toNat (by omega)
    have b2:=hb _ (rd_mem l i i0 hlt)
    refine Ev.step (fun k=>by rw [spec_l12Sum.l0]) ?_
    simp (disch:=omega) only [if_pos,wrap64_id]
    refine ih _ ⟨by omega,?_⟩
    rw [show (i + 1).toNat = i.toNat + 1 from by omega,tot_succ,show (0 : Int) + ((i.toNat : Nat) : Int) = i from by omega]
/-- The sum of the forces of a list. -/
def forceSum (l : List Int) (T : Int) : Int:=tot (forcesTo l T l.length) 0 l.length
theorem force_mem {l : List Int} (h : Col l) {T : Int} (hT : 0 ≤ T ∧ T ≤ 100) : ∀ x ∈ forcesTo l T l.length,0 ≤ x ∧ x ≤ 1000000:=fun x hx=>by
  have:=forces_mem h T hT l.length (Nat.le_refl _) x hx
  omega
theorem impl_forceSum {l : List Int} (h : Col l) {T : Int} (hT : 0 ≤ T ∧ T ≤ 100) : Ev (fun k=>impl_sumOf.f k (forcesTo l T l.length)) (forceSum l T):=by
  have e:=forces_len l T l.length
  have:=impl_sumB (l:=forcesTo l T l.length) (by rw [e];have:=h.1;omega) (force_mem h hT)
  rw [e] at this
  exact this
theorem spec_forceSum {l : List Int} (h : Col l) {T : Int} (hT : 0 ≤ T ∧ T ≤ 100) : Ev (fun k=>spec_l12Sum.f k (forcesTo l T l.length) 0) (forceSum l T):=by
  have e:=forces_len l T l.length
  have:=spec_sumB (l:=forcesTo l T l.length) (by rw [e];have:=h.1;omega) (force_mem h hT)
  rw [e] at this
  exact this
theorem forceSum_nonneg {l : List Int} (h : Col l) {T : Int} (hT : 0 ≤ T ∧ T ≤ 100) : 0 ≤ forceSum l T:=by
  have e:=forces_len l T l.length
  have:=tot_bnd (force_mem h hT) l.length (by rw [e];exact Nat.le_refl _)
  exact this.1
theorem cmp_some (a b : Int) : cmp_Compare_int.f a b = some (if a < b then -1 else if a > b then 1 else 0):=by
  unfold cmp_Compare_int.f cmp_isNaN_int.f
  simp only [bne_self_eq_false,Option.bind_some,Bool.false_eq_true,if_false]
  split
  · rfl
  · split <;> rfl
theorem cmp_both (l b : List Int) (hl : (l.length : Int) ≤ 1099511627776) : ∃ r,Ev (fun k=>slices_Compare_int_int.f k l b) r ∧ (l.length = b.length → ∃ t,Ev (fun k=>spec_l12Before.f k l b) t ∧ (r < 0 ↔ t = true)):=by
  unfold slices_Compare_int_int.f spec_l12Before.f
  have main : ∀ (d : Nat) (i : Int),0 ≤ i → i + d = (l.length : Int) → ∃ r,Ev (fun k=>slices_Compare_int_int.l0 k l b l (l.length : Int) i) r ∧ (l.length = b.length → ∃ t,Ev (fun k=>spec_l12Before.l0 k l b i) t ∧ (r < 0 ↔ t = true)):=by
    intro d
    induction d with
    | zero =>
      intro i i0 hd
      by_cases g : (l.length : Int) < (b.length : Int)
      · refine ⟨-1,?_,fun e=>by omega⟩
        refine Ev.step (fun k=>by rw [slices_Compare_int_int.l0]) ?_
        simp (disch:=omega) only [if_neg,if_pos g]
        exact Ev.now _
      · refine ⟨0,?_,fun e=>⟨false,?_,by decide⟩⟩
        · refine Ev.step (fun k=>by rw [slices_Compare_int_int.l0]) ?_
          simp (disch:=omega) only [if_neg]
          exact Ev.now _
        · refine Ev.step (fun k=>by rw [spec_l12Before.l0]) ?_
          simp (disch:=omega) only [if_neg]
          exact Ev.now _
    | succ d ih =>
      intro i i0 hd
      by_cases g : i ≥ (b.length : Int)
      · refine ⟨1,?_,fun e=>by omega⟩
        refine Ev.step (fun k=>by rw [slices_Compare_int_int.l0]) ?_
        simp (disch:=omega) only [if_pos]
        exact Ev.now _
      · obtain ⟨r,hr,hs⟩:=ih (i + 1) (by omega) (by omega)
        by_cases e : rd l i = rd b i
        · refine ⟨r,?_,fun el=>?_⟩
          · refine Ev.step (fun k=>by rw [slices_Compare_int_int.l0]) ?_
            simp (disch:=omega) only [if_pos,if_neg,wrap64_id,cmp_some,Option.bind_some]
            simp only [if_true]
            exact hr
          · obtain ⟨t,ht,hi⟩:=hs el
            refine ⟨t,?_,hi⟩
            refine Ev.step (fun k=>by rw [spec_l12Before.l0]) ?_
            simp (disch:=omega) only [if_pos,wrap64_id]
            exact ht
        · by_cases lt : rd l i < rd b i
          · refine ⟨-1,?_,fun el=>⟨true,?_,by decide⟩⟩
            · refine Ev.step (fun k=>by rw [slices_Compare_int_int.l0]) ?_
              simp (disch:=omega) only [if_pos,if_neg,cmp_some,Option.bind_some]
              exact Ev.now _
            · refine Ev.step (fun k=>by rw [spec_l12Before.l0]) ?_
              simp (disch:=omega) only [if_pos,if_neg]
              simp only [decide_eq_true lt]
              exact Ev.now _
          · refine ⟨1,?_,fun el=>⟨false,?_,by decide⟩⟩
            · refine Ev.step (fun k=>by rw [slices_Compare_int_int.l0]) ?_
              simp (disch:=omega) only [if_pos,if_neg,cmp_some,Option.bind_some]
              exact Ev.now _
            · refine Ev.step (fun k=>by rw [spec_l12Before.l0]) ?_
              simp (disch:=omega) only [if_pos,if_neg]
              simp only [decide_eq_false lt]
              exact Ev.now _
  exact main l.length 0 (by omega) (by omega)
/-- What slices.Compare tells of two lists. -/
noncomputable def cmpR (l b : List Int) : Int:=by
  classical exact if h : (l.length : Int) ≤ 1099511627776 then Classical.choose (cmp_both l b h) else 0
theorem cmpR_ok (l b : List Int) (hl : (l.length : Int) ≤ 1099511627776) : Ev (fun k=>slices_Compare_int_int.f k l b) (cmpR l b) ∧ (l.length = b.length → ∃ t,Ev (fun k=>spec_l12Before.f k l b) t ∧ (cmpR l b < 0 ↔ t = true)):=by
  have e : cmpR l b = Classical.choose (cmp_both l b hl):=by
    unfold cmpR
    exact dif_pos hl
  rw [e]
  exact Classical.choose_spec (cmp_both l b hl)
/-- One order more: the lightest so far. -/
noncomputable def stepL (T : Int) (s : List Int × Int) (l : List Int) : List Int × Int:=if s.2 < 0 ∨ forceSum l T < s.2 ∨ (forceSum l T = s.2 ∧ cmpR l s.1 < 0) then (l,forceSum l T) else s
noncomputable def foldL (xs : List Int) (T : Int) : List Int × Int:=(ords xs.length xs.length []).foldl (fun s o=>stepL T s (o.map (rd xs))) ([], -1)
end Go.Proofs.Ytcgfedaoimhejaa.G

/- The contract of LightestForce: of a valid column and rules, the first lightest order of the weights, by its forces' sum and then by the list. -/
namespace Go.Proofs.Ytcgfedaoimhejaa.G
open Go.RowKit Go.Proofs.YtcgfedaoimhejaaW.PrintWords Go.Proofs.YtcgfedaoimhejaaW.PrintLast
set_option linter.unusedVariables false
set_option linter.unusedSimpArgs false
theorem keeps_mono {S S' : Nat → Prop} {w w' : World} (h : Keeps S w w') (hs : ∀ k,S k → S' k) : Keeps S' w w':=⟨h.os,h.tape,h.output,h.size,fun k hk hn=>h.block k hk (fun m=>hn (hs k m))⟩
theorem Keeps.of_set (w : World) (g i : Nat) (u : Value) : Keeps (fun k=>k = g) w (w.setCell ⟨g,i,none⟩ u):=⟨rfl,rfl,rfl,by simp [World.setCell],fun k hk hn=>Below.heap_setCell w ⟨g,i,none⟩ u k hn⟩
theorem below_cell {B j : Nat} {w w' : World} (hb : Below w.heap.size w w') {v : Value} (h : w.cell? ⟨B,j,none⟩ = some v) : w'.cell? ⟨B,j,none⟩ = some v:=(Keeps.of_below (S:=fun _=>False) hb).cell h (fun h=>h)
/-- The boxes of the best list and its sum. -/
def BoxL (Bl Bb : Nat) (k : Nat) : Prop:=k = Bl ∨ k = Bb
structure LightI (wc : World) (xs : List Int) (L T S : Int) (Aw : Option Addr) (cw Bc Bx Bl Bb : Nat) (w : World) (s : List Int × Int) : Prop where
  old : Below wc.heap.size wc w
  cw_ : w.cell? ⟨Bc,0,none⟩ = some (.slice Aw xs.length cw)
  cx : w.heap[Bx]? = some (.cells #[.int .i64 L,.int .i64 T,.int .i64 S] 28 (0,0))
  bl : w.heap[Bl]? = some (.cells #[.int .i64 s.2] 3 (0,0))
  bb : ∃ v,w.heap[Bb]? = some (.cells #[v] 22 (0,0)) ∧ Kd.R (Kd.int .i64) 3 w wc.heap.size (fun k => ¬ BoxL Bl Bb k) v s.1
structure PlacesL (wc : World) (Bc Bx Bl Bb : Nat) : Prop where
  l : wc.heap.size ≤ Bl
  b : wc.heap.size ≤ Bb
  n1 : Bl ≠ Bb
  nc : ¬ BoxL Bl Bb Bc
  nx : ¬ BoxL Bl Bb Bx
theorem LightI.stay {wc : World} {xs : List Int} {L T S : Int} {Aw : Option Addr} {cw Bc Bx Bl Bb : Nat} {w w' : World} {s : List Int × Int} (h : LightI wc xs L T S Aw cw Bc Bx Bl Bb w s) (hb : Below w.heap.size w w') : LightI wc xs L T S Aw cw Bc Bx Bl Bb w' s:=by
  obtain ⟨v,hv,hr⟩:=h.bb
  exact ⟨below_step h.old hb,below_cell hb h.cw_,blk_below h.cx hb,blk_below h.bl hb,⟨v,blk_below hv hb,Kd.R_below hr hb⟩⟩
theorem LightI.put {wc : World} {xs : List Int} {L T S : Int} {Aw : Option Addr} {cw Bc Bx Bl Bb : Nat} (hp : PlacesL wc Bc Bx Bl Bb) {w : World} {s : List Int × Int} (h : LightI wc xs L T S Aw cw Bc Bx Bl Bb w s) {v : Value} {o : List Int}
    (hR : Kd.R (Kd.int .i64) 3 w wc.heap.size (fun k => ¬ BoxL Bl Bb k) v o) (m : Int) :
    LightI wc xs L T S Aw cw Bc Bx Bl Bb ((w.setCell ⟨Bb,0,none⟩ v).setCell ⟨Bl,0,none⟩ (.int .i64 m)) (o,m) ∧ Keeps (BoxL Bl Bb) w ((w.setCell ⟨Bb,0,none⟩ v).setCell ⟨Bl,0,none⟩ (.int .i64 m)):=by
  obtain ⟨p1,p2,n1,nc,nx⟩:=hp
  have k : Keeps (BoxL Bl Bb) w ((w.setCell ⟨Bb,0,none⟩ v).setCell ⟨Bl,0,none⟩ (.int .i64 m)) :=
    (keeps_mono (Keeps.of_set w Bb 0 v) (fun _ e => .inr e)).trans (keeps_mono (Keeps.of_set _ Bl 0 _) (fun _ e => .inl e))
  obtain ⟨v0,hv,hr⟩:=h.bb
  refine ⟨⟨⟨k.os.trans h.old.os,k.tape.trans h.old.tape,k.output.trans h.old.output,Nat.le_trans h.old.size k.size,fun i hi=>(k.block i (Nat.lt_of_lt_of_le hi h.old.size) (fun e=>by unfold BoxL at e;omega)).trans (h.old.block i hi)⟩,
    k.cell h.cw_ nc,(k.block _ (blk_lt h.cx) nx).trans h.cx,?_,⟨v,?_,Kd.R_step hR (fun b hb hl=>k.block b hl hb)⟩⟩,k⟩
  · exact blk_set ((Below.heap_setCell w ⟨Bb,0,none⟩ v Bl n1).trans h.bl) 0 _
  · exact (Below.heap_setCell _ ⟨Bl,0,none⟩ _ Bb (fun e=>n1 e.symm)).trans (blk_set hv 0 v)
/-- The cells that the walk reads and writes ahead of the stores. -/
structure Ready (w : World) (Bl Bb : Nat) (m : Int) (u v : Value) : Prop where
  l : w.cell? ⟨Bl,0,none⟩ = some (.int .i64 m)
  lf : w.frozen? ⟨Bl,0,none⟩ = false
  b : w.cell? ⟨Bb,0,none⟩ = some u
  bf : w.frozen? ⟨Bb,0,none⟩ = false
  l2 : (w.setCell ⟨Bb,0,none⟩ v).cell? ⟨Bl,0,none⟩ = some (.int .i64 m)
  l2f : (w.setCell ⟨Bb,0,none⟩ v).frozen? ⟨Bl,0,none⟩ = false
theorem LightI.ready {wc : World} {xs : List Int} {L T S : Int} {Aw : Option Addr} {cw Bc Bx Bl Bb : Nat} (hp : PlacesL wc Bc Bx Bl Bb) {w : World} {s : List Int × Int} (h : LightI wc xs L T S Aw cw Bc Bx Bl Bb w s) (v : Value) :
    ∃ Ab cb,Kd.R (Kd.int .i64) 3 w wc.heap.size (fun k => ¬ BoxL Bl Bb k) (.slice Ab s.1.length cb) s.1 ∧ Ready w Bl Bb s.2 (.slice Ab s.1.length cb) v:=by
  obtain ⟨v0,hv,hr⟩:=h.bb
  obtain ⟨Ab,cb,rfl⟩:=Kd.R_slice hr
  have hl:=(Below.heap_setCell w ⟨Bb,0,none⟩ v Bl hp.n1).trans h.bl
  exact ⟨Ab,cb,hr,⟨(blk_cell h.bl 0).trans rfl,blk_frozen h.bl 0,(blk_cell hv 0).trans rfl,blk_frozen hv 0,(blk_cell hl 0).trans rfl,blk_frozen hl 0⟩⟩
set_option maxHeartbeats 4000000 in
set_option maxRecDepth 100000 in
theorem light_call {wc : World} {xs : List Int} {L T S : Int} (hc : Col xs) (hT : 0 ≤ T ∧ T ≤ 100) {Aw : Option Addr} {cw Bc Bx Bl Bb : Nat} (hp : PlacesL wc Bc Bx Bl Bb) (hCw : Kd.C (Kd.int .i64) wc Aw xs.length xs) (hcw : xs.length ≤ cw) (w : World) (s : List Int × Int) (v : Value) (o : List Int) (hI : LightI wc xs L T S Aw cw Bc Bx Bl Bb w s) (hP : OrdOk o xs.length) (hR : Kd.R (Kd.int .i64) 3 w wc.heap.size (fun k => ¬ BoxL Bl Bb k) v o) :
    Calls Try.prog 66 (#[v] ++ #[.pointer (some ⟨Bc,0,none⟩),.pointer (some ⟨Bx,0,none⟩),.pointer (some ⟨Bl,0,none⟩),.pointer (some ⟨Bb,0,none⟩)]) w fun e w'=>e = .returned (.tuple #[]) ∧ LightI wc xs L T S Aw cw Bc Bx Bl Bb w' (stepL T s (o.map (rd xs))) ∧ Keeps (BoxL Bl Bb) w w':=by
  obtain ⟨A,c1,rfl⟩:=Kd.R_slice hR
  obtain ⟨best,least⟩:=s
  have hcl:=ord_col hc hP
  have hn:=hP.1
  have h4 : xs.length ≤ 4:=by have:=hc.1;omega
  have hrg : ∀ i : Int,0 ≤ i → i < (o.length : Int) → 0 ≤ rd o i ∧ rd o i < (xs.length : Int):=fun i a b=>hP.2.2 _ (rd_mem o i a b)
  have ho4 : o.length ≤ 4:=by omega
  have hll : (o.map (rd xs)).length = o.length:=List.length_map _
  obtain ⟨l,hld⟩ : ∃ l,o.map (rd xs) = l:=⟨_,rfl⟩
  rw [hld] at hcl hll ⊢
  have HLD:=Aside0.mk hld
  have HLN:=Aside0.mk hll
  clear hld
  obtain ⟨kf,hkf⟩:=Ev.rounds (impl_forces L T S hcl hT)
  obtain ⟨ks,hks⟩:=Ev.rounds (impl_forceSum hcl hT)
  obtain ⟨kc,hkc⟩:=Ev.rounds (cmpR_ok l best (by omega)).1
  have hst : stepL T (best,least) l = if least < 0 ∨ forceSum l T < least ∨ (forceSum l T = least ∧ cmpR l best < 0) then (l,forceSum l T) else (best,least):=rfl
  obtain ⟨m,hm⟩ : ∃ m,forceSum l T = m:=⟨_,rfl⟩
  obtain ⟨rc,hrc⟩ : ∃ rc,cmpR l best = rc:=⟨_,rfl⟩
  obtain ⟨F,hF⟩ : ∃ F,forcesTo l T l.length = F:=⟨_,rfl⟩
  rw [hm,hrc] at hst
  rw [hm,hF] at hks
  rw [hrc] at hkc
  rw [hF] at hkf
  have HKF:=Aside0.mk hkf
  have HKS:=Aside0.mk hks
  have HKC:=Aside0.mk hkc
  have HST:=Aside0.mk hst
  have HRG:=Aside0.mk hrg
  have hw:=hI.cw_
  have HI:=Aside0.mk hI
  have HR:=Aside0.mk hR
  have HP:=Aside0.mk hp
  have HCW:=Aside0.mk (Kd.C_below hCw hI.old)
  have HN:=Aside0.mk hn
  clear hI hR hp hCw hkf hks hkc hst hrg hP hcl hc hm hrc hF hn hT hll
  show Calls Try.prog 66 #[.slice A o.length c1,.pointer (some ⟨Bc,0,none⟩),.pointer (some ⟨Bx,0,none⟩),.pointer (some ⟨Bl,0,none⟩),.pointer (some ⟨Bb,0,none⟩)] w _
  go_enter Try.func66,Try.ntmps66
  go_wp2_with ((with_reducible refine gate_dst (N:=10) rfl ?_);refine Kd.R_lit (Kd.int .i64) _ 3 ?hg (N:=10) ?hd (xs:=([] : List Int)) (inner:=[]) (ok:=fun _=>True) (okp:=fun _=>True) ?hr ?hp (fun _ hk=>hk) trivial (Below.refl _ _) (Nat.le_refl _) (by simp) ?_;(case hd=>rfl);(case hg=>rfl);(case hr=>first|(go_simp;done)|(go_simp;rfl));(case hp=>exact (Reps.none _ _));intro v0 w1 ho1 hb1 hg_ hnew_;clear hg_ hnew_;have HO:=Aside0.mk ho1;have HB:=Aside0.mk hb1;clear ho1 hb1)
  go_loopw [6,13] (fun v6 v13 w' => ∃ k : Nat,k ≤ o.length ∧ v13 = .int .i64 k ∧ Aside0 (Kd.R (Kd.int .i64) 3 w' w.heap.size (fun _=>True) v6 ((o.take k).map (rd xs))) ∧ Aside0 (Below w.heap.size w w')) (fun _ v13 _=>o.length - (intOf v13).toNat)
  case atStart=>exact ⟨0,Nat.zero_le _,rfl,⟨HO.out⟩,HB⟩
  case round =>
    obtain ⟨k,hk,rfl,ho,hb⟩:=hrel
    have hwr:=below_cell hb.out hw
    by_cases hlt : k < o.length
    · have hg:=HRG.out (k : Int) (by omega) (by omega)
      obtain ⟨ad,e1,hx⟩:=Kd.at_int (Kd.C_below (Kd.R_reads' HR.out).2.2 hb.out) (k : Int) (by omega) (by omega)
      obtain ⟨ad2,e2,hx2⟩:=Kd.at_int (Kd.C_below HCW.out hb.out) (rd o k) hg.1 hg.2
      cases e1
      cases e2
      rw [Int.toNat_natCast] at hx
      have g1:=eq_true hg.1
      have g2:=eq_true hg.2
      have HL : Aside0 ((o.take (k + 1)).map (rd xs) = (o.take k).map (rd xs) ++ [rd xs (rd o k)]):=Aside0.mk (by
        rw [List.take_succ_eq_append_getElem hlt,List.map_append]
        unfold rd
        rw [List.getD_eq_getElem?_getD (l:=o),Int.toNat_natCast,List.getElem?_eq_getElem hlt]
        rfl)
      have HLen : Aside0 (((o.take k).map (rd xs)).length ≤ 10):=Aside0.mk (by rw [List.length_map,List.length_take];have:=HN.out;omega)
      clear hg
      go_wp2_with ((with_reducible refine gate_builtin (b := .append) (xs := #[.tmp 17,.tmp 22]) rfl ?_);at_builtin;refine Kd.R_append (Kd.int .i64) (w0:=w) w.heap.size rfl (.tmp 17) (.tmp 22) 22 3 (.int .i64 0) 8 rfl Try.underlying22 info3 rfl (by decide) (by omega) u6 ((o.take k).map (rd xs)) (rd xs (rd o k)) [.int .i64 (rd xs (rd o k))] (fun _=>True) (fun _=>False) rfl rfl ?aP (fun _ hk=>hk.elim) ?aF ?aO ?aB ?aS ?aL ?_;(case aP=>exact rfl);(case aB=>exact (by repeat (first|(with_reducible first|exact hb.out|apply below_alloc|apply pw_below_drewN|apply below_drew1)|exact hb.out)));(case aF=>exact (fun _ _=>trivial));(case aO=>exact (by (with_reducible repeat (first|apply Kd.R_alloc|apply Kd.R_drewN|apply Kd.R_drew));exact ho.out));(case aS=>exact (below_size (by repeat (first|(with_reducible first|exact hb.out|apply below_alloc|apply pw_below_drewN|apply below_drew1)|exact hb.out))));(case aL=>have:=HLen.out;omega);intro v8 w8 ho8 hb8 hg_ hat_;rw [← HL.out] at ho8;have HO8:=Aside0.mk ho8;have HB8:=Aside0.mk hb8;clear ho8 hb8 hg_ hat_)
      go_roundw
      case rel=>exact ⟨k + 1,by omega,by go_num,HO8,HB8⟩
      case measure=>simp [intOf];omega
    · have HO:=ho
      have HB:=hb
      have HO2 : Aside0 (Kd.R (Kd.int .i64) 3 wr w.heap.size (fun _=>True) u6 l):=Aside0.mk (by
        have:=ho.out
        rw [List.take_of_length_le (show o.length ≤ k by omega),HLD.out] at this
        exact this)
      have HI2:=Aside0.mk (HI.out.stay hb.out)
      clear ho hb HO
      obtain ⟨Al,cl,el⟩:=Kd.R_slice HO2.out
      subst el
      have hxr:=HI2.out.cx
      have hy0 : wr.cell? ⟨Bx,0,none⟩ = some (.int .i64 L):=(blk_cell hxr 0).trans rfl
      have hy1 : wr.cell? ⟨Bx,1,none⟩ = some (.int .i64 T):=(blk_cell hxr 1).trans rfl
      have hy2 : wr.cell? ⟨Bx,2,none⟩ = some (.int .i64 S):=(blk_cell hxr 2).trans rfl
      have hu28:=Try.underlying28
      clear hxr
      have fin : ∀ {w2 : World},Below wr.heap.size wr w2 → Kd.R (Kd.int .i64) 3 w2 wc.heap.size (fun k => ¬ BoxL Bl Bb k) (.slice Al l.length cl) l:=fun {w2} hb2 =>
        Kd.R_lower (Kd.R_mono (Kd.R_bound (Kd.R_below HO2.out hb2)) (fun b hb e=>by have:=hb.2.1;have h1:=blk_lt HI.out.bl;obtain ⟨_,h2,_⟩:=HI.out.bb;have h2:=blk_lt h2;unfold BoxL at e;omega)) HI.out.old.size
      have FIN:=Aside0.mk @fin
      clear fin
      by_cases h0 : least < 0
      · have HS : Aside0 (stepL T (best,least) l = (l,m)):=Aside0.mk (by rw [HST.out];exact if_pos (.inl h0))
        go_wp2_with (first|(go_at_call 48;refine (impl_forcesOf.calls kf Al cl l L T S F _ (Kd.R_reads' HO2.out).2.2 (Kd.R_reads' HO2.out).2.1 HKF.out).mono ?_;rintro e w2 ⟨vf,rfl,hRf,hd2⟩;obtain ⟨Af,cf,rfl⟩:=Kd.R_slice hRf;have HRF:=Aside0.mk hRf;have HB2:=Aside0.mk hd2;clear hd2 hRf)|(go_at_call 53;refine (impl_sumOf.calls ks Af cf F m _ (Kd.R_reads' HRF.out).2.2 (Kd.R_reads' HRF.out).2.1 HKS.out).mono ?_;rintro e w3 ⟨rfl,hd3⟩;have HB3:=Aside0.mk (below_step HB2.out hd3.below);have HI3:=Aside0.mk (HI2.out.stay HB3.out);obtain ⟨Ab,cb,hRb,hz⟩:=HI3.out.ready HP.out (.slice Al l.length cl);have z1:=hz.l;have z2:=hz.lf;have z3:=hz.b;have z4:=hz.bf;have z5:=hz.l2;have z6:=hz.l2f;clear hz hd3 hRb))
        go_end0
        have r:=HI3.out.put HP.out (FIN.out HB3.out) m
        rw [HS.out]
        exact ⟨rfl,r.1,(Keeps.of_below (below_step HB.out HB3.out)).trans r.2⟩
      · have h0' : 0 ≤ least:=by omega
        by_cases h1 : m < least
        · have HS : Aside0 (stepL T (best,least) l = (l,m)):=Aside0.mk (by rw [HST.out];exact if_pos (.inr (.inl h1)))
          go_wp2_with (first|(go_at_call 48;refine (impl_forcesOf.calls kf Al cl l L T S F _ (Kd.R_reads' HO2.out).2.2 (Kd.R_reads' HO2.out).2.1 HKF.out).mono ?_;rintro e w2 ⟨vf,rfl,hRf,hd2⟩;obtain ⟨Af,cf,rfl⟩:=Kd.R_slice hRf;have HRF:=Aside0.mk hRf;have HB2:=Aside0.mk hd2;clear hd2 hRf)|(go_at_call 53;refine (impl_sumOf.calls ks Af cf F m _ (Kd.R_reads' HRF.out).2.2 (Kd.R_reads' HRF.out).2.1 HKS.out).mono ?_;rintro e w3 ⟨rfl,hd3⟩;have HB3:=Aside0.mk (below_step HB2.out hd3.below);have HI3:=Aside0.mk (HI2.out.stay HB3.out);obtain ⟨Ab,cb,hRb,hz⟩:=HI3.out.ready HP.out (.slice Al l.length cl);have z1:=hz.l;have z2:=hz.lf;have z3:=hz.b;have z4:=hz.bf;have z5:=hz.l2;have z6:=hz.l2f;clear hz hd3 hRb))
          go_end0
          have r:=HI3.out.put HP.out (FIN.out HB3.out) m
          rw [HS.out]
          exact ⟨rfl,r.1,(Keeps.of_below (below_step HB.out HB3.out)).trans r.2⟩
        · have h1' : least ≤ m:=by omega
          by_cases h2 : m = least
          · have heq : (m == least) = true:=beq_iff_eq.2 h2
            by_cases h3 : rc < 0
            · have HS : Aside0 (stepL T (best,least) l = (l,m)):=Aside0.mk (by rw [HST.out];exact if_pos (.inr (.inr ⟨h2,h3⟩)))
              clear h2
              go_wp2_with (first|(go_at_call 48;refine (impl_forcesOf.calls kf Al cl l L T S F _ (Kd.R_reads' HO2.out).2.2 (Kd.R_reads' HO2.out).2.1 HKF.out).mono ?_;rintro e w2 ⟨vf,rfl,hRf,hd2⟩;obtain ⟨Af,cf,rfl⟩:=Kd.R_slice hRf;have HRF:=Aside0.mk hRf;have HB2:=Aside0.mk hd2;clear hd2 hRf)|(go_at_call 53;refine (impl_sumOf.calls ks Af cf F m _ (Kd.R_reads' HRF.out).2.2 (Kd.R_reads' HRF.out).2.1 HKS.out).mono ?_;rintro e w3 ⟨rfl,hd3⟩;have HB3:=Aside0.mk (below_step HB2.out hd3.below);have HI3:=Aside0.mk (HI2.out.stay HB3.out);obtain ⟨Ab,cb,hRb,hz⟩:=HI3.out.ready HP.out (.slice Al l.length cl);have HRB:=Aside0.mk hRb;have z1:=hz.l;have z3:=hz.b;clear hz hd3 hRb)|(go_at_call 67;refine (slices_Compare_int_int.calls kc Al cl l Ab cb best rc _ (Kd.R_reads' (FIN.out HB3.out)).2.2 (Kd.R_reads' (FIN.out HB3.out)).2.1 (Kd.R_reads' HRB.out).2.2 (Kd.R_reads' HRB.out).2.1 HKC.out).mono ?_;rintro e w4 ⟨rfl,hd4⟩;have HB4:=Aside0.mk (below_step HB3.out hd4.below);have HI4:=Aside0.mk (HI2.out.stay HB4.out);obtain ⟨Ab4,cb4,hRb4,hz⟩:=HI4.out.ready HP.out (.slice Al l.length cl);have y1:=hz.l;have y2:=hz.lf;have y3:=hz.b;have y4:=hz.bf;have y5:=hz.l2;have y6:=hz.l2f;clear hz hd4 hRb4))
              go_end0
              have r:=HI4.out.put HP.out (FIN.out HB4.out) m
              rw [HS.out]
              exact ⟨rfl,r.1,(Keeps.of_below (below_step HB.out HB4.out)).trans r.2⟩
            · have h3' : 0 ≤ rc:=by omega
              have HS : Aside0 (stepL T (best,least) l = (best,least)):=Aside0.mk (by rw [HST.out];exact if_neg (fun h=>by omega))
              clear h2
              go_wp2_with (first|(go_at_call 48;refine (impl_forcesOf.calls kf Al cl l L T S F _ (Kd.R_reads' HO2.out).2.2 (Kd.R_reads' HO2.out).2.1 HKF.out).mono ?_;rintro e w2 ⟨vf,rfl,hRf,hd2⟩;obtain ⟨Af,cf,rfl⟩:=Kd.R_slice hRf;have HRF:=Aside0.mk hRf;have HB2:=Aside0.mk hd2;clear hd2 hRf)|(go_at_call 53;refine (impl_sumOf.calls ks Af cf F m _ (Kd.R_reads' HRF.out).2.2 (Kd.R_reads' HRF.out).2.1 HKS.out).mono ?_;rintro e w3 ⟨rfl,hd3⟩;have HB3:=Aside0.mk (below_step HB2.out hd3.below);have HI3:=Aside0.mk (HI2.out.stay HB3.out);obtain ⟨Ab,cb,hRb,hz⟩:=HI3.out.ready HP.out (.slice Al l.length cl);have HRB:=Aside0.mk hRb;have z1:=hz.l;have z3:=hz.b;clear hz hd3 hRb)|(go_at_call 67;refine (slices_Compare_int_int.calls kc Al cl l Ab cb best rc _ (Kd.R_reads' (FIN.out HB3.out)).2.2 (Kd.R_reads' (FIN.out HB3.out)).2.1 (Kd.R_reads' HRB.out).2.2 (Kd.R_reads' HRB.out).2.1 HKC.out).mono ?_;rintro e w4 ⟨rfl,hd4⟩;have HB4:=Aside0.mk (below_step HB3.out hd4.below);have HI4:=Aside0.mk (HI2.out.stay HB4.out);clear hd4))
              go_end0
              rw [HS.out]
              exact ⟨rfl,HI4.out,Keeps.of_below (below_step HB.out HB4.out)⟩
          · have heq : (m == least) = false:=beq_eq_false_iff_ne.2 h2
            have HS : Aside0 (stepL T (best,least) l = (best,least)):=Aside0.mk (by rw [HST.out];exact if_neg (fun h=>by omega))
            clear h2
            go_wp2_with (first|(go_at_call 48;refine (impl_forcesOf.calls kf Al cl l L T S F _ (Kd.R_reads' HO2.out).2.2 (Kd.R_reads' HO2.out).2.1 HKF.out).mono ?_;rintro e w2 ⟨vf,rfl,hRf,hd2⟩;obtain ⟨Af,cf,rfl⟩:=Kd.R_slice hRf;have HRF:=Aside0.mk hRf;have HB2:=Aside0.mk hd2;clear hd2 hRf)|(go_at_call 53;refine (impl_sumOf.calls ks Af cf F m _ (Kd.R_reads' HRF.out).2.2 (Kd.R_reads' HRF.out).2.1 HKS.out).mono ?_;rintro e w3 ⟨rfl,hd3⟩;have HB3:=Aside0.mk (below_step HB2.out hd3.below);have HI3:=Aside0.mk (HI2.out.stay HB3.out);obtain ⟨Ab,cb,hRb,hz⟩:=HI3.out.ready HP.out (.slice Al l.length cl);have z1:=hz.l;clear hz hd3 hRb))
            go_end0
            rw [HS.out]
            exact ⟨rfl,HI3.out,Keeps.of_below (below_step HB.out HB3.out)⟩
theorem light_back {wc : World} {xs : List Int} {L T S : Int} (hc : Col xs) (hT : 0 ≤ T ∧ T ≤ 100) {Aw : Option Addr} {cw Bc Bx Bl Bb : Nat} (hp : PlacesL wc Bc Bx Bl Bb) (hCw : Kd.C (Kd.int .i64) wc Aw xs.length xs) (hcw : xs.length ≤ cw) :
    Back (σ:=List Int × Int) 66 #[.pointer (some ⟨Bc,0,none⟩),.pointer (some ⟨Bx,0,none⟩),.pointer (some ⟨Bl,0,none⟩),.pointer (some ⟨Bb,0,none⟩)] (BoxL Bl Bb) wc.heap.size (LightI wc xs L T S Aw cw Bc Bx Bl Bb) (fun o=>OrdOk o xs.length) (fun s o=>stepL T s (o.map (rd xs))) where
  enters:=fun args w=>enters_ Try.func66 (by kernel_rfl) rfl args w
  call:=fun w s v o hI hP hR=>light_call hc hT hp hCw hcw w s v o hI hP hR
  stay:=fun w w' s hI hb=>hI.stay hb
  low:=fun w s hI k hk=>by
    obtain ⟨v,hv,_⟩:=hI.bb
    rcases hk with rfl|rfl
    · exact blk_lt hI.bl
    · exact blk_lt hv
end Go.Proofs.Ytcgfedaoimhejaa.G

/- The contract of LightestForce, joined: of any column and rules. -/
namespace Go.Proofs.Ytcgfedaoimhejaa.G
open Go.RowKit Go.Proofs.YtcgfedaoimhejaaW.PrintWords Go.Proofs.YtcgfedaoimhejaaW.PrintLast
set_option linter.unusedVariables false
set_option linter.unusedSimpArgs false
theorem light_boxes {w w1 w2 w2' w3 w4 : World} {g1 g2 g3 g4 : Nat} (L T S : Int) (A0 : Option Addr) (c0 : Nat) (l0 : List Int)
    (h1 : g1 = w.heap.size) (x1 : w1.heap[g1]? = some (.cells #[.slice A0 l0.length c0] 22 (0,0))) (b1 : Below w.heap.size w w1)
    (h2 : g2 = w1.heap.size) (x2 : w2.heap[g2]? = some (.cells #[.int .i64 L,.int .i64 T,.int .i64 S] 28 (0,0))) (b2 : Below w1.heap.size w1 w2)
    (b2' : Below w2.heap.size w2 w2')
    (h3 : g3 = w2'.heap.size) (x3 : w3.heap[g3]? = some (.cells #[.slice none 0 0] 22 (0,0))) (b3 : Below w2'.heap.size w2' w3)
    (h4 : g4 = w3.heap.size) (x4 : w4.heap[g4]? = some (.cells #[.int .i64 0] 3 (0,0))) (b4 : Below w3.heap.size w3 w4) :
    PlacesL w g1 g2 g4 g3 ∧ LightI w l0 L T S A0 c0 g1 g2 g4 g3 (w4.setCell ⟨g4,0,none⟩ (.int .i64 (-1))) ([], -1) ∧ Below w.heap.size w (w4.setCell ⟨g4,0,none⟩ (.int .i64 (-1))):=by
  have s1:=b1.size
  have s2:=b2.size
  have s2':=b2'.size
  have s3:=b3.size
  have s4:=b4.size
  have l1:=blk_lt x1
  have l2:=blk_lt x2
  have l3:=blk_lt x3
  have l4:=blk_lt x4
  have hB : Below w.heap.size w (w4.setCell ⟨g4,0,none⟩ (.int .i64 (-1))):=Below.setCell (below_step b1 (below_step b2 (below_step b2' (below_step b3 b4)))) (by show w.heap.size ≤ g4;omega) _
  have y1:=blk_below (blk_below (blk_below (blk_below x1 b2) b2') b3) b4
  have y2:=blk_below (blk_below (blk_below x2 b2') b3) b4
  have y3:=blk_below x3 b4
  refine ⟨⟨by omega,by omega,by omega,by unfold BoxL;omega,by unfold BoxL;omega⟩,⟨hB,?_,?_,blk_set x4 0 _,⟨.slice none 0 0,?_,Kd.R_nil _ _ _ _ _⟩⟩,hB⟩
  · exact (cell_far (p:=⟨g4,0,none⟩) (by show g1 ≠ g4;omega) _).trans ((blk_cell y1 0).trans rfl)
  · exact (Below.heap_setCell w4 ⟨g4,0,none⟩ _ g2 (by show g2 ≠ g4;omega)).trans y2
  · exact (Below.heap_setCell w4 ⟨g4,0,none⟩ _ g3 (by show g3 ≠ g4;omega)).trans y3
theorem light_below {w w4 w5 : World} {a b : Nat} (h : Below w.heap.size w w4) (k : Keeps (BoxL a b) w4 w5) (ha : w.heap.size ≤ a) (hb : w.heap.size ≤ b) : Below w.heap.size w w5 :=
  ⟨k.os.trans h.os,k.tape.trans h.tape,k.output.trans h.output,Nat.le_trans h.size k.size,fun i hi=>(k.block i (Nat.lt_of_lt_of_le hi h.size) (fun e=>by unfold BoxL at e;omega)).trans (h.block i hi)⟩
noncomputable def impl_LightestForce.f (l0 : List Int) (a1_0 : Int) (a1_1 : Int) (a1_2 : Int) : Option (List Int × Int × Bool):=some (chk (Lashed l0 a1_0 a1_1 a1_2) ((foldL l0 a1_1).1,(foldL l0 a1_1).2,true) ([],0,false))
set_option maxHeartbeats 4000000 in
set_option maxRecDepth 100000 in
theorem impl_LightestForce.calls (A0 : Option Addr) (c0 : Nat) (l0 : List Int) (a1_0 : Int) (a1_1 : Int) (a1_2 : Int) (r1 : List Int) (r2 : Int) (r3 : Bool) (w : World) (hr0 : Kd.C (Kd.int .i64) w A0 l0.length l0) (hc0 : l0.length ≤ c0) (h : impl_LightestForce.f l0 a1_0 a1_1 a1_2 = some (r1,r2,r3)) :
    Calls Try.prog 31 #[.slice A0 l0.length c0,.agg #[.int .i64 a1_0,.int .i64 a1_1,.int .i64 a1_2]] w fun e w' => ∃ v0_ : Value,e = .returned (.tuple #[v0_,.int .i64 r2,.bool r3]) ∧ Kd.R (Kd.int .i64) 3 w' w.heap.size (fun _=>True) v0_ r1 ∧ Below w.heap.size w w':=by
  have hu28:=Try.underlying28
  unfold impl_LightestForce.f at h
  have h:=Option.some.inj h
  have HR:=Aside0.mk hr0
  clear hr0
  by_cases hS : Lashed l0 a1_0 a1_1 a1_2
  · have HA : Aside0 (impl_isLashed.f l0 a1_0 a1_1 a1_2 = some true):=Aside0.mk (by rw [impl_lashed,chk_pos hS])
    rw [chk_pos hS] at h
    obtain ⟨rfl,rfl,rfl⟩ : (foldL l0 a1_1).1 = r1 ∧ (foldL l0 a1_1).2 = r2 ∧ true = r3:=by
      injection h with e1 h
      injection h with e2 h
      exact ⟨e1,e2,h⟩
    have HC:=Aside0.mk hS.1
    have HT:=Aside0.mk hS.2.2.1
    have h4 : l0.length ≤ 4:=by have:=hS.1.1;omega
    obtain ⟨fo,hfo⟩ : ∃ fo,foldL l0 a1_1 = fo:=⟨_,rfl⟩
    have HF : Aside0 ((ords l0.length l0.length []).foldl (fun s o=>stepL a1_1 s (o.map (rd l0))) ([], -1) = fo):=Aside0.mk hfo
    rw [hfo]
    clear hS h hfo
    obtain ⟨f1,f2⟩:=fo
    go_enter Try.func31,Try.ntmps31
    go_wp2_with (first|((with_reducible refine gate_dst (N:=2) rfl ?_);refine box_event ?hg2 (N:=2) ?hd2 (cs := #[.slice A0 l0.length c0]) (t:=22) ?hr2 ?_;(case hd2=>rfl);(case hg2=>rfl);(case hr2=>first|(go_simp;done)|(go_simp;rfl));intro g1 hgg1 w1 hboxg1 hbg1;have HG1:=Aside0.mk hgg1;have HX1:=Aside0.mk hboxg1;have HB1:=Aside0.mk hbg1;clear hgg1 hboxg1 hbg1)|((with_reducible refine gate_dst (N:=3) rfl ?_);refine box_event ?hg3 (N:=3) ?hd3 (cs := #[.int .i64 a1_0,.int .i64 a1_1,.int .i64 a1_2]) (t:=28) ?hr3 ?_;(case hd3=>rfl);(case hg3=>rfl);(case hr3=>first|(go_simp;done)|(go_simp;rfl));intro g2 hgg2 w2 hboxg2 hbg2;have HG2:=Aside0.mk hgg2;have HX2:=Aside0.mk hboxg2;have HB2:=Aside0.mk hbg2;have hz1 : w2.cell? ⟨g1,0,none⟩ = some (.slice A0 l0.length c0):=below_cell hbg2 ((blk_cell HX1.out 0).trans rfl);have hz2 : w2.cell? ⟨g2,0,none⟩ = some (.int .i64 a1_0):=(blk_cell hboxg2 0).trans rfl;have hz3 : w2.cell? ⟨g2,1,none⟩ = some (.int .i64 a1_1):=(blk_cell hboxg2 1).trans rfl;have hz4 : w2.cell? ⟨g2,2,none⟩ = some (.int .i64 a1_2):=(blk_cell hboxg2 2).trans rfl;clear hgg2 hboxg2 hbg2)|(go_at_call 47;refine (impl_isLashed.calls A0 c0 l0 a1_0 a1_1 a1_2 true _ (Kd.C_below HR.out (below_step HB1.out HB2.out)) hc0 HA.out).mono ?_;rintro e w3 ⟨rfl,hd3⟩;have HB3:=Aside0.mk hd3;clear hd3)|((with_reducible refine gate_dst (N:=7) rfl ?_);refine box_event ?hg7 (N:=7) ?hd7 (cs := #[.slice none 0 0]) (t:=22) ?hr7 ?_;(case hd7=>rfl);(case hg7=>rfl);(case hr7=>first|(go_simp;done)|(go_simp;rfl));intro g3 hgg3 w5 hboxg3 hbg3;have HG3:=Aside0.mk hgg3;have HX3:=Aside0.mk hboxg3;have HB5:=Aside0.mk hbg3;clear hgg3 hboxg3 hbg3)|((with_reducible refine gate_dst (N:=8) rfl ?_);refine box_event ?hg8 (N:=8) ?hd8 (cs := #[.int .i64 0]) (t:=3) ?hr8 ?_;(case hd8=>rfl);(case hg8=>rfl);(case hr8=>first|(go_simp;done)|(go_simp;rfl));intro g4 hgg4 w6 hboxg4 hbg4;have HG4:=Aside0.mk hgg4;have HX4:=Aside0.mk hboxg4;have HB6:=Aside0.mk hbg4;have hz5 : w6.cell? ⟨g4,0,none⟩ = some (.int .i64 0):=(blk_cell hboxg4 0).trans rfl;have hz6:=blk_frozen hboxg4 0;have HBX:=Aside0.mk (light_boxes a1_0 a1_1 a1_2 A0 c0 l0 HG1.out HX1.out HB1.out HG2.out HX2.out HB2.out HB3.out HG3.out HX3.out HB5.out HG4.out HX4.out HB6.out);have hz7:=HBX.out.2.1.cw_;clear hgg4 hboxg4 hbg4)|(go_at_call 65;refine calls_of_args (args' := #[.int .i64 l0.length,.func (.func 66) #[] #[.pointer (some ⟨g1,0,none⟩),.pointer (some ⟨g2,0,none⟩),.pointer (some ⟨g4,0,none⟩),.pointer (some ⟨g3,0,none⟩)]]) ?ca ?_;(case ca=>(first|rfl|(simp;done)|(simp;omega)));refine (orders_any (light_back HC.out HT.out HBX.out.1 HR.out hc0) l0.length (by omega) _ ([], -1) (fun o ho=>(ords_all o).1 ho) HBX.out.2.2.size HBX.out.2.1).mono ?_;rintro e w8 ⟨rfl,hI8,hK8⟩;have HB8:=Aside0.mk (light_below HBX.out.2.2 hK8 HBX.out.1.l HBX.out.1.b);rw [HF.out] at hI8;obtain ⟨v5,hv5,hr5⟩:=hI8.bb;have HR5:=Aside0.mk hr5;have hz8 : w8.cell? ⟨g4,0,none⟩ = some (.int .i64 f2):=(blk_cell hI8.bl 0).trans rfl;have hz9 : w8.cell? ⟨g3,0,none⟩ = some v5:=(blk_cell hv5 0).trans rfl;clear hI8 hv5 hr5 hK8))
    repeat (go_quiet (fail);try go_wp2)
    refine bodyPost_ret (results_list (rs:=[.tmp 4,.tmp 5,.tmp 6]) rfl (by simp) (.tmp (.tmp (.tmp .nil)))) rfl ?_
    exact ⟨v5,by first|rfl|(simp;done),by (with_reducible repeat (first|apply Kd.R_alloc|apply Kd.R_drewN|apply Kd.R_drew));exact Kd.R_mono HR5.out (fun _ _=>trivial),by repeat (first|(with_reducible first|exact HB8.out|apply below_alloc|apply pw_below_drewN|apply below_drew1)|exact HB8.out)⟩
  · have HA : Aside0 (impl_isLashed.f l0 a1_0 a1_1 a1_2 = some false):=Aside0.mk (by rw [impl_lashed,chk_neg hS])
    rw [chk_neg hS] at h
    obtain ⟨rfl,rfl,rfl⟩ : [] = r1 ∧ 0 = r2 ∧ false = r3:=by
      injection h with e1 h
      injection h with e2 h
      exact ⟨e1,e2,h⟩
    clear hS h
    go_enter Try.func31,Try.ntmps31
    go_wp2_with (first|((with_reducible refine gate_dst (N:=2) rfl ?_);refine box_event ?hg2 (N:=2) ?hd2 (cs := #[.slice A0 l0.length c0]) (t:=22) ?hr2 ?_;(case hd2=>rfl);(case hg2=>rfl);(case hr2=>first|(go_simp;done)|(go_simp;rfl));intro g1 hgg1 w1 hboxg1 hbg1;have HX1:=Aside0.mk hboxg1;have HB1:=Aside0.mk hbg1;clear hgg1 hboxg1 hbg1)|((with_reducible refine gate_dst (N:=3) rfl ?_);refine box_event ?hg3 (N:=3) ?hd3 (cs := #[.int .i64 a1_0,.int .i64 a1_1,.int .i64 a1_2]) (t:=28) ?hr3 ?_;(case hd3=>rfl);(case hg3=>rfl);(case hr3=>first|(go_simp;done)|(go_simp;rfl));intro g2 hgg2 w2 hboxg2 hbg2;have HB2:=Aside0.mk hbg2;have hz1 : w2.cell? ⟨g1,0,none⟩ = some (.slice A0 l0.length c0):=below_cell hbg2 ((blk_cell HX1.out 0).trans rfl);have hz2 : w2.cell? ⟨g2,0,none⟩ = some (.int .i64 a1_0):=(blk_cell hboxg2 0).trans rfl;have hz3 : w2.cell? ⟨g2,1,none⟩ = some (.int .i64 a1_1):=(blk_cell hboxg2 1).trans rfl;have hz4 : w2.cell? ⟨g2,2,none⟩ = some (.int .i64 a1_2):=(blk_cell hboxg2 2).trans rfl;clear hgg2 hboxg2 hbg2)|(go_at_call 47;refine (impl_isLashed.calls A0 c0 l0 a1_0 a1_1 a1_2 false _ (Kd.C_below HR.out (below_step HB1.out HB2.out)) hc0 HA.out).mono ?_;rintro e w3 ⟨rfl,hd3⟩;have HB3:=Aside0.mk hd3;clear hd3))
    refine bodyPost_ret (results_list (rs:=[.tmp 4,.tmp 5,.tmp 6]) rfl (by simp) (.tmp (.tmp (.tmp .nil)))) rfl ?_
    exact ⟨.slice none 0 0,by first|rfl|(simp;done),Kd.R_nil _ _ _ _ _,below_step HB1.out (below_step HB2.out HB3.out)⟩
end Go.Proofs.Ytcgfedaoimhejaa.G

-- Written by wip/tools/gen.py out of the translation (the kit's printer, one namespace a seat). Lean checks it.
namespace Go.Proofs.Ytcgfedaoimhejaa.G
open Go.RowKit Go.Proofs.YtcgfedaoimhejaaW.PrintWords Go.Proofs.YtcgfedaoimhejaaW.PrintLast Go.Proofs.YtcgfedaoimhejaaW.PrintMore
attribute [local go_sem] max2_int min2_int max_two min_two max_three min_three max_four min_four   -- for this text's walks alone
set_option linter.unusedVariables false
set_option linter.unusedSimpArgs false

/-! ### laws_FnForces: function 11 -/
mutual
noncomputable def laws_FnForces.j0:Nat → List Int → List Int → Bool → Int → Int → Int → Option (Bool)
 | 0,_,_,_,_,_,_=>none
 | k + 1,x3,x5,x60,x1097000,x1097001,x1097002=>if x60 = true then (some false) else (laws_FnForces.l0 k x3 x5 1 x1097000 x1097001 x1097002)
noncomputable def laws_FnForces.l0:Nat → List Int → List Int → Int → Int → Int → Int → Option (Bool)
 | 0,_,_,_,_,_,_=>none
 | k + 1,x3,x5,x9,x1097000,x1097001,x1097002=>if x9 < (x5.length:Int) then (if 0 ≤ x9 then (if 0 ≤ (wrap64 (x9 - 1)) then (if (wrap64 (x9 - 1)) < (x5.length:Int) then (if (rd x5 x9) > (rd x5 (wrap64 (x9 - 1))) then (some false) else (laws_FnForces.l0 k x3 x5 (wrap64 (x9 + 1)) x1097000 x1097001 x1097002)) else (none)) else (none)) else (none)) else ((impl_LashingsNeeded.f k x3 x1097000 x1097001 x1097002).bind fun bt1109=>((spec_LashingsNeeded.f k x3 x1097000 x1097001 x1097002).bind fun bt1113=>(if (bt1109.2 != bt1113.2) = true then (laws_FnForces.j2 k x3 x5 bt1109.1 true x1097000 x1097001 x1097002) else ((laws_rInts.f k bt1109.1 bt1113.1).bind fun t1117=>(laws_FnForces.j2 k x3 x5 bt1109.1 (!t1117) x1097000 x1097001 x1097002)))))
noncomputable def laws_FnForces.j2:Nat → List Int → List Int → List Int → Bool → Int → Int → Int → Option (Bool)
 | 0,_,_,_,_,_,_,_=>none
 | k + 1,x3,x5,x10,x97,x1097000,x1097001,x1097002=>if x97 = true then (some false) else (laws_FnForces.l1 k x3 x5 x10 0 x1097000 x1097001 x1097002)
noncomputable def laws_FnForces.l1:Nat → List Int → List Int → List Int → Int → Int → Int → Int → Option (Bool)
 | 0,_,_,_,_,_,_,_=>none
 | k + 1,x3,x5,x10,x14,x1097000,x1097001,x1097002=>if x14 < (x10.length:Int) then (if 0 ≤ x14 then (if x14 < (x5.length:Int) then (if (wrap64 ((rd x10 x14) * x1097002)) < (rd x5 x14) then (some false) else (if (rd x10 x14) > 0 then (if (wrap64 ((wrap64 ((rd x10 x14) - 1)) * x1097002)) ≥ (rd x5 x14) then (some false) else (if (rd x10 x14) > 4 then (some false) else (laws_FnForces.l1 k x3 x5 x10 (wrap64 (x14 + 1)) x1097000 x1097001 x1097002))) else (if (rd x10 x14) > 4 then (some false) else (laws_FnForces.l1 k x3 x5 x10 (wrap64 (x14 + 1)) x1097000 x1097001 x1097002)))) else (none)) else (none)) else ((impl_HeavyFirst.f x3).bind fun bt1125=>((spec_HeavyFirst.f k x3).bind fun bt1129=>(if (bt1125.2 != bt1129.2) = true then (laws_FnForces.j4 k x3 x5 true x1097000 x1097001 x1097002) else ((laws_rInts.f k bt1125.1 bt1129.1).bind fun t1133=>(if t1133 = true then ((laws_rSum.f k bt1125.1).bind fun t1134=>((laws_rSum.f k x3).bind fun t1135=>(if t1134 = t1135 then (laws_FnForces.j4 k x3 x5 false x1097000 x1097001 x1097002) else (laws_FnForces.j4 k x3 x5 bt1125.2 x1097000 x1097001 x1097002)))) else (laws_FnForces.j4 k x3 x5 true x1097000 x1097001 x1097002))))))
noncomputable def laws_FnForces.j4:Nat → List Int → List Int → Bool → Int → Int → Int → Option (Bool)
 | 0,_,_,_,_,_,_=>none
 | k + 1,x3,x5,x173,x1097000,x1097001,x1097002=>if x173 = true then (some false) else ((impl_LightestForce.f x3 x1097000 x1097001 x1097002).bind fun bt1136=>((spec_LightestForce.f k x3 x1097000 x1097001 x1097002).bind fun bt1141=>(if (bt1136.2.2 != bt1141.2.2) = true then (laws_FnForces.j5 k x3 x5 bt1136.1 bt1136.2.1 bt1136.2.2 true) else (if bt1136.2.1 = bt1141.2.1 then ((laws_rInts.f k bt1136.1 bt1141.1).bind fun t1146=>(laws_FnForces.j5 k x3 x5 bt1136.1 bt1136.2.1 bt1136.2.2 (!t1146))) else (laws_FnForces.j5 k x3 x5 bt1136.1 bt1136.2.1 bt1136.2.2 true)))))
noncomputable def laws_FnForces.j5:Nat → List Int → List Int → List Int → Int → Bool → Bool → Option (Bool)
 | 0,_,_,_,_,_,_=>none
 | k + 1,x3,x5,x19,x20,x21,x201=>if x201 = true then (some false) else (if x21 = true then ((laws_rSum.f k x5).bind fun t1147=>(if x20 ≤ t1147 then ((laws_rSum.f k x19).bind fun t1148=>((laws_rSum.f k x3).bind fun t1149=>(some (t1148 == t1149)))) else (some false))) else (some true))
end
noncomputable def laws_FnForces.f (k:Nat) (l0:List Int):Option (Bool):=(laws_rBig.f l0).bind fun t1089=>(if t1089 = true then (some true) else ((spec_DrawLashForces.f k l0).bind fun bt1090=>((impl_LashForces.f k bt1090.1 bt1090.2.1 bt1090.2.2.1 bt1090.2.2.2).bind fun bt1097=>((spec_LashForces.f k bt1090.1 bt1090.2.1 bt1090.2.2.1 bt1090.2.2.2).bind fun bt1101=>(if (bt1097.2 != bt1101.2) = true then (laws_FnForces.j0 k bt1090.1 bt1097.1 true bt1090.2.1 bt1090.2.2.1 bt1090.2.2.2) else ((laws_rInts.f k bt1097.1 bt1101.1).bind fun t1105=>(if t1105 = true then (if bt1097.2 = true then ((impl_IsValidColumn.f bt1090.1).bind fun t1106=>(laws_FnForces.j0 k bt1090.1 bt1097.1 (!t1106) bt1090.2.1 bt1090.2.2.1 bt1090.2.2.2)) else (laws_FnForces.j0 k bt1090.1 bt1097.1 false bt1090.2.1 bt1090.2.2.1 bt1090.2.2.2)) else (laws_FnForces.j0 k bt1090.1 bt1097.1 true bt1090.2.1 bt1090.2.2.1 bt1090.2.2.2))))))))
set_option maxHeartbeats 8000000 in
set_option maxRecDepth 100000 in
theorem laws_FnForces.calls (k:Nat) (A0:Option Addr) (c0:Nat) (l0:List Int) (r:Bool) (w:World) (hr0:Kd.C (Kd.int .u8) w A0 l0.length l0) (hc0:l0.length ≤ c0) (h:laws_FnForces.f k l0 = some r) :
  Calls Try.prog 11 #[.slice A0 l0.length c0] w fun e w'=>e = .returned (.bool r) ∧ Below w.heap.size w w':=by
 have hu28:=Try.underlying28;have HR0:=zM hr0;have HC0:=zM hc0;clear hr0 hc0;have HB:=zM (Below.refl w.heap.size w);have H:((laws_rBig.f l0).bind fun t1089=>(if t1089 = true then (some true) else ((spec_DrawLashForces.f k l0).bind fun bt1090=>((impl_LashForces.f k bt1090.1 bt1090.2.1 bt1090.2.2.1 bt1090.2.2.2).bind fun bt1097=>((spec_LashForces.f k bt1090.1 bt1090.2.1 bt1090.2.2.1 bt1090.2.2.2).bind fun bt1101=>(if (bt1097.2 != bt1101.2) = true then (laws_FnForces.j0 k bt1090.1 bt1097.1 true bt1090.2.1 bt1090.2.2.1 bt1090.2.2.2) else ((laws_rInts.f k bt1097.1 bt1101.1).bind fun t1105=>(if t1105 = true then (if bt1097.2 = true then ((impl_IsValidColumn.f bt1090.1).bind fun t1106=>(laws_FnForces.j0 k bt1090.1 bt1097.1 (!t1106) bt1090.2.1 bt1090.2.2.1 bt1090.2.2.2)) else (laws_FnForces.j0 k bt1090.1 bt1097.1 false bt1090.2.1 bt1090.2.2.1 bt1090.2.2.2)) else (laws_FnForces.j0 k bt1090.1 bt1097.1 true bt1090.2.1 bt1090.2.2.1 bt1090.2.2.2))))))))) = some r:=h
 clear h;replace H:=Option.bind_eq_some_iff.mp H;obtain ⟨t1089,A20,H⟩:=H;replace H:(if t1089 = true then (some true) else ((spec_DrawLashForces.f k l0).bind fun bt1090=>((impl_LashForces.f k bt1090.1 bt1090.2.1 bt1090.2.2.1 bt1090.2.2.2).bind fun bt1097=>((spec_LashForces.f k bt1090.1 bt1090.2.1 bt1090.2.2.1 bt1090.2.2.2).bind fun bt1101=>(if (bt1097.2 != bt1101.2) = true then (laws_FnForces.j0 k bt1090.1 bt1097.1 true bt1090.2.1 bt1090.2.2.1 bt1090.2.2.2) else ((laws_rInts.f k bt1097.1 bt1101.1).bind fun t1105=>(if t1105 = true then (if bt1097.2 = true then ((impl_IsValidColumn.f bt1090.1).bind fun t1106=>(laws_FnForces.j0 k bt1090.1 bt1097.1 (!t1106) bt1090.2.1 bt1090.2.2.1 bt1090.2.2.2)) else (laws_FnForces.j0 k bt1090.1 bt1097.1 false bt1090.2.1 bt1090.2.2.1 bt1090.2.2.2)) else (laws_FnForces.j0 k bt1090.1 bt1097.1 true bt1090.2.1 bt1090.2.2.1 bt1090.2.2.2)))))))) = some r:=H
 have A2:=zM A20;clear A20;by_cases c3:t1089 = true
 ·as_aux_lemma =>
  subst c3;have H1:(some true) = some r:=by rw [if_pos rfl] at H;exact H
  clear H;have H:=H1;clear H1;obtain rfl:=Option.some.inj H;go_enter Try.func11,Try.ntmps11
  go_wp2_with (first|(go_at_call 34;(with_reducible refine (laws_rBig.calls _ _ l0 true _ ?side1 ?side2 A2.out).mono ?_);(case side1=>repeat (first|exact HR0.out|(with_reducible first|refine zG ?_ _|refine zH ?_ _|refine zI ?_)));(case side2=>exact HC0.out);rintro e w' ⟨rfl,⟨nd,rfl⟩⟩;(try first|exact ⟨rfl,_,World.drewN_drewN _ _ _⟩|exact ⟨rfl,_,zW _ _ _ _⟩)))
  repeat (go_quiet (first|(go_at_call 34;(with_reducible refine (laws_rBig.calls _ _ l0 true _ ?side1 ?side2 A2.out).mono ?_);(case side1=>repeat (first|exact HR0.out|(with_reducible first|refine zG ?_ _|refine zH ?_ _|refine zI ?_)));(case side2=>exact HC0.out);rintro e w' ⟨rfl,⟨nd,rfl⟩⟩;(try first|exact ⟨rfl,_,World.drewN_drewN _ _ _⟩|exact ⟨rfl,_,zW _ _ _ _⟩)));try go_wp2_with (first|(go_at_call 34;(with_reducible refine (laws_rBig.calls _ _ l0 true _ ?side1 ?side2 A2.out).mono ?_);(case side1=>repeat (first|exact HR0.out|(with_reducible first|refine zG ?_ _|refine zH ?_ _|refine zI ?_)));(case side2=>exact HC0.out);rintro e w' ⟨rfl,⟨nd,rfl⟩⟩;(try first|exact ⟨rfl,_,World.drewN_drewN _ _ _⟩|exact ⟨rfl,_,zW _ _ _ _⟩))))
  go_ret
  exact ⟨by first|rfl|(simp [errW_none,errW_some] <;> rfl)|(simp [*,errW_none,errW_some] <;> rfl),by repeat (first|(with_reducible first|exact HB.out|apply zD|apply zE|apply zF)|exact HB.out)⟩
 ·as_aux_lemma =>
  replace c3:=Bool.eq_false_iff.mpr c3;subst c3;have H1:((spec_DrawLashForces.f k l0).bind fun bt1090=>((impl_LashForces.f k bt1090.1 bt1090.2.1 bt1090.2.2.1 bt1090.2.2.2).bind fun bt1097=>((spec_LashForces.f k bt1090.1 bt1090.2.1 bt1090.2.2.1 bt1090.2.2.2).bind fun bt1101=>(if (bt1097.2 != bt1101.2) = true then (laws_FnForces.j0 k bt1090.1 bt1097.1 true bt1090.2.1 bt1090.2.2.1 bt1090.2.2.2) else ((laws_rInts.f k bt1097.1 bt1101.1).bind fun t1105=>(if t1105 = true then (if bt1097.2 = true then ((impl_IsValidColumn.f bt1090.1).bind fun t1106=>(laws_FnForces.j0 k bt1090.1 bt1097.1 (!t1106) bt1090.2.1 bt1090.2.2.1 bt1090.2.2.2)) else (laws_FnForces.j0 k bt1090.1 bt1097.1 false bt1090.2.1 bt1090.2.2.1 bt1090.2.2.2)) else (laws_FnForces.j0 k bt1090.1 bt1097.1 true bt1090.2.1 bt1090.2.2.1 bt1090.2.2.2))))))) = some r:=by rw [if_neg (show ¬ (false = true) by decide)] at H;exact H
  clear H;have H:=H1;clear H1;replace H:=Option.bind_eq_some_iff.mp H;obtain ⟨⟨t1090,t1093,t1094,t1095⟩,A40,H⟩:=H;replace H:((impl_LashForces.f k t1090 t1093 t1094 t1095).bind fun bt1097=>((spec_LashForces.f k t1090 t1093 t1094 t1095).bind fun bt1101=>(if (bt1097.2 != bt1101.2) = true then (laws_FnForces.j0 k t1090 bt1097.1 true t1093 t1094 t1095) else ((laws_rInts.f k bt1097.1 bt1101.1).bind fun t1105=>(if t1105 = true then (if bt1097.2 = true then ((impl_IsValidColumn.f t1090).bind fun t1106=>(laws_FnForces.j0 k t1090 bt1097.1 (!t1106) t1093 t1094 t1095)) else (laws_FnForces.j0 k t1090 bt1097.1 false t1093 t1094 t1095)) else (laws_FnForces.j0 k t1090 bt1097.1 true t1093 t1094 t1095)))))) = some r:=H
  have A4:=zM A40;clear A40;replace H:=Option.bind_eq_some_iff.mp H;obtain ⟨⟨t1097,t1100⟩,A50,H⟩:=H;replace H:((spec_LashForces.f k t1090 t1093 t1094 t1095).bind fun bt1101=>(if (t1100 != bt1101.2) = true then (laws_FnForces.j0 k t1090 t1097 true t1093 t1094 t1095) else ((laws_rInts.f k t1097 bt1101.1).bind fun t1105=>(if t1105 = true then (if t1100 = true then ((impl_IsValidColumn.f t1090).bind fun t1106=>(laws_FnForces.j0 k t1090 t1097 (!t1106) t1093 t1094 t1095)) else (laws_FnForces.j0 k t1090 t1097 false t1093 t1094 t1095)) else (laws_FnForces.j0 k t1090 t1097 true t1093 t1094 t1095))))) = some r:=H
  have A5:=zM A50;clear A50;replace H:=Option.bind_eq_some_iff.mp H;obtain ⟨⟨t1101,t1104⟩,A60,H⟩:=H;replace H:(if (t1100 != t1104) = true then (laws_FnForces.j0 k t1090 t1097 true t1093 t1094 t1095) else ((laws_rInts.f k t1097 t1101).bind fun t1105=>(if t1105 = true then (if t1100 = true then ((impl_IsValidColumn.f t1090).bind fun t1106=>(laws_FnForces.j0 k t1090 t1097 (!t1106) t1093 t1094 t1095)) else (laws_FnForces.j0 k t1090 t1097 false t1093 t1094 t1095)) else (laws_FnForces.j0 k t1090 t1097 true t1093 t1094 t1095)))) = some r:=H
  have A6:=zM A60;clear A60;have HC7:=zM H;clear H;go_enter Try.func11,Try.ntmps11
  go_upto_region 6 with (first|(go_at_call 34;(with_reducible refine (laws_rBig.calls _ _ l0 false _ ?side1 ?side2 A2.out).mono ?_);(case side1=>repeat (first|exact HR0.out|(with_reducible first|refine zG ?_ _|refine zH ?_ _|refine zI ?_)));(case side2=>exact HC0.out);rintro e w' ⟨rfl,⟨nd,rfl⟩⟩;(try first|exact ⟨rfl,_,World.drewN_drewN _ _ _⟩|exact ⟨rfl,_,zW _ _ _ _⟩))|(go_at_call 42;(with_reducible refine (spec_DrawLashForces.calls k _ _ l0 t1090 t1093 t1094 t1095 _ ?side1 ?side2 A4.out).mono ?_);(case side1=>repeat (first|exact HR0.out|(with_reducible first|refine zG ?_ _|refine zH ?_ _|refine zI ?_)));(case side2=>exact HC0.out);rintro e w8 ⟨v1091,rfl,ho0,hb⟩;have n0_:=zM (Kd.R_lower ho0 (zR (by repeat (first|(with_reducible first|exact HB.out|apply zD|apply zE|apply zF)|exact HB.out))));have n1_:=zM (zQ (by repeat (first|(with_reducible first|exact HB.out|apply zD|apply zE|apply zF)|exact HB.out)) hb);clear HB;have HO1092:=n0_;have HB:=n1_;clear n0_ n1_;(try clear hb);(try clear hb2);(try clear hk);(try clear hi);(try clear ho0))|((with_reducible refine gate_dst (N:=4) rfl ?_);refine box_event ?hg (N:=4) ?hd (cs := #[.int .i64 0,.int .i64 0,.int .i64 0]) (t:=28) ?hr ?_;(case hd=>rfl);(case hg=>rfl);(case hr=>first|(go_simp;done)|(go_simp;rfl));intro gb1096 hg w9 hbox hb;have n0_:=zM (zP (by (with_reducible repeat (first|apply zA|apply zB|apply zC));exact HO1092.out) hb);have n1_:=zM (zQ (by repeat (first|(with_reducible first|exact HB.out|apply zD|apply zE|apply zF)|exact HB.out)) hb);have n2_:=zM (hbox);have n3_:=zM ((by rw [hg];exact (zR (by repeat (first|(with_reducible first|exact HB.out|apply zD|apply zE|apply zF)|exact HB.out))):w.heap.size ≤ gb1096));have n4_:=zM ((by rw [hg];exact (zR (by repeat (first|(with_reducible first|exact HB.out|apply zD|apply zE|apply zF)|exact HB.out))):w.heap.size ≤ gb1096));clear HO1092;clear HB;have HO1092:=n0_;have HB:=n1_;have BK1096:=n2_;have GW1096:=n3_;have GE1096:=n4_;clear n0_ n1_ n2_ n3_ n4_;clear hb hbox hg;have hcz10_0:w9.cell? ⟨gb1096,0,none⟩ = some (.int .i64 0):=(blk_cell BK1096.out 0).trans rfl;have hcz10_1:w9.cell? ⟨gb1096,1,none⟩ = some (.int .i64 0):=(blk_cell BK1096.out 1).trans rfl;have hcz10_2:w9.cell? ⟨gb1096,2,none⟩ = some (.int .i64 0):=(blk_cell BK1096.out 2).trans rfl;have hfz10_0:=blk_frozen BK1096.out 0;have hfz10_1:=blk_frozen BK1096.out 1;have hfz10_2:=blk_frozen BK1096.out 2;obtain ⟨Ao11,co11,eo11⟩:=Kd.R_slice HO1092.out;subst eo11)|(go_at_call 15;(with_reducible refine (impl_LashForces.calls k _ _ t1090 t1093 t1094 t1095 t1097 t1100 _ ?side1 ?side2 A5.out).mono ?_);(case side1=>refine (zN (e:=3) (base:=w.heap.size) (ok:=fun k_=>True) (n:=t1090.length) (c:=co11) ?_).2.2;exact (by (with_reducible repeat (first|apply zA|apply zB|apply zC));exact (Kd.R_mono (Kd.R_far (p:=⟨gb1096,2,none⟩) (Kd.R_far (p:=⟨gb1096,1,none⟩) (Kd.R_far (p:=⟨gb1096,0,none⟩) (Kd.R_types HO1092.out BK1096.out (by decide)) (fun _ hk=>hk.2) (.int .i64 t1093)) (fun _ hk=>hk.2) (.int .i64 t1094)) (fun _ hk=>hk.2) (.int .i64 t1095)) (fun _ h_=>h_.1))));(case side2=>exact (zN HO1092.out).2.1);rintro e w12 ⟨v1098,rfl,ho0,hb⟩;have n0_:=zM (Kd.R_elder' (by (with_reducible repeat (first|apply zA|apply zB|apply zC));exact (Kd.R_mono (Kd.R_far (p:=⟨gb1096,2,none⟩) (Kd.R_far (p:=⟨gb1096,1,none⟩) (Kd.R_far (p:=⟨gb1096,0,none⟩) (Kd.R_types HO1092.out BK1096.out (by decide)) (fun _ hk=>hk.2) (.int .i64 t1093)) (fun _ hk=>hk.2) (.int .i64 t1094)) (fun _ hk=>hk.2) (.int .i64 t1095)) (fun _ h_=>h_.1))) (Kd.R_base ho0) hb);have n1_:=zM (Kd.R_lower (Kd.R_new' ho0 (Kd.R_lt (by (with_reducible repeat (first|apply zA|apply zB|apply zC));exact (Kd.R_mono (Kd.R_far (p:=⟨gb1096,2,none⟩) (Kd.R_far (p:=⟨gb1096,1,none⟩) (Kd.R_far (p:=⟨gb1096,0,none⟩) (Kd.R_types HO1092.out BK1096.out (by decide)) (fun _ hk=>hk.2) (.int .i64 t1093)) (fun _ hk=>hk.2) (.int .i64 t1094)) (fun _ hk=>hk.2) (.int .i64 t1095)) (fun _ h_=>h_.1))))) (zR (by repeat (first|(with_reducible first|exact HB.out|apply zD|apply zE|apply zF|refine below_set ?_ GE1096.out)|exact HB.out))));have n2_:=zM (blk_below (g:=gb1096) (o := .cells #[.int .i64 t1093,.int .i64 t1094,.int .i64 t1095] 28 (0,0)) (by (with_reducible repeat (first|refine zJ ?_ _|refine zK ?_|refine zL ?_ _));refine blk_put (cs := #[.int .i64 t1093,.int .i64 t1094,.int .i64 0]) ?_ 2 _ rfl;(with_reducible repeat (first|refine zJ ?_ _|refine zK ?_|refine zL ?_ _));refine blk_put (cs := #[.int .i64 t1093,.int .i64 0,.int .i64 0]) ?_ 1 _ rfl;(with_reducible repeat (first|refine zJ ?_ _|refine zK ?_|refine zL ?_ _));refine blk_put (cs := #[.int .i64 0,.int .i64 0,.int .i64 0]) ?_ 0 _ rfl;(with_reducible repeat (first|refine zJ ?_ _|refine zK ?_|refine zL ?_ _));exact BK1096.out) hb);have n3_:=zM (zQ (by repeat (first|(with_reducible first|exact HB.out|apply zD|apply zE|apply zF|refine below_set ?_ GE1096.out)|exact HB.out)) hb);clear HO1092;clear BK1096;clear HB;have HO1092:=n0_;have HO1099:=n1_;have BK1096:=n2_;have HB:=n3_;clear n0_ n1_ n2_ n3_;(try clear hb);(try clear hb2);(try clear hk);(try clear hi);(try clear ho0);have hcz13_0:w12.cell? ⟨gb1096,0,none⟩ = some (.int .i64 t1093):=(blk_cell BK1096.out 0).trans rfl;have hcz13_1:w12.cell? ⟨gb1096,1,none⟩ = some (.int .i64 t1094):=(blk_cell BK1096.out 1).trans rfl;have hcz13_2:w12.cell? ⟨gb1096,2,none⟩ = some (.int .i64 t1095):=(blk_cell BK1096.out 2).trans rfl;have hfz13_0:=blk_frozen BK1096.out 0;have hfz13_1:=blk_frozen BK1096.out 1;have hfz13_2:=blk_frozen BK1096.out 2)|(go_at_call 12;(with_reducible refine (spec_LashForces.calls k _ _ t1090 t1093 t1094 t1095 t1101 t1104 _ ?side1 ?side2 A6.out).mono ?_);(case side1=>repeat (first|exact (zN HO1092.out).2.2|(with_reducible first|refine zG ?_ _|refine zH ?_ _|refine zI ?_)));(case side2=>exact (zN HO1092.out).2.1);rintro e w14 ⟨v1102,rfl,ho0,hb⟩;have n0_:=zM (Kd.R_elder' (by (with_reducible repeat (first|apply zA|apply zB|apply zC));exact HO1092.out) (Kd.R_base ho0) hb);have n1_:=zM (Kd.R_elder' (by (with_reducible repeat (first|apply zA|apply zB|apply zC));exact HO1099.out) (Kd.R_base ho0) hb);have n2_:=zM (Kd.R_lower (Kd.R_new' (Kd.R_new' ho0 (Kd.R_lt (by (with_reducible repeat (first|apply zA|apply zB|apply zC));exact HO1092.out))) (Kd.R_lt (by (with_reducible repeat (first|apply zA|apply zB|apply zC));exact HO1099.out))) (zR (by repeat (first|(with_reducible first|exact HB.out|apply zD|apply zE|apply zF|refine below_set ?_ GE1096.out)|exact HB.out))));have n3_:=zM (blk_below (g:=gb1096) (o := .cells #[.int .i64 t1093,.int .i64 t1094,.int .i64 t1095] 28 (0,0)) (by (with_reducible repeat (first|refine zJ ?_ _|refine zK ?_|refine zL ?_ _));exact BK1096.out) hb);have n4_:=zM (zQ (by repeat (first|(with_reducible first|exact HB.out|apply zD|apply zE|apply zF|refine below_set ?_ GE1096.out)|exact HB.out)) hb);clear HO1092;clear HO1099;clear BK1096;clear HB;have HO1092:=n0_;have HO1099:=n1_;have HO1103:=n2_;have BK1096:=n3_;have HB:=n4_;clear n0_ n1_ n2_ n3_ n4_;(try clear hb);(try clear hb2);(try clear hk);(try clear hi);(try clear ho0)))
  repeat (go_quiet (first|(go_at_call 34;(with_reducible refine (laws_rBig.calls _ _ l0 false _ ?side1 ?side2 A2.out).mono ?_);(case side1=>repeat (first|exact HR0.out|(with_reducible first|refine zG ?_ _|refine zH ?_ _|refine zI ?_)));(case side2=>exact HC0.out);rintro e w' ⟨rfl,⟨nd,rfl⟩⟩;(try first|exact ⟨rfl,_,World.drewN_drewN _ _ _⟩|exact ⟨rfl,_,zW _ _ _ _⟩))|(go_at_call 42;(with_reducible refine (spec_DrawLashForces.calls k _ _ l0 t1090 t1093 t1094 t1095 _ ?side1 ?side2 A4.out).mono ?_);(case side1=>repeat (first|exact HR0.out|(with_reducible first|refine zG ?_ _|refine zH ?_ _|refine zI ?_)));(case side2=>exact HC0.out);rintro e w8 ⟨v1091,rfl,ho0,hb⟩;have n0_:=zM (Kd.R_lower ho0 (zR (by repeat (first|(with_reducible first|exact HB.out|apply zD|apply zE|apply zF)|exact HB.out))));have n1_:=zM (zQ (by repeat (first|(with_reducible first|exact HB.out|apply zD|apply zE|apply zF)|exact HB.out)) hb);clear HB;have HO1092:=n0_;have HB:=n1_;clear n0_ n1_;(try clear hb);(try clear hb2);(try clear hk);(try clear hi);(try clear ho0))|((with_reducible refine gate_dst (N:=4) rfl ?_);refine box_event ?hg (N:=4) ?hd (cs := #[.int .i64 0,.int .i64 0,.int .i64 0]) (t:=28) ?hr ?_;(case hd=>rfl);(case hg=>rfl);(case hr=>first|(go_simp;done)|(go_simp;rfl));intro gb1096 hg w9 hbox hb;have n0_:=zM (zP (by (with_reducible repeat (first|apply zA|apply zB|apply zC));exact HO1092.out) hb);have n1_:=zM (zQ (by repeat (first|(with_reducible first|exact HB.out|apply zD|apply zE|apply zF)|exact HB.out)) hb);have n2_:=zM (hbox);have n3_:=zM ((by rw [hg];exact (zR (by repeat (first|(with_reducible first|exact HB.out|apply zD|apply zE|apply zF)|exact HB.out))):w.heap.size ≤ gb1096));have n4_:=zM ((by rw [hg];exact (zR (by repeat (first|(with_reducible first|exact HB.out|apply zD|apply zE|apply zF)|exact HB.out))):w.heap.size ≤ gb1096));clear HO1092;clear HB;have HO1092:=n0_;have HB:=n1_;have BK1096:=n2_;have GW1096:=n3_;have GE1096:=n4_;clear n0_ n1_ n2_ n3_ n4_;clear hb hbox hg;have hcz10_0:w9.cell? ⟨gb1096,0,none⟩ = some (.int .i64 0):=(blk_cell BK1096.out 0).trans rfl;have hcz10_1:w9.cell? ⟨gb1096,1,none⟩ = some (.int .i64 0):=(blk_cell BK1096.out 1).trans rfl;have hcz10_2:w9.cell? ⟨gb1096,2,none⟩ = some (.int .i64 0):=(blk_cell BK1096.out 2).trans rfl;have hfz10_0:=blk_frozen BK1096.out 0;have hfz10_1:=blk_frozen BK1096.out 1;have hfz10_2:=blk_frozen BK1096.out 2;obtain ⟨Ao11,co11,eo11⟩:=Kd.R_slice HO1092.out;subst eo11)|(go_at_call 15;(with_reducible refine (impl_LashForces.calls k _ _ t1090 t1093 t1094 t1095 t1097 t1100 _ ?side1 ?side2 A5.out).mono ?_);(case side1=>refine (zN (e:=3) (base:=w.heap.size) (ok:=fun k_=>True) (n:=t1090.length) (c:=co11) ?_).2.2;exact (by (with_reducible repeat (first|apply zA|apply zB|apply zC));exact (Kd.R_mono (Kd.R_far (p:=⟨gb1096,2,none⟩) (Kd.R_far (p:=⟨gb1096,1,none⟩) (Kd.R_far (p:=⟨gb1096,0,none⟩) (Kd.R_types HO1092.out BK1096.out (by decide)) (fun _ hk=>hk.2) (.int .i64 t1093)) (fun _ hk=>hk.2) (.int .i64 t1094)) (fun _ hk=>hk.2) (.int .i64 t1095)) (fun _ h_=>h_.1))));(case side2=>exact (zN HO1092.out).2.1);rintro e w12 ⟨v1098,rfl,ho0,hb⟩;have n0_:=zM (Kd.R_elder' (by (with_reducible repeat (first|apply zA|apply zB|apply zC));exact (Kd.R_mono (Kd.R_far (p:=⟨gb1096,2,none⟩) (Kd.R_far (p:=⟨gb1096,1,none⟩) (Kd.R_far (p:=⟨gb1096,0,none⟩) (Kd.R_types HO1092.out BK1096.out (by decide)) (fun _ hk=>hk.2) (.int .i64 t1093)) (fun _ hk=>hk.2) (.int .i64 t1094)) (fun _ hk=>hk.2) (.int .i64 t1095)) (fun _ h_=>h_.1))) (Kd.R_base ho0) hb);have n1_:=zM (Kd.R_lower (Kd.R_new' ho0 (Kd.R_lt (by (with_reducible repeat (first|apply zA|apply zB|apply zC));exact (Kd.R_mono (Kd.R_far (p:=⟨gb1096,2,none⟩) (Kd.R_far (p:=⟨gb1096,1,none⟩) (Kd.R_far (p:=⟨gb1096,0,none⟩) (Kd.R_types HO1092.out BK1096.out (by decide)) (fun _ hk=>hk.2) (.int .i64 t1093)) (fun _ hk=>hk.2) (.int .i64 t1094)) (fun _ hk=>hk.2) (.int .i64 t1095)) (fun _ h_=>h_.1))))) (zR (by repeat (first|(with_reducible first|exact HB.out|apply zD|apply zE|apply zF|refine below_set ?_ GE1096.out)|exact HB.out))));have n2_:=zM (blk_below (g:=gb1096) (o := .cells #[.int .i64 t1093,.int .i64 t1094,.int .i64 t1095] 28 (0,0)) (by (with_reducible repeat (first|refine zJ ?_ _|refine zK ?_|refine zL ?_ _));refine blk_put (cs := #[.int .i64 t1093,.int .i64 t1094,.int .i64 0]) ?_ 2 _ rfl;(with_reducible repeat (first|refine zJ ?_ _|refine zK ?_|refine zL ?_ _));refine blk_put (cs := #[.int .i64 t1093,.int .i64 0,.int .i64 0]) ?_ 1 _ rfl;(with_reducible repeat (first|refine zJ ?_ _|refine zK ?_|refine zL ?_ _));refine blk_put (cs := #[.int .i64 0,.int .i64 0,.int .i64 0]) ?_ 0 _ rfl;(with_reducible repeat (first|refine zJ ?_ _|refine zK ?_|refine zL ?_ _));exact BK1096.out) hb);have n3_:=zM (zQ (by repeat (first|(with_reducible first|exact HB.out|apply zD|apply zE|apply zF|refine below_set ?_ GE1096.out)|exact HB.out)) hb);clear HO1092;clear BK1096;clear HB;have HO1092:=n0_;have HO1099:=n1_;have BK1096:=n2_;have HB:=n3_;clear n0_ n1_ n2_ n3_;(try clear hb);(try clear hb2);(try clear hk);(try clear hi);(try clear ho0);have hcz13_0:w12.cell? ⟨gb1096,0,none⟩ = some (.int .i64 t1093):=(blk_cell BK1096.out 0).trans rfl;have hcz13_1:w12.cell? ⟨gb1096,1,none⟩ = some (.int .i64 t1094):=(blk_cell BK1096.out 1).trans rfl;have hcz13_2:w12.cell? ⟨gb1096,2,none⟩ = some (.int .i64 t1095):=(blk_cell BK1096.out 2).trans rfl;have hfz13_0:=blk_frozen BK1096.out 0;have hfz13_1:=blk_frozen BK1096.out 1;have hfz13_2:=blk_frozen BK1096.out 2)|(go_at_call 12;(with_reducible refine (spec_LashForces.calls k _ _ t1090 t1093 t1094 t1095 t1101 t1104 _ ?side1 ?side2 A6.out).mono ?_);(case side1=>repeat (first|exact (zN HO1092.out).2.2|(with_reducible first|refine zG ?_ _|refine zH ?_ _|refine zI ?_)));(case side2=>exact (zN HO1092.out).2.1);rintro e w14 ⟨v1102,rfl,ho0,hb⟩;have n0_:=zM (Kd.R_elder' (by (with_reducible repeat (first|apply zA|apply zB|apply zC));exact HO1092.out) (Kd.R_base ho0) hb);have n1_:=zM (Kd.R_elder' (by (with_reducible repeat (first|apply zA|apply zB|apply zC));exact HO1099.out) (Kd.R_base ho0) hb);have n2_:=zM (Kd.R_lower (Kd.R_new' (Kd.R_new' ho0 (Kd.R_lt (by (with_reducible repeat (first|apply zA|apply zB|apply zC));exact HO1092.out))) (Kd.R_lt (by (with_reducible repeat (first|apply zA|apply zB|apply zC));exact HO1099.out))) (zR (by repeat (first|(with_reducible first|exact HB.out|apply zD|apply zE|apply zF|refine below_set ?_ GE1096.out)|exact HB.out))));have n3_:=zM (blk_below (g:=gb1096) (o := .cells #[.int .i64 t1093,.int .i64 t1094,.int .i64 t1095] 28 (0,0)) (by (with_reducible repeat (first|refine zJ ?_ _|refine zK ?_|refine zL ?_ _));exact BK1096.out) hb);have n4_:=zM (zQ (by repeat (first|(with_reducible first|exact HB.out|apply zD|apply zE|apply zF|refine below_set ?_ GE1096.out)|exact HB.out)) hb);clear HO1092;clear HO1099;clear BK1096;clear HB;have HO1092:=n0_;have HO1099:=n1_;have HO1103:=n2_;have BK1096:=n3_;have HB:=n4_;clear n0_ n1_ n2_ n3_ n4_;(try clear hb);(try clear hb2);(try clear hk);(try clear hi);(try clear ho0)));go_upto_region 6 with (first|(go_at_call 34;(with_reducible refine (laws_rBig.calls _ _ l0 false _ ?side1 ?side2 A2.out).mono ?_);(case side1=>repeat (first|exact HR0.out|(with_reducible first|refine zG ?_ _|refine zH ?_ _|refine zI ?_)));(case side2=>exact HC0.out);rintro e w' ⟨rfl,⟨nd,rfl⟩⟩;(try first|exact ⟨rfl,_,World.drewN_drewN _ _ _⟩|exact ⟨rfl,_,zW _ _ _ _⟩))|(go_at_call 42;(with_reducible refine (spec_DrawLashForces.calls k _ _ l0 t1090 t1093 t1094 t1095 _ ?side1 ?side2 A4.out).mono ?_);(case side1=>repeat (first|exact HR0.out|(with_reducible first|refine zG ?_ _|refine zH ?_ _|refine zI ?_)));(case side2=>exact HC0.out);rintro e w8 ⟨v1091,rfl,ho0,hb⟩;have n0_:=zM (Kd.R_lower ho0 (zR (by repeat (first|(with_reducible first|exact HB.out|apply zD|apply zE|apply zF)|exact HB.out))));have n1_:=zM (zQ (by repeat (first|(with_reducible first|exact HB.out|apply zD|apply zE|apply zF)|exact HB.out)) hb);clear HB;have HO1092:=n0_;have HB:=n1_;clear n0_ n1_;(try clear hb);(try clear hb2);(try clear hk);(try clear hi);(try clear ho0))|((with_reducible refine gate_dst (N:=4) rfl ?_);refine box_event ?hg (N:=4) ?hd (cs := #[.int .i64 0,.int .i64 0,.int .i64 0]) (t:=28) ?hr ?_;(case hd=>rfl);(case hg=>rfl);(case hr=>first|(go_simp;done)|(go_simp;rfl));intro gb1096 hg w9 hbox hb;have n0_:=zM (zP (by (with_reducible repeat (first|apply zA|apply zB|apply zC));exact HO1092.out) hb);have n1_:=zM (zQ (by repeat (first|(with_reducible first|exact HB.out|apply zD|apply zE|apply zF)|exact HB.out)) hb);have n2_:=zM (hbox);have n3_:=zM ((by rw [hg];exact (zR (by repeat (first|(with_reducible first|exact HB.out|apply zD|apply zE|apply zF)|exact HB.out))):w.heap.size ≤ gb1096));have n4_:=zM ((by rw [hg];exact (zR (by repeat (first|(with_reducible first|exact HB.out|apply zD|apply zE|apply zF)|exact HB.out))):w.heap.size ≤ gb1096));clear HO1092;clear HB;have HO1092:=n0_;have HB:=n1_;have BK1096:=n2_;have GW1096:=n3_;have GE1096:=n4_;clear n0_ n1_ n2_ n3_ n4_;clear hb hbox hg;have hcz10_0:w9.cell? ⟨gb1096,0,none⟩ = some (.int .i64 0):=(blk_cell BK1096.out 0).trans rfl;have hcz10_1:w9.cell? ⟨gb1096,1,none⟩ = some (.int .i64 0):=(blk_cell BK1096.out 1).trans rfl;have hcz10_2:w9.cell? ⟨gb1096,2,none⟩ = some (.int .i64 0):=(blk_cell BK1096.out 2).trans rfl;have hfz10_0:=blk_frozen BK1096.out 0;have hfz10_1:=blk_frozen BK1096.out 1;have hfz10_2:=blk_frozen BK1096.out 2;obtain ⟨Ao11,co11,eo11⟩:=Kd.R_slice HO1092.out;subst eo11)|(go_at_call 15;(with_reducible refine (impl_LashForces.calls k _ _ t1090 t1093 t1094 t1095 t1097 t1100 _ ?side1 ?side2 A5.out).mono ?_);(case side1=>refine (zN (e:=3) (base:=w.heap.size) (ok:=fun k_=>True) (n:=t1090.length) (c:=co11) ?_).2.2;exact (by (with_reducible repeat (first|apply zA|apply zB|apply zC));exact (Kd.R_mono (Kd.R_far (p:=⟨gb1096,2,none⟩) (Kd.R_far (p:=⟨gb1096,1,none⟩) (Kd.R_far (p:=⟨gb1096,0,none⟩) (Kd.R_types HO1092.out BK1096.out (by decide)) (fun _ hk=>hk.2) (.int .i64 t1093)) (fun _ hk=>hk.2) (.int .i64 t1094)) (fun _ hk=>hk.2) (.int .i64 t1095)) (fun _ h_=>h_.1))));(case side2=>exact (zN HO1092.out).2.1);rintro e w12 ⟨v1098,rfl,ho0,hb⟩;have n0_:=zM (Kd.R_elder' (by (with_reducible repeat (first|apply zA|apply zB|apply zC));exact (Kd.R_mono (Kd.R_far (p:=⟨gb1096,2,none⟩) (Kd.R_far (p:=⟨gb1096,1,none⟩) (Kd.R_far (p:=⟨gb1096,0,none⟩) (Kd.R_types HO1092.out BK1096.out (by decide)) (fun _ hk=>hk.2) (.int .i64 t1093)) (fun _ hk=>hk.2) (.int .i64 t1094)) (fun _ hk=>hk.2) (.int .i64 t1095)) (fun _ h_=>h_.1))) (Kd.R_base ho0) hb);have n1_:=zM (Kd.R_lower (Kd.R_new' ho0 (Kd.R_lt (by (with_reducible repeat (first|apply zA|apply zB|apply zC));exact (Kd.R_mono (Kd.R_far (p:=⟨gb1096,2,none⟩) (Kd.R_far (p:=⟨gb1096,1,none⟩) (Kd.R_far (p:=⟨gb1096,0,none⟩) (Kd.R_types HO1092.out BK1096.out (by decide)) (fun _ hk=>hk.2) (.int .i64 t1093)) (fun _ hk=>hk.2) (.int .i64 t1094)) (fun _ hk=>hk.2) (.int .i64 t1095)) (fun _ h_=>h_.1))))) (zR (by repeat (first|(with_reducible first|exact HB.out|apply zD|apply zE|apply zF|refine below_set ?_ GE1096.out)|exact HB.out))));have n2_:=zM (blk_below (g:=gb1096) (o := .cells #[.int .i64 t1093,.int .i64 t1094,.int .i64 t1095] 28 (0,0)) (by (with_reducible repeat (first|refine zJ ?_ _|refine zK ?_|refine zL ?_ _));refine blk_put (cs := #[.int .i64 t1093,.int .i64 t1094,.int .i64 0]) ?_ 2 _ rfl;(with_reducible repeat (first|refine zJ ?_ _|refine zK ?_|refine zL ?_ _));refine blk_put (cs := #[.int .i64 t1093,.int .i64 0,.int .i64 0]) ?_ 1 _ rfl;(with_reducible repeat (first|refine zJ ?_ _|refine zK ?_|refine zL ?_ _));refine blk_put (cs := #[.int .i64 0,.int .i64 0,.int .i64 0]) ?_ 0 _ rfl;(with_reducible repeat (first|refine zJ ?_ _|refine zK ?_|refine zL ?_ _));exact BK1096.out) hb);have n3_:=zM (zQ (by repeat (first|(with_reducible first|exact HB.out|apply zD|apply zE|apply zF|refine below_set ?_ GE1096.out)|exact HB.out)) hb);clear HO1092;clear BK1096;clear HB;have HO1092:=n0_;have HO1099:=n1_;have BK1096:=n2_;have HB:=n3_;clear n0_ n1_ n2_ n3_;(try clear hb);(try clear hb2);(try clear hk);(try clear hi);(try clear ho0);have hcz13_0:w12.cell? ⟨gb1096,0,none⟩ = some (.int .i64 t1093):=(blk_cell BK1096.out 0).trans rfl;have hcz13_1:w12.cell? ⟨gb1096,1,none⟩ = some (.int .i64 t1094):=(blk_cell BK1096.out 1).trans rfl;have hcz13_2:w12.cell? ⟨gb1096,2,none⟩ = some (.int .i64 t1095):=(blk_cell BK1096.out 2).trans rfl;have hfz13_0:=blk_frozen BK1096.out 0;have hfz13_1:=blk_frozen BK1096.out 1;have hfz13_2:=blk_frozen BK1096.out 2)|(go_at_call 12;(with_reducible refine (spec_LashForces.calls k _ _ t1090 t1093 t1094 t1095 t1101 t1104 _ ?side1 ?side2 A6.out).mono ?_);(case side1=>repeat (first|exact (zN HO1092.out).2.2|(with_reducible first|refine zG ?_ _|refine zH ?_ _|refine zI ?_)));(case side2=>exact (zN HO1092.out).2.1);rintro e w14 ⟨v1102,rfl,ho0,hb⟩;have n0_:=zM (Kd.R_elder' (by (with_reducible repeat (first|apply zA|apply zB|apply zC));exact HO1092.out) (Kd.R_base ho0) hb);have n1_:=zM (Kd.R_elder' (by (with_reducible repeat (first|apply zA|apply zB|apply zC));exact HO1099.out) (Kd.R_base ho0) hb);have n2_:=zM (Kd.R_lower (Kd.R_new' (Kd.R_new' ho0 (Kd.R_lt (by (with_reducible repeat (first|apply zA|apply zB|apply zC));exact HO1092.out))) (Kd.R_lt (by (with_reducible repeat (first|apply zA|apply zB|apply zC));exact HO1099.out))) (zR (by repeat (first|(with_reducible first|exact HB.out|apply zD|apply zE|apply zF|refine below_set ?_ GE1096.out)|exact HB.out))));have n3_:=zM (blk_below (g:=gb1096) (o := .cells #[.int .i64 t1093,.int .i64 t1094,.int .i64 t1095] 28 (0,0)) (by (with_reducible repeat (first|refine zJ ?_ _|refine zK ?_|refine zL ?_ _));exact BK1096.out) hb);have n4_:=zM (zQ (by repeat (first|(with_reducible first|exact HB.out|apply zD|apply zE|apply zF|refine below_set ?_ GE1096.out)|exact HB.out)) hb);clear HO1092;clear HO1099;clear BK1096;clear HB;have HO1092:=n0_;have HO1099:=n1_;have HO1103:=n2_;have BK1096:=n3_;have HB:=n4_;clear n0_ n1_ n2_ n3_ n4_;(try clear hb);(try clear hb2);(try clear hk);(try clear hi);(try clear ho0))))
  (try simp only [Act.put,zT,zU,zV])
  go_cut [60] (fun v60 wc => ∃ (kq:Nat) (x60_6:Bool),v60 = .bool x60_6 ∧ Aside0 (laws_FnForces.j0 kq t1090 t1097 x60_6 t1093 t1094 t1095 = some r) ∧ Aside0 (kq ≤ k) ∧ Aside0 (Kd.R (Kd.int .i64) 3 wc w.heap.size (fun k_=>some k_ ≠ (v1098:Value).ownBlock) (.slice Ao11 t1090.length co11) t1090) ∧ Aside0 (Kd.R (Kd.int .i64) 3 wc w.heap.size (fun k_=>some k_ ≠ ((.slice Ao11 t1090.length co11):Value).ownBlock) v1098 t1097) ∧ Aside0 (wc.heap[gb1096]? = some (.cells #[.int .i64 t1093,.int .i64 t1094,.int .i64 t1095] 28 (0,0))) ∧ Aside0 (Below w.heap.size w wc))
  case first =>
   have H:=HC7.out;clear HC7;by_cases c15:(t1100 != t1104) = true
   ·as_aux_lemma =>
    rw [if_pos c15] at H;have c15b0:(t1100 != t1104) = true:=c15
    (try (have c15b1:decide (t1100 = t1104) = false:=by simpa using c15))
    (try (have c15b2:(t1100 == t1104) = false:=by simpa using c15))
    (try (have c15b3:¬ (t1100 = t1104):=by simpa using c15))
    clear c15;(first|rw [c15b0]|(simp only [i64_w,i32_w];rw [c15b0])|skip)
    have H':=zM H;clear H;go_wp2
    repeat (go_quiet (fail);try go_wp2)
    go_meet
    case rel=>exact ⟨_,(true),(by first|rfl|(simp;done)|(simp [*];done)),H',⟨by first|omega|exact Nat.le_refl _⟩,⟨by (with_reducible repeat (first|apply zA|apply zB|apply zC));exact Kd.R_mono HO1092.out (fun _ hk=>hk.1.2)⟩,⟨by (with_reducible repeat (first|apply zA|apply zB|apply zC));exact Kd.R_mono HO1099.out (fun _ hk=>hk.1.2)⟩,⟨by (with_reducible repeat (first|refine zJ ?_ _|refine zK ?_|refine zL ?_ _));exact BK1096.out⟩,⟨by repeat (first|(with_reducible first|exact HB.out|apply zD|apply zE|apply zF|refine below_set ?_ GE1096.out)|exact HB.out)⟩⟩
   ·as_aux_lemma =>
    rw [if_neg c15] at H;have c15b0:(t1100 != t1104) = false:=by simpa using c15
    (try (have c15b1:decide (t1100 = t1104) = true:=by simpa using c15))
    (try (have c15b2:(t1100 == t1104) = true:=by simpa using c15))
    clear c15;(first|rw [c15b0]|(simp only [i64_w,i32_w];rw [c15b0])|skip)
    replace H:=Option.bind_eq_some_iff.mp H;obtain ⟨t1105,A160,H⟩:=H;replace H:(if t1105 = true then (if t1100 = true then ((impl_IsValidColumn.f t1090).bind fun t1106=>(laws_FnForces.j0 k t1090 t1097 (!t1106) t1093 t1094 t1095)) else (laws_FnForces.j0 k t1090 t1097 false t1093 t1094 t1095)) else (laws_FnForces.j0 k t1090 t1097 true t1093 t1094 t1095)) = some r:=H
    have A16:=zM A160;clear A160;by_cases c17:t1105 = true
    ·as_aux_lemma =>
     subst c17;have H1:(if t1100 = true then ((impl_IsValidColumn.f t1090).bind fun t1106=>(laws_FnForces.j0 k t1090 t1097 (!t1106) t1093 t1094 t1095)) else (laws_FnForces.j0 k t1090 t1097 false t1093 t1094 t1095)) = some r:=by rw [if_pos rfl] at H;exact H
     clear H;have H:=H1;clear H1;by_cases c18:t1100 = true
     ·as_aux_lemma =>
      subst c18;have H1:((impl_IsValidColumn.f t1090).bind fun t1106=>(laws_FnForces.j0 k t1090 t1097 (!t1106) t1093 t1094 t1095)) = some r:=by rw [if_pos rfl] at H;exact H
      clear H;have H:=H1;clear H1;replace H:=Option.bind_eq_some_iff.mp H;obtain ⟨t1106,A190,H⟩:=H;replace H:(laws_FnForces.j0 k t1090 t1097 (!t1106) t1093 t1094 t1095) = some r:=H
      have A19:=zM A190;clear A190;have H':=zM H;clear H;obtain ⟨Ao20,co20,eo20⟩:=Kd.R_slice HO1099.out;subst eo20;obtain ⟨Ao21,co21,eo21⟩:=Kd.R_slice HO1103.out;subst eo21;go_wp2_with (first|(go_at_call 40;(with_reducible refine (laws_rInts.calls k _ _ t1097 _ _ t1101 true _ ?side1 ?side2 ?side3 ?side4 A16.out).mono ?_);(case side1=>repeat (first|exact (zN HO1099.out).2.2|(with_reducible first|refine zG ?_ _|refine zH ?_ _|refine zI ?_)));(case side2=>exact (zN HO1099.out).2.1);(case side3=>repeat (first|exact (zN HO1103.out).2.2|(with_reducible first|refine zG ?_ _|refine zH ?_ _|refine zI ?_)));(case side4=>exact (zN HO1103.out).2.1);rintro e w' ⟨rfl,⟨nd,rfl⟩⟩;(try first|exact ⟨rfl,_,World.drewN_drewN _ _ _⟩|exact ⟨rfl,_,zW _ _ _ _⟩))|(go_at_call 43;(with_reducible refine (impl_IsValidColumn.calls _ _ t1090 t1106 _ ?side1 ?side2 A19.out).mono ?_);(case side1=>repeat (first|exact (zN HO1092.out).2.2|(with_reducible first|refine zG ?_ _|refine zH ?_ _|refine zI ?_)));(case side2=>exact (zN HO1092.out).2.1);rintro e w' ⟨rfl,⟨nd,rfl⟩⟩;(try first|exact ⟨rfl,_,World.drewN_drewN _ _ _⟩|exact ⟨rfl,_,zW _ _ _ _⟩)))
      repeat (go_quiet (first|(go_at_call 40;(with_reducible refine (laws_rInts.calls k _ _ t1097 _ _ t1101 true _ ?side1 ?side2 ?side3 ?side4 A16.out).mono ?_);(case side1=>repeat (first|exact (zN HO1099.out).2.2|(with_reducible first|refine zG ?_ _|refine zH ?_ _|refine zI ?_)));(case side2=>exact (zN HO1099.out).2.1);(case side3=>repeat (first|exact (zN HO1103.out).2.2|(with_reducible first|refine zG ?_ _|refine zH ?_ _|refine zI ?_)));(case side4=>exact (zN HO1103.out).2.1);rintro e w' ⟨rfl,⟨nd,rfl⟩⟩;(try first|exact ⟨rfl,_,World.drewN_drewN _ _ _⟩|exact ⟨rfl,_,zW _ _ _ _⟩))|(go_at_call 43;(with_reducible refine (impl_IsValidColumn.calls _ _ t1090 t1106 _ ?side1 ?side2 A19.out).mono ?_);(case side1=>repeat (first|exact (zN HO1092.out).2.2|(with_reducible first|refine zG ?_ _|refine zH ?_ _|refine zI ?_)));(case side2=>exact (zN HO1092.out).2.1);rintro e w' ⟨rfl,⟨nd,rfl⟩⟩;(try first|exact ⟨rfl,_,World.drewN_drewN _ _ _⟩|exact ⟨rfl,_,zW _ _ _ _⟩)));try go_wp2_with (first|(go_at_call 40;(with_reducible refine (laws_rInts.calls k _ _ t1097 _ _ t1101 true _ ?side1 ?side2 ?side3 ?side4 A16.out).mono ?_);(case side1=>repeat (first|exact (zN HO1099.out).2.2|(with_reducible first|refine zG ?_ _|refine zH ?_ _|refine zI ?_)));(case side2=>exact (zN HO1099.out).2.1);(case side3=>repeat (first|exact (zN HO1103.out).2.2|(with_reducible first|refine zG ?_ _|refine zH ?_ _|refine zI ?_)));(case side4=>exact (zN HO1103.out).2.1);rintro e w' ⟨rfl,⟨nd,rfl⟩⟩;(try first|exact ⟨rfl,_,World.drewN_drewN _ _ _⟩|exact ⟨rfl,_,zW _ _ _ _⟩))|(go_at_call 43;(with_reducible refine (impl_IsValidColumn.calls _ _ t1090 t1106 _ ?side1 ?side2 A19.out).mono ?_);(case side1=>repeat (first|exact (zN HO1092.out).2.2|(with_reducible first|refine zG ?_ _|refine zH ?_ _|refine zI ?_)));(case side2=>exact (zN HO1092.out).2.1);rintro e w' ⟨rfl,⟨nd,rfl⟩⟩;(try first|exact ⟨rfl,_,World.drewN_drewN _ _ _⟩|exact ⟨rfl,_,zW _ _ _ _⟩))))
      go_meet
      case rel=>exact ⟨_,(!t1106),(by first|rfl|(simp;done)|(simp [*];done)),H',⟨by first|omega|exact Nat.le_refl _⟩,⟨by (with_reducible repeat (first|apply zA|apply zB|apply zC));exact Kd.R_mono HO1092.out (fun _ hk=>hk.1.2)⟩,⟨by (with_reducible repeat (first|apply zA|apply zB|apply zC));exact Kd.R_mono HO1099.out (fun _ hk=>hk.1.2)⟩,⟨by (with_reducible repeat (first|refine zJ ?_ _|refine zK ?_|refine zL ?_ _));exact BK1096.out⟩,⟨by repeat (first|(with_reducible first|exact HB.out|apply zD|apply zE|apply zF|refine below_set ?_ GE1096.out)|exact HB.out)⟩⟩
     ·as_aux_lemma =>
      replace c18:=Bool.eq_false_iff.mpr c18;subst c18;have H1:(laws_FnForces.j0 k t1090 t1097 false t1093 t1094 t1095) = some r:=by rw [if_neg (show ¬ (false = true) by decide)] at H;exact H
      clear H;have H:=H1;clear H1;have H':=zM H;clear H;obtain ⟨Ao22,co22,eo22⟩:=Kd.R_slice HO1099.out;subst eo22;obtain ⟨Ao23,co23,eo23⟩:=Kd.R_slice HO1103.out;subst eo23;go_wp2_with (first|(go_at_call 40;(with_reducible refine (laws_rInts.calls k _ _ t1097 _ _ t1101 true _ ?side1 ?side2 ?side3 ?side4 A16.out).mono ?_);(case side1=>repeat (first|exact (zN HO1099.out).2.2|(with_reducible first|refine zG ?_ _|refine zH ?_ _|refine zI ?_)));(case side2=>exact (zN HO1099.out).2.1);(case side3=>repeat (first|exact (zN HO1103.out).2.2|(with_reducible first|refine zG ?_ _|refine zH ?_ _|refine zI ?_)));(case side4=>exact (zN HO1103.out).2.1);rintro e w' ⟨rfl,⟨nd,rfl⟩⟩;(try first|exact ⟨rfl,_,World.drewN_drewN _ _ _⟩|exact ⟨rfl,_,zW _ _ _ _⟩)))
      repeat (go_quiet (first|(go_at_call 40;(with_reducible refine (laws_rInts.calls k _ _ t1097 _ _ t1101 true _ ?side1 ?side2 ?side3 ?side4 A16.out).mono ?_);(case side1=>repeat (first|exact (zN HO1099.out).2.2|(with_reducible first|refine zG ?_ _|refine zH ?_ _|refine zI ?_)));(case side2=>exact (zN HO1099.out).2.1);(case side3=>repeat (first|exact (zN HO1103.out).2.2|(with_reducible first|refine zG ?_ _|refine zH ?_ _|refine zI ?_)));(case side4=>exact (zN HO1103.out).2.1);rintro e w' ⟨rfl,⟨nd,rfl⟩⟩;(try first|exact ⟨rfl,_,World.drewN_drewN _ _ _⟩|exact ⟨rfl,_,zW _ _ _ _⟩)));try go_wp2_with (first|(go_at_call 40;(with_reducible refine (laws_rInts.calls k _ _ t1097 _ _ t1101 true _ ?side1 ?side2 ?side3 ?side4 A16.out).mono ?_);(case side1=>repeat (first|exact (zN HO1099.out).2.2|(with_reducible first|refine zG ?_ _|refine zH ?_ _|refine zI ?_)));(case side2=>exact (zN HO1099.out).2.1);(case side3=>repeat (first|exact (zN HO1103.out).2.2|(with_reducible first|refine zG ?_ _|refine zH ?_ _|refine zI ?_)));(case side4=>exact (zN HO1103.out).2.1);rintro e w' ⟨rfl,⟨nd,rfl⟩⟩;(try first|exact ⟨rfl,_,World.drewN_drewN _ _ _⟩|exact ⟨rfl,_,zW _ _ _ _⟩))))
      go_meet
      case rel=>exact ⟨_,(false),(by first|rfl|(simp;done)|(simp [*];done)),H',⟨by first|omega|exact Nat.le_refl _⟩,⟨by (with_reducible repeat (first|apply zA|apply zB|apply zC));exact Kd.R_mono HO1092.out (fun _ hk=>hk.1.2)⟩,⟨by (with_reducible repeat (first|apply zA|apply zB|apply zC));exact Kd.R_mono HO1099.out (fun _ hk=>hk.1.2)⟩,⟨by (with_reducible repeat (first|refine zJ ?_ _|refine zK ?_|refine zL ?_ _));exact BK1096.out⟩,⟨by repeat (first|(with_reducible first|exact HB.out|apply zD|apply zE|apply zF|refine below_set ?_ GE1096.out)|exact HB.out)⟩⟩
    ·as_aux_lemma =>
     replace c17:=Bool.eq_false_iff.mpr c17;subst c17;have H1:(laws_FnForces.j0 k t1090 t1097 true t1093 t1094 t1095) = some r:=by rw [if_neg (show ¬ (false = true) by decide)] at H;exact H
     clear H;have H:=H1;clear H1;have H':=zM H;clear H;obtain ⟨Ao24,co24,eo24⟩:=Kd.R_slice HO1099.out;subst eo24;obtain ⟨Ao25,co25,eo25⟩:=Kd.R_slice HO1103.out;subst eo25;go_wp2_with (first|(go_at_call 40;(with_reducible refine (laws_rInts.calls k _ _ t1097 _ _ t1101 false _ ?side1 ?side2 ?side3 ?side4 A16.out).mono ?_);(case side1=>repeat (first|exact (zN HO1099.out).2.2|(with_reducible first|refine zG ?_ _|refine zH ?_ _|refine zI ?_)));(case side2=>exact (zN HO1099.out).2.1);(case side3=>repeat (first|exact (zN HO1103.out).2.2|(with_reducible first|refine zG ?_ _|refine zH ?_ _|refine zI ?_)));(case side4=>exact (zN HO1103.out).2.1);rintro e w' ⟨rfl,⟨nd,rfl⟩⟩;(try first|exact ⟨rfl,_,World.drewN_drewN _ _ _⟩|exact ⟨rfl,_,zW _ _ _ _⟩)))
     repeat (go_quiet (first|(go_at_call 40;(with_reducible refine (laws_rInts.calls k _ _ t1097 _ _ t1101 false _ ?side1 ?side2 ?side3 ?side4 A16.out).mono ?_);(case side1=>repeat (first|exact (zN HO1099.out).2.2|(with_reducible first|refine zG ?_ _|refine zH ?_ _|refine zI ?_)));(case side2=>exact (zN HO1099.out).2.1);(case side3=>repeat (first|exact (zN HO1103.out).2.2|(with_reducible first|refine zG ?_ _|refine zH ?_ _|refine zI ?_)));(case side4=>exact (zN HO1103.out).2.1);rintro e w' ⟨rfl,⟨nd,rfl⟩⟩;(try first|exact ⟨rfl,_,World.drewN_drewN _ _ _⟩|exact ⟨rfl,_,zW _ _ _ _⟩)));try go_wp2_with (first|(go_at_call 40;(with_reducible refine (laws_rInts.calls k _ _ t1097 _ _ t1101 false _ ?side1 ?side2 ?side3 ?side4 A16.out).mono ?_);(case side1=>repeat (first|exact (zN HO1099.out).2.2|(with_reducible first|refine zG ?_ _|refine zH ?_ _|refine zI ?_)));(case side2=>exact (zN HO1099.out).2.1);(case side3=>repeat (first|exact (zN HO1103.out).2.2|(with_reducible first|refine zG ?_ _|refine zH ?_ _|refine zI ?_)));(case side4=>exact (zN HO1103.out).2.1);rintro e w' ⟨rfl,⟨nd,rfl⟩⟩;(try first|exact ⟨rfl,_,World.drewN_drewN _ _ _⟩|exact ⟨rfl,_,zW _ _ _ _⟩))))
     go_meet
     case rel=>exact ⟨_,(true),(by first|rfl|(simp;done)|(simp [*];done)),H',⟨by first|omega|exact Nat.le_refl _⟩,⟨by (with_reducible repeat (first|apply zA|apply zB|apply zC));exact Kd.R_mono HO1092.out (fun _ hk=>hk.1.2)⟩,⟨by (with_reducible repeat (first|apply zA|apply zB|apply zC));exact Kd.R_mono HO1099.out (fun _ hk=>hk.1.2)⟩,⟨by (with_reducible repeat (first|refine zJ ?_ _|refine zK ?_|refine zL ?_ _));exact BK1096.out⟩,⟨by repeat (first|(with_reducible first|exact HB.out|apply zD|apply zE|apply zF|refine below_set ?_ GE1096.out)|exact HB.out)⟩⟩
  case rest =>
   clear HC7;(try clear c1);(try clear p2);(try clear c3);(try clear c11);(try clear c15);(try clear c15b0);(try clear c15b1);(try clear c15b2);(try clear c17);(try clear c18);(try clear hcz10_0);(try clear hcz10_1);(try clear hcz10_2);(try clear hcz13_0);(try clear hcz13_1);(try clear hcz13_2);(try clear hfz10_0);(try clear hfz10_1);(try clear hfz10_2);(try clear hfz13_0);(try clear hfz13_1);(try clear hfz13_2);obtain ⟨kq,x60_6,rfl,HA,HJ6,HO_3,HO_5,BK1096,HB⟩:=hcut;cases kq with
   | zero=>exact absurd HA.out (by simp [laws_FnForces.j0])
   | succ kj6 =>
    have H:=HA.out;clear HA;simp only [laws_FnForces.j0] at H
    by_cases c26:x60_6 = true
    ·as_aux_lemma =>
     subst c26;have H1:(some false) = some r:=by rw [if_pos rfl] at H;exact H
     clear H;have H:=H1;clear H1;obtain rfl:=Option.some.inj H;go_wp2
     repeat (go_quiet (fail);try go_wp2)
     go_ret
     exact ⟨by first|rfl|(simp [errW_none,errW_some] <;> rfl)|(simp [*,errW_none,errW_some] <;> rfl),by repeat (first|(with_reducible first|exact HB.out|apply zD|apply zE|apply zF|refine below_set ?_ GE1096.out)|exact HB.out)⟩
    ·as_aux_lemma =>
     replace c26:=Bool.eq_false_iff.mpr c26;subst c26;have H1:(laws_FnForces.l0 kj6 t1090 t1097 1 t1093 t1094 t1095) = some r:=by rw [if_neg (show ¬ (false = true) by decide)] at H;exact H
     clear H;have H:=H1;clear H1;have H':=zM H;clear H;go_wp2
     repeat (go_quiet (fail);try go_wp2)
     go_loopg [9] kj6 (fun kq v9 w' => ∃ (x9_2:Int),v9 = .int .i64 x9_2 ∧ Aside0 (laws_FnForces.l0 kq t1090 t1097 x9_2 t1093 t1094 t1095 = some r) ∧ Aside0 (kq ≤ kj6) ∧ Aside0 (Kd.R (Kd.int .i64) 3 w' w.heap.size (fun k_=>some k_ ≠ (v1098:Value).ownBlock) (.slice Ao11 t1090.length co11) t1090) ∧ Aside0 (Kd.R (Kd.int .i64) 3 w' w.heap.size (fun k_=>some k_ ≠ ((.slice Ao11 t1090.length co11):Value).ownBlock) v1098 t1097) ∧ Aside0 (w'.heap[gb1096]? = some (.cells #[.int .i64 t1093,.int .i64 t1094,.int .i64 t1095] 28 (0,0))) ∧ Aside0 (Below w.heap.size w w'))
     case atStart=>exact ⟨(1),(by first|rfl|(simp;done)|(simp [*];done)),H',⟨Nat.le_refl _⟩,⟨by (with_reducible repeat (first|apply zA|apply zB|apply zC));exact HO_3.out⟩,⟨by (with_reducible repeat (first|apply zA|apply zB|apply zC));exact HO_5.out⟩,⟨by (with_reducible repeat (first|refine zJ ?_ _|refine zK ?_|refine zL ?_ _));exact BK1096.out⟩,⟨by repeat (first|(with_reducible first|exact HB.out|apply zD|apply zE|apply zF|refine below_set ?_ GE1096.out)|exact HB.out)⟩⟩
     case round =>
      clear H';(try clear c1);(try clear c2);(try clear p2);(try clear c3);(try clear c11);(try clear c15);(try clear c15b0);(try clear c15b1);(try clear c15b2);(try clear c17);(try clear c18);(try clear c26);(try clear hcz10_0);(try clear hcz10_1);(try clear hcz10_2);(try clear hcz13_0);(try clear hcz13_1);(try clear hcz13_2);(try clear hfz10_0);(try clear hfz10_1);(try clear hfz10_2);(try clear hfz13_0);(try clear hfz13_1);(try clear hfz13_2);(try clear p2);obtain ⟨x9_2,rfl,HA,HK2,HO_3,HO_5,BK1096,HB⟩:=hrel;cases gk with
      | zero=>exact absurd HA.out (by simp [laws_FnForces.l0])
      | succ k2 =>
       have H:=HA.out;clear HA;simp only [laws_FnForces.l0] at H
       by_cases c27:x9_2 < (t1097.length:Int)
       ·as_aux_lemma =>
        rw [if_pos c27] at H;have c27b0:decide (x9_2 < (t1097.length:Int)) = true:=decide_eq_true c27
        clear c27;by_cases c28:0 ≤ x9_2
        ·as_aux_lemma =>
         rw [if_pos c28] at H;have c28b0:decide (0 ≤ x9_2) = true:=decide_eq_true c28
         clear c28;obtain ⟨ji29,hji29⟩ : ∃ j_:Int,(wrap64 (x9_2 - 1)) = j_:=⟨_,rfl⟩
         replace H:(if 0 ≤ (ji29) then (if (ji29) < (t1097.length:Int) then (if (rd t1097 x9_2) > (rd t1097 (ji29)) then (some false) else (laws_FnForces.l0 k2 t1090 t1097 (wrap64 (x9_2 + 1)) t1093 t1094 t1095)) else (none)) else (none)) = some r:=by first|(rw [hji29] at H;exact H)|(simp only [hji29] at H ⊢;exact H)
         have hji29w:(IntKind.i64.wrap (x9_2 - 1)) = ji29:=(i64_w _).trans hji29
         by_cases c30:0 ≤ (ji29)
         ·as_aux_lemma =>
          rw [if_pos c30] at H;have c30b0:decide (0 ≤ (ji29)) = true:=decide_eq_true c30
          clear c30;by_cases c31:(ji29) < (t1097.length:Int)
          ·as_aux_lemma =>
           rw [if_pos c31] at H;have c31b0:decide ((ji29) < (t1097.length:Int)) = true:=decide_eq_true c31
           clear c31;by_cases c32:(rd t1097 x9_2) > (rd t1097 (ji29))
           ·as_aux_lemma =>
            rw [if_pos c32] at H;have c32b0:decide ((rd t1097 (ji29)) < (rd t1097 x9_2)) = true:=decide_eq_true c32
            clear c32;obtain rfl:=Option.some.inj H;obtain ⟨Ao33,co33,eo33⟩:=Kd.R_slice HO_5.out;subst eo33;have p1107:0 ≤ (x9_2:Int):=of_decide_eq_true (by first|(with_reducible assumption)|assumption)
            have q1107:x9_2 < (t1097.length:Int):=of_decide_eq_true (by first|(with_reducible assumption)|assumption)
            obtain ⟨ad1107,e1107,hx1107_0⟩:=Kd.at_int (zN HO_5.out).2.2 x9_2 p1107 q1107;cases e1107
            replace p1107:=eq_true p1107;replace q1107:=eq_true q1107;have p1108:0 ≤ ((ji29):Int):=of_decide_eq_true (by first|(with_reducible assumption)|assumption)
            have q1108:(ji29) < (t1097.length:Int):=of_decide_eq_true (by first|(with_reducible assumption)|assumption)
            obtain ⟨ad1108,e1108,hx1108_0⟩:=Kd.at_int (zN HO_5.out).2.2 (ji29) p1108 q1108;obtain rfl:ad1107 = ad1108:=(by injection e1108)
            replace p1108:=eq_true p1108;replace q1108:=eq_true q1108;go_wp2
            repeat (go_quiet (fail);try go_wp2)
            go_ret
            exact ⟨by first|rfl|(simp [errW_none,errW_some] <;> rfl)|(simp only [← hji29];first|rfl|(simp [errW_none,errW_some] <;> rfl))|(simp [*,errW_none,errW_some] <;> rfl),by repeat (first|(with_reducible first|exact HB.out|apply zD|apply zE|apply zF|refine below_set ?_ GE1096.out)|exact HB.out)⟩
           ·as_aux_lemma =>
            rw [if_neg c32] at H;have c32b0:decide ((rd t1097 (ji29)) < (rd t1097 x9_2)) = false:=decide_eq_false c32
            clear c32;have H':=zM H;clear H;obtain ⟨Ao34,co34,eo34⟩:=Kd.R_slice HO_5.out;subst eo34;have p1107:0 ≤ (x9_2:Int):=of_decide_eq_true (by first|(with_reducible assumption)|assumption)
            have q1107:x9_2 < (t1097.length:Int):=of_decide_eq_true (by first|(with_reducible assumption)|assumption)
            obtain ⟨ad1107,e1107,hx1107_0⟩:=Kd.at_int (zN HO_5.out).2.2 x9_2 p1107 q1107;cases e1107
            replace p1107:=eq_true p1107;replace q1107:=eq_true q1107;have p1108:0 ≤ ((ji29):Int):=of_decide_eq_true (by first|(with_reducible assumption)|assumption)
            have q1108:(ji29) < (t1097.length:Int):=of_decide_eq_true (by first|(with_reducible assumption)|assumption)
            obtain ⟨ad1108,e1108,hx1108_0⟩:=Kd.at_int (zN HO_5.out).2.2 (ji29) p1108 q1108;obtain rfl:ad1107 = ad1108:=(by injection e1108)
            replace p1108:=eq_true p1108;replace q1108:=eq_true q1108;go_wp2
            repeat (go_quiet (fail);try go_wp2)
            go_roundg k2
            case measure=>have:=HJ6.out;have:=HK2.out;omega
            case rel=>exact ⟨(wrap64 (x9_2 + 1)),(by first|rfl|(simp;done)|(simp [*];done)),H',⟨by have:=HJ6.out;have:=HK2.out;omega⟩,⟨by (with_reducible repeat (first|apply zA|apply zB|apply zC));exact HO_3.out⟩,⟨by (with_reducible repeat (first|apply zA|apply zB|apply zC));exact HO_5.out⟩,⟨by (with_reducible repeat (first|refine zJ ?_ _|refine zK ?_|refine zL ?_ _));exact BK1096.out⟩,⟨by repeat (first|(with_reducible first|exact HB.out|apply zD|apply zE|apply zF|refine below_set ?_ GE1096.out)|exact HB.out)⟩⟩
          ·as_aux_lemma =>
           rw [if_neg c31] at H;exact absurd H (by simp)
         ·as_aux_lemma =>
          rw [if_neg c30] at H;exact absurd H (by simp)
        ·as_aux_lemma =>
         rw [if_neg c28] at H;exact absurd H (by simp)
       ·as_aux_lemma =>
        rw [if_neg c27] at H;have c27b0:decide (x9_2 < (t1097.length:Int)) = false:=decide_eq_false c27
        clear c27;replace H:=Option.bind_eq_some_iff.mp H;obtain ⟨⟨t1109,t1112⟩,A350,H⟩:=H;replace H:((spec_LashingsNeeded.f k2 t1090 t1093 t1094 t1095).bind fun bt1113=>(if (t1112 != bt1113.2) = true then (laws_FnForces.j2 k2 t1090 t1097 t1109 true t1093 t1094 t1095) else ((laws_rInts.f k2 t1109 bt1113.1).bind fun t1117=>(laws_FnForces.j2 k2 t1090 t1097 t1109 (!t1117) t1093 t1094 t1095)))) = some r:=H
        have A35:=zM A350;clear A350;replace H:=Option.bind_eq_some_iff.mp H;obtain ⟨⟨t1113,t1116⟩,A360,H⟩:=H;replace H:(if (t1112 != t1116) = true then (laws_FnForces.j2 k2 t1090 t1097 t1109 true t1093 t1094 t1095) else ((laws_rInts.f k2 t1109 t1113).bind fun t1117=>(laws_FnForces.j2 k2 t1090 t1097 t1109 (!t1117) t1093 t1094 t1095))) = some r:=H
        have A36:=zM A360;clear A360;have HC37:=zM H;clear H;obtain ⟨Ao38,co38,eo38⟩:=Kd.R_slice HO_5.out;subst eo38;have hcz39_0:wr.cell? ⟨gb1096,0,none⟩ = some (.int .i64 t1093):=(blk_cell BK1096.out 0).trans rfl
        have hcz39_1:wr.cell? ⟨gb1096,1,none⟩ = some (.int .i64 t1094):=(blk_cell BK1096.out 1).trans rfl
        have hcz39_2:wr.cell? ⟨gb1096,2,none⟩ = some (.int .i64 t1095):=(blk_cell BK1096.out 2).trans rfl
        have hfz39_0:=blk_frozen BK1096.out 0;have hfz39_1:=blk_frozen BK1096.out 1;have hfz39_2:=blk_frozen BK1096.out 2;go_upto_region 15 with (first|(go_at_call 20;(with_reducible refine (impl_LashingsNeeded.calls k2 _ _ t1090 t1093 t1094 t1095 t1109 t1112 _ ?side1 ?side2 A35.out).mono ?_);(case side1=>repeat (first|exact (zN HO_3.out).2.2|(with_reducible first|refine zG ?_ _|refine zH ?_ _|refine zI ?_)));(case side2=>exact (zN HO_3.out).2.1);rintro e w40 ⟨v1110,rfl,ho0,hb⟩;have n0_:=zM (Kd.R_elder' (by (with_reducible repeat (first|apply zA|apply zB|apply zC));exact HO_3.out) (Kd.R_base ho0) hb);have n1_:=zM (Kd.R_elder' (by (with_reducible repeat (first|apply zA|apply zB|apply zC));exact HO_5.out) (Kd.R_base ho0) hb);have n2_:=zM (Kd.R_lower (Kd.R_new' (Kd.R_new' ho0 (Kd.R_lt (by (with_reducible repeat (first|apply zA|apply zB|apply zC));exact HO_3.out))) (Kd.R_lt (by (with_reducible repeat (first|apply zA|apply zB|apply zC));exact HO_5.out))) (zR (by repeat (first|(with_reducible first|exact HB.out|apply zD|apply zE|apply zF|refine below_set ?_ GE1096.out)|exact HB.out))));have n3_:=zM (blk_below (g:=gb1096) (o := .cells #[.int .i64 t1093,.int .i64 t1094,.int .i64 t1095] 28 (0,0)) (by (with_reducible repeat (first|refine zJ ?_ _|refine zK ?_|refine zL ?_ _));exact BK1096.out) hb);have n4_:=zM (zQ (by repeat (first|(with_reducible first|exact HB.out|apply zD|apply zE|apply zF|refine below_set ?_ GE1096.out)|exact HB.out)) hb);clear HO_3;clear HO_5;clear BK1096;clear HB;have HO_3:=n0_;have HO_5:=n1_;have HO1111:=n2_;have BK1096:=n3_;have HB:=n4_;clear n0_ n1_ n2_ n3_ n4_;(try clear hb);(try clear hb2);(try clear hk);(try clear hi);(try clear ho0);have hcz41_0:w40.cell? ⟨gb1096,0,none⟩ = some (.int .i64 t1093):=(blk_cell BK1096.out 0).trans rfl;have hcz41_1:w40.cell? ⟨gb1096,1,none⟩ = some (.int .i64 t1094):=(blk_cell BK1096.out 1).trans rfl;have hcz41_2:w40.cell? ⟨gb1096,2,none⟩ = some (.int .i64 t1095):=(blk_cell BK1096.out 2).trans rfl;have hfz41_0:=blk_frozen BK1096.out 0;have hfz41_1:=blk_frozen BK1096.out 1;have hfz41_2:=blk_frozen BK1096.out 2)|(go_at_call 19;(with_reducible refine (spec_LashingsNeeded.calls k2 _ _ t1090 t1093 t1094 t1095 t1113 t1116 _ ?side1 ?side2 A36.out).mono ?_);(case side1=>repeat (first|exact (zN HO_3.out).2.2|(with_reducible first|refine zG ?_ _|refine zH ?_ _|refine zI ?_)));(case side2=>exact (zN HO_3.out).2.1);rintro e w42 ⟨v1114,rfl,ho0,hb⟩;have n0_:=zM (Kd.R_elder' (by (with_reducible repeat (first|apply zA|apply zB|apply zC));exact HO_3.out) (Kd.R_base ho0) hb);have n1_:=zM (Kd.R_elder' (by (with_reducible repeat (first|apply zA|apply zB|apply zC));exact HO_5.out) (Kd.R_base ho0) hb);have n2_:=zM (Kd.R_elder' (by (with_reducible repeat (first|apply zA|apply zB|apply zC));exact HO1111.out) (Kd.R_base ho0) hb);have n3_:=zM (Kd.R_lower (Kd.R_new' (Kd.R_new' (Kd.R_new' ho0 (Kd.R_lt (by (with_reducible repeat (first|apply zA|apply zB|apply zC));exact HO_3.out))) (Kd.R_lt (by (with_reducible repeat (first|apply zA|apply zB|apply zC));exact HO_5.out))) (Kd.R_lt (by (with_reducible repeat (first|apply zA|apply zB|apply zC));exact HO1111.out))) (zR (by repeat (first|(with_reducible first|exact HB.out|apply zD|apply zE|apply zF|refine below_set ?_ GE1096.out)|exact HB.out))));have n4_:=zM (blk_below (g:=gb1096) (o := .cells #[.int .i64 t1093,.int .i64 t1094,.int .i64 t1095] 28 (0,0)) (by (with_reducible repeat (first|refine zJ ?_ _|refine zK ?_|refine zL ?_ _));exact BK1096.out) hb);have n5_:=zM (zQ (by repeat (first|(with_reducible first|exact HB.out|apply zD|apply zE|apply zF|refine below_set ?_ GE1096.out)|exact HB.out)) hb);clear HO_3;clear HO_5;clear HO1111;clear BK1096;clear HB;have HO_3:=n0_;have HO_5:=n1_;have HO1111:=n2_;have HO1115:=n3_;have BK1096:=n4_;have HB:=n5_;clear n0_ n1_ n2_ n3_ n4_ n5_;(try clear hb);(try clear hb2);(try clear hk);(try clear hi);(try clear ho0)))
        repeat (go_quiet (first|(go_at_call 20;(with_reducible refine (impl_LashingsNeeded.calls k2 _ _ t1090 t1093 t1094 t1095 t1109 t1112 _ ?side1 ?side2 A35.out).mono ?_);(case side1=>repeat (first|exact (zN HO_3.out).2.2|(with_reducible first|refine zG ?_ _|refine zH ?_ _|refine zI ?_)));(case side2=>exact (zN HO_3.out).2.1);rintro e w40 ⟨v1110,rfl,ho0,hb⟩;have n0_:=zM (Kd.R_elder' (by (with_reducible repeat (first|apply zA|apply zB|apply zC));exact HO_3.out) (Kd.R_base ho0) hb);have n1_:=zM (Kd.R_elder' (by (with_reducible repeat (first|apply zA|apply zB|apply zC));exact HO_5.out) (Kd.R_base ho0) hb);have n2_:=zM (Kd.R_lower (Kd.R_new' (Kd.R_new' ho0 (Kd.R_lt (by (with_reducible repeat (first|apply zA|apply zB|apply zC));exact HO_3.out))) (Kd.R_lt (by (with_reducible repeat (first|apply zA|apply zB|apply zC));exact HO_5.out))) (zR (by repeat (first|(with_reducible first|exact HB.out|apply zD|apply zE|apply zF|refine below_set ?_ GE1096.out)|exact HB.out))));have n3_:=zM (blk_below (g:=gb1096) (o := .cells #[.int .i64 t1093,.int .i64 t1094,.int .i64 t1095] 28 (0,0)) (by (with_reducible repeat (first|refine zJ ?_ _|refine zK ?_|refine zL ?_ _));exact BK1096.out) hb);have n4_:=zM (zQ (by repeat (first|(with_reducible first|exact HB.out|apply zD|apply zE|apply zF|refine below_set ?_ GE1096.out)|exact HB.out)) hb);clear HO_3;clear HO_5;clear BK1096;clear HB;have HO_3:=n0_;have HO_5:=n1_;have HO1111:=n2_;have BK1096:=n3_;have HB:=n4_;clear n0_ n1_ n2_ n3_ n4_;(try clear hb);(try clear hb2);(try clear hk);(try clear hi);(try clear ho0);have hcz41_0:w40.cell? ⟨gb1096,0,none⟩ = some (.int .i64 t1093):=(blk_cell BK1096.out 0).trans rfl;have hcz41_1:w40.cell? ⟨gb1096,1,none⟩ = some (.int .i64 t1094):=(blk_cell BK1096.out 1).trans rfl;have hcz41_2:w40.cell? ⟨gb1096,2,none⟩ = some (.int .i64 t1095):=(blk_cell BK1096.out 2).trans rfl;have hfz41_0:=blk_frozen BK1096.out 0;have hfz41_1:=blk_frozen BK1096.out 1;have hfz41_2:=blk_frozen BK1096.out 2)|(go_at_call 19;(with_reducible refine (spec_LashingsNeeded.calls k2 _ _ t1090 t1093 t1094 t1095 t1113 t1116 _ ?side1 ?side2 A36.out).mono ?_);(case side1=>repeat (first|exact (zN HO_3.out).2.2|(with_reducible first|refine zG ?_ _|refine zH ?_ _|refine zI ?_)));(case side2=>exact (zN HO_3.out).2.1);rintro e w42 ⟨v1114,rfl,ho0,hb⟩;have n0_:=zM (Kd.R_elder' (by (with_reducible repeat (first|apply zA|apply zB|apply zC));exact HO_3.out) (Kd.R_base ho0) hb);have n1_:=zM (Kd.R_elder' (by (with_reducible repeat (first|apply zA|apply zB|apply zC));exact HO_5.out) (Kd.R_base ho0) hb);have n2_:=zM (Kd.R_elder' (by (with_reducible repeat (first|apply zA|apply zB|apply zC));exact HO1111.out) (Kd.R_base ho0) hb);have n3_:=zM (Kd.R_lower (Kd.R_new' (Kd.R_new' (Kd.R_new' ho0 (Kd.R_lt (by (with_reducible repeat (first|apply zA|apply zB|apply zC));exact HO_3.out))) (Kd.R_lt (by (with_reducible repeat (first|apply zA|apply zB|apply zC));exact HO_5.out))) (Kd.R_lt (by (with_reducible repeat (first|apply zA|apply zB|apply zC));exact HO1111.out))) (zR (by repeat (first|(with_reducible first|exact HB.out|apply zD|apply zE|apply zF|refine below_set ?_ GE1096.out)|exact HB.out))));have n4_:=zM (blk_below (g:=gb1096) (o := .cells #[.int .i64 t1093,.int .i64 t1094,.int .i64 t1095] 28 (0,0)) (by (with_reducible repeat (first|refine zJ ?_ _|refine zK ?_|refine zL ?_ _));exact BK1096.out) hb);have n5_:=zM (zQ (by repeat (first|(with_reducible first|exact HB.out|apply zD|apply zE|apply zF|refine below_set ?_ GE1096.out)|exact HB.out)) hb);clear HO_3;clear HO_5;clear HO1111;clear BK1096;clear HB;have HO_3:=n0_;have HO_5:=n1_;have HO1111:=n2_;have HO1115:=n3_;have BK1096:=n4_;have HB:=n5_;clear n0_ n1_ n2_ n3_ n4_ n5_;(try clear hb);(try clear hb2);(try clear hk);(try clear hi);(try clear ho0)));go_upto_region 15 with (first|(go_at_call 20;(with_reducible refine (impl_LashingsNeeded.calls k2 _ _ t1090 t1093 t1094 t1095 t1109 t1112 _ ?side1 ?side2 A35.out).mono ?_);(case side1=>repeat (first|exact (zN HO_3.out).2.2|(with_reducible first|refine zG ?_ _|refine zH ?_ _|refine zI ?_)));(case side2=>exact (zN HO_3.out).2.1);rintro e w40 ⟨v1110,rfl,ho0,hb⟩;have n0_:=zM (Kd.R_elder' (by (with_reducible repeat (first|apply zA|apply zB|apply zC));exact HO_3.out) (Kd.R_base ho0) hb);have n1_:=zM (Kd.R_elder' (by (with_reducible repeat (first|apply zA|apply zB|apply zC));exact HO_5.out) (Kd.R_base ho0) hb);have n2_:=zM (Kd.R_lower (Kd.R_new' (Kd.R_new' ho0 (Kd.R_lt (by (with_reducible repeat (first|apply zA|apply zB|apply zC));exact HO_3.out))) (Kd.R_lt (by (with_reducible repeat (first|apply zA|apply zB|apply zC));exact HO_5.out))) (zR (by repeat (first|(with_reducible first|exact HB.out|apply zD|apply zE|apply zF|refine below_set ?_ GE1096.out)|exact HB.out))));have n3_:=zM (blk_below (g:=gb1096) (o := .cells #[.int .i64 t1093,.int .i64 t1094,.int .i64 t1095] 28 (0,0)) (by (with_reducible repeat (first|refine zJ ?_ _|refine zK ?_|refine zL ?_ _));exact BK1096.out) hb);have n4_:=zM (zQ (by repeat (first|(with_reducible first|exact HB.out|apply zD|apply zE|apply zF|refine below_set ?_ GE1096.out)|exact HB.out)) hb);clear HO_3;clear HO_5;clear BK1096;clear HB;have HO_3:=n0_;have HO_5:=n1_;have HO1111:=n2_;have BK1096:=n3_;have HB:=n4_;clear n0_ n1_ n2_ n3_ n4_;(try clear hb);(try clear hb2);(try clear hk);(try clear hi);(try clear ho0);have hcz41_0:w40.cell? ⟨gb1096,0,none⟩ = some (.int .i64 t1093):=(blk_cell BK1096.out 0).trans rfl;have hcz41_1:w40.cell? ⟨gb1096,1,none⟩ = some (.int .i64 t1094):=(blk_cell BK1096.out 1).trans rfl;have hcz41_2:w40.cell? ⟨gb1096,2,none⟩ = some (.int .i64 t1095):=(blk_cell BK1096.out 2).trans rfl;have hfz41_0:=blk_frozen BK1096.out 0;have hfz41_1:=blk_frozen BK1096.out 1;have hfz41_2:=blk_frozen BK1096.out 2)|(go_at_call 19;(with_reducible refine (spec_LashingsNeeded.calls k2 _ _ t1090 t1093 t1094 t1095 t1113 t1116 _ ?side1 ?side2 A36.out).mono ?_);(case side1=>repeat (first|exact (zN HO_3.out).2.2|(with_reducible first|refine zG ?_ _|refine zH ?_ _|refine zI ?_)));(case side2=>exact (zN HO_3.out).2.1);rintro e w42 ⟨v1114,rfl,ho0,hb⟩;have n0_:=zM (Kd.R_elder' (by (with_reducible repeat (first|apply zA|apply zB|apply zC));exact HO_3.out) (Kd.R_base ho0) hb);have n1_:=zM (Kd.R_elder' (by (with_reducible repeat (first|apply zA|apply zB|apply zC));exact HO_5.out) (Kd.R_base ho0) hb);have n2_:=zM (Kd.R_elder' (by (with_reducible repeat (first|apply zA|apply zB|apply zC));exact HO1111.out) (Kd.R_base ho0) hb);have n3_:=zM (Kd.R_lower (Kd.R_new' (Kd.R_new' (Kd.R_new' ho0 (Kd.R_lt (by (with_reducible repeat (first|apply zA|apply zB|apply zC));exact HO_3.out))) (Kd.R_lt (by (with_reducible repeat (first|apply zA|apply zB|apply zC));exact HO_5.out))) (Kd.R_lt (by (with_reducible repeat (first|apply zA|apply zB|apply zC));exact HO1111.out))) (zR (by repeat (first|(with_reducible first|exact HB.out|apply zD|apply zE|apply zF|refine below_set ?_ GE1096.out)|exact HB.out))));have n4_:=zM (blk_below (g:=gb1096) (o := .cells #[.int .i64 t1093,.int .i64 t1094,.int .i64 t1095] 28 (0,0)) (by (with_reducible repeat (first|refine zJ ?_ _|refine zK ?_|refine zL ?_ _));exact BK1096.out) hb);have n5_:=zM (zQ (by repeat (first|(with_reducible first|exact HB.out|apply zD|apply zE|apply zF|refine below_set ?_ GE1096.out)|exact HB.out)) hb);clear HO_3;clear HO_5;clear HO1111;clear BK1096;clear HB;have HO_3:=n0_;have HO_5:=n1_;have HO1111:=n2_;have HO1115:=n3_;have BK1096:=n4_;have HB:=n5_;clear n0_ n1_ n2_ n3_ n4_ n5_;(try clear hb);(try clear hb2);(try clear hk);(try clear hi);(try clear ho0))))
        (try simp only [Act.put,zT,zU,zV])
        go_cut [97] (fun v97 wc => ∃ (kq:Nat) (x97_36:Bool),v97 = .bool x97_36 ∧ Aside0 (laws_FnForces.j2 kq t1090 t1097 t1109 x97_36 t1093 t1094 t1095 = some r) ∧ Aside0 (kq ≤ k2) ∧ Aside0 (Kd.R (Kd.int .i64) 3 wc w.heap.size (fun k_=>some k_ ≠ ((.slice Ao38 t1097.length co38):Value).ownBlock ∧ some k_ ≠ (v1110:Value).ownBlock) (.slice Ao11 t1090.length co11) t1090) ∧ Aside0 (Kd.R (Kd.int .i64) 3 wc w.heap.size (fun k_=>some k_ ≠ ((.slice Ao11 t1090.length co11):Value).ownBlock ∧ some k_ ≠ (v1110:Value).ownBlock) (.slice Ao38 t1097.length co38) t1097) ∧ Aside0 (Kd.R (Kd.int .i64) 3 wc w.heap.size (fun k_=>some k_ ≠ ((.slice Ao11 t1090.length co11):Value).ownBlock ∧ some k_ ≠ ((.slice Ao38 t1097.length co38):Value).ownBlock) v1110 t1109) ∧ Aside0 (wc.heap[gb1096]? = some (.cells #[.int .i64 t1093,.int .i64 t1094,.int .i64 t1095] 28 (0,0))) ∧ Aside0 (Below w.heap.size w wc))
        case first =>
         have H:=HC37.out;clear HC37;by_cases c43:(t1112 != t1116) = true
         ·as_aux_lemma =>
          rw [if_pos c43] at H;have c43b0:(t1112 != t1116) = true:=c43
          (try (have c43b1:decide (t1112 = t1116) = false:=by simpa using c43))
          (try (have c43b2:(t1112 == t1116) = false:=by simpa using c43))
          (try (have c43b3:¬ (t1112 = t1116):=by simpa using c43))
          clear c43;(first|rw [c43b0]|(simp only [i64_w,i32_w];rw [c43b0])|skip)
          have H':=zM H;clear H;go_wp2
          repeat (go_quiet (fail);try go_wp2)
          go_meet
          case rel=>exact ⟨_,(true),(by first|rfl|(simp;done)|(simp [*];done)),H',⟨by have:=HJ6.out;have:=HK2.out;first|omega|exact Nat.le_refl _⟩,⟨by (with_reducible repeat (first|apply zA|apply zB|apply zC));exact Kd.R_mono HO_3.out (fun _ hk=>⟨hk.1.1,hk.1.2⟩)⟩,⟨by (with_reducible repeat (first|apply zA|apply zB|apply zC));exact Kd.R_mono HO_5.out (fun _ hk=>⟨hk.1.1,hk.1.2⟩)⟩,⟨by (with_reducible repeat (first|apply zA|apply zB|apply zC));exact Kd.R_mono HO1111.out (fun _ hk=>⟨hk.1.1.2,hk.1.2⟩)⟩,⟨by (with_reducible repeat (first|refine zJ ?_ _|refine zK ?_|refine zL ?_ _));exact BK1096.out⟩,⟨by repeat (first|(with_reducible first|exact HB.out|apply zD|apply zE|apply zF|refine below_set ?_ GE1096.out)|exact HB.out)⟩⟩
         ·as_aux_lemma =>
          rw [if_neg c43] at H;have c43b0:(t1112 != t1116) = false:=by simpa using c43
          (try (have c43b1:decide (t1112 = t1116) = true:=by simpa using c43))
          (try (have c43b2:(t1112 == t1116) = true:=by simpa using c43))
          clear c43;(first|rw [c43b0]|(simp only [i64_w,i32_w];rw [c43b0])|skip)
          replace H:=Option.bind_eq_some_iff.mp H;obtain ⟨t1117,A440,H⟩:=H;replace H:(laws_FnForces.j2 k2 t1090 t1097 t1109 (!t1117) t1093 t1094 t1095) = some r:=H
          have A44:=zM A440;clear A440;have H':=zM H;clear H;obtain ⟨Ao45,co45,eo45⟩:=Kd.R_slice HO1111.out;subst eo45;obtain ⟨Ao46,co46,eo46⟩:=Kd.R_slice HO1115.out;subst eo46;go_wp2_with (first|(go_at_call 40;(with_reducible refine (laws_rInts.calls k2 _ _ t1109 _ _ t1113 t1117 _ ?side1 ?side2 ?side3 ?side4 A44.out).mono ?_);(case side1=>repeat (first|exact (zN HO1111.out).2.2|(with_reducible first|refine zG ?_ _|refine zH ?_ _|refine zI ?_)));(case side2=>exact (zN HO1111.out).2.1);(case side3=>repeat (first|exact (zN HO1115.out).2.2|(with_reducible first|refine zG ?_ _|refine zH ?_ _|refine zI ?_)));(case side4=>exact (zN HO1115.out).2.1);rintro e w' ⟨rfl,⟨nd,rfl⟩⟩;(try first|exact ⟨rfl,_,World.drewN_drewN _ _ _⟩|exact ⟨rfl,_,zW _ _ _ _⟩)))
          repeat (go_quiet (first|(go_at_call 40;(with_reducible refine (laws_rInts.calls k2 _ _ t1109 _ _ t1113 t1117 _ ?side1 ?side2 ?side3 ?side4 A44.out).mono ?_);(case side1=>repeat (first|exact (zN HO1111.out).2.2|(with_reducible first|refine zG ?_ _|refine zH ?_ _|refine zI ?_)));(case side2=>exact (zN HO1111.out).2.1);(case side3=>repeat (first|exact (zN HO1115.out).2.2|(with_reducible first|refine zG ?_ _|refine zH ?_ _|refine zI ?_)));(case side4=>exact (zN HO1115.out).2.1);rintro e w' ⟨rfl,⟨nd,rfl⟩⟩;(try first|exact ⟨rfl,_,World.drewN_drewN _ _ _⟩|exact ⟨rfl,_,zW _ _ _ _⟩)));try go_wp2_with (first|(go_at_call 40;(with_reducible refine (laws_rInts.calls k2 _ _ t1109 _ _ t1113 t1117 _ ?side1 ?side2 ?side3 ?side4 A44.out).mono ?_);(case side1=>repeat (first|exact (zN HO1111.out).2.2|(with_reducible first|refine zG ?_ _|refine zH ?_ _|refine zI ?_)));(case side2=>exact (zN HO1111.out).2.1);(case side3=>repeat (first|exact (zN HO1115.out).2.2|(with_reducible first|refine zG ?_ _|refine zH ?_ _|refine zI ?_)));(case side4=>exact (zN HO1115.out).2.1);rintro e w' ⟨rfl,⟨nd,rfl⟩⟩;(try first|exact ⟨rfl,_,World.drewN_drewN _ _ _⟩|exact ⟨rfl,_,zW _ _ _ _⟩))))
          go_meet
          case rel=>exact ⟨_,(!t1117),(by first|rfl|(simp;done)|(simp [*];done)),H',⟨by have:=HJ6.out;have:=HK2.out;first|omega|exact Nat.le_refl _⟩,⟨by (with_reducible repeat (first|apply zA|apply zB|apply zC));exact Kd.R_mono HO_3.out (fun _ hk=>⟨hk.1.1,hk.1.2⟩)⟩,⟨by (with_reducible repeat (first|apply zA|apply zB|apply zC));exact Kd.R_mono HO_5.out (fun _ hk=>⟨hk.1.1,hk.1.2⟩)⟩,⟨by (with_reducible repeat (first|apply zA|apply zB|apply zC));exact Kd.R_mono HO1111.out (fun _ hk=>⟨hk.1.1.2,hk.1.2⟩)⟩,⟨by (with_reducible repeat (first|refine zJ ?_ _|refine zK ?_|refine zL ?_ _));exact BK1096.out⟩,⟨by repeat (first|(with_reducible first|exact HB.out|apply zD|apply zE|apply zF|refine below_set ?_ GE1096.out)|exact HB.out)⟩⟩
        case rest =>
         clear HC37;(try clear c1);(try clear p1);(try clear q1);(try clear hx1);(try clear c2);(try clear p2);(try clear c3);(try clear c4);(try clear p6);(try clear c11);(try clear p11);(try clear q11);(try clear hx11);(try clear c15);(try clear c15b0);(try clear c15b1);(try clear c15b2);(try clear c17);(try clear c18);(try clear c26);(try clear c27);(try clear c27b0);(try clear c28);(try clear c28b0);(try clear c30);(try clear c30b0);(try clear c31);(try clear c31b0);(try clear c32);(try clear c32b0);(try clear c43);(try clear c43b0);(try clear c43b1);(try clear c43b2);(try clear hcz10_0);(try clear hcz10_1);(try clear hcz10_2);(try clear hcz13_0);(try clear hcz13_1);(try clear hcz13_2);(try clear hcz39_0);(try clear hcz39_1);(try clear hcz39_2);(try clear hcz41_0);(try clear hcz41_1);(try clear hcz41_2);(try clear hfz10_0);(try clear hfz10_1);(try clear hfz10_2);(try clear hfz13_0);(try clear hfz13_1);(try clear hfz13_2);(try clear hfz39_0);(try clear hfz39_1);(try clear hfz39_2);(try clear hfz41_0);(try clear hfz41_1);(try clear hfz41_2);(try clear hx1107_0);(try clear hx1108_0);(try clear p1107);(try clear p1108);(try clear p2);(try clear q1107);(try clear q1108);obtain ⟨kq,x97_36,rfl,HA,HJ36,HO_3,HO_5,HO_10,BK1096,HB⟩:=hcut;cases kq with
         | zero=>exact absurd HA.out (by simp [laws_FnForces.j2])
         | succ kj36 =>
          have H:=HA.out;clear HA;simp only [laws_FnForces.j2] at H
          by_cases c47:x97_36 = true
          ·as_aux_lemma =>
           subst c47;have H1:(some false) = some r:=by rw [if_pos rfl] at H;exact H
           clear H;have H:=H1;clear H1;obtain rfl:=Option.some.inj H;go_wp2
           repeat (go_quiet (fail);try go_wp2)
           go_ret
           exact ⟨by first|rfl|(simp [errW_none,errW_some] <;> rfl)|(simp [*,errW_none,errW_some] <;> rfl),by repeat (first|(with_reducible first|exact HB.out|apply zD|apply zE|apply zF|refine below_set ?_ GE1096.out)|exact HB.out)⟩
          ·as_aux_lemma =>
           replace c47:=Bool.eq_false_iff.mpr c47;subst c47;have H1:(laws_FnForces.l1 kj36 t1090 t1097 t1109 0 t1093 t1094 t1095) = some r:=by rw [if_neg (show ¬ (false = true) by decide)] at H;exact H
           clear H;have H:=H1;clear H1;have H':=zM H;clear H;go_wp2
           repeat (go_quiet (fail);try go_wp2)
           go_loopg [14] kj36 (fun kq v14 w' => ∃ (x14_4:Int),v14 = .int .i64 x14_4 ∧ Aside0 (laws_FnForces.l1 kq t1090 t1097 t1109 x14_4 t1093 t1094 t1095 = some r) ∧ Aside0 (kq ≤ kj36) ∧ Aside0 (Kd.R (Kd.int .i64) 3 w' w.heap.size (fun k_=>some k_ ≠ ((.slice Ao38 t1097.length co38):Value).ownBlock ∧ some k_ ≠ (v1110:Value).ownBlock) (.slice Ao11 t1090.length co11) t1090) ∧ Aside0 (Kd.R (Kd.int .i64) 3 w' w.heap.size (fun k_=>some k_ ≠ ((.slice Ao11 t1090.length co11):Value).ownBlock ∧ some k_ ≠ (v1110:Value).ownBlock) (.slice Ao38 t1097.length co38) t1097) ∧ Aside0 (Kd.R (Kd.int .i64) 3 w' w.heap.size (fun k_=>some k_ ≠ ((.slice Ao11 t1090.length co11):Value).ownBlock ∧ some k_ ≠ ((.slice Ao38 t1097.length co38):Value).ownBlock) v1110 t1109) ∧ Aside0 (w'.heap[gb1096]? = some (.cells #[.int .i64 t1093,.int .i64 t1094,.int .i64 t1095] 28 (0,0))) ∧ Aside0 (Below w.heap.size w w'))
           case atStart=>exact ⟨(0),(by first|rfl|(simp;done)|(simp [*];done)),H',⟨Nat.le_refl _⟩,⟨by (with_reducible repeat (first|apply zA|apply zB|apply zC));exact HO_3.out⟩,⟨by (with_reducible repeat (first|apply zA|apply zB|apply zC));exact HO_5.out⟩,⟨by (with_reducible repeat (first|apply zA|apply zB|apply zC));exact HO_10.out⟩,⟨by (with_reducible repeat (first|refine zJ ?_ _|refine zK ?_|refine zL ?_ _));exact BK1096.out⟩,⟨by repeat (first|(with_reducible first|exact HB.out|apply zD|apply zE|apply zF|refine below_set ?_ GE1096.out)|exact HB.out)⟩⟩
           case round =>
            clear H';(try clear c1);(try clear p1);(try clear q1);(try clear hx1);(try clear c2);(try clear p2);(try clear c3);(try clear c4);(try clear p6);(try clear c11);(try clear p11);(try clear q11);(try clear hx11);(try clear c15);(try clear c15b0);(try clear c15b1);(try clear c15b2);(try clear c17);(try clear c18);(try clear c26);(try clear c27);(try clear c27b0);(try clear c28);(try clear c28b0);(try clear c30);(try clear c30b0);(try clear c31);(try clear c31b0);(try clear c32);(try clear c32b0);(try clear c43);(try clear c43b0);(try clear c43b1);(try clear c43b2);(try clear c47);(try clear hcz10_0);(try clear hcz10_1);(try clear hcz10_2);(try clear hcz13_0);(try clear hcz13_1);(try clear hcz13_2);(try clear hcz39_0);(try clear hcz39_1);(try clear hcz39_2);(try clear hcz41_0);(try clear hcz41_1);(try clear hcz41_2);(try clear hfz10_0);(try clear hfz10_1);(try clear hfz10_2);(try clear hfz13_0);(try clear hfz13_1);(try clear hfz13_2);(try clear hfz39_0);(try clear hfz39_1);(try clear hfz39_2);(try clear hfz41_0);(try clear hfz41_1);(try clear hfz41_2);(try clear hx1107_0);(try clear hx1108_0);(try clear p1);(try clear p11);(try clear p1107);(try clear p1108);(try clear p2);(try clear p6);(try clear q1);(try clear q11);(try clear q1107);(try clear q1108);obtain ⟨x14_4,rfl,HA,HK4,HO_3,HO_5,HO_10,BK1096,HB⟩:=hrel;cases gk with
            | zero=>exact absurd HA.out (by simp [laws_FnForces.l1])
            | succ k4 =>
             have H:=HA.out;clear HA;simp only [laws_FnForces.l1] at H
             by_cases c48:x14_4 < (t1109.length:Int)
             ·as_aux_lemma =>
              rw [if_pos c48] at H;have c48b0:decide (x14_4 < (t1109.length:Int)) = true:=decide_eq_true c48
              clear c48;by_cases c49:0 ≤ x14_4
              ·as_aux_lemma =>
               rw [if_pos c49] at H;have c49b0:decide (0 ≤ x14_4) = true:=decide_eq_true c49
               clear c49;by_cases c50:x14_4 < (t1097.length:Int)
               ·as_aux_lemma =>
                rw [if_pos c50] at H;have c50b0:decide (x14_4 < (t1097.length:Int)) = true:=decide_eq_true c50
                clear c50;by_cases c51:(wrap64 ((rd t1109 x14_4) * t1095)) < (rd t1097 x14_4)
                ·as_aux_lemma =>
                 rw [if_pos c51] at H;have c51b0:decide ((wrap64 ((rd t1109 x14_4) * t1095)) < (rd t1097 x14_4)) = true:=decide_eq_true c51
                 clear c51;obtain rfl:=Option.some.inj H;obtain ⟨Ao52,co52,eo52⟩:=Kd.R_slice HO_10.out;subst eo52;have p1118:0 ≤ (x14_4:Int):=of_decide_eq_true (by first|(with_reducible assumption)|assumption)
                 have q1118:x14_4 < (t1109.length:Int):=of_decide_eq_true (by first|(with_reducible assumption)|assumption)
                 obtain ⟨ad1118,e1118,hx1118_0⟩:=Kd.at_int (zN HO_10.out).2.2 x14_4 p1118 q1118;cases e1118
                 replace p1118:=eq_true p1118;replace q1118:=eq_true q1118;have hcz53_0:wr.cell? ⟨gb1096,0,none⟩ = some (.int .i64 t1093):=(blk_cell BK1096.out 0).trans rfl
                 have hcz53_1:wr.cell? ⟨gb1096,1,none⟩ = some (.int .i64 t1094):=(blk_cell BK1096.out 1).trans rfl
                 have hcz53_2:wr.cell? ⟨gb1096,2,none⟩ = some (.int .i64 t1095):=(blk_cell BK1096.out 2).trans rfl
                 have hfz53_0:=blk_frozen BK1096.out 0;have hfz53_1:=blk_frozen BK1096.out 1;have hfz53_2:=blk_frozen BK1096.out 2;have p1119:0 ≤ (x14_4:Int):=of_decide_eq_true (by first|(with_reducible assumption)|assumption)
                 have q1119:x14_4 < (t1097.length:Int):=of_decide_eq_true (by first|(with_reducible assumption)|assumption)
                 obtain ⟨ad1119,e1119,hx1119_0⟩:=Kd.at_int (zN HO_5.out).2.2 x14_4 p1119 q1119;cases e1119
                 replace p1119:=eq_true p1119;replace q1119:=eq_true q1119;go_wp2
                 repeat (go_quiet (fail);try go_wp2)
                 go_ret
                 exact ⟨by first|rfl|(simp [errW_none,errW_some] <;> rfl)|(simp [*,errW_none,errW_some] <;> rfl),by repeat (first|(with_reducible first|exact HB.out|apply zD|apply zE|apply zF|refine below_set ?_ GE1096.out)|exact HB.out)⟩
                ·as_aux_lemma =>
                 rw [if_neg c51] at H;have c51b0:decide ((wrap64 ((rd t1109 x14_4) * t1095)) < (rd t1097 x14_4)) = false:=decide_eq_false c51
                 clear c51;by_cases c54:(rd t1109 x14_4) > 0
                 ·as_aux_lemma =>
                  rw [if_pos c54] at H;have c54b0:decide (0 < (rd t1109 x14_4)) = true:=decide_eq_true c54
                  clear c54;by_cases c55:(wrap64 ((wrap64 ((rd t1109 x14_4) - 1)) * t1095)) ≥ (rd t1097 x14_4)
                  ·as_aux_lemma =>
                   rw [if_pos c55] at H;have c55b0:decide ((rd t1097 x14_4) ≤ (wrap64 ((wrap64 ((rd t1109 x14_4) - 1)) * t1095))) = true:=decide_eq_true c55
                   clear c55;obtain rfl:=Option.some.inj H;obtain ⟨Ao56,co56,eo56⟩:=Kd.R_slice HO_10.out;subst eo56;have p1118:0 ≤ (x14_4:Int):=of_decide_eq_true (by first|(with_reducible assumption)|assumption)
                   have q1118:x14_4 < (t1109.length:Int):=of_decide_eq_true (by first|(with_reducible assumption)|assumption)
                   obtain ⟨ad1118,e1118,hx1118_0⟩:=Kd.at_int (zN HO_10.out).2.2 x14_4 p1118 q1118;cases e1118
                   replace p1118:=eq_true p1118;replace q1118:=eq_true q1118;have hcz57_0:wr.cell? ⟨gb1096,0,none⟩ = some (.int .i64 t1093):=(blk_cell BK1096.out 0).trans rfl
                   have hcz57_1:wr.cell? ⟨gb1096,1,none⟩ = some (.int .i64 t1094):=(blk_cell BK1096.out 1).trans rfl
                   have hcz57_2:wr.cell? ⟨gb1096,2,none⟩ = some (.int .i64 t1095):=(blk_cell BK1096.out 2).trans rfl
                   have hfz57_0:=blk_frozen BK1096.out 0;have hfz57_1:=blk_frozen BK1096.out 1;have hfz57_2:=blk_frozen BK1096.out 2;have p1119:0 ≤ (x14_4:Int):=of_decide_eq_true (by first|(with_reducible assumption)|assumption)
                   have q1119:x14_4 < (t1097.length:Int):=of_decide_eq_true (by first|(with_reducible assumption)|assumption)
                   obtain ⟨ad1119,e1119,hx1119_0⟩:=Kd.at_int (zN HO_5.out).2.2 x14_4 p1119 q1119;cases e1119
                   replace p1119:=eq_true p1119;replace q1119:=eq_true q1119;have p1120:0 ≤ (x14_4:Int):=of_decide_eq_true (by first|(with_reducible assumption)|assumption)
                   have q1120:x14_4 < (t1109.length:Int):=of_decide_eq_true (by first|(with_reducible assumption)|assumption)
                   obtain ⟨ad1120,e1120,hx1120_0⟩:=Kd.at_int (zN HO_10.out).2.2 x14_4 p1120 q1120;obtain rfl:ad1118 = ad1120:=(by injection e1120)
                   replace p1120:=eq_true p1120;replace q1120:=eq_true q1120;have p1121:0 ≤ (x14_4:Int):=of_decide_eq_true (by first|(with_reducible assumption)|assumption)
                   have q1121:x14_4 < (t1109.length:Int):=of_decide_eq_true (by first|(with_reducible assumption)|assumption)
                   obtain ⟨ad1121,e1121,hx1121_0⟩:=Kd.at_int (zN HO_10.out).2.2 x14_4 p1121 q1121;obtain rfl:ad1118 = ad1121:=(by injection e1121)
                   replace p1121:=eq_true p1121;replace q1121:=eq_true q1121;have p1122:0 ≤ (x14_4:Int):=of_decide_eq_true (by first|(with_reducible assumption)|assumption)
                   have q1122:x14_4 < (t1097.length:Int):=of_decide_eq_true (by first|(with_reducible assumption)|assumption)
                   obtain ⟨ad1122,e1122,hx1122_0⟩:=Kd.at_int (zN HO_5.out).2.2 x14_4 p1122 q1122;obtain rfl:ad1119 = ad1122:=(by injection e1122)
                   replace p1122:=eq_true p1122;replace q1122:=eq_true q1122;go_wp2
                   repeat (go_quiet (fail);try go_wp2)
                   go_ret
                   exact ⟨by first|rfl|(simp [errW_none,errW_some] <;> rfl)|(simp [*,errW_none,errW_some] <;> rfl),by repeat (first|(with_reducible first|exact HB.out|apply zD|apply zE|apply zF|refine below_set ?_ GE1096.out)|exact HB.out)⟩
                  ·as_aux_lemma =>
                   rw [if_neg c55] at H;have c55b0:decide ((rd t1097 x14_4) ≤ (wrap64 ((wrap64 ((rd t1109 x14_4) - 1)) * t1095))) = false:=decide_eq_false c55
                   clear c55;by_cases c58:(rd t1109 x14_4) > 4
                   ·as_aux_lemma =>
                    rw [if_pos c58] at H;have c58b0:decide (4 < (rd t1109 x14_4)) = true:=decide_eq_true c58
                    clear c58;obtain rfl:=Option.some.inj H;obtain ⟨Ao59,co59,eo59⟩:=Kd.R_slice HO_10.out;subst eo59;have p1118:0 ≤ (x14_4:Int):=of_decide_eq_true (by first|(with_reducible assumption)|assumption)
                    have q1118:x14_4 < (t1109.length:Int):=of_decide_eq_true (by first|(with_reducible assumption)|assumption)
                    obtain ⟨ad1118,e1118,hx1118_0⟩:=Kd.at_int (zN HO_10.out).2.2 x14_4 p1118 q1118;cases e1118
                    replace p1118:=eq_true p1118;replace q1118:=eq_true q1118;have hcz60_0:wr.cell? ⟨gb1096,0,none⟩ = some (.int .i64 t1093):=(blk_cell BK1096.out 0).trans rfl
                    have hcz60_1:wr.cell? ⟨gb1096,1,none⟩ = some (.int .i64 t1094):=(blk_cell BK1096.out 1).trans rfl
                    have hcz60_2:wr.cell? ⟨gb1096,2,none⟩ = some (.int .i64 t1095):=(blk_cell BK1096.out 2).trans rfl
                    have hfz60_0:=blk_frozen BK1096.out 0;have hfz60_1:=blk_frozen BK1096.out 1;have hfz60_2:=blk_frozen BK1096.out 2;have p1119:0 ≤ (x14_4:Int):=of_decide_eq_true (by first|(with_reducible assumption)|assumption)
                    have q1119:x14_4 < (t1097.length:Int):=of_decide_eq_true (by first|(with_reducible assumption)|assumption)
                    obtain ⟨ad1119,e1119,hx1119_0⟩:=Kd.at_int (zN HO_5.out).2.2 x14_4 p1119 q1119;cases e1119
                    replace p1119:=eq_true p1119;replace q1119:=eq_true q1119;have p1120:0 ≤ (x14_4:Int):=of_decide_eq_true (by first|(with_reducible assumption)|assumption)
                    have q1120:x14_4 < (t1109.length:Int):=of_decide_eq_true (by first|(with_reducible assumption)|assumption)
                    obtain ⟨ad1120,e1120,hx1120_0⟩:=Kd.at_int (zN HO_10.out).2.2 x14_4 p1120 q1120;obtain rfl:ad1118 = ad1120:=(by injection e1120)
                    replace p1120:=eq_true p1120;replace q1120:=eq_true q1120;have p1121:0 ≤ (x14_4:Int):=of_decide_eq_true (by first|(with_reducible assumption)|assumption)
                    have q1121:x14_4 < (t1109.length:Int):=of_decide_eq_true (by first|(with_reducible assumption)|assumption)
                    obtain ⟨ad1121,e1121,hx1121_0⟩:=Kd.at_int (zN HO_10.out).2.2 x14_4 p1121 q1121;obtain rfl:ad1118 = ad1121:=(by injection e1121)
                    replace p1121:=eq_true p1121;replace q1121:=eq_true q1121;have p1122:0 ≤ (x14_4:Int):=of_decide_eq_true (by first|(with_reducible assumption)|assumption)
                    have q1122:x14_4 < (t1097.length:Int):=of_decide_eq_true (by first|(with_reducible assumption)|assumption)
                    obtain ⟨ad1122,e1122,hx1122_0⟩:=Kd.at_int (zN HO_5.out).2.2 x14_4 p1122 q1122;obtain rfl:ad1119 = ad1122:=(by injection e1122)
                    replace p1122:=eq_true p1122;replace q1122:=eq_true q1122;have p1123:0 ≤ (x14_4:Int):=of_decide_eq_true (by first|(with_reducible assumption)|assumption)
                    have q1123:x14_4 < (t1109.length:Int):=of_decide_eq_true (by first|(with_reducible assumption)|assumption)
                    obtain ⟨ad1123,e1123,hx1123_0⟩:=Kd.at_int (zN HO_10.out).2.2 x14_4 p1123 q1123;obtain rfl:ad1118 = ad1123:=(by injection e1123)
                    replace p1123:=eq_true p1123;replace q1123:=eq_true q1123;go_wp2
                    repeat (go_quiet (fail);try go_wp2)
                    go_ret
                    exact ⟨by first|rfl|(simp [errW_none,errW_some] <;> rfl)|(simp [*,errW_none,errW_some] <;> rfl),by repeat (first|(with_reducible first|exact HB.out|apply zD|apply zE|apply zF|refine below_set ?_ GE1096.out)|exact HB.out)⟩
                   ·as_aux_lemma =>
                    rw [if_neg c58] at H;have c58b0:decide (4 < (rd t1109 x14_4)) = false:=decide_eq_false c58
                    clear c58;have H':=zM H;clear H;obtain ⟨Ao61,co61,eo61⟩:=Kd.R_slice HO_10.out;subst eo61;have p1118:0 ≤ (x14_4:Int):=of_decide_eq_true (by first|(with_reducible assumption)|assumption)
                    have q1118:x14_4 < (t1109.length:Int):=of_decide_eq_true (by first|(with_reducible assumption)|assumption)
                    obtain ⟨ad1118,e1118,hx1118_0⟩:=Kd.at_int (zN HO_10.out).2.2 x14_4 p1118 q1118;cases e1118
                    replace p1118:=eq_true p1118;replace q1118:=eq_true q1118;have hcz62_0:wr.cell? ⟨gb1096,0,none⟩ = some (.int .i64 t1093):=(blk_cell BK1096.out 0).trans rfl
                    have hcz62_1:wr.cell? ⟨gb1096,1,none⟩ = some (.int .i64 t1094):=(blk_cell BK1096.out 1).trans rfl
                    have hcz62_2:wr.cell? ⟨gb1096,2,none⟩ = some (.int .i64 t1095):=(blk_cell BK1096.out 2).trans rfl
                    have hfz62_0:=blk_frozen BK1096.out 0;have hfz62_1:=blk_frozen BK1096.out 1;have hfz62_2:=blk_frozen BK1096.out 2;have p1119:0 ≤ (x14_4:Int):=of_decide_eq_true (by first|(with_reducible assumption)|assumption)
                    have q1119:x14_4 < (t1097.length:Int):=of_decide_eq_true (by first|(with_reducible assumption)|assumption)
                    obtain ⟨ad1119,e1119,hx1119_0⟩:=Kd.at_int (zN HO_5.out).2.2 x14_4 p1119 q1119;cases e1119
                    replace p1119:=eq_true p1119;replace q1119:=eq_true q1119;have p1120:0 ≤ (x14_4:Int):=of_decide_eq_true (by first|(with_reducible assumption)|assumption)
                    have q1120:x14_4 < (t1109.length:Int):=of_decide_eq_true (by first|(with_reducible assumption)|assumption)
                    obtain ⟨ad1120,e1120,hx1120_0⟩:=Kd.at_int (zN HO_10.out).2.2 x14_4 p1120 q1120;obtain rfl:ad1118 = ad1120:=(by injection e1120)
                    replace p1120:=eq_true p1120;replace q1120:=eq_true q1120;have p1121:0 ≤ (x14_4:Int):=of_decide_eq_true (by first|(with_reducible assumption)|assumption)
                    have q1121:x14_4 < (t1109.length:Int):=of_decide_eq_true (by first|(with_reducible assumption)|assumption)
                    obtain ⟨ad1121,e1121,hx1121_0⟩:=Kd.at_int (zN HO_10.out).2.2 x14_4 p1121 q1121;obtain rfl:ad1118 = ad1121:=(by injection e1121)
                    replace p1121:=eq_true p1121;replace q1121:=eq_true q1121;have p1122:0 ≤ (x14_4:Int):=of_decide_eq_true (by first|(with_reducible assumption)|assumption)
                    have q1122:x14_4 < (t1097.length:Int):=of_decide_eq_true (by first|(with_reducible assumption)|assumption)
                    obtain ⟨ad1122,e1122,hx1122_0⟩:=Kd.at_int (zN HO_5.out).2.2 x14_4 p1122 q1122;obtain rfl:ad1119 = ad1122:=(by injection e1122)
                    replace p1122:=eq_true p1122;replace q1122:=eq_true q1122;have p1123:0 ≤ (x14_4:Int):=of_decide_eq_true (by first|(with_reducible assumption)|assumption)
                    have q1123:x14_4 < (t1109.length:Int):=of_decide_eq_true (by first|(with_reducible assumption)|assumption)
                    obtain ⟨ad1123,e1123,hx1123_0⟩:=Kd.at_int (zN HO_10.out).2.2 x14_4 p1123 q1123;obtain rfl:ad1118 = ad1123:=(by injection e1123)
                    replace p1123:=eq_true p1123;replace q1123:=eq_true q1123;go_wp2
                    repeat (go_quiet (fail);try go_wp2)
                    go_roundg k4
                    case measure=>have:=HJ6.out;have:=HK2.out;have:=HJ36.out;have:=HK4.out;omega
                    case rel=>exact ⟨(wrap64 (x14_4 + 1)),(by first|rfl|(simp;done)|(simp [*];done)),H',⟨by have:=HJ6.out;have:=HK2.out;have:=HJ36.out;have:=HK4.out;omega⟩,⟨by (with_reducible repeat (first|apply zA|apply zB|apply zC));exact HO_3.out⟩,⟨by (with_reducible repeat (first|apply zA|apply zB|apply zC));exact HO_5.out⟩,⟨by (with_reducible repeat (first|apply zA|apply zB|apply zC));exact HO_10.out⟩,⟨by (with_reducible repeat (first|refine zJ ?_ _|refine zK ?_|refine zL ?_ _));exact BK1096.out⟩,⟨by repeat (first|(with_reducible first|exact HB.out|apply zD|apply zE|apply zF|refine below_set ?_ GE1096.out)|exact HB.out)⟩⟩
                 ·as_aux_lemma =>
                  rw [if_neg c54] at H;have c54b0:decide (0 < (rd t1109 x14_4)) = false:=decide_eq_false c54
                  clear c54;by_cases c63:(rd t1109 x14_4) > 4
                  ·as_aux_lemma =>
                   rw [if_pos c63] at H;have c63b0:decide (4 < (rd t1109 x14_4)) = true:=decide_eq_true c63
                   clear c63;obtain rfl:=Option.some.inj H;obtain ⟨Ao64,co64,eo64⟩:=Kd.R_slice HO_10.out;subst eo64;have p1118:0 ≤ (x14_4:Int):=of_decide_eq_true (by first|(with_reducible assumption)|assumption)
                   have q1118:x14_4 < (t1109.length:Int):=of_decide_eq_true (by first|(with_reducible assumption)|assumption)
                   obtain ⟨ad1118,e1118,hx1118_0⟩:=Kd.at_int (zN HO_10.out).2.2 x14_4 p1118 q1118;cases e1118
                   replace p1118:=eq_true p1118;replace q1118:=eq_true q1118;have hcz65_0:wr.cell? ⟨gb1096,0,none⟩ = some (.int .i64 t1093):=(blk_cell BK1096.out 0).trans rfl
                   have hcz65_1:wr.cell? ⟨gb1096,1,none⟩ = some (.int .i64 t1094):=(blk_cell BK1096.out 1).trans rfl
                   have hcz65_2:wr.cell? ⟨gb1096,2,none⟩ = some (.int .i64 t1095):=(blk_cell BK1096.out 2).trans rfl
                   have hfz65_0:=blk_frozen BK1096.out 0;have hfz65_1:=blk_frozen BK1096.out 1;have hfz65_2:=blk_frozen BK1096.out 2;have p1119:0 ≤ (x14_4:Int):=of_decide_eq_true (by first|(with_reducible assumption)|assumption)
                   have q1119:x14_4 < (t1097.length:Int):=of_decide_eq_true (by first|(with_reducible assumption)|assumption)
                   obtain ⟨ad1119,e1119,hx1119_0⟩:=Kd.at_int (zN HO_5.out).2.2 x14_4 p1119 q1119;cases e1119
                   replace p1119:=eq_true p1119;replace q1119:=eq_true q1119;have p1120:0 ≤ (x14_4:Int):=of_decide_eq_true (by first|(with_reducible assumption)|assumption)
                   have q1120:x14_4 < (t1109.length:Int):=of_decide_eq_true (by first|(with_reducible assumption)|assumption)
                   obtain ⟨ad1120,e1120,hx1120_0⟩:=Kd.at_int (zN HO_10.out).2.2 x14_4 p1120 q1120;obtain rfl:ad1118 = ad1120:=(by injection e1120)
                   replace p1120:=eq_true p1120;replace q1120:=eq_true q1120;have p1124:0 ≤ (x14_4:Int):=of_decide_eq_true (by first|(with_reducible assumption)|assumption)
                   have q1124:x14_4 < (t1109.length:Int):=of_decide_eq_true (by first|(with_reducible assumption)|assumption)
                   obtain ⟨ad1124,e1124,hx1124_0⟩:=Kd.at_int (zN HO_10.out).2.2 x14_4 p1124 q1124;obtain rfl:ad1118 = ad1124:=(by injection e1124)
                   replace p1124:=eq_true p1124;replace q1124:=eq_true q1124;go_wp2
                   repeat (go_quiet (fail);try go_wp2)
                   go_ret
                   exact ⟨by first|rfl|(simp [errW_none,errW_some] <;> rfl)|(simp [*,errW_none,errW_some] <;> rfl),by repeat (first|(with_reducible first|exact HB.out|apply zD|apply zE|apply zF|refine below_set ?_ GE1096.out)|exact HB.out)⟩
                  ·as_aux_lemma =>
                   rw [if_neg c63] at H;have c63b0:decide (4 < (rd t1109 x14_4)) = false:=decide_eq_false c63
                   clear c63;have H':=zM H;clear H;obtain ⟨Ao66,co66,eo66⟩:=Kd.R_slice HO_10.out;subst eo66;have p1118:0 ≤ (x14_4:Int):=of_decide_eq_true (by first|(with_reducible assumption)|assumption)
                   have q1118:x14_4 < (t1109.length:Int):=of_decide_eq_true (by first|(with_reducible assumption)|assumption)
                   obtain ⟨ad1118,e1118,hx1118_0⟩:=Kd.at_int (zN HO_10.out).2.2 x14_4 p1118 q1118;cases e1118
                   replace p1118:=eq_true p1118;replace q1118:=eq_true q1118;have hcz67_0:wr.cell? ⟨gb1096,0,none⟩ = some (.int .i64 t1093):=(blk_cell BK1096.out 0).trans rfl
                   have hcz67_1:wr.cell? ⟨gb1096,1,none⟩ = some (.int .i64 t1094):=(blk_cell BK1096.out 1).trans rfl
                   have hcz67_2:wr.cell? ⟨gb1096,2,none⟩ = some (.int .i64 t1095):=(blk_cell BK1096.out 2).trans rfl
                   have hfz67_0:=blk_frozen BK1096.out 0;have hfz67_1:=blk_frozen BK1096.out 1;have hfz67_2:=blk_frozen BK1096.out 2;have p1119:0 ≤ (x14_4:Int):=of_decide_eq_true (by first|(with_reducible assumption)|assumption)
                   have q1119:x14_4 < (t1097.length:Int):=of_decide_eq_true (by first|(with_reducible assumption)|assumption)
                   obtain ⟨ad1119,e1119,hx1119_0⟩:=Kd.at_int (zN HO_5.out).2.2 x14_4 p1119 q1119;cases e1119
                   replace p1119:=eq_true p1119;replace q1119:=eq_true q1119;have p1120:0 ≤ (x14_4:Int):=of_decide_eq_true (by first|(with_reducible assumption)|assumption)
                   have q1120:x14_4 < (t1109.length:Int):=of_decide_eq_true (by first|(with_reducible assumption)|assumption)
                   obtain ⟨ad1120,e1120,hx1120_0⟩:=Kd.at_int (zN HO_10.out).2.2 x14_4 p1120 q1120;obtain rfl:ad1118 = ad1120:=(by injection e1120)
                   replace p1120:=eq_true p1120;replace q1120:=eq_true q1120;have p1124:0 ≤ (x14_4:Int):=of_decide_eq_true (by first|(with_reducible assumption)|assumption)
                   have q1124:x14_4 < (t1109.length:Int):=of_decide_eq_true (by first|(with_reducible assumption)|assumption)
                   obtain ⟨ad1124,e1124,hx1124_0⟩:=Kd.at_int (zN HO_10.out).2.2 x14_4 p1124 q1124;obtain rfl:ad1118 = ad1124:=(by injection e1124)
                   replace p1124:=eq_true p1124;replace q1124:=eq_true q1124;go_wp2
                   repeat (go_quiet (fail);try go_wp2)
                   go_roundg k4
                   case measure=>have:=HJ6.out;have:=HK2.out;have:=HJ36.out;have:=HK4.out;omega
                   case rel=>exact ⟨(wrap64 (x14_4 + 1)),(by first|rfl|(simp;done)|(simp [*];done)),H',⟨by have:=HJ6.out;have:=HK2.out;have:=HJ36.out;have:=HK4.out;omega⟩,⟨by (with_reducible repeat (first|apply zA|apply zB|apply zC));exact HO_3.out⟩,⟨by (with_reducible repeat (first|apply zA|apply zB|apply zC));exact HO_5.out⟩,⟨by (with_reducible repeat (first|apply zA|apply zB|apply zC));exact HO_10.out⟩,⟨by (with_reducible repeat (first|refine zJ ?_ _|refine zK ?_|refine zL ?_ _));exact BK1096.out⟩,⟨by repeat (first|(with_reducible first|exact HB.out|apply zD|apply zE|apply zF|refine below_set ?_ GE1096.out)|exact HB.out)⟩⟩
               ·as_aux_lemma =>
                rw [if_neg c50] at H;exact absurd H (by simp)
              ·as_aux_lemma =>
               rw [if_neg c49] at H;exact absurd H (by simp)
             ·as_aux_lemma =>
              rw [if_neg c48] at H;have c48b0:decide (x14_4 < (t1109.length:Int)) = false:=decide_eq_false c48
              clear c48;replace H:=Option.bind_eq_some_iff.mp H;obtain ⟨⟨t1125,t1126⟩,A680,H⟩:=H;replace H:((spec_HeavyFirst.f k4 t1090).bind fun bt1129=>(if (t1126 != bt1129.2) = true then (laws_FnForces.j4 k4 t1090 t1097 true t1093 t1094 t1095) else ((laws_rInts.f k4 t1125 bt1129.1).bind fun t1133=>(if t1133 = true then ((laws_rSum.f k4 t1125).bind fun t1134=>((laws_rSum.f k4 t1090).bind fun t1135=>(if t1134 = t1135 then (laws_FnForces.j4 k4 t1090 t1097 false t1093 t1094 t1095) else (laws_FnForces.j4 k4 t1090 t1097 t1126 t1093 t1094 t1095)))) else (laws_FnForces.j4 k4 t1090 t1097 true t1093 t1094 t1095))))) = some r:=H
              have A68:=zM A680;clear A680;replace H:=Option.bind_eq_some_iff.mp H;obtain ⟨⟨t1129,t1130⟩,A690,H⟩:=H;replace H:(if (t1126 != t1130) = true then (laws_FnForces.j4 k4 t1090 t1097 true t1093 t1094 t1095) else ((laws_rInts.f k4 t1125 t1129).bind fun t1133=>(if t1133 = true then ((laws_rSum.f k4 t1125).bind fun t1134=>((laws_rSum.f k4 t1090).bind fun t1135=>(if t1134 = t1135 then (laws_FnForces.j4 k4 t1090 t1097 false t1093 t1094 t1095) else (laws_FnForces.j4 k4 t1090 t1097 t1126 t1093 t1094 t1095)))) else (laws_FnForces.j4 k4 t1090 t1097 true t1093 t1094 t1095)))) = some r:=H
              have A69:=zM A690;clear A690;have HC70:=zM H;clear H;obtain ⟨Ao71,co71,eo71⟩:=Kd.R_slice HO_10.out;subst eo71;go_upto_region 24 with (first|(go_at_call 33;(with_reducible refine (impl_HeavyFirst.calls _ _ t1090 t1125 t1126 _ ?side1 ?side2 A68.out).mono ?_);(case side1=>repeat (first|exact (zN HO_3.out).2.2|(with_reducible first|refine zG ?_ _|refine zH ?_ _|refine zI ?_)));(case side2=>exact (zN HO_3.out).2.1);rintro e w72 ⟨v1127,rfl,ho0,hb⟩;have n0_:=zM (Kd.R_elder' (by (with_reducible repeat (first|apply zA|apply zB|apply zC));exact HO_3.out) (Kd.R_base ho0) hb);have n1_:=zM (Kd.R_elder' (by (with_reducible repeat (first|apply zA|apply zB|apply zC));exact HO_5.out) (Kd.R_base ho0) hb);have n2_:=zM (Kd.R_elder' (by (with_reducible repeat (first|apply zA|apply zB|apply zC));exact HO_10.out) (Kd.R_base ho0) hb);have n3_:=zM (Kd.R_lower (Kd.R_new' (Kd.R_new' (Kd.R_new' ho0 (Kd.R_lt (by (with_reducible repeat (first|apply zA|apply zB|apply zC));exact HO_3.out))) (Kd.R_lt (by (with_reducible repeat (first|apply zA|apply zB|apply zC));exact HO_5.out))) (Kd.R_lt (by (with_reducible repeat (first|apply zA|apply zB|apply zC));exact HO_10.out))) (zR (by repeat (first|(with_reducible first|exact HB.out|apply zD|apply zE|apply zF|refine below_set ?_ GE1096.out)|exact HB.out))));have n4_:=zM (blk_below (g:=gb1096) (o := .cells #[.int .i64 t1093,.int .i64 t1094,.int .i64 t1095] 28 (0,0)) (by (with_reducible repeat (first|refine zJ ?_ _|refine zK ?_|refine zL ?_ _));exact BK1096.out) hb);have n5_:=zM (zQ (by repeat (first|(with_reducible first|exact HB.out|apply zD|apply zE|apply zF|refine below_set ?_ GE1096.out)|exact HB.out)) hb);clear HO_3;clear HO_5;clear HO_10;clear BK1096;clear HB;have HO_3:=n0_;have HO_5:=n1_;have HO_10:=n2_;have HO1128:=n3_;have BK1096:=n4_;have HB:=n5_;clear n0_ n1_ n2_ n3_ n4_ n5_;(try clear hb);(try clear hb2);(try clear hk);(try clear hi);(try clear ho0))|(go_at_call 32;(with_reducible refine (spec_HeavyFirst.calls k4 _ _ t1090 t1129 t1130 _ ?side1 ?side2 A69.out).mono ?_);(case side1=>repeat (first|exact (zN HO_3.out).2.2|(with_reducible first|refine zG ?_ _|refine zH ?_ _|refine zI ?_)));(case side2=>exact (zN HO_3.out).2.1);rintro e w73 ⟨v1131,rfl,ho0,hb⟩;have n0_:=zM (Kd.R_elder' (by (with_reducible repeat (first|apply zA|apply zB|apply zC));exact HO_3.out) (Kd.R_base ho0) hb);have n1_:=zM (Kd.R_elder' (by (with_reducible repeat (first|apply zA|apply zB|apply zC));exact HO_5.out) (Kd.R_base ho0) hb);have n2_:=zM (Kd.R_elder' (by (with_reducible repeat (first|apply zA|apply zB|apply zC));exact HO_10.out) (Kd.R_base ho0) hb);have n3_:=zM (Kd.R_elder' (by (with_reducible repeat (first|apply zA|apply zB|apply zC));exact HO1128.out) (Kd.R_base ho0) hb);have n4_:=zM (Kd.R_lower (Kd.R_new' (Kd.R_new' (Kd.R_new' (Kd.R_new' ho0 (Kd.R_lt (by (with_reducible repeat (first|apply zA|apply zB|apply zC));exact HO_3.out))) (Kd.R_lt (by (with_reducible repeat (first|apply zA|apply zB|apply zC));exact HO_5.out))) (Kd.R_lt (by (with_reducible repeat (first|apply zA|apply zB|apply zC));exact HO_10.out))) (Kd.R_lt (by (with_reducible repeat (first|apply zA|apply zB|apply zC));exact HO1128.out))) (zR (by repeat (first|(with_reducible first|exact HB.out|apply zD|apply zE|apply zF|refine below_set ?_ GE1096.out)|exact HB.out))));have n5_:=zM (blk_below (g:=gb1096) (o := .cells #[.int .i64 t1093,.int .i64 t1094,.int .i64 t1095] 28 (0,0)) (by (with_reducible repeat (first|refine zJ ?_ _|refine zK ?_|refine zL ?_ _));exact BK1096.out) hb);have n6_:=zM (zQ (by repeat (first|(with_reducible first|exact HB.out|apply zD|apply zE|apply zF|refine below_set ?_ GE1096.out)|exact HB.out)) hb);clear HO_3;clear HO_5;clear HO_10;clear HO1128;clear BK1096;clear HB;have HO_3:=n0_;have HO_5:=n1_;have HO_10:=n2_;have HO1128:=n3_;have HO1132:=n4_;have BK1096:=n5_;have HB:=n6_;clear n0_ n1_ n2_ n3_ n4_ n5_ n6_;(try clear hb);(try clear hb2);(try clear hk);(try clear hi);(try clear ho0)))
              repeat (go_quiet (first|(go_at_call 33;(with_reducible refine (impl_HeavyFirst.calls _ _ t1090 t1125 t1126 _ ?side1 ?side2 A68.out).mono ?_);(case side1=>repeat (first|exact (zN HO_3.out).2.2|(with_reducible first|refine zG ?_ _|refine zH ?_ _|refine zI ?_)));(case side2=>exact (zN HO_3.out).2.1);rintro e w72 ⟨v1127,rfl,ho0,hb⟩;have n0_:=zM (Kd.R_elder' (by (with_reducible repeat (first|apply zA|apply zB|apply zC));exact HO_3.out) (Kd.R_base ho0) hb);have n1_:=zM (Kd.R_elder' (by (with_reducible repeat (first|apply zA|apply zB|apply zC));exact HO_5.out) (Kd.R_base ho0) hb);have n2_:=zM (Kd.R_elder' (by (with_reducible repeat (first|apply zA|apply zB|apply zC));exact HO_10.out) (Kd.R_base ho0) hb);have n3_:=zM (Kd.R_lower (Kd.R_new' (Kd.R_new' (Kd.R_new' ho0 (Kd.R_lt (by (with_reducible repeat (first|apply zA|apply zB|apply zC));exact HO_3.out))) (Kd.R_lt (by (with_reducible repeat (first|apply zA|apply zB|apply zC));exact HO_5.out))) (Kd.R_lt (by (with_reducible repeat (first|apply zA|apply zB|apply zC));exact HO_10.out))) (zR (by repeat (first|(with_reducible first|exact HB.out|apply zD|apply zE|apply zF|refine below_set ?_ GE1096.out)|exact HB.out))));have n4_:=zM (blk_below (g:=gb1096) (o := .cells #[.int .i64 t1093,.int .i64 t1094,.int .i64 t1095] 28 (0,0)) (by (with_reducible repeat (first|refine zJ ?_ _|refine zK ?_|refine zL ?_ _));exact BK1096.out) hb);have n5_:=zM (zQ (by repeat (first|(with_reducible first|exact HB.out|apply zD|apply zE|apply zF|refine below_set ?_ GE1096.out)|exact HB.out)) hb);clear HO_3;clear HO_5;clear HO_10;clear BK1096;clear HB;have HO_3:=n0_;have HO_5:=n1_;have HO_10:=n2_;have HO1128:=n3_;have BK1096:=n4_;have HB:=n5_;clear n0_ n1_ n2_ n3_ n4_ n5_;(try clear hb);(try clear hb2);(try clear hk);(try clear hi);(try clear ho0))|(go_at_call 32;(with_reducible refine (spec_HeavyFirst.calls k4 _ _ t1090 t1129 t1130 _ ?side1 ?side2 A69.out).mono ?_);(case side1=>repeat (first|exact (zN HO_3.out).2.2|(with_reducible first|refine zG ?_ _|refine zH ?_ _|refine zI ?_)));(case side2=>exact (zN HO_3.out).2.1);rintro e w73 ⟨v1131,rfl,ho0,hb⟩;have n0_:=zM (Kd.R_elder' (by (with_reducible repeat (first|apply zA|apply zB|apply zC));exact HO_3.out) (Kd.R_base ho0) hb);have n1_:=zM (Kd.R_elder' (by (with_reducible repeat (first|apply zA|apply zB|apply zC));exact HO_5.out) (Kd.R_base ho0) hb);have n2_:=zM (Kd.R_elder' (by (with_reducible repeat (first|apply zA|apply zB|apply zC));exact HO_10.out) (Kd.R_base ho0) hb);have n3_:=zM (Kd.R_elder' (by (with_reducible repeat (first|apply zA|apply zB|apply zC));exact HO1128.out) (Kd.R_base ho0) hb);have n4_:=zM (Kd.R_lower (Kd.R_new' (Kd.R_new' (Kd.R_new' (Kd.R_new' ho0 (Kd.R_lt (by (with_reducible repeat (first|apply zA|apply zB|apply zC));exact HO_3.out))) (Kd.R_lt (by (with_reducible repeat (first|apply zA|apply zB|apply zC));exact HO_5.out))) (Kd.R_lt (by (with_reducible repeat (first|apply zA|apply zB|apply zC));exact HO_10.out))) (Kd.R_lt (by (with_reducible repeat (first|apply zA|apply zB|apply zC));exact HO1128.out))) (zR (by repeat (first|(with_reducible first|exact HB.out|apply zD|apply zE|apply zF|refine below_set ?_ GE1096.out)|exact HB.out))));have n5_:=zM (blk_below (g:=gb1096) (o := .cells #[.int .i64 t1093,.int .i64 t1094,.int .i64 t1095] 28 (0,0)) (by (with_reducible repeat (first|refine zJ ?_ _|refine zK ?_|refine zL ?_ _));exact BK1096.out) hb);have n6_:=zM (zQ (by repeat (first|(with_reducible first|exact HB.out|apply zD|apply zE|apply zF|refine below_set ?_ GE1096.out)|exact HB.out)) hb);clear HO_3;clear HO_5;clear HO_10;clear HO1128;clear BK1096;clear HB;have HO_3:=n0_;have HO_5:=n1_;have HO_10:=n2_;have HO1128:=n3_;have HO1132:=n4_;have BK1096:=n5_;have HB:=n6_;clear n0_ n1_ n2_ n3_ n4_ n5_ n6_;(try clear hb);(try clear hb2);(try clear hk);(try clear hi);(try clear ho0)));go_upto_region 24 with (first|(go_at_call 33;(with_reducible refine (impl_HeavyFirst.calls _ _ t1090 t1125 t1126 _ ?side1 ?side2 A68.out).mono ?_);(case side1=>repeat (first|exact (zN HO_3.out).2.2|(with_reducible first|refine zG ?_ _|refine zH ?_ _|refine zI ?_)));(case side2=>exact (zN HO_3.out).2.1);rintro e w72 ⟨v1127,rfl,ho0,hb⟩;have n0_:=zM (Kd.R_elder' (by (with_reducible repeat (first|apply zA|apply zB|apply zC));exact HO_3.out) (Kd.R_base ho0) hb);have n1_:=zM (Kd.R_elder' (by (with_reducible repeat (first|apply zA|apply zB|apply zC));exact HO_5.out) (Kd.R_base ho0) hb);have n2_:=zM (Kd.R_elder' (by (with_reducible repeat (first|apply zA|apply zB|apply zC));exact HO_10.out) (Kd.R_base ho0) hb);have n3_:=zM (Kd.R_lower (Kd.R_new' (Kd.R_new' (Kd.R_new' ho0 (Kd.R_lt (by (with_reducible repeat (first|apply zA|apply zB|apply zC));exact HO_3.out))) (Kd.R_lt (by (with_reducible repeat (first|apply zA|apply zB|apply zC));exact HO_5.out))) (Kd.R_lt (by (with_reducible repeat (first|apply zA|apply zB|apply zC));exact HO_10.out))) (zR (by repeat (first|(with_reducible first|exact HB.out|apply zD|apply zE|apply zF|refine below_set ?_ GE1096.out)|exact HB.out))));have n4_:=zM (blk_below (g:=gb1096) (o := .cells #[.int .i64 t1093,.int .i64 t1094,.int .i64 t1095] 28 (0,0)) (by (with_reducible repeat (first|refine zJ ?_ _|refine zK ?_|refine zL ?_ _));exact BK1096.out) hb);have n5_:=zM (zQ (by repeat (first|(with_reducible first|exact HB.out|apply zD|apply zE|apply zF|refine below_set ?_ GE1096.out)|exact HB.out)) hb);clear HO_3;clear HO_5;clear HO_10;clear BK1096;clear HB;have HO_3:=n0_;have HO_5:=n1_;have HO_10:=n2_;have HO1128:=n3_;have BK1096:=n4_;have HB:=n5_;clear n0_ n1_ n2_ n3_ n4_ n5_;(try clear hb);(try clear hb2);(try clear hk);(try clear hi);(try clear ho0))|(go_at_call 32;(with_reducible refine (spec_HeavyFirst.calls k4 _ _ t1090 t1129 t1130 _ ?side1 ?side2 A69.out).mono ?_);(case side1=>repeat (first|exact (zN HO_3.out).2.2|(with_reducible first|refine zG ?_ _|refine zH ?_ _|refine zI ?_)));(case side2=>exact (zN HO_3.out).2.1);rintro e w73 ⟨v1131,rfl,ho0,hb⟩;have n0_:=zM (Kd.R_elder' (by (with_reducible repeat (first|apply zA|apply zB|apply zC));exact HO_3.out) (Kd.R_base ho0) hb);have n1_:=zM (Kd.R_elder' (by (with_reducible repeat (first|apply zA|apply zB|apply zC));exact HO_5.out) (Kd.R_base ho0) hb);have n2_:=zM (Kd.R_elder' (by (with_reducible repeat (first|apply zA|apply zB|apply zC));exact HO_10.out) (Kd.R_base ho0) hb);have n3_:=zM (Kd.R_elder' (by (with_reducible repeat (first|apply zA|apply zB|apply zC));exact HO1128.out) (Kd.R_base ho0) hb);have n4_:=zM (Kd.R_lower (Kd.R_new' (Kd.R_new' (Kd.R_new' (Kd.R_new' ho0 (Kd.R_lt (by (with_reducible repeat (first|apply zA|apply zB|apply zC));exact HO_3.out))) (Kd.R_lt (by (with_reducible repeat (first|apply zA|apply zB|apply zC));exact HO_5.out))) (Kd.R_lt (by (with_reducible repeat (first|apply zA|apply zB|apply zC));exact HO_10.out))) (Kd.R_lt (by (with_reducible repeat (first|apply zA|apply zB|apply zC));exact HO1128.out))) (zR (by repeat (first|(with_reducible first|exact HB.out|apply zD|apply zE|apply zF|refine below_set ?_ GE1096.out)|exact HB.out))));have n5_:=zM (blk_below (g:=gb1096) (o := .cells #[.int .i64 t1093,.int .i64 t1094,.int .i64 t1095] 28 (0,0)) (by (with_reducible repeat (first|refine zJ ?_ _|refine zK ?_|refine zL ?_ _));exact BK1096.out) hb);have n6_:=zM (zQ (by repeat (first|(with_reducible first|exact HB.out|apply zD|apply zE|apply zF|refine below_set ?_ GE1096.out)|exact HB.out)) hb);clear HO_3;clear HO_5;clear HO_10;clear HO1128;clear BK1096;clear HB;have HO_3:=n0_;have HO_5:=n1_;have HO_10:=n2_;have HO1128:=n3_;have HO1132:=n4_;have BK1096:=n5_;have HB:=n6_;clear n0_ n1_ n2_ n3_ n4_ n5_ n6_;(try clear hb);(try clear hb2);(try clear hk);(try clear hi);(try clear ho0))))
              (try simp only [Act.put,zT,zU,zV])
              go_cut [173] (fun v173 wc => ∃ (kq:Nat) (x173_69:Bool),v173 = .bool x173_69 ∧ Aside0 (laws_FnForces.j4 kq t1090 t1097 x173_69 t1093 t1094 t1095 = some r) ∧ Aside0 (kq ≤ k4) ∧ Aside0 (Kd.R (Kd.int .i64) 3 wc w.heap.size (fun k_=>some k_ ≠ ((.slice Ao38 t1097.length co38):Value).ownBlock) (.slice Ao11 t1090.length co11) t1090) ∧ Aside0 (Kd.R (Kd.int .i64) 3 wc w.heap.size (fun k_=>some k_ ≠ ((.slice Ao11 t1090.length co11):Value).ownBlock) (.slice Ao38 t1097.length co38) t1097) ∧ Aside0 (wc.heap[gb1096]? = some (.cells #[.int .i64 t1093,.int .i64 t1094,.int .i64 t1095] 28 (0,0))) ∧ Aside0 (Below w.heap.size w wc))
              case first =>
               have H:=HC70.out;clear HC70;by_cases c74:(t1126 != t1130) = true
               ·as_aux_lemma =>
                rw [if_pos c74] at H;have c74b0:(t1126 != t1130) = true:=c74
                (try (have c74b1:decide (t1126 = t1130) = false:=by simpa using c74))
                (try (have c74b2:(t1126 == t1130) = false:=by simpa using c74))
                (try (have c74b3:¬ (t1126 = t1130):=by simpa using c74))
                clear c74;(first|rw [c74b0]|(simp only [i64_w,i32_w];rw [c74b0])|skip)
                have H':=zM H;clear H;go_wp2
                repeat (go_quiet (fail);try go_wp2)
                go_meet
                case rel=>exact ⟨_,(true),(by first|rfl|(simp;done)|(simp [*];done)),H',⟨by have:=HJ6.out;have:=HK2.out;have:=HJ36.out;have:=HK4.out;first|omega|exact Nat.le_refl _⟩,⟨by (with_reducible repeat (first|apply zA|apply zB|apply zC));exact Kd.R_mono HO_3.out (fun _ hk=>hk.1.1.1)⟩,⟨by (with_reducible repeat (first|apply zA|apply zB|apply zC));exact Kd.R_mono HO_5.out (fun _ hk=>hk.1.1.1)⟩,⟨by (with_reducible repeat (first|refine zJ ?_ _|refine zK ?_|refine zL ?_ _));exact BK1096.out⟩,⟨by repeat (first|(with_reducible first|exact HB.out|apply zD|apply zE|apply zF|refine below_set ?_ GE1096.out)|exact HB.out)⟩⟩
               ·as_aux_lemma =>
                rw [if_neg c74] at H;have c74b0:(t1126 != t1130) = false:=by simpa using c74
                (try (have c74b1:decide (t1126 = t1130) = true:=by simpa using c74))
                (try (have c74b2:(t1126 == t1130) = true:=by simpa using c74))
                clear c74;(first|rw [c74b0]|(simp only [i64_w,i32_w];rw [c74b0])|skip)
                replace H:=Option.bind_eq_some_iff.mp H;obtain ⟨t1133,A750,H⟩:=H;replace H:(if t1133 = true then ((laws_rSum.f k4 t1125).bind fun t1134=>((laws_rSum.f k4 t1090).bind fun t1135=>(if t1134 = t1135 then (laws_FnForces.j4 k4 t1090 t1097 false t1093 t1094 t1095) else (laws_FnForces.j4 k4 t1090 t1097 t1126 t1093 t1094 t1095)))) else (laws_FnForces.j4 k4 t1090 t1097 true t1093 t1094 t1095)) = some r:=H
                have A75:=zM A750;clear A750;by_cases c76:t1133 = true
                ·as_aux_lemma =>
                 subst c76;have H1:((laws_rSum.f k4 t1125).bind fun t1134=>((laws_rSum.f k4 t1090).bind fun t1135=>(if t1134 = t1135 then (laws_FnForces.j4 k4 t1090 t1097 false t1093 t1094 t1095) else (laws_FnForces.j4 k4 t1090 t1097 t1126 t1093 t1094 t1095)))) = some r:=by rw [if_pos rfl] at H;exact H
                 clear H;have H:=H1;clear H1;replace H:=Option.bind_eq_some_iff.mp H;obtain ⟨t1134,A770,H⟩:=H;replace H:((laws_rSum.f k4 t1090).bind fun t1135=>(if t1134 = t1135 then (laws_FnForces.j4 k4 t1090 t1097 false t1093 t1094 t1095) else (laws_FnForces.j4 k4 t1090 t1097 t1126 t1093 t1094 t1095))) = some r:=H
                 have A77:=zM A770;clear A770;replace H:=Option.bind_eq_some_iff.mp H;obtain ⟨t1135,A780,H⟩:=H;replace H:(if t1134 = t1135 then (laws_FnForces.j4 k4 t1090 t1097 false t1093 t1094 t1095) else (laws_FnForces.j4 k4 t1090 t1097 t1126 t1093 t1094 t1095)) = some r:=H
                 have A78:=zM A780;clear A780;by_cases c79:t1134 = t1135
                 ·as_aux_lemma =>
                  rw [if_pos c79] at H;have c79b0:(t1134 == t1135) = true:=beq_iff_eq.mpr c79
                  have c79b1:(t1134 != t1135) = false:=bne_eq_false_iff_eq.mpr c79
                  clear c79;have H':=zM H;clear H;obtain ⟨Ao80,co80,eo80⟩:=Kd.R_slice HO1128.out;subst eo80;obtain ⟨Ao81,co81,eo81⟩:=Kd.R_slice HO1132.out;subst eo81;go_wp2_with (first|(go_at_call 40;(with_reducible refine (laws_rInts.calls k4 _ _ t1125 _ _ t1129 true _ ?side1 ?side2 ?side3 ?side4 A75.out).mono ?_);(case side1=>repeat (first|exact (zN HO1128.out).2.2|(with_reducible first|refine zG ?_ _|refine zH ?_ _|refine zI ?_)));(case side2=>exact (zN HO1128.out).2.1);(case side3=>repeat (first|exact (zN HO1132.out).2.2|(with_reducible first|refine zG ?_ _|refine zH ?_ _|refine zI ?_)));(case side4=>exact (zN HO1132.out).2.1);rintro e w' ⟨rfl,⟨nd,rfl⟩⟩;(try first|exact ⟨rfl,_,World.drewN_drewN _ _ _⟩|exact ⟨rfl,_,zW _ _ _ _⟩))|(go_at_call 38;(with_reducible refine (laws_rSum.calls k4 _ _ t1125 t1134 _ ?side1 ?side2 A77.out).mono ?_);(case side1=>repeat (first|exact (zN HO1128.out).2.2|(with_reducible first|refine zG ?_ _|refine zH ?_ _|refine zI ?_)));(case side2=>exact (zN HO1128.out).2.1);rintro e w' ⟨rfl,⟨nd,rfl⟩⟩;(try first|exact ⟨rfl,_,World.drewN_drewN _ _ _⟩|exact ⟨rfl,_,zW _ _ _ _⟩))|(go_at_call 38;(with_reducible refine (laws_rSum.calls k4 _ _ t1090 t1135 _ ?side1 ?side2 A78.out).mono ?_);(case side1=>repeat (first|exact (zN HO_3.out).2.2|(with_reducible first|refine zG ?_ _|refine zH ?_ _|refine zI ?_)));(case side2=>exact (zN HO_3.out).2.1);rintro e w' ⟨rfl,⟨nd,rfl⟩⟩;(try first|exact ⟨rfl,_,World.drewN_drewN _ _ _⟩|exact ⟨rfl,_,zW _ _ _ _⟩)))
                  repeat (go_quiet (first|(go_at_call 40;(with_reducible refine (laws_rInts.calls k4 _ _ t1125 _ _ t1129 true _ ?side1 ?side2 ?side3 ?side4 A75.out).mono ?_);(case side1=>repeat (first|exact (zN HO1128.out).2.2|(with_reducible first|refine zG ?_ _|refine zH ?_ _|refine zI ?_)));(case side2=>exact (zN HO1128.out).2.1);(case side3=>repeat (first|exact (zN HO1132.out).2.2|(with_reducible first|refine zG ?_ _|refine zH ?_ _|refine zI ?_)));(case side4=>exact (zN HO1132.out).2.1);rintro e w' ⟨rfl,⟨nd,rfl⟩⟩;(try first|exact ⟨rfl,_,World.drewN_drewN _ _ _⟩|exact ⟨rfl,_,zW _ _ _ _⟩))|(go_at_call 38;(with_reducible refine (laws_rSum.calls k4 _ _ t1125 t1134 _ ?side1 ?side2 A77.out).mono ?_);(case side1=>repeat (first|exact (zN HO1128.out).2.2|(with_reducible first|refine zG ?_ _|refine zH ?_ _|refine zI ?_)));(case side2=>exact (zN HO1128.out).2.1);rintro e w' ⟨rfl,⟨nd,rfl⟩⟩;(try first|exact ⟨rfl,_,World.drewN_drewN _ _ _⟩|exact ⟨rfl,_,zW _ _ _ _⟩))|(go_at_call 38;(with_reducible refine (laws_rSum.calls k4 _ _ t1090 t1135 _ ?side1 ?side2 A78.out).mono ?_);(case side1=>repeat (first|exact (zN HO_3.out).2.2|(with_reducible first|refine zG ?_ _|refine zH ?_ _|refine zI ?_)));(case side2=>exact (zN HO_3.out).2.1);rintro e w' ⟨rfl,⟨nd,rfl⟩⟩;(try first|exact ⟨rfl,_,World.drewN_drewN _ _ _⟩|exact ⟨rfl,_,zW _ _ _ _⟩)));try go_wp2_with (first|(go_at_call 40;(with_reducible refine (laws_rInts.calls k4 _ _ t1125 _ _ t1129 true _ ?side1 ?side2 ?side3 ?side4 A75.out).mono ?_);(case side1=>repeat (first|exact (zN HO1128.out).2.2|(with_reducible first|refine zG ?_ _|refine zH ?_ _|refine zI ?_)));(case side2=>exact (zN HO1128.out).2.1);(case side3=>repeat (first|exact (zN HO1132.out).2.2|(with_reducible first|refine zG ?_ _|refine zH ?_ _|refine zI ?_)));(case side4=>exact (zN HO1132.out).2.1);rintro e w' ⟨rfl,⟨nd,rfl⟩⟩;(try first|exact ⟨rfl,_,World.drewN_drewN _ _ _⟩|exact ⟨rfl,_,zW _ _ _ _⟩))|(go_at_call 38;(with_reducible refine (laws_rSum.calls k4 _ _ t1125 t1134 _ ?side1 ?side2 A77.out).mono ?_);(case side1=>repeat (first|exact (zN HO1128.out).2.2|(with_reducible first|refine zG ?_ _|refine zH ?_ _|refine zI ?_)));(case side2=>exact (zN HO1128.out).2.1);rintro e w' ⟨rfl,⟨nd,rfl⟩⟩;(try first|exact ⟨rfl,_,World.drewN_drewN _ _ _⟩|exact ⟨rfl,_,zW _ _ _ _⟩))|(go_at_call 38;(with_reducible refine (laws_rSum.calls k4 _ _ t1090 t1135 _ ?side1 ?side2 A78.out).mono ?_);(case side1=>repeat (first|exact (zN HO_3.out).2.2|(with_reducible first|refine zG ?_ _|refine zH ?_ _|refine zI ?_)));(case side2=>exact (zN HO_3.out).2.1);rintro e w' ⟨rfl,⟨nd,rfl⟩⟩;(try first|exact ⟨rfl,_,World.drewN_drewN _ _ _⟩|exact ⟨rfl,_,zW _ _ _ _⟩))))
                  go_meet
                  case rel=>exact ⟨_,(false),(by first|rfl|(simp;done)|(simp [*];done)),H',⟨by have:=HJ6.out;have:=HK2.out;have:=HJ36.out;have:=HK4.out;first|omega|exact Nat.le_refl _⟩,⟨by (with_reducible repeat (first|apply zA|apply zB|apply zC));exact Kd.R_mono HO_3.out (fun _ hk=>hk.1.1.1)⟩,⟨by (with_reducible repeat (first|apply zA|apply zB|apply zC));exact Kd.R_mono HO_5.out (fun _ hk=>hk.1.1.1)⟩,⟨by (with_reducible repeat (first|refine zJ ?_ _|refine zK ?_|refine zL ?_ _));exact BK1096.out⟩,⟨by repeat (first|(with_reducible first|exact HB.out|apply zD|apply zE|apply zF|refine below_set ?_ GE1096.out)|exact HB.out)⟩⟩
                 ·as_aux_lemma =>
                  rw [if_neg c79] at H;have c79b0:(t1134 == t1135) = false:=beq_eq_false_iff_ne.mpr c79
                  have c79b1:(t1134 != t1135) = true:=bne_iff_ne.mpr c79
                  have H':=zM H;clear H;obtain ⟨Ao82,co82,eo82⟩:=Kd.R_slice HO1128.out;subst eo82;obtain ⟨Ao83,co83,eo83⟩:=Kd.R_slice HO1132.out;subst eo83;go_wp2_with (first|(go_at_call 40;(with_reducible refine (laws_rInts.calls k4 _ _ t1125 _ _ t1129 true _ ?side1 ?side2 ?side3 ?side4 A75.out).mono ?_);(case side1=>repeat (first|exact (zN HO1128.out).2.2|(with_reducible first|refine zG ?_ _|refine zH ?_ _|refine zI ?_)));(case side2=>exact (zN HO1128.out).2.1);(case side3=>repeat (first|exact (zN HO1132.out).2.2|(with_reducible first|refine zG ?_ _|refine zH ?_ _|refine zI ?_)));(case side4=>exact (zN HO1132.out).2.1);rintro e w' ⟨rfl,⟨nd,rfl⟩⟩;(try first|exact ⟨rfl,_,World.drewN_drewN _ _ _⟩|exact ⟨rfl,_,zW _ _ _ _⟩))|(go_at_call 38;(with_reducible refine (laws_rSum.calls k4 _ _ t1125 t1134 _ ?side1 ?side2 A77.out).mono ?_);(case side1=>repeat (first|exact (zN HO1128.out).2.2|(with_reducible first|refine zG ?_ _|refine zH ?_ _|refine zI ?_)));(case side2=>exact (zN HO1128.out).2.1);rintro e w' ⟨rfl,⟨nd,rfl⟩⟩;(try first|exact ⟨rfl,_,World.drewN_drewN _ _ _⟩|exact ⟨rfl,_,zW _ _ _ _⟩))|(go_at_call 38;(with_reducible refine (laws_rSum.calls k4 _ _ t1090 t1135 _ ?side1 ?side2 A78.out).mono ?_);(case side1=>repeat (first|exact (zN HO_3.out).2.2|(with_reducible first|refine zG ?_ _|refine zH ?_ _|refine zI ?_)));(case side2=>exact (zN HO_3.out).2.1);rintro e w' ⟨rfl,⟨nd,rfl⟩⟩;(try first|exact ⟨rfl,_,World.drewN_drewN _ _ _⟩|exact ⟨rfl,_,zW _ _ _ _⟩)))
                  repeat (go_quiet (first|(go_at_call 40;(with_reducible refine (laws_rInts.calls k4 _ _ t1125 _ _ t1129 true _ ?side1 ?side2 ?side3 ?side4 A75.out).mono ?_);(case side1=>repeat (first|exact (zN HO1128.out).2.2|(with_reducible first|refine zG ?_ _|refine zH ?_ _|refine zI ?_)));(case side2=>exact (zN HO1128.out).2.1);(case side3=>repeat (first|exact (zN HO1132.out).2.2|(with_reducible first|refine zG ?_ _|refine zH ?_ _|refine zI ?_)));(case side4=>exact (zN HO1132.out).2.1);rintro e w' ⟨rfl,⟨nd,rfl⟩⟩;(try first|exact ⟨rfl,_,World.drewN_drewN _ _ _⟩|exact ⟨rfl,_,zW _ _ _ _⟩))|(go_at_call 38;(with_reducible refine (laws_rSum.calls k4 _ _ t1125 t1134 _ ?side1 ?side2 A77.out).mono ?_);(case side1=>repeat (first|exact (zN HO1128.out).2.2|(with_reducible first|refine zG ?_ _|refine zH ?_ _|refine zI ?_)));(case side2=>exact (zN HO1128.out).2.1);rintro e w' ⟨rfl,⟨nd,rfl⟩⟩;(try first|exact ⟨rfl,_,World.drewN_drewN _ _ _⟩|exact ⟨rfl,_,zW _ _ _ _⟩))|(go_at_call 38;(with_reducible refine (laws_rSum.calls k4 _ _ t1090 t1135 _ ?side1 ?side2 A78.out).mono ?_);(case side1=>repeat (first|exact (zN HO_3.out).2.2|(with_reducible first|refine zG ?_ _|refine zH ?_ _|refine zI ?_)));(case side2=>exact (zN HO_3.out).2.1);rintro e w' ⟨rfl,⟨nd,rfl⟩⟩;(try first|exact ⟨rfl,_,World.drewN_drewN _ _ _⟩|exact ⟨rfl,_,zW _ _ _ _⟩)));try go_wp2_with (first|(go_at_call 40;(with_reducible refine (laws_rInts.calls k4 _ _ t1125 _ _ t1129 true _ ?side1 ?side2 ?side3 ?side4 A75.out).mono ?_);(case side1=>repeat (first|exact (zN HO1128.out).2.2|(with_reducible first|refine zG ?_ _|refine zH ?_ _|refine zI ?_)));(case side2=>exact (zN HO1128.out).2.1);(case side3=>repeat (first|exact (zN HO1132.out).2.2|(with_reducible first|refine zG ?_ _|refine zH ?_ _|refine zI ?_)));(case side4=>exact (zN HO1132.out).2.1);rintro e w' ⟨rfl,⟨nd,rfl⟩⟩;(try first|exact ⟨rfl,_,World.drewN_drewN _ _ _⟩|exact ⟨rfl,_,zW _ _ _ _⟩))|(go_at_call 38;(with_reducible refine (laws_rSum.calls k4 _ _ t1125 t1134 _ ?side1 ?side2 A77.out).mono ?_);(case side1=>repeat (first|exact (zN HO1128.out).2.2|(with_reducible first|refine zG ?_ _|refine zH ?_ _|refine zI ?_)));(case side2=>exact (zN HO1128.out).2.1);rintro e w' ⟨rfl,⟨nd,rfl⟩⟩;(try first|exact ⟨rfl,_,World.drewN_drewN _ _ _⟩|exact ⟨rfl,_,zW _ _ _ _⟩))|(go_at_call 38;(with_reducible refine (laws_rSum.calls k4 _ _ t1090 t1135 _ ?side1 ?side2 A78.out).mono ?_);(case side1=>repeat (first|exact (zN HO_3.out).2.2|(with_reducible first|refine zG ?_ _|refine zH ?_ _|refine zI ?_)));(case side2=>exact (zN HO_3.out).2.1);rintro e w' ⟨rfl,⟨nd,rfl⟩⟩;(try first|exact ⟨rfl,_,World.drewN_drewN _ _ _⟩|exact ⟨rfl,_,zW _ _ _ _⟩))))
                  go_meet
                  case rel=>exact ⟨_,(t1126),(by first|rfl|(simp;done)|(simp [*];done)),H',⟨by have:=HJ6.out;have:=HK2.out;have:=HJ36.out;have:=HK4.out;first|omega|exact Nat.le_refl _⟩,⟨by (with_reducible repeat (first|apply zA|apply zB|apply zC));exact Kd.R_mono HO_3.out (fun _ hk=>hk.1.1.1)⟩,⟨by (with_reducible repeat (first|apply zA|apply zB|apply zC));exact Kd.R_mono HO_5.out (fun _ hk=>hk.1.1.1)⟩,⟨by (with_reducible repeat (first|refine zJ ?_ _|refine zK ?_|refine zL ?_ _));exact BK1096.out⟩,⟨by repeat (first|(with_reducible first|exact HB.out|apply zD|apply zE|apply zF|refine below_set ?_ GE1096.out)|exact HB.out)⟩⟩
                ·as_aux_lemma =>
                 replace c76:=Bool.eq_false_iff.mpr c76;subst c76;have H1:(laws_FnForces.j4 k4 t1090 t1097 true t1093 t1094 t1095) = some r:=by rw [if_neg (show ¬ (false = true) by decide)] at H;exact H
                 clear H;have H:=H1;clear H1;have H':=zM H;clear H;obtain ⟨Ao84,co84,eo84⟩:=Kd.R_slice HO1128.out;subst eo84;obtain ⟨Ao85,co85,eo85⟩:=Kd.R_slice HO1132.out;subst eo85;go_wp2_with (first|(go_at_call 40;(with_reducible refine (laws_rInts.calls k4 _ _ t1125 _ _ t1129 false _ ?side1 ?side2 ?side3 ?side4 A75.out).mono ?_);(case side1=>repeat (first|exact (zN HO1128.out).2.2|(with_reducible first|refine zG ?_ _|refine zH ?_ _|refine zI ?_)));(case side2=>exact (zN HO1128.out).2.1);(case side3=>repeat (first|exact (zN HO1132.out).2.2|(with_reducible first|refine zG ?_ _|refine zH ?_ _|refine zI ?_)));(case side4=>exact (zN HO1132.out).2.1);rintro e w' ⟨rfl,⟨nd,rfl⟩⟩;(try first|exact ⟨rfl,_,World.drewN_drewN _ _ _⟩|exact ⟨rfl,_,zW _ _ _ _⟩)))
                 repeat (go_quiet (first|(go_at_call 40;(with_reducible refine (laws_rInts.calls k4 _ _ t1125 _ _ t1129 false _ ?side1 ?side2 ?side3 ?side4 A75.out).mono ?_);(case side1=>repeat (first|exact (zN HO1128.out).2.2|(with_reducible first|refine zG ?_ _|refine zH ?_ _|refine zI ?_)));(case side2=>exact (zN HO1128.out).2.1);(case side3=>repeat (first|exact (zN HO1132.out).2.2|(with_reducible first|refine zG ?_ _|refine zH ?_ _|refine zI ?_)));(case side4=>exact (zN HO1132.out).2.1);rintro e w' ⟨rfl,⟨nd,rfl⟩⟩;(try first|exact ⟨rfl,_,World.drewN_drewN _ _ _⟩|exact ⟨rfl,_,zW _ _ _ _⟩)));try go_wp2_with (first|(go_at_call 40;(with_reducible refine (laws_rInts.calls k4 _ _ t1125 _ _ t1129 false _ ?side1 ?side2 ?side3 ?side4 A75.out).mono ?_);(case side1=>repeat (first|exact (zN HO1128.out).2.2|(with_reducible first|refine zG ?_ _|refine zH ?_ _|refine zI ?_)));(case side2=>exact (zN HO1128.out).2.1);(case side3=>repeat (first|exact (zN HO1132.out).2.2|(with_reducible first|refine zG ?_ _|refine zH ?_ _|refine zI ?_)));(case side4=>exact (zN HO1132.out).2.1);rintro e w' ⟨rfl,⟨nd,rfl⟩⟩;(try first|exact ⟨rfl,_,World.drewN_drewN _ _ _⟩|exact ⟨rfl,_,zW _ _ _ _⟩))))
                 go_meet
                 case rel=>exact ⟨_,(true),(by first|rfl|(simp;done)|(simp [*];done)),H',⟨by have:=HJ6.out;have:=HK2.out;have:=HJ36.out;have:=HK4.out;first|omega|exact Nat.le_refl _⟩,⟨by (with_reducible repeat (first|apply zA|apply zB|apply zC));exact Kd.R_mono HO_3.out (fun _ hk=>hk.1.1.1)⟩,⟨by (with_reducible repeat (first|apply zA|apply zB|apply zC));exact Kd.R_mono HO_5.out (fun _ hk=>hk.1.1.1)⟩,⟨by (with_reducible repeat (first|refine zJ ?_ _|refine zK ?_|refine zL ?_ _));exact BK1096.out⟩,⟨by repeat (first|(with_reducible first|exact HB.out|apply zD|apply zE|apply zF|refine below_set ?_ GE1096.out)|exact HB.out)⟩⟩
              case rest =>
               clear HC70;(try clear c1);(try clear p1);(try clear q1);(try clear hx1);(try clear c2);(try clear p2);(try clear c3);(try clear c4);(try clear c5);(try clear c6);(try clear p6);(try clear c7);(try clear c11);(try clear p11);(try clear q11);(try clear hx11);(try clear c15);(try clear c15b0);(try clear c15b1);(try clear c15b2);(try clear c17);(try clear c18);(try clear c26);(try clear c27);(try clear c27b0);(try clear c28);(try clear c28b0);(try clear c30);(try clear c30b0);(try clear c31);(try clear c31b0);(try clear c32);(try clear c32b0);(try clear c43);(try clear c43b0);(try clear c43b1);(try clear c43b2);(try clear c47);(try clear c48);(try clear c48b0);(try clear c49);(try clear c49b0);(try clear c50);(try clear c50b0);(try clear c51);(try clear c51b0);(try clear c54);(try clear c54b0);(try clear c55);(try clear c55b0);(try clear c58);(try clear c58b0);(try clear c63);(try clear c63b0);(try clear p64);(try clear c74);(try clear c74b0);(try clear c74b1);(try clear c74b2);(try clear c76);(try clear c79);(try clear c79b0);(try clear c79b1);(try clear hcz10_0);(try clear hcz10_1);(try clear hcz10_2);(try clear hcz13_0);(try clear hcz13_1);(try clear hcz13_2);(try clear hcz39_0);(try clear hcz39_1);(try clear hcz39_2);(try clear hcz41_0);(try clear hcz41_1);(try clear hcz41_2);(try clear hcz53_0);(try clear hcz53_1);(try clear hcz53_2);(try clear hcz57_0);(try clear hcz57_1);(try clear hcz57_2);(try clear hcz60_0);(try clear hcz60_1);(try clear hcz60_2);(try clear hcz62_0);(try clear hcz62_1);(try clear hcz62_2);(try clear hcz65_0);(try clear hcz65_1);(try clear hcz65_2);(try clear hcz67_0);(try clear hcz67_1);(try clear hcz67_2);(try clear hfz10_0);(try clear hfz10_1);(try clear hfz10_2);(try clear hfz13_0);(try clear hfz13_1);(try clear hfz13_2);(try clear hfz39_0);(try clear hfz39_1);(try clear hfz39_2);(try clear hfz41_0);(try clear hfz41_1);(try clear hfz41_2);(try clear hfz53_0);(try clear hfz53_1);(try clear hfz53_2);(try clear hfz57_0);(try clear hfz57_1);(try clear hfz57_2);(try clear hfz60_0);(try clear hfz60_1);(try clear hfz60_2);(try clear hfz62_0);(try clear hfz62_1);(try clear hfz62_2);(try clear hfz65_0);(try clear hfz65_1);(try clear hfz65_2);(try clear hfz67_0);(try clear hfz67_1);(try clear hfz67_2);(try clear hx1107_0);(try clear hx1108_0);(try clear hx1118_0);(try clear hx1119_0);(try clear hx1120_0);(try clear hx1121_0);(try clear hx1122_0);(try clear hx1123_0);(try clear hx1124_0);(try clear p1);(try clear p11);(try clear p1107);(try clear p1108);(try clear p1118);(try clear p1119);(try clear p1120);(try clear p1121);(try clear p1122);(try clear p1123);(try clear p1124);(try clear p2);(try clear p6);(try clear q1);(try clear q11);(try clear q1107);(try clear q1108);(try clear q1118);(try clear q1119);(try clear q1120);(try clear q1121);(try clear q1122);(try clear q1123);(try clear q1124);obtain ⟨kq,x173_69,rfl,HA,HJ69,HO_3,HO_5,BK1096,HB⟩:=hcut;cases kq with
               | zero=>exact absurd HA.out (by simp [laws_FnForces.j4])
               | succ kj69 =>
                have H:=HA.out;clear HA;simp only [laws_FnForces.j4] at H
                by_cases c86:x173_69 = true
                ·as_aux_lemma =>
                 subst c86;have H1:(some false) = some r:=by rw [if_pos rfl] at H;exact H
                 clear H;have H:=H1;clear H1;obtain rfl:=Option.some.inj H;go_wp2
                 repeat (go_quiet (fail);try go_wp2)
                 go_ret
                 exact ⟨by first|rfl|(simp [errW_none,errW_some] <;> rfl)|(simp [*,errW_none,errW_some] <;> rfl),by repeat (first|(with_reducible first|exact HB.out|apply zD|apply zE|apply zF|refine below_set ?_ GE1096.out)|exact HB.out)⟩
                ·as_aux_lemma =>
                 replace c86:=Bool.eq_false_iff.mpr c86;subst c86;have H1:((impl_LightestForce.f t1090 t1093 t1094 t1095).bind fun bt1136=>((spec_LightestForce.f kj69 t1090 t1093 t1094 t1095).bind fun bt1141=>(if (bt1136.2.2 != bt1141.2.2) = true then (laws_FnForces.j5 kj69 t1090 t1097 bt1136.1 bt1136.2.1 bt1136.2.2 true) else (if bt1136.2.1 = bt1141.2.1 then ((laws_rInts.f kj69 bt1136.1 bt1141.1).bind fun t1146=>(laws_FnForces.j5 kj69 t1090 t1097 bt1136.1 bt1136.2.1 bt1136.2.2 (!t1146))) else (laws_FnForces.j5 kj69 t1090 t1097 bt1136.1 bt1136.2.1 bt1136.2.2 true))))) = some r:=by rw [if_neg (show ¬ (false = true) by decide)] at H;exact H
                 clear H;have H:=H1;clear H1;replace H:=Option.bind_eq_some_iff.mp H;obtain ⟨⟨t1136,t1139,t1140⟩,A870,H⟩:=H;replace H:((spec_LightestForce.f kj69 t1090 t1093 t1094 t1095).bind fun bt1141=>(if (t1140 != bt1141.2.2) = true then (laws_FnForces.j5 kj69 t1090 t1097 t1136 t1139 t1140 true) else (if t1139 = bt1141.2.1 then ((laws_rInts.f kj69 t1136 bt1141.1).bind fun t1146=>(laws_FnForces.j5 kj69 t1090 t1097 t1136 t1139 t1140 (!t1146))) else (laws_FnForces.j5 kj69 t1090 t1097 t1136 t1139 t1140 true)))) = some r:=H
                 have A87:=zM A870;clear A870;replace H:=Option.bind_eq_some_iff.mp H;obtain ⟨⟨t1141,t1144,t1145⟩,A880,H⟩:=H;replace H:(if (t1140 != t1145) = true then (laws_FnForces.j5 kj69 t1090 t1097 t1136 t1139 t1140 true) else (if t1139 = t1144 then ((laws_rInts.f kj69 t1136 t1141).bind fun t1146=>(laws_FnForces.j5 kj69 t1090 t1097 t1136 t1139 t1140 (!t1146))) else (laws_FnForces.j5 kj69 t1090 t1097 t1136 t1139 t1140 true))) = some r:=H
                 have A88:=zM A880;clear A880;have HC89:=zM H;clear H;have hcz90_0:wc.cell? ⟨gb1096,0,none⟩ = some (.int .i64 t1093):=(blk_cell BK1096.out 0).trans rfl
                 have hcz90_1:wc.cell? ⟨gb1096,1,none⟩ = some (.int .i64 t1094):=(blk_cell BK1096.out 1).trans rfl
                 have hcz90_2:wc.cell? ⟨gb1096,2,none⟩ = some (.int .i64 t1095):=(blk_cell BK1096.out 2).trans rfl
                 have hfz90_0:=blk_frozen BK1096.out 0;have hfz90_1:=blk_frozen BK1096.out 1;have hfz90_2:=blk_frozen BK1096.out 2;go_upto_region 28 with (first|(go_at_call 31;(with_reducible refine (impl_LightestForce.calls _ _ t1090 t1093 t1094 t1095 t1136 t1139 t1140 _ ?side1 ?side2 A87.out).mono ?_);(case side1=>repeat (first|exact (zN HO_3.out).2.2|(with_reducible first|refine zG ?_ _|refine zH ?_ _|refine zI ?_)));(case side2=>exact (zN HO_3.out).2.1);rintro e w91 ⟨v1137,rfl,ho0,hb⟩;have n0_:=zM (Kd.R_elder' (by (with_reducible repeat (first|apply zA|apply zB|apply zC));exact HO_3.out) (Kd.R_base ho0) hb);have n1_:=zM (Kd.R_elder' (by (with_reducible repeat (first|apply zA|apply zB|apply zC));exact HO_5.out) (Kd.R_base ho0) hb);have n2_:=zM (Kd.R_lower (Kd.R_new' (Kd.R_new' ho0 (Kd.R_lt (by (with_reducible repeat (first|apply zA|apply zB|apply zC));exact HO_3.out))) (Kd.R_lt (by (with_reducible repeat (first|apply zA|apply zB|apply zC));exact HO_5.out))) (zR (by repeat (first|(with_reducible first|exact HB.out|apply zD|apply zE|apply zF|refine below_set ?_ GE1096.out)|exact HB.out))));have n3_:=zM (blk_below (g:=gb1096) (o := .cells #[.int .i64 t1093,.int .i64 t1094,.int .i64 t1095] 28 (0,0)) (by (with_reducible repeat (first|refine zJ ?_ _|refine zK ?_|refine zL ?_ _));exact BK1096.out) hb);have n4_:=zM (zQ (by repeat (first|(with_reducible first|exact HB.out|apply zD|apply zE|apply zF|refine below_set ?_ GE1096.out)|exact HB.out)) hb);clear HO_3;clear HO_5;clear BK1096;clear HB;have HO_3:=n0_;have HO_5:=n1_;have HO1138:=n2_;have BK1096:=n3_;have HB:=n4_;clear n0_ n1_ n2_ n3_ n4_;(try clear hb);(try clear hb2);(try clear hk);(try clear hi);(try clear ho0);have hcz92_0:w91.cell? ⟨gb1096,0,none⟩ = some (.int .i64 t1093):=(blk_cell BK1096.out 0).trans rfl;have hcz92_1:w91.cell? ⟨gb1096,1,none⟩ = some (.int .i64 t1094):=(blk_cell BK1096.out 1).trans rfl;have hcz92_2:w91.cell? ⟨gb1096,2,none⟩ = some (.int .i64 t1095):=(blk_cell BK1096.out 2).trans rfl;have hfz92_0:=blk_frozen BK1096.out 0;have hfz92_1:=blk_frozen BK1096.out 1;have hfz92_2:=blk_frozen BK1096.out 2)|(go_at_call 30;(with_reducible refine (spec_LightestForce.calls kj69 _ _ t1090 t1093 t1094 t1095 t1141 t1144 t1145 _ ?side1 ?side2 A88.out).mono ?_);(case side1=>repeat (first|exact (zN HO_3.out).2.2|(with_reducible first|refine zG ?_ _|refine zH ?_ _|refine zI ?_)));(case side2=>exact (zN HO_3.out).2.1);rintro e w93 ⟨v1142,rfl,ho0,hb⟩;have n0_:=zM (zP (by (with_reducible repeat (first|apply zA|apply zB|apply zC));exact HO_3.out) hb);have n1_:=zM (zP (by (with_reducible repeat (first|apply zA|apply zB|apply zC));exact HO_5.out) hb);have n2_:=zM (zP (by (with_reducible repeat (first|apply zA|apply zB|apply zC));exact HO1138.out) hb);have n3_:=zM (Kd.V_lower (Kd.V_mono (ok':=fun k_=>some k_ ≠ (.slice Ao11 t1090.length co11:Value).ownBlock ∧ some k_ ≠ (.slice Ao38 t1097.length co38:Value).ownBlock ∧ some k_ ≠ (v1137:Value).ownBlock ∧ k_ ≠ gb1096) ho0 (fun k_ hk_=>⟨(Kd.fresh' (Kd.R_lt (by (with_reducible repeat (first|apply zA|apply zB|apply zC));exact HO_3.out)) k_ hk_),(Kd.fresh' (Kd.R_lt (by (with_reducible repeat (first|apply zA|apply zB|apply zC));exact HO_5.out)) k_ hk_),(Kd.fresh' (Kd.R_lt (by (with_reducible repeat (first|apply zA|apply zB|apply zC));exact HO1138.out)) k_ hk_),(Kd.freshB (g:=gb1096) (o := .cells #[.int .i64 t1093,.int .i64 t1094,.int .i64 t1095] 28 (0,0)) (by (with_reducible repeat (first|refine zJ ?_ _|refine zK ?_|refine zL ?_ _));exact BK1096.out) k_ hk_)⟩)) (zR (by repeat (first|(with_reducible first|exact HB.out|apply zD|apply zE|apply zF|refine below_set ?_ GE1096.out)|exact HB.out))));have n4_:=zM (blk_below (g:=gb1096) (o := .cells #[.int .i64 t1093,.int .i64 t1094,.int .i64 t1095] 28 (0,0)) (by (with_reducible repeat (first|refine zJ ?_ _|refine zK ?_|refine zL ?_ _));exact BK1096.out) hb);have n5_:=zM (zQ (by repeat (first|(with_reducible first|exact HB.out|apply zD|apply zE|apply zF|refine below_set ?_ GE1096.out)|exact HB.out)) hb);clear HO_3;clear HO_5;clear HO1138;clear BK1096;clear HB;have HO_3:=n0_;have HO_5:=n1_;have HO1138:=n2_;have HO1143:=n3_;have BK1096:=n4_;have HB:=n5_;clear n0_ n1_ n2_ n3_ n4_ n5_;(try clear hb);(try clear hb2);(try clear hk);(try clear hi);(try clear ho0)))
                 repeat (go_quiet (first|(go_at_call 31;(with_reducible refine (impl_LightestForce.calls _ _ t1090 t1093 t1094 t1095 t1136 t1139 t1140 _ ?side1 ?side2 A87.out).mono ?_);(case side1=>repeat (first|exact (zN HO_3.out).2.2|(with_reducible first|refine zG ?_ _|refine zH ?_ _|refine zI ?_)));(case side2=>exact (zN HO_3.out).2.1);rintro e w91 ⟨v1137,rfl,ho0,hb⟩;have n0_:=zM (Kd.R_elder' (by (with_reducible repeat (first|apply zA|apply zB|apply zC));exact HO_3.out) (Kd.R_base ho0) hb);have n1_:=zM (Kd.R_elder' (by (with_reducible repeat (first|apply zA|apply zB|apply zC));exact HO_5.out) (Kd.R_base ho0) hb);have n2_:=zM (Kd.R_lower (Kd.R_new' (Kd.R_new' ho0 (Kd.R_lt (by (with_reducible repeat (first|apply zA|apply zB|apply zC));exact HO_3.out))) (Kd.R_lt (by (with_reducible repeat (first|apply zA|apply zB|apply zC));exact HO_5.out))) (zR (by repeat (first|(with_reducible first|exact HB.out|apply zD|apply zE|apply zF|refine below_set ?_ GE1096.out)|exact HB.out))));have n3_:=zM (blk_below (g:=gb1096) (o := .cells #[.int .i64 t1093,.int .i64 t1094,.int .i64 t1095] 28 (0,0)) (by (with_reducible repeat (first|refine zJ ?_ _|refine zK ?_|refine zL ?_ _));exact BK1096.out) hb);have n4_:=zM (zQ (by repeat (first|(with_reducible first|exact HB.out|apply zD|apply zE|apply zF|refine below_set ?_ GE1096.out)|exact HB.out)) hb);clear HO_3;clear HO_5;clear BK1096;clear HB;have HO_3:=n0_;have HO_5:=n1_;have HO1138:=n2_;have BK1096:=n3_;have HB:=n4_;clear n0_ n1_ n2_ n3_ n4_;(try clear hb);(try clear hb2);(try clear hk);(try clear hi);(try clear ho0);have hcz92_0:w91.cell? ⟨gb1096,0,none⟩ = some (.int .i64 t1093):=(blk_cell BK1096.out 0).trans rfl;have hcz92_1:w91.cell? ⟨gb1096,1,none⟩ = some (.int .i64 t1094):=(blk_cell BK1096.out 1).trans rfl;have hcz92_2:w91.cell? ⟨gb1096,2,none⟩ = some (.int .i64 t1095):=(blk_cell BK1096.out 2).trans rfl;have hfz92_0:=blk_frozen BK1096.out 0;have hfz92_1:=blk_frozen BK1096.out 1;have hfz92_2:=blk_frozen BK1096.out 2)|(go_at_call 30;(with_reducible refine (spec_LightestForce.calls kj69 _ _ t1090 t1093 t1094 t1095 t1141 t1144 t1145 _ ?side1 ?side2 A88.out).mono ?_);(case side1=>repeat (first|exact (zN HO_3.out).2.2|(with_reducible first|refine zG ?_ _|refine zH ?_ _|refine zI ?_)));(case side2=>exact (zN HO_3.out).2.1);rintro e w93 ⟨v1142,rfl,ho0,hb⟩;have n0_:=zM (zP (by (with_reducible repeat (first|apply zA|apply zB|apply zC));exact HO_3.out) hb);have n1_:=zM (zP (by (with_reducible repeat (first|apply zA|apply zB|apply zC));exact HO_5.out) hb);have n2_:=zM (zP (by (with_reducible repeat (first|apply zA|apply zB|apply zC));exact HO1138.out) hb);have n3_:=zM (Kd.V_lower (Kd.V_mono (ok':=fun k_=>some k_ ≠ (.slice Ao11 t1090.length co11:Value).ownBlock ∧ some k_ ≠ (.slice Ao38 t1097.length co38:Value).ownBlock ∧ some k_ ≠ (v1137:Value).ownBlock ∧ k_ ≠ gb1096) ho0 (fun k_ hk_=>⟨(Kd.fresh' (Kd.R_lt (by (with_reducible repeat (first|apply zA|apply zB|apply zC));exact HO_3.out)) k_ hk_),(Kd.fresh' (Kd.R_lt (by (with_reducible repeat (first|apply zA|apply zB|apply zC));exact HO_5.out)) k_ hk_),(Kd.fresh' (Kd.R_lt (by (with_reducible repeat (first|apply zA|apply zB|apply zC));exact HO1138.out)) k_ hk_),(Kd.freshB (g:=gb1096) (o := .cells #[.int .i64 t1093,.int .i64 t1094,.int .i64 t1095] 28 (0,0)) (by (with_reducible repeat (first|refine zJ ?_ _|refine zK ?_|refine zL ?_ _));exact BK1096.out) k_ hk_)⟩)) (zR (by repeat (first|(with_reducible first|exact HB.out|apply zD|apply zE|apply zF|refine below_set ?_ GE1096.out)|exact HB.out))));have n4_:=zM (blk_below (g:=gb1096) (o := .cells #[.int .i64 t1093,.int .i64 t1094,.int .i64 t1095] 28 (0,0)) (by (with_reducible repeat (first|refine zJ ?_ _|refine zK ?_|refine zL ?_ _));exact BK1096.out) hb);have n5_:=zM (zQ (by repeat (first|(with_reducible first|exact HB.out|apply zD|apply zE|apply zF|refine below_set ?_ GE1096.out)|exact HB.out)) hb);clear HO_3;clear HO_5;clear HO1138;clear BK1096;clear HB;have HO_3:=n0_;have HO_5:=n1_;have HO1138:=n2_;have HO1143:=n3_;have BK1096:=n4_;have HB:=n5_;clear n0_ n1_ n2_ n3_ n4_ n5_;(try clear hb);(try clear hb2);(try clear hk);(try clear hi);(try clear ho0)));go_upto_region 28 with (first|(go_at_call 31;(with_reducible refine (impl_LightestForce.calls _ _ t1090 t1093 t1094 t1095 t1136 t1139 t1140 _ ?side1 ?side2 A87.out).mono ?_);(case side1=>repeat (first|exact (zN HO_3.out).2.2|(with_reducible first|refine zG ?_ _|refine zH ?_ _|refine zI ?_)));(case side2=>exact (zN HO_3.out).2.1);rintro e w91 ⟨v1137,rfl,ho0,hb⟩;have n0_:=zM (Kd.R_elder' (by (with_reducible repeat (first|apply zA|apply zB|apply zC));exact HO_3.out) (Kd.R_base ho0) hb);have n1_:=zM (Kd.R_elder' (by (with_reducible repeat (first|apply zA|apply zB|apply zC));exact HO_5.out) (Kd.R_base ho0) hb);have n2_:=zM (Kd.R_lower (Kd.R_new' (Kd.R_new' ho0 (Kd.R_lt (by (with_reducible repeat (first|apply zA|apply zB|apply zC));exact HO_3.out))) (Kd.R_lt (by (with_reducible repeat (first|apply zA|apply zB|apply zC));exact HO_5.out))) (zR (by repeat (first|(with_reducible first|exact HB.out|apply zD|apply zE|apply zF|refine below_set ?_ GE1096.out)|exact HB.out))));have n3_:=zM (blk_below (g:=gb1096) (o := .cells #[.int .i64 t1093,.int .i64 t1094,.int .i64 t1095] 28 (0,0)) (by (with_reducible repeat (first|refine zJ ?_ _|refine zK ?_|refine zL ?_ _));exact BK1096.out) hb);have n4_:=zM (zQ (by repeat (first|(with_reducible first|exact HB.out|apply zD|apply zE|apply zF|refine below_set ?_ GE1096.out)|exact HB.out)) hb);clear HO_3;clear HO_5;clear BK1096;clear HB;have HO_3:=n0_;have HO_5:=n1_;have HO1138:=n2_;have BK1096:=n3_;have HB:=n4_;clear n0_ n1_ n2_ n3_ n4_;(try clear hb);(try clear hb2);(try clear hk);(try clear hi);(try clear ho0);have hcz92_0:w91.cell? ⟨gb1096,0,none⟩ = some (.int .i64 t1093):=(blk_cell BK1096.out 0).trans rfl;have hcz92_1:w91.cell? ⟨gb1096,1,none⟩ = some (.int .i64 t1094):=(blk_cell BK1096.out 1).trans rfl;have hcz92_2:w91.cell? ⟨gb1096,2,none⟩ = some (.int .i64 t1095):=(blk_cell BK1096.out 2).trans rfl;have hfz92_0:=blk_frozen BK1096.out 0;have hfz92_1:=blk_frozen BK1096.out 1;have hfz92_2:=blk_frozen BK1096.out 2)|(go_at_call 30;(with_reducible refine (spec_LightestForce.calls kj69 _ _ t1090 t1093 t1094 t1095 t1141 t1144 t1145 _ ?side1 ?side2 A88.out).mono ?_);(case side1=>repeat (first|exact (zN HO_3.out).2.2|(with_reducible first|refine zG ?_ _|refine zH ?_ _|refine zI ?_)));(case side2=>exact (zN HO_3.out).2.1);rintro e w93 ⟨v1142,rfl,ho0,hb⟩;have n0_:=zM (zP (by (with_reducible repeat (first|apply zA|apply zB|apply zC));exact HO_3.out) hb);have n1_:=zM (zP (by (with_reducible repeat (first|apply zA|apply zB|apply zC));exact HO_5.out) hb);have n2_:=zM (zP (by (with_reducible repeat (first|apply zA|apply zB|apply zC));exact HO1138.out) hb);have n3_:=zM (Kd.V_lower (Kd.V_mono (ok':=fun k_=>some k_ ≠ (.slice Ao11 t1090.length co11:Value).ownBlock ∧ some k_ ≠ (.slice Ao38 t1097.length co38:Value).ownBlock ∧ some k_ ≠ (v1137:Value).ownBlock ∧ k_ ≠ gb1096) ho0 (fun k_ hk_=>⟨(Kd.fresh' (Kd.R_lt (by (with_reducible repeat (first|apply zA|apply zB|apply zC));exact HO_3.out)) k_ hk_),(Kd.fresh' (Kd.R_lt (by (with_reducible repeat (first|apply zA|apply zB|apply zC));exact HO_5.out)) k_ hk_),(Kd.fresh' (Kd.R_lt (by (with_reducible repeat (first|apply zA|apply zB|apply zC));exact HO1138.out)) k_ hk_),(Kd.freshB (g:=gb1096) (o := .cells #[.int .i64 t1093,.int .i64 t1094,.int .i64 t1095] 28 (0,0)) (by (with_reducible repeat (first|refine zJ ?_ _|refine zK ?_|refine zL ?_ _));exact BK1096.out) k_ hk_)⟩)) (zR (by repeat (first|(with_reducible first|exact HB.out|apply zD|apply zE|apply zF|refine below_set ?_ GE1096.out)|exact HB.out))));have n4_:=zM (blk_below (g:=gb1096) (o := .cells #[.int .i64 t1093,.int .i64 t1094,.int .i64 t1095] 28 (0,0)) (by (with_reducible repeat (first|refine zJ ?_ _|refine zK ?_|refine zL ?_ _));exact BK1096.out) hb);have n5_:=zM (zQ (by repeat (first|(with_reducible first|exact HB.out|apply zD|apply zE|apply zF|refine below_set ?_ GE1096.out)|exact HB.out)) hb);clear HO_3;clear HO_5;clear HO1138;clear BK1096;clear HB;have HO_3:=n0_;have HO_5:=n1_;have HO1138:=n2_;have HO1143:=n3_;have BK1096:=n4_;have HB:=n5_;clear n0_ n1_ n2_ n3_ n4_ n5_;(try clear hb);(try clear hb2);(try clear hk);(try clear hi);(try clear ho0))))
                 (try simp only [Act.put,zT,zU,zV])
                 go_cut [201] (fun v201 wc => ∃ (kq:Nat) (x201_88:Bool),v201 = .bool x201_88 ∧ Aside0 (laws_FnForces.j5 kq t1090 t1097 t1136 t1139 t1140 x201_88 = some r) ∧ Aside0 (kq ≤ kj69) ∧ Aside0 (Kd.R (Kd.int .i64) 3 wc w.heap.size (fun k_=>some k_ ≠ ((.slice Ao38 t1097.length co38):Value).ownBlock ∧ some k_ ≠ (v1137:Value).ownBlock) (.slice Ao11 t1090.length co11) t1090) ∧ Aside0 (Kd.R (Kd.int .i64) 3 wc w.heap.size (fun k_=>some k_ ≠ ((.slice Ao11 t1090.length co11):Value).ownBlock ∧ some k_ ≠ (v1137:Value).ownBlock) (.slice Ao38 t1097.length co38) t1097) ∧ Aside0 (Kd.R (Kd.int .i64) 3 wc w.heap.size (fun k_=>some k_ ≠ ((.slice Ao11 t1090.length co11):Value).ownBlock ∧ some k_ ≠ ((.slice Ao38 t1097.length co38):Value).ownBlock) v1137 t1136) ∧ Aside0 (wc.heap[gb1096]? = some (.cells #[.int .i64 t1093,.int .i64 t1094,.int .i64 t1095] 28 (0,0))) ∧ Aside0 (Below w.heap.size w wc))
                 case first =>
                  have H:=HC89.out;clear HC89;by_cases c94:(t1140 != t1145) = true
                  ·as_aux_lemma =>
                   rw [if_pos c94] at H;have c94b0:(t1140 != t1145) = true:=c94
                   (try (have c94b1:decide (t1140 = t1145) = false:=by simpa using c94))
                   (try (have c94b2:(t1140 == t1145) = false:=by simpa using c94))
                   (try (have c94b3:¬ (t1140 = t1145):=by simpa using c94))
                   clear c94;(first|rw [c94b0]|(simp only [i64_w,i32_w];rw [c94b0])|skip)
                   have H':=zM H;clear H;go_wp2
                   repeat (go_quiet (fail);try go_wp2)
                   go_meet
                   case rel=>exact ⟨_,(true),(by first|rfl|(simp;done)|(simp [*];done)),H',⟨by have:=HJ6.out;have:=HK2.out;have:=HJ36.out;have:=HK4.out;have:=HJ69.out;first|omega|exact Nat.le_refl _⟩,⟨by (with_reducible repeat (first|apply zA|apply zB|apply zC));exact HO_3.out⟩,⟨by (with_reducible repeat (first|apply zA|apply zB|apply zC));exact HO_5.out⟩,⟨by (with_reducible repeat (first|apply zA|apply zB|apply zC));exact Kd.R_mono HO1138.out (fun _ hk=>⟨hk.1.2,hk.2⟩)⟩,⟨by (with_reducible repeat (first|refine zJ ?_ _|refine zK ?_|refine zL ?_ _));exact BK1096.out⟩,⟨by repeat (first|(with_reducible first|exact HB.out|apply zD|apply zE|apply zF|refine below_set ?_ GE1096.out)|exact HB.out)⟩⟩
                  ·as_aux_lemma =>
                   rw [if_neg c94] at H;have c94b0:(t1140 != t1145) = false:=by simpa using c94
                   (try (have c94b1:decide (t1140 = t1145) = true:=by simpa using c94))
                   (try (have c94b2:(t1140 == t1145) = true:=by simpa using c94))
                   clear c94;(first|rw [c94b0]|(simp only [i64_w,i32_w];rw [c94b0])|skip)
                   by_cases c95:t1139 = t1144
                   ·as_aux_lemma =>
                    rw [if_pos c95] at H;have c95b0:(t1139 == t1144) = true:=beq_iff_eq.mpr c95
                    have c95b1:(t1139 != t1144) = false:=bne_eq_false_iff_eq.mpr c95
                    clear c95;replace H:=Option.bind_eq_some_iff.mp H;obtain ⟨t1146,A960,H⟩:=H;replace H:(laws_FnForces.j5 kj69 t1090 t1097 t1136 t1139 t1140 (!t1146)) = some r:=H
                    have A96:=zM A960;clear A960;have H':=zM H;clear H;obtain ⟨Ao97,co97,eo97⟩:=Kd.R_slice HO1138.out;subst eo97;obtain ⟨Ao98,co98,eo98⟩:=Kd.V_slice HO1143.out;subst eo98;go_wp2_with (first|(go_at_call 40;(with_reducible refine (laws_rInts.calls kj69 _ _ t1136 _ _ t1141 t1146 _ ?side1 ?side2 ?side3 ?side4 A96.out).mono ?_);(case side1=>repeat (first|exact (zN HO1138.out).2.2|(with_reducible first|refine zG ?_ _|refine zH ?_ _|refine zI ?_)));(case side2=>exact (zN HO1138.out).2.1);(case side3=>repeat (first|exact (Kd.V_reads' HO1143.out).2.2|(with_reducible first|refine zG ?_ _|refine zH ?_ _|refine zI ?_)));(case side4=>exact (Kd.V_reads' HO1143.out).2.1);rintro e w' ⟨rfl,⟨nd,rfl⟩⟩;(try first|exact ⟨rfl,_,World.drewN_drewN _ _ _⟩|exact ⟨rfl,_,zW _ _ _ _⟩)))
                    repeat (go_quiet (first|(go_at_call 40;(with_reducible refine (laws_rInts.calls kj69 _ _ t1136 _ _ t1141 t1146 _ ?side1 ?side2 ?side3 ?side4 A96.out).mono ?_);(case side1=>repeat (first|exact (zN HO1138.out).2.2|(with_reducible first|refine zG ?_ _|refine zH ?_ _|refine zI ?_)));(case side2=>exact (zN HO1138.out).2.1);(case side3=>repeat (first|exact (Kd.V_reads' HO1143.out).2.2|(with_reducible first|refine zG ?_ _|refine zH ?_ _|refine zI ?_)));(case side4=>exact (Kd.V_reads' HO1143.out).2.1);rintro e w' ⟨rfl,⟨nd,rfl⟩⟩;(try first|exact ⟨rfl,_,World.drewN_drewN _ _ _⟩|exact ⟨rfl,_,zW _ _ _ _⟩)));try go_wp2_with (first|(go_at_call 40;(with_reducible refine (laws_rInts.calls kj69 _ _ t1136 _ _ t1141 t1146 _ ?side1 ?side2 ?side3 ?side4 A96.out).mono ?_);(case side1=>repeat (first|exact (zN HO1138.out).2.2|(with_reducible first|refine zG ?_ _|refine zH ?_ _|refine zI ?_)));(case side2=>exact (zN HO1138.out).2.1);(case side3=>repeat (first|exact (Kd.V_reads' HO1143.out).2.2|(with_reducible first|refine zG ?_ _|refine zH ?_ _|refine zI ?_)));(case side4=>exact (Kd.V_reads' HO1143.out).2.1);rintro e w' ⟨rfl,⟨nd,rfl⟩⟩;(try first|exact ⟨rfl,_,World.drewN_drewN _ _ _⟩|exact ⟨rfl,_,zW _ _ _ _⟩))))
                    go_meet
                    case rel=>exact ⟨_,(!t1146),(by first|rfl|(simp;done)|(simp [*];done)),H',⟨by have:=HJ6.out;have:=HK2.out;have:=HJ36.out;have:=HK4.out;have:=HJ69.out;first|omega|exact Nat.le_refl _⟩,⟨by (with_reducible repeat (first|apply zA|apply zB|apply zC));exact HO_3.out⟩,⟨by (with_reducible repeat (first|apply zA|apply zB|apply zC));exact HO_5.out⟩,⟨by (with_reducible repeat (first|apply zA|apply zB|apply zC));exact Kd.R_mono HO1138.out (fun _ hk=>⟨hk.1.2,hk.2⟩)⟩,⟨by (with_reducible repeat (first|refine zJ ?_ _|refine zK ?_|refine zL ?_ _));exact BK1096.out⟩,⟨by repeat (first|(with_reducible first|exact HB.out|apply zD|apply zE|apply zF|refine below_set ?_ GE1096.out)|exact HB.out)⟩⟩
                   ·as_aux_lemma =>
                    rw [if_neg c95] at H;have c95b0:(t1139 == t1144) = false:=beq_eq_false_iff_ne.mpr c95
                    have c95b1:(t1139 != t1144) = true:=bne_iff_ne.mpr c95
                    have H':=zM H;clear H;go_wp2
                    repeat (go_quiet (fail);try go_wp2)
                    go_meet
                    case rel=>exact ⟨_,(true),(by first|rfl|(simp;done)|(simp [*];done)),H',⟨by have:=HJ6.out;have:=HK2.out;have:=HJ36.out;have:=HK4.out;have:=HJ69.out;first|omega|exact Nat.le_refl _⟩,⟨by (with_reducible repeat (first|apply zA|apply zB|apply zC));exact HO_3.out⟩,⟨by (with_reducible repeat (first|apply zA|apply zB|apply zC));exact HO_5.out⟩,⟨by (with_reducible repeat (first|apply zA|apply zB|apply zC));exact Kd.R_mono HO1138.out (fun _ hk=>⟨hk.1.2,hk.2⟩)⟩,⟨by (with_reducible repeat (first|refine zJ ?_ _|refine zK ?_|refine zL ?_ _));exact BK1096.out⟩,⟨by repeat (first|(with_reducible first|exact HB.out|apply zD|apply zE|apply zF|refine below_set ?_ GE1096.out)|exact HB.out)⟩⟩
                 case rest =>
                  clear HC89;(try clear c1);(try clear p1);(try clear q1);(try clear hx1);(try clear c2);(try clear p2);(try clear c3);(try clear c4);(try clear c5);(try clear c6);(try clear p6);(try clear c7);(try clear c8);(try clear c9);(try clear c11);(try clear p11);(try clear q11);(try clear hx11);(try clear c15);(try clear c15b0);(try clear c15b1);(try clear c15b2);(try clear c17);(try clear c18);(try clear c26);(try clear c27);(try clear c27b0);(try clear c28);(try clear c28b0);(try clear c30);(try clear c30b0);(try clear c31);(try clear c31b0);(try clear c32);(try clear c32b0);(try clear c43);(try clear c43b0);(try clear c43b1);(try clear c43b2);(try clear c47);(try clear c48);(try clear c48b0);(try clear c49);(try clear c49b0);(try clear c50);(try clear c50b0);(try clear c51);(try clear c51b0);(try clear c54);(try clear c54b0);(try clear c55);(try clear c55b0);(try clear c58);(try clear c58b0);(try clear c63);(try clear c63b0);(try clear p64);(try clear c74);(try clear c74b0);(try clear c74b1);(try clear c74b2);(try clear c76);(try clear c79);(try clear c79b0);(try clear c79b1);(try clear c86);(try clear c94);(try clear c94b0);(try clear c94b1);(try clear c94b2);(try clear c95);(try clear c95b0);(try clear c95b1);(try clear hcz10_0);(try clear hcz10_1);(try clear hcz10_2);(try clear hcz13_0);(try clear hcz13_1);(try clear hcz13_2);(try clear hcz39_0);(try clear hcz39_1);(try clear hcz39_2);(try clear hcz41_0);(try clear hcz41_1);(try clear hcz41_2);(try clear hcz53_0);(try clear hcz53_1);(try clear hcz53_2);(try clear hcz57_0);(try clear hcz57_1);(try clear hcz57_2);(try clear hcz60_0);(try clear hcz60_1);(try clear hcz60_2);(try clear hcz62_0);(try clear hcz62_1);(try clear hcz62_2);(try clear hcz65_0);(try clear hcz65_1);(try clear hcz65_2);(try clear hcz67_0);(try clear hcz67_1);(try clear hcz67_2);(try clear hcz90_0);(try clear hcz90_1);(try clear hcz90_2);(try clear hcz92_0);(try clear hcz92_1);(try clear hcz92_2);(try clear hfz10_0);(try clear hfz10_1);(try clear hfz10_2);(try clear hfz13_0);(try clear hfz13_1);(try clear hfz13_2);(try clear hfz39_0);(try clear hfz39_1);(try clear hfz39_2);(try clear hfz41_0);(try clear hfz41_1);(try clear hfz41_2);(try clear hfz53_0);(try clear hfz53_1);(try clear hfz53_2);(try clear hfz57_0);(try clear hfz57_1);(try clear hfz57_2);(try clear hfz60_0);(try clear hfz60_1);(try clear hfz60_2);(try clear hfz62_0);(try clear hfz62_1);(try clear hfz62_2);(try clear hfz65_0);(try clear hfz65_1);(try clear hfz65_2);(try clear hfz67_0);(try clear hfz67_1);(try clear hfz67_2);(try clear hfz90_0);(try clear hfz90_1);(try clear hfz90_2);(try clear hfz92_0);(try clear hfz92_1);(try clear hfz92_2);(try clear hx1107_0);(try clear hx1108_0);(try clear hx1118_0);(try clear hx1119_0);(try clear hx1120_0);(try clear hx1121_0);(try clear hx1122_0);(try clear hx1123_0);(try clear hx1124_0);(try clear p1);(try clear p11);(try clear p1107);(try clear p1108);(try clear p1118);(try clear p1119);(try clear p1120);(try clear p1121);(try clear p1122);(try clear p1123);(try clear p1124);(try clear p2);(try clear p6);(try clear p64);(try clear q1);(try clear q11);(try clear q1107);(try clear q1108);(try clear q1118);(try clear q1119);(try clear q1120);(try clear q1121);(try clear q1122);(try clear q1123);(try clear q1124);obtain ⟨kq,x201_88,rfl,HA,HJ88,HO_3,HO_5,HO_19,BK1096,HB⟩:=hcut;cases kq with
                  | zero=>exact absurd HA.out (by simp [laws_FnForces.j5])
                  | succ kj88 =>
                   have H:=HA.out;clear HA;simp only [laws_FnForces.j5] at H
                   by_cases c99:x201_88 = true
                   ·as_aux_lemma =>
                    subst c99;have H1:(some false) = some r:=by rw [if_pos rfl] at H;exact H
                    clear H;have H:=H1;clear H1;obtain rfl:=Option.some.inj H;go_wp2
                    repeat (go_quiet (fail);try go_wp2)
                    go_ret
                    exact ⟨by first|rfl|(simp [errW_none,errW_some] <;> rfl)|(simp [*,errW_none,errW_some] <;> rfl),by repeat (first|(with_reducible first|exact HB.out|apply zD|apply zE|apply zF|refine below_set ?_ GE1096.out)|exact HB.out)⟩
                   ·as_aux_lemma =>
                    replace c99:=Bool.eq_false_iff.mpr c99;subst c99;have H1:(if t1140 = true then ((laws_rSum.f kj88 t1097).bind fun t1147=>(if t1139 ≤ t1147 then ((laws_rSum.f kj88 t1136).bind fun t1148=>((laws_rSum.f kj88 t1090).bind fun t1149=>(some (t1148 == t1149)))) else (some false))) else (some true)) = some r:=by rw [if_neg (show ¬ (false = true) by decide)] at H;exact H
                    clear H;have H:=H1;clear H1;by_cases c100:t1140 = true
                    ·as_aux_lemma =>
                     subst c100;have H1:((laws_rSum.f kj88 t1097).bind fun t1147=>(if t1139 ≤ t1147 then ((laws_rSum.f kj88 t1136).bind fun t1148=>((laws_rSum.f kj88 t1090).bind fun t1149=>(some (t1148 == t1149)))) else (some false))) = some r:=by rw [if_pos rfl] at H;exact H
                     clear H;have H:=H1;clear H1;replace H:=Option.bind_eq_some_iff.mp H;obtain ⟨t1147,A1010,H⟩:=H;replace H:(if t1139 ≤ t1147 then ((laws_rSum.f kj88 t1136).bind fun t1148=>((laws_rSum.f kj88 t1090).bind fun t1149=>(some (t1148 == t1149)))) else (some false)) = some r:=H
                     have A101:=zM A1010;clear A1010;by_cases c102:t1139 ≤ t1147
                     ·as_aux_lemma =>
                      rw [if_pos c102] at H;have c102b0:decide (t1139 ≤ t1147) = true:=decide_eq_true c102
                      clear c102;replace H:=Option.bind_eq_some_iff.mp H;obtain ⟨t1148,A1030,H⟩:=H;replace H:((laws_rSum.f kj88 t1090).bind fun t1149=>(some (t1148 == t1149))) = some r:=H
                      have A103:=zM A1030;clear A1030;replace H:=Option.bind_eq_some_iff.mp H;obtain ⟨t1149,A1040,H⟩:=H;replace H:(some (t1148 == t1149)) = some r:=H
                      have A104:=zM A1040;clear A1040;obtain rfl:=Option.some.inj H;go_wp2_with (first|(go_at_call 38;(with_reducible refine (laws_rSum.calls kj88 _ _ t1097 t1147 _ ?side1 ?side2 A101.out).mono ?_);(case side1=>repeat (first|exact (zN HO_5.out).2.2|(with_reducible first|refine zG ?_ _|refine zH ?_ _|refine zI ?_)));(case side2=>exact (zN HO_5.out).2.1);rintro e w' ⟨rfl,⟨nd,rfl⟩⟩;(try first|exact ⟨rfl,_,World.drewN_drewN _ _ _⟩|exact ⟨rfl,_,zW _ _ _ _⟩);obtain ⟨Ao105,co105,eo105⟩:=Kd.R_slice HO_19.out;subst eo105)|(go_at_call 38;(with_reducible refine (laws_rSum.calls kj88 _ _ t1136 t1148 _ ?side1 ?side2 A103.out).mono ?_);(case side1=>repeat (first|exact (zN HO_19.out).2.2|(with_reducible first|refine zG ?_ _|refine zH ?_ _|refine zI ?_)));(case side2=>exact (zN HO_19.out).2.1);rintro e w' ⟨rfl,⟨nd,rfl⟩⟩;(try first|exact ⟨rfl,_,World.drewN_drewN _ _ _⟩|exact ⟨rfl,_,zW _ _ _ _⟩))|(go_at_call 38;(with_reducible refine (laws_rSum.calls kj88 _ _ t1090 t1149 _ ?side1 ?side2 A104.out).mono ?_);(case side1=>repeat (first|exact (zN HO_3.out).2.2|(with_reducible first|refine zG ?_ _|refine zH ?_ _|refine zI ?_)));(case side2=>exact (zN HO_3.out).2.1);rintro e w' ⟨rfl,⟨nd,rfl⟩⟩;(try first|exact ⟨rfl,_,World.drewN_drewN _ _ _⟩|exact ⟨rfl,_,zW _ _ _ _⟩)))
                      repeat (go_quiet (first|(go_at_call 38;(with_reducible refine (laws_rSum.calls kj88 _ _ t1097 t1147 _ ?side1 ?side2 A101.out).mono ?_);(case side1=>repeat (first|exact (zN HO_5.out).2.2|(with_reducible first|refine zG ?_ _|refine zH ?_ _|refine zI ?_)));(case side2=>exact (zN HO_5.out).2.1);rintro e w' ⟨rfl,⟨nd,rfl⟩⟩;(try first|exact ⟨rfl,_,World.drewN_drewN _ _ _⟩|exact ⟨rfl,_,zW _ _ _ _⟩);obtain ⟨Ao105,co105,eo105⟩:=Kd.R_slice HO_19.out;subst eo105)|(go_at_call 38;(with_reducible refine (laws_rSum.calls kj88 _ _ t1136 t1148 _ ?side1 ?side2 A103.out).mono ?_);(case side1=>repeat (first|exact (zN HO_19.out).2.2|(with_reducible first|refine zG ?_ _|refine zH ?_ _|refine zI ?_)));(case side2=>exact (zN HO_19.out).2.1);rintro e w' ⟨rfl,⟨nd,rfl⟩⟩;(try first|exact ⟨rfl,_,World.drewN_drewN _ _ _⟩|exact ⟨rfl,_,zW _ _ _ _⟩))|(go_at_call 38;(with_reducible refine (laws_rSum.calls kj88 _ _ t1090 t1149 _ ?side1 ?side2 A104.out).mono ?_);(case side1=>repeat (first|exact (zN HO_3.out).2.2|(with_reducible first|refine zG ?_ _|refine zH ?_ _|refine zI ?_)));(case side2=>exact (zN HO_3.out).2.1);rintro e w' ⟨rfl,⟨nd,rfl⟩⟩;(try first|exact ⟨rfl,_,World.drewN_drewN _ _ _⟩|exact ⟨rfl,_,zW _ _ _ _⟩)));try go_wp2_with (first|(go_at_call 38;(with_reducible refine (laws_rSum.calls kj88 _ _ t1097 t1147 _ ?side1 ?side2 A101.out).mono ?_);(case side1=>repeat (first|exact (zN HO_5.out).2.2|(with_reducible first|refine zG ?_ _|refine zH ?_ _|refine zI ?_)));(case side2=>exact (zN HO_5.out).2.1);rintro e w' ⟨rfl,⟨nd,rfl⟩⟩;(try first|exact ⟨rfl,_,World.drewN_drewN _ _ _⟩|exact ⟨rfl,_,zW _ _ _ _⟩);obtain ⟨Ao105,co105,eo105⟩:=Kd.R_slice HO_19.out;subst eo105)|(go_at_call 38;(with_reducible refine (laws_rSum.calls kj88 _ _ t1136 t1148 _ ?side1 ?side2 A103.out).mono ?_);(case side1=>repeat (first|exact (zN HO_19.out).2.2|(with_reducible first|refine zG ?_ _|refine zH ?_ _|refine zI ?_)));(case side2=>exact (zN HO_19.out).2.1);rintro e w' ⟨rfl,⟨nd,rfl⟩⟩;(try first|exact ⟨rfl,_,World.drewN_drewN _ _ _⟩|exact ⟨rfl,_,zW _ _ _ _⟩))|(go_at_call 38;(with_reducible refine (laws_rSum.calls kj88 _ _ t1090 t1149 _ ?side1 ?side2 A104.out).mono ?_);(case side1=>repeat (first|exact (zN HO_3.out).2.2|(with_reducible first|refine zG ?_ _|refine zH ?_ _|refine zI ?_)));(case side2=>exact (zN HO_3.out).2.1);rintro e w' ⟨rfl,⟨nd,rfl⟩⟩;(try first|exact ⟨rfl,_,World.drewN_drewN _ _ _⟩|exact ⟨rfl,_,zW _ _ _ _⟩))))
                      go_ret
                      exact ⟨by first|rfl|(simp [errW_none,errW_some] <;> rfl)|(simp [*,errW_none,errW_some] <;> rfl),by repeat (first|(with_reducible first|exact HB.out|apply zD|apply zE|apply zF|refine below_set ?_ GE1096.out)|exact HB.out)⟩
                     ·as_aux_lemma =>
                      rw [if_neg c102] at H;have c102b0:decide (t1139 ≤ t1147) = false:=decide_eq_false c102
                      clear c102;obtain rfl:=Option.some.inj H;go_wp2_with (first|(go_at_call 38;(with_reducible refine (laws_rSum.calls kj88 _ _ t1097 t1147 _ ?side1 ?side2 A101.out).mono ?_);(case side1=>repeat (first|exact (zN HO_5.out).2.2|(with_reducible first|refine zG ?_ _|refine zH ?_ _|refine zI ?_)));(case side2=>exact (zN HO_5.out).2.1);rintro e w' ⟨rfl,⟨nd,rfl⟩⟩;(try first|exact ⟨rfl,_,World.drewN_drewN _ _ _⟩|exact ⟨rfl,_,zW _ _ _ _⟩)))
                      repeat (go_quiet (first|(go_at_call 38;(with_reducible refine (laws_rSum.calls kj88 _ _ t1097 t1147 _ ?side1 ?side2 A101.out).mono ?_);(case side1=>repeat (first|exact (zN HO_5.out).2.2|(with_reducible first|refine zG ?_ _|refine zH ?_ _|refine zI ?_)));(case side2=>exact (zN HO_5.out).2.1);rintro e w' ⟨rfl,⟨nd,rfl⟩⟩;(try first|exact ⟨rfl,_,World.drewN_drewN _ _ _⟩|exact ⟨rfl,_,zW _ _ _ _⟩)));try go_wp2_with (first|(go_at_call 38;(with_reducible refine (laws_rSum.calls kj88 _ _ t1097 t1147 _ ?side1 ?side2 A101.out).mono ?_);(case side1=>repeat (first|exact (zN HO_5.out).2.2|(with_reducible first|refine zG ?_ _|refine zH ?_ _|refine zI ?_)));(case side2=>exact (zN HO_5.out).2.1);rintro e w' ⟨rfl,⟨nd,rfl⟩⟩;(try first|exact ⟨rfl,_,World.drewN_drewN _ _ _⟩|exact ⟨rfl,_,zW _ _ _ _⟩))))
                      go_ret
                      exact ⟨by first|rfl|(simp [errW_none,errW_some] <;> rfl)|(simp [*,errW_none,errW_some] <;> rfl),by repeat (first|(with_reducible first|exact HB.out|apply zD|apply zE|apply zF|refine below_set ?_ GE1096.out)|exact HB.out)⟩
                    ·as_aux_lemma =>
                     replace c100:=Bool.eq_false_iff.mpr c100;subst c100;have H1:(some true) = some r:=by rw [if_neg (show ¬ (false = true) by decide)] at H;exact H
                     clear H;have H:=H1;clear H1;obtain rfl:=Option.some.inj H;go_wp2
                     repeat (go_quiet (fail);try go_wp2)
                     go_ret
                     exact ⟨by first|rfl|(simp [errW_none,errW_some] <;> rfl)|(simp [*,errW_none,errW_some] <;> rfl),by repeat (first|(with_reducible first|exact HB.out|apply zD|apply zE|apply zF|refine below_set ?_ GE1096.out)|exact HB.out)⟩

/-- THE ONE PURE STATEMENT of laws_FnForces. -/
def laws_FnForces.Pure:Prop := ∀ (l0:List Int),(l0.length ≤ maxLen ∧ ∀ y ∈ l0,(Lit.int .u8 y).wf = true) → ∃ k,laws_FnForces.f k l0 = some true
theorem laws_FnForces.walk (P:laws_FnForces.Pure) (A0:Option Addr) (c0:Nat) (l0:List Int) (w:World) (hr0:Kd.C (Kd.int .u8) w A0 l0.length l0) (hc0:l0.length ≤ c0) (hw0:(l0.length ≤ maxLen ∧ ∀ y ∈ l0,(Lit.int .u8 y).wf = true)) :
  Calls Try.prog 11 #[.slice A0 l0.length c0] w fun e w'=>e = .returned (.bool true) ∧ Below w.heap.size w w':=by
 obtain ⟨k,h⟩:=P l0 hw0;refine (laws_FnForces.calls k _ _ l0 true w hr0 hc0 h).mono ?_
 rintro e w' ⟨rfl,hd⟩
 exact ⟨rfl,hd⟩



/-! ### spec_l1Cur_one: function 74 -/
def spec_l1Cur_one.f (s0_0:List Int) (s0_1:Int) (s0_2:Int) (a1:Int):Option (Bool × Int × Int):=(spec_l1Cur_pick.f s0_0 s0_1 s0_2 a1).bind fun bt965=>(some ((bt965.1 == 0),bt965.2.1,bt965.2.2))
set_option maxHeartbeats 8000000 in
set_option maxRecDepth 100000 in
theorem spec_l1Cur_one.calls (g:Nat) (s0_0:List Int) (s0_1:Int) (s0_2:Int) (a1:Int) (r1:Bool) (r2:Int) (r3:Int) (w0 w:World) (hI:IsS77 w0 w g s0_0 s0_1 s0_2) (hB:Below w0.heap.size w0 w) (h:spec_l1Cur_one.f s0_0 s0_1 s0_2 a1 = some (r1,r2,r3)) :
  Calls Try.prog 74 #[.pointer (some ⟨g,0,none⟩),.int .i64 a1] w fun e w'=>e = .returned (.bool r1) ∧ IsS77 w0 w' g s0_0 r2 r3 ∧ Below w0.heap.size w0 w' ∧ KeepBut w w' g none:=by
 have HI0:=zM hI;have HK:=zM (KeepBut.refl w g none);have HL:=zM hB.size;clear hI;have HW0:=zM hB.size;have HB:=zM hB;clear hB;have H:((spec_l1Cur_pick.f s0_0 s0_1 s0_2 a1).bind fun bt965=>(some ((bt965.1 == 0),bt965.2.1,bt965.2.2))) = some (r1,r2,r3):=h
 clear h;replace H:=Option.bind_eq_some_iff.mp H;obtain ⟨⟨t965,t966,t967⟩,A30,H⟩:=H;replace H:(some ((t965 == 0),t966,t967)) = some (r1,r2,r3):=H
 have A3:=zM A30;clear A30;simp only [Option.some.injEq,Prod.mk.injEq] at H
 obtain ⟨rfl,rfl,rfl⟩:=H;go_enter Try.func74,Try.ntmps74
 go_wp2_with (first|((with_reducible refine gate_callee (f:=71) rfl ?_);refine goesL_ (some 7) rfl rfl Try.func71 (by kernel_rfl) rfl #[.pointer (some ⟨g,0,none⟩),.int .i64 a1] rfl (by (try simp only [List.map_toArray,List.map_cons,List.map_nil]);first|done|rfl|(simp only [List.length_drop,List.length_take];rfl)) ?_;(with_reducible refine (spec_l1Cur_pick.calls g s0_0 s0_1 s0_2 a1 t965 t966 t967 w0 _ ?side1 ?side2 A3.out).mono ?_);(case side1=>repeat (first|(with_reducible first|exact HI0.out|apply IsS77.alloc|apply IsS77.drewN|apply IsS77.drew|apply IsS77.set_1|apply IsS77.set_2)|exact HI0.out));(case side2=>repeat (first|(with_reducible first|exact HB.out|apply zD|apply zE|apply zF|refine below_set ?_ (IsS77.ge HI0.out))|exact HB.out));rintro e w4 ⟨rfl,hi,hb,hk⟩;refine ⟨_,rfl,?_⟩;have n0_:=zM (KeepBut.trans (by repeat (first|(with_reducible first|exact HK.out|apply KeepBut.set_|apply keep_drewN|apply keep_drew|apply keep_alloc)|exact HK.out)) hk (.inl rfl));have n1_:=zM (hb);have n2_:=zM (hi);clear HK;clear HB;clear HI0;have HK:=n0_;have HB:=n1_;have HI0:=n2_;clear n0_ n1_ n2_;(try clear hb);(try clear hb2);(try clear hk);(try clear hi)))
 go_ret
 exact ⟨by first|rfl|(simp [errW_none,errW_some] <;> rfl)|(simp [*,errW_none,errW_some] <;> rfl),by repeat (first|(with_reducible first|exact HI0.out|apply IsS77.alloc|apply IsS77.drewN|apply IsS77.drew|apply IsS77.set_1|apply IsS77.set_2)|exact HI0.out),by repeat (first|(with_reducible first|exact HB.out|apply zD|apply zE|apply zF|refine below_set ?_ (IsS77.ge HI0.out))|exact HB.out),by repeat (first|(with_reducible first|exact HK.out|apply KeepBut.set_|apply keep_drewN|apply keep_drew|apply keep_alloc)|exact HK.out)⟩

end Go.Proofs.Ytcgfedaoimhejaa.G

namespace Go.Proofs.Ytcgfedaoimhejaa.G
open Go.RowKit Go.Proofs.YtcgfedaoimhejaaW.PrintWords Go.Proofs.YtcgfedaoimhejaaW.PrintLast
set_option linter.unusedVariables false
set_option linter.unusedSimpArgs false
/-- From some number of rounds on a value comes, and P holds of it. -/
def EvP {α : Type} (g : Nat → Option α) (P : α → Prop) : Prop := ∃ r,P r ∧ Ev g r
theorem EvP.now {α : Type} {P : α → Prop} (v : α) (h : P v) : EvP (fun _=>some v) P:=⟨v,h,Ev.now v⟩
theorem EvP.step {α : Type} {g f : Nat → Option α} {P : α → Prop} (h : ∀ k,g (k + 1) = f k) (k : EvP f P) : EvP g P:=by
  obtain ⟨r,p,e⟩:=k
  exact ⟨r,p,Ev.step h e⟩
theorem EvP.bind {α β : Type} {g : Nat → Option α} {f : Nat → α → Option β} {P : α → Prop} {Q : β → Prop} (h : EvP g P) (k : ∀ a,P a → EvP (fun n=>f n a) Q) : EvP (fun n=>(g n).bind (f n)) Q:=by
  obtain ⟨a,p,e⟩:=h
  obtain ⟨r,q,e2⟩:=k a p
  exact ⟨r,q,Ev.bind e e2⟩
theorem EvP.ite {α : Type} {c : Prop} [Decidable c] {A B : Nat → Option α} {P : α → Prop} (h1 : c → EvP A P) (h2 : ¬ c → EvP B P) : EvP (fun k=>if c then A k else B k) P:=by
  by_cases h : c
  · simpa only [if_pos h] using h1 h
  · simpa only [if_neg h] using h2 h
/-- The bytes that a case is drawn of. -/
def Cd (l : List Int) : Prop:=(l.length : Int) ≤ 65536 ∧ ∀ y ∈ l,0 ≤ y ∧ y ≤ 255
theorem cd_of {l : List Int} (h : (l.length : Int) ≤ 65536) (hw : ∀ y ∈ l,(Lit.int .u8 y).wf = true) : Cd l:=by
  refine ⟨h,fun y hy=>?_⟩
  have e : (Lit.int .u8 y).wf = (decide (0 ≤ y) && decide (y ≤ 255)):=rfl
  have:=hw y hy
  rw [e] at this
  simpa using this
theorem rd_memD (l : List Int) (i : Int) (h0 : 0 ≤ i) (h1 : i < (l.length : Int)) : rd l i ∈ l:=by
  unfold rd
  rw [List.getD_eq_getElem?_getD,List.getElem?_eq_getElem (show i.toNat < l.length by omega)]
  exact List.getElem_mem _
theorem and255 (x : Int) : 0 ≤ Go.bits .and .u64 x 255 ∧ Go.bits .and .u64 x 255 ≤ 255:=by
  show 0 ≤ IntKind.u64.wrap (((BitVec.ofInt 64 x) &&& (BitVec.ofInt 64 255)).toNat : Int) ∧ IntKind.u64.wrap (((BitVec.ofInt 64 x) &&& (BitVec.ofInt 64 255)).toNat : Int) ≤ 255
  have h : ((BitVec.ofInt 64 x) &&& (BitVec.ofInt 64 255)).toNat ≤ 255:=by
    rw [BitVec.toNat_and]
    exact Nat.le_trans Nat.and_le_right (by decide)
  have e : IntKind.u64.wrap (((BitVec.ofInt 64 x) &&& (BitVec.ofInt 64 255)).toNat : Int) = (((BitVec.ofInt 64 x) &&& (BitVec.ofInt 64 255)).toNat : Int):=by
    generalize (((BitVec.ofInt 64 x) &&& (BitVec.ofInt 64 255)).toNat) = n at h ⊢
    simp only [IntKind.wrap,IntKind.signed,IntKind.bits]
    simp
    omega
  rw [e]
  omega
theorem next_ok {l : List Int} (hc : Cd l) (a s : Int) (h0 : 0 ≤ a) (h1 : a ≤ 1099511627776) : ∃ b s',spec_l1Cur_next.f l a s = some (b,a + 1,s') ∧ 0 ≤ b ∧ b ≤ 255:=by
  have hl:=hc.1
  unfold spec_l1Cur_next.f
  rw [wrap64_id (x:=a + 1) (by omega) (by omega)]
  by_cases h : a < (l.length : Int)
  · have hm:=hc.2 _ (rd_memD l a h0 h)
    rw [if_pos h,if_pos h0,if_pos (by omega),wrap64_id (x:=rd l a) (by omega) (by omega)]
    exact ⟨_,_,rfl,hm.1,hm.2⟩
  · rw [if_neg h,if_neg (by omega)]
    refine ⟨_,_,rfl,?_⟩
    generalize hX : Go.bits _ _ _ _ = X
    have:=and255 (IntKind.u64.wrap (IntKind.u64.wrap (IntKind.u64.wrap (s * 6364136223846793005)) + 906906) / 1099511627776)
    have hb : 0 ≤ X ∧ X ≤ 255:=by rw [← hX];exact this
    rw [wrap64_id (by omega) (by omega)]
    exact hb
theorem pick_ok {l : List Int} (hc : Cd l) (a s n : Int) (h0 : 0 ≤ a) (h1 : a ≤ 1000000) : ∃ b a' s',spec_l1Cur_pick.f l a s n = some (b,a',s') ∧ 0 ≤ b ∧ (b = 0 ∨ b < n) ∧ a ≤ a' ∧ a' ≤ a + 2:=by
  unfold spec_l1Cur_pick.f
  by_cases g : n ≤ 1
  · rw [if_pos g]
    exact ⟨_,_,_,rfl,by omega,by omega,by omega,by omega⟩
  · obtain ⟨x,s1,e1,x0,x1⟩:=next_ok hc a s h0 (by omega)
    rw [if_neg g,e1]
    simp only [Option.bind_some]
    by_cases g2 : n > 200
    · obtain ⟨y,s2,e2,y0,y1⟩:=next_ok hc (a + 1) s1 (by omega) (by omega)
      rw [if_pos g2,e2]
      simp only [Option.bind_some]
      rw [if_neg (by omega),wrap64_id (x:=x * 256) (by omega) (by omega),wrap64_id (x:=x * 256 + y) (by omega) (by omega)]
      refine ⟨_,_,_,rfl,Int.tmod_nonneg _ (by omega),.inr ?_,by omega,by omega⟩
      exact Int.tmod_lt_of_pos _ (by omega)
    · rw [if_neg g2,if_neg (by omega)]
      refine ⟨_,_,_,rfl,Int.tmod_nonneg _ (by omega),.inr ?_,by omega,by omega⟩
      exact Int.tmod_lt_of_pos _ (by omega)
theorem EvP.pick {β : Type} {l : List Int} (hc : Cd l) {a s n : Int} {f : Nat → Int × Int × Int → Option β} {Q : β → Prop} (h0 : 0 ≤ a) (h1 : a ≤ 1000000)
    (k : ∀ b a' s',0 ≤ b → (b = 0 ∨ b < n) → a ≤ a' → a' ≤ a + 2 → EvP (fun k=>f k (b,a',s')) Q) : EvP (fun k=>(spec_l1Cur_pick.f l a s n).bind (f k)) Q:=by
  obtain ⟨b,a',s',e,h2,h3,h4,h5⟩:=pick_ok hc a s n h0 h1
  rw [e]
  exact k b a' s' h2 h3 h4 h5
theorem EvP.one {β : Type} {l : List Int} (hc : Cd l) {a s n : Int} {f : Nat → Bool × Int × Int → Option β} {Q : β → Prop} (h0 : 0 ≤ a) (h1 : a ≤ 1000000)
    (k : ∀ b a' s',a ≤ a' → a' ≤ a + 2 → EvP (fun k=>f k (b,a',s')) Q) : EvP (fun k=>(spec_l1Cur_one.f l a s n).bind (f k)) Q:=by
  obtain ⟨b,a',s',e,h2,h3,h4,h5⟩:=pick_ok hc a s n h0 h1
  unfold spec_l1Cur_one.f
  rw [e]
  simp only [Option.bind_some]
  exact k _ a' s' h4 h5
theorem EvP.among {β : Type} {l : List Int} (hc : Cd l) {a s : Int} {xs : List Int} {f : Nat → Int × Int × Int → Option β} {Q : β → Prop} (h0 : 0 ≤ a) (h1 : a ≤ 1000000) (hx : 0 < (xs.length : Int))
    (k : ∀ b a' s',b ∈ xs → a ≤ a' → a' ≤ a + 2 → EvP (fun k=>f k (b,a',s')) Q) : EvP (fun k=>(spec_l1Cur_among.f l a s xs).bind (f k)) Q:=by
  obtain ⟨b,a',s',e,h2,h3,h4,h5⟩:=pick_ok hc a s (xs.length : Int) h0 h1
  unfold spec_l1Cur_among.f
  rw [e]
  simp only [Option.bind_some]
  rw [if_pos h2,if_pos (by omega)]
  exact k _ a' s' (rd_memD xs b h2 (by omega)) h4 h5
end Go.Proofs.Ytcgfedaoimhejaa.G

/- What the lashing's draws make: a column of at most 100 weights. -/
namespace Go.Proofs.Ytcgfedaoimhejaa.G
open Go.RowKit Go.Proofs.YtcgfedaoimhejaaW.PrintWords Go.Proofs.YtcgfedaoimhejaaW.PrintLast
set_option linter.unusedVariables false
set_option linter.unusedSimpArgs false
def ColQ (r : List Int × Int × Int) : Prop:=(r.1.length : Int) ≤ 100 ∧ 0 ≤ r.2.1 ∧ r.2.1 ≤ 1000
theorem col1 {l : List Int} (hc : Cd l) : ∀ (d : Nat) (x3 : List Int) (a s : Int),(x3.length : Int) + d = 10 → 0 ≤ a → a + 2 * d ≤ 100 → EvP (fun k=>spec_l1Cur_column.l1 k x3 l a s) ColQ:=by
  intro d
  induction d with
  | zero =>
    intro x3 a s hd ha ha2
    refine EvP.step (fun k=>by rw [spec_l1Cur_column.l1]) ?_
    refine EvP.pick hc ha (by omega) (fun b a' s' b0 b1 a0 a1=>?_)
    dsimp only
    have e1 : wrap64 (4 + b) = 4 + b:=wrap64_id (by omega) (by omega)
    simp (disch:=omega) only [e1,if_neg]
    exact EvP.now _ ⟨by dsimp only;omega,by dsimp only;omega,by dsimp only;omega⟩
  | succ d ih =>
    intro x3 a s hd ha ha2
    refine EvP.step (fun k=>by rw [spec_l1Cur_column.l1]) ?_
    refine EvP.pick hc ha (by omega) (fun b a' s' b0 b1 a0 a1=>?_)
    dsimp only
    have e1 : wrap64 (4 + b) = 4 + b:=wrap64_id (by omega) (by omega)
    simp only [e1]
    refine EvP.ite (fun g=>?_) (fun g=>EvP.now _ ⟨by dsimp only;omega,by dsimp only;omega,by dsimp only;omega⟩)
    simp (disch:=omega) only [if_pos]
    exact ih _ _ _ (by rw [List.length_append,List.length_cons,List.length_nil];omega) (by omega) (by omega)
theorem col0 {l : List Int} (hc : Cd l) : ∀ (d : Nat) (x3 : List Int) (x4 a s : Int),x4 = d → (x3.length : Int) + x4 ≤ 8 → 0 ≤ a → a + 2 * x4 ≤ 50 → EvP (fun k=>spec_l1Cur_column.l0 k x3 x4 l a s) ColQ:=by
  intro d
  induction d with
  | zero =>
    intro x3 x4 a s hd hl ha ha2
    refine EvP.step (fun k=>by rw [spec_l1Cur_column.l0]) ?_
    simp (disch:=omega) only [if_neg]
    refine EvP.pick hc ha (by omega) (fun b a' s' b0 b1 a0 a1=>?_)
    dsimp only
    refine EvP.ite (fun g=>?_) (fun g=>?_)
    · refine EvP.among hc (by omega) (by omega) (by decide) (fun v a2 s2 hv a3 a4=>?_)
      dsimp only
      simp (disch:=omega) only [if_pos]
      exact EvP.now _ ⟨by dsimp only;rw [List.length_append,List.length_cons,List.length_nil];omega,by dsimp only;omega,by dsimp only;omega⟩
    · refine EvP.ite (fun g3=>?_) (fun g3=>EvP.now _ ⟨by dsimp only;omega,by dsimp only;omega,by dsimp only;omega⟩)
      exact col1 hc (10 - x3.length) _ _ _ (by omega) (by omega) (by omega)
  | succ d ih =>
    intro x3 x4 a s hd hl ha ha2
    refine EvP.step (fun k=>by rw [spec_l1Cur_column.l0]) ?_
    simp (disch:=omega) only [if_pos]
    refine EvP.among hc ha (by omega) (by decide) (fun v a2 s2 hv a3 a4=>?_)
    dsimp only
    simp (disch:=omega) only [if_pos,wrap64_id]
    exact ih _ _ _ _ (by omega) (by rw [List.length_append,List.length_cons,List.length_nil];omega) (by omega) (by omega)
theorem col_ok {l : List Int} (hc : Cd l) (s : Int) : EvP (fun k=>spec_l1Cur_column.f k l 0 s) ColQ:=by
  unfold spec_l1Cur_column.f
  refine EvP.pick hc (by omega) (by omega) (fun b a' s' b0 b1 a0 a1=>?_)
  dsimp only
  exact col0 hc b.toNat _ _ _ _ (by omega) (by rw [List.length_nil];omega) (by omega) (by omega)
theorem rules_ok2 {l : List Int} (hc : Cd l) (a s : Int) (ha : 0 ≤ a) (ha2 : a ≤ 2000) : ∃ L T S a' s',spec_l1Cur_lashRules.f l a s = some (L,T,S,a',s'):=by
  have key : EvP (fun _ : Nat=>spec_l1Cur_lashRules.f l a s) (fun _=>True):=by
    unfold spec_l1Cur_lashRules.f
    refine EvP.among hc ha (by omega) (by decide) (fun v1 a1 s1 _ _ _=>?_)
    dsimp only
    refine EvP.among hc (by omega) (by omega) (by decide) (fun v2 a2 s2 _ _ _=>?_)
    dsimp only
    refine EvP.among hc (by omega) (by omega) (by decide) (fun v3 a3 s3 _ _ _=>?_)
    dsimp only
    refine EvP.pick hc (by omega) (by omega) (fun b a4 s4 _ _ _ _=>?_)
    dsimp only
    refine EvP.ite (fun _=>?_) (fun _=>EvP.ite (fun _=>?_) (fun _=>EvP.ite (fun _=>?_) (fun _=>EvP.now _ trivial)))
    all_goals (refine EvP.among hc (by omega) (by omega) (by decide) (fun v5 a5 s5 _ _ _=>?_);dsimp only;exact EvP.now _ trivial)
  obtain ⟨⟨L,T,S,a',s'⟩,_,hv⟩:=key
  obtain ⟨K,hk⟩:=hv
  exact ⟨L,T,S,a',s',hk K (Nat.le_refl K)⟩
theorem rules_ok {l : List Int} (hc : Cd l) (a s : Int) (ha : 0 ≤ a) (ha2 : a ≤ 1000) : ∃ L T S a' s',spec_l1Cur_lashRules.f l a s = some (L,T,S,a',s'):=rules_ok2 hc a s ha (by omega)
theorem drawLash {l : List Int} (hc : Cd l) : EvP (fun k=>spec_DrawLashForces.f k l) (fun r=>(r.1.length : Int) ≤ 100):=by
  unfold spec_DrawLashForces.f spec_DrawColumnWeight.f
  refine EvP.bind (P:=fun r=>(r.1.length : Int) ≤ 100) ?_ (fun r hr=>EvP.now _ hr)
  refine EvP.bind (col_ok hc 0) (fun r hr=>?_)
  obtain ⟨L,T,S,a',s',e⟩:=rules_ok hc r.2.1 r.2.2 hr.2.1 hr.2.2
  rw [e]
  exact EvP.now _ hr.1
end Go.Proofs.Ytcgfedaoimhejaa.G
