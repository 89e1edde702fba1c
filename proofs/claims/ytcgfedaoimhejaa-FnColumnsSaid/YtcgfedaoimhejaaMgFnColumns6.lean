/- Texts of the proof of FnColumns, joined in build order. -/
import Derived.Test.YtcgfedaoimhejaaMgFnColumns5
import Derived.Test.YtcgfedaoimhejaaMgFnColumns2
import Derived.Test.YtcgfedaoimhejaaMgFnColumns4
import Derived.Test.YtcgfedaoimhejaaMgFnColumns1
import Derived.Deep.Slices
import Derived.ChangeArms
import Derived.WideShapes
import Derived.ChangeShapes
/- FnColumns: the room for a container can be used and not a kilogram more, and divided columns have all weights and the sum that is told (for drawn bytes of at most 2^16; else the statement is true at once). -/
namespace Go.Proofs.Ytcgfedaoimhejaa.Pure
open Go.RowKit Go.Proofs.Ytcgfedaoimhejaa.G Go.Proofs.YtcgfedaoimhejaaW.PrintWords Go.Proofs.YtcgfedaoimhejaaW.PrintLast
set_option linter.unusedVariables false
set_option linter.unusedSimpArgs false
theorem columns6 (l0 : List Int) (hc : Cd l0) : Ev (fun k=>laws_FnColumns.j6 k l0) true:=by
  refine Ev.step (fun k=>by rw [laws_FnColumns.j6]) ?_
  obtain ⟨⟨c,x,L,T,S⟩,hl,e⟩:=drawAdd hc
  have hl : (c.length : Int) ≤ 100:=hl
  refine Ev.bind e ?_
  dsimp only
  refine Ev.bind (impl_Add c x L T S) (Ev.bind (spec_Add c (by omega) x L T S) ?_)
  simp only [bne_self_eq_false,Bool.false_eq_true,if_false]
  refine Ev.bind (rInts_C _ (by have:=addR_len c x L T S;omega)) ?_
  refine Ev.step (fun k=>by rw [laws_FnColumns.j7]) ?_
  simp only [Bool.not_true,Bool.false_eq_true,if_false]
  unfold addR
  by_cases h : Lashed c L T S ∧ (needR (withTop c x) L T S).2 = true ∧ ¬ tot (withTop c x) 0 (withTop c x).length > L
  · rw [chk_pos h]
    simp only [if_true]
    have hw:=needR_true h.2.1
    refine Ev.bind (impl_weight hw h.2.2) ?_
    simp only [if_true]
    refine Ev.bind (rSum_tot (by omega) (col_el h.1.1)) ?_
    have hs : tot (withTop c x) 0 (withTop c x).length = tot c 0 c.length + x:=by
      rw [top_len]
      exact tot_snoc c x
    have hx : 1 ≤ x ∧ x ≤ 32000:=col_el hw.1 x (by unfold withTop;exact List.mem_append_right _ List.mem_cons_self)
    have hb:=tot_bd9 (col_el h.1.1) c.length (Nat.le_refl _)
    rw [wrap64_id (by omega) (by omega),if_pos hs]
    exact Ev.now _
  · rw [chk_neg h]
    simp only [Bool.false_eq_true,if_false]
    exact Ev.now _
theorem columnsL (l0 : List Int) (hc : Cd l0) {ws : List Int} {n : Nat} (hok : SplitOk ws (n : Int)) : Ev (fun k=>laws_FnColumns.l0 k l0 ws (n : Int) (colsOf ws (foldD ws n).1 n) (foldD ws n).2 0 0 0 0) true:=by
  obtain ⟨hw,hn,hl⟩:=hok
  have h8:=hw.1
  obtain ⟨f1,f2,f3,f4⟩:=foldD_ok (ws:=ws) (n:=n) (by omega)
  generalize foldD ws n = F at f1 f2 f3 f4 ⊢
  obtain ⟨dv,m⟩:=F
  simp only at f1 f2 f3 f4
  subst f4
  have hcl : (colsOf ws dv n).length = n:=cols_len ws dv n _
  have hsum:=all_sum ws dv n f2 dv.length (Nat.le_refl _)
  have hmany:=all_many ws dv n f2 dv.length (Nat.le_refl _)
  have hbt : ∀ x ∈ ws,1 ≤ x ∧ x ≤ 32000:=fun x hx=>by
    obtain ⟨i,hi,e⟩:=List.mem_iff_getElem.1 hx
    have o:=hw.2 (i : Int) (by omega) (by omega)
    unfold okW rd at o
    rw [Int.toNat_natCast,List.getD_eq_getElem?_getD,List.getElem?_eq_getElem hi] at o
    rw [← e]
    exact o
  have hws:=tot_bd9 hbt ws.length (Nat.le_refl _)
  have hcs : ∀ k : Nat,0 ≤ colSum ws dv (k : Int) ∧ colSum ws dv (k : Int) ≤ 256000:=fun k=>by
    have h1:=tot_bd9 (col_bd hw (show dv.length ≤ ws.length by omega) (k : Int)) (colOf ws dv (k : Int)).length (Nat.le_refl _)
    have h2:=colTo_len ws dv (k : Int) dv.length
    have h3 : (colOf ws dv (k : Int)).length ≤ 8:=by unfold colOf;omega
    unfold colSum
    omega
  have hpart : ∀ i : Nat,0 ≤ sumK (fun k=>colSum ws dv (k : Int)) i ∧ sumK (fun k=>colSum ws dv (k : Int)) i ≤ 256000 * (i : Int):=fun i=>by
    induction i with
    | zero=>simp [sumK]
    | succ i ih=>have:=hcs i;rw [sumK];omega
  have hlen : ∀ k : Nat,(colOf ws dv (k : Int)).length ≤ 8:=fun k=>by
    have h2:=colTo_len ws dv (k : Int) dv.length
    unfold colOf;omega
  have hparl : ∀ i : Nat,0 ≤ sumK (fun k=>((colOf ws dv (k : Int)).length : Int)) i ∧ sumK (fun k=>((colOf ws dv (k : Int)).length : Int)) i ≤ 8 * (i : Int):=fun i=>by
    induction i with
    | zero=>simp [sumK]
    | succ i ih=>have:=hlen i;rw [sumK];omega
  have hmost : 0 ≤ mostTo ws dv n ∧ mostTo ws dv n ≤ 256000:=by
    have : ∀ i : Nat,mostTo ws dv i ≤ 256000:=fun i=>by
      induction i with
      | zero=>simp [mostTo]
      | succ i ih=>have:=hcs i;rw [mostTo];unfold mx;split <;> omega
    exact ⟨most_nn ws dv n,this n⟩
  have main : ∀ (d i : Nat),i + d = n → Ev (fun k=>laws_FnColumns.l0 k l0 ws (n : Int) (colsOf ws dv n) (mostTo ws dv n) (sumK (fun k=>colSum ws dv (k : Int)) i) (mostTo ws dv i) (sumK (fun k=>((colOf ws dv (k : Int)).length : Int)) i) (i : Int)) true:=by
    intro d
    induction d with
    | zero =>
      intro i hi
      obtain rfl : i = n:=by omega
      refine Ev.step (fun k=>by rw [laws_FnColumns.l0]) ?_
      simp (disch:=omega) only [if_neg]
      refine Ev.bind (rSum_tot (by omega) hbt) ?_
      have e1 : sumK (fun k=>colSum ws dv (k : Int)) i = tot ws 0 ws.length:=by rw [← f1];exact hsum
      have e2 : sumK (fun k=>((colOf ws dv (k : Int)).length : Int)) i = (ws.length : Int):=by rw [← f1];exact hmany
      have e3:=sumK_le (f:=fun k=>colSum ws dv (k : Int)) (m:=mostTo ws dv i) i (fun k hk=>most_ge ws dv i k hk)
      have hb : 0 ≤ mostTo ws dv i * (i : Int) ∧ mostTo ws dv i * (i : Int) ≤ 768000:=by
        have h1 : mostTo ws dv i * (i : Int) ≤ 256000 * (i : Int):=Int.mul_le_mul_of_nonneg_right hmost.2 (by omega)
        have h2 : 0 ≤ mostTo ws dv i * (i : Int):=Int.mul_nonneg hmost.1 (by omega)
        omega
      have w1 : wrap64 (mostTo ws dv i * (i : Int)) = mostTo ws dv i * (i : Int):=wrap64_id (by omega) (by omega)
      simp only [if_pos e1,if_pos e2,w1,if_true,if_neg (show ¬ mostTo ws dv i * (i : Int) < sumK (fun k=>colSum ws dv (k : Int)) i by omega),if_pos (show ((colsOf ws dv i).length : Int) = (i : Int) by omega)]
      exact columns6 l0 hc
    | succ d ih =>
      intro i hi
      have r:=ih (i + 1) (by omega)
      rw [show ((i + 1 : Nat) : Int) = (i : Int) + 1 by omega] at r
      have hcol : rd_L1 (colsOf ws dv n) (i : Int) = colOf ws dv (i : Int):=rd_cols ws dv n _ i (by omega)
      have hf:=f3 i (by omega)
      have s1:=hpart i
      have s2:=hparl i
      have c1:=hcs i
      have c2:=hlen i
      refine Ev.step (fun k=>by rw [laws_FnColumns.l0]) ?_
      simp only [if_pos (show (i : Int) < ((colsOf ws dv n).length : Int) by omega),if_pos (show (0 : Int) ≤ (i : Int) by omega),hcol]
      refine Ev.bind (rSum_tot (by omega) (col_bd hw (show dv.length ≤ ws.length by omega) (i : Int))) ?_
      have e0 : tot (colOf ws dv (i : Int)) 0 (colOf ws dv (i : Int)).length = colSum ws dv (i : Int):=rfl
      have w1 : wrap64 (sumK (fun k=>colSum ws dv (k : Int)) i + colSum ws dv (i : Int)) = sumK (fun k=>colSum ws dv (k : Int)) i + colSum ws dv (i : Int):=wrap64_id (by omega) (by omega)
      have w2 : wrap64 (sumK (fun k=>((colOf ws dv (k : Int)).length : Int)) i + ((colOf ws dv (i : Int)).length : Int)) = sumK (fun k=>((colOf ws dv (k : Int)).length : Int)) i + ((colOf ws dv (i : Int)).length : Int):=wrap64_id (by omega) (by omega)
      have w3 : wrap64 ((i : Int) + 1) = (i : Int) + 1:=wrap64_id (by omega) (by omega)
      rw [sumK,sumK,mostTo] at r
      rw [e0,w1,w2,w3]
      simp only [if_neg (show ¬ ((colOf ws dv (i : Int)).length : Int) > 4 by omega)]
      refine Ev.ite (fun g=>?_) (fun g=>?_)
      · rw [show mx (mostTo ws dv i) (colSum ws dv (i : Int)) = colSum ws dv (i : Int) from if_pos g] at r
        exact r
      · rw [show mx (mostTo ws dv i) (colSum ws dv (i : Int)) = mostTo ws dv i from if_neg g] at r
        exact r
  exact main n 0 (by omega)
theorem columns3 (l0 : List Int) (hc : Cd l0) : Ev (fun k=>laws_FnColumns.j3 k l0) true:=by
  refine Ev.step (fun k=>by rw [laws_FnColumns.j3]) ?_
  obtain ⟨⟨ws,n⟩,hl,e⟩:=drawSplit hc
  have hl : (ws.length : Int) ≤ 100:=hl
  refine Ev.bind e ?_
  dsimp only
  have hi : impl_SplitColumns.f ws n = some (splitR ws n):=rfl
  rw [hi]
  simp only [Option.bind_some]
  refine Ev.bind (spec_splitR ws (by omega) n) ?_
  simp only [bne_self_eq_false,Bool.false_eq_true,if_false,if_true]
  by_cases hok : SplitOk ws n
  · obtain ⟨m,rfl⟩ : ∃ m : Nat,n = (m : Int):=⟨n.toNat,by have:=hok.2.1;omega⟩
    have h8:=hok.1.1
    have e2 : splitR ws (m : Int) = (colsOf ws (foldD ws m).1 m,(foldD ws m).2,true):=by
      unfold splitR
      rw [chk_pos hok,Int.toNat_natCast,foldC_eq (by have:=hok.2.2;omega)]
    have hn:=hok.2.1
    have hF:=foldD_ok (ws:=ws) (n:=m) (by have:=hok.2.2;omega)
    rw [e2]
    dsimp only
    refine Ev.bind (rTable_C _ (by unfold colsOf;rw [cols_len];omega) (fun i hi=>?_)) ?_
    · unfold colsOf at hi ⊢
      rw [cols_len] at hi
      rw [rd_cols ws _ m _ i hi]
      have:=colTo_len ws (foldD ws m).1 (i : Int) (foldD ws m).1.length
      omega
    · simp only [Bool.not_true]
      refine Ev.step (fun k=>by rw [laws_FnColumns.j4]) ?_
      simp only [Bool.false_eq_true,if_false,if_true]
      exact columnsL l0 hc hok
  · have e2 : splitR ws n = ([],0,false):=by unfold splitR;rw [chk_neg hok]
    rw [e2]
    dsimp only
    refine Ev.bind (rTable_C _ (by simp) (fun i hi=>absurd hi (by simp))) ?_
    simp only [Bool.not_true]
    refine Ev.step (fun k=>by rw [laws_FnColumns.j4]) ?_
    simp only [Bool.false_eq_true,if_false]
    exact columns6 l0 hc
theorem FnColumns : laws_FnColumns.Pure:=by
  intro l0 h0
  refine Ev.rounds (g:=fun k=>laws_FnColumns.f k l0) (r:=true) ?_
  unfold laws_FnColumns.f laws_rBig.f
  simp only [Option.bind_some,decide_eq_true_eq]
  refine Ev.ite (fun _=>Ev.now _) (fun g0=>?_)
  have hc : Cd l0:=cd_of (by omega) h0.2
  obtain ⟨⟨c,L,T,S⟩,hl,e⟩:=drawRoom hc
  have hl : (c.length : Int) ≤ 100:=hl
  refine Ev.bind e ?_
  dsimp only
  refine Ev.bind (impl_Room c L T S) (Ev.bind (spec_Room c (by omega) L T S) ?_)
  simp only [if_true,bne_self_eq_false]
  refine Ev.step (fun k=>by rw [laws_FnColumns.j0]) ?_
  simp only [Bool.false_eq_true,if_false]
  have b:=best_bd c L T S 32000
  by_cases h : Lashed c L T S
  · have e1 : roomR c L T S = (best c L T S 32000,true):=by unfold roomR;rw [chk_pos h]
    rw [e1]
    simp only [if_true]
    have two : Ev (fun k=>laws_FnColumns.j2 k l0 c (best c L T S 32000) true L T S) true:=by
      refine Ev.step (fun k=>by rw [laws_FnColumns.j2]) ?_
      simp only [if_true]
      rw [wrap64_id (by omega) (by omega)]
      refine Ev.bind (impl_Add c _ L T S) ?_
      have no : ¬ okTop c L T S (best c L T S 32000 + 1):=by
        by_cases g : best c L T S 32000 + 1 ≤ 32000
        · exact best_no c L T S 32000 _ (by omega) g
        · exact over_no c L T S _ (by omega)
      refine Ev.ite (fun g=>absurd g no) (fun _=>columns3 l0 hc)
    refine Ev.step (fun k=>by rw [laws_FnColumns.j1]) ?_
    by_cases g : best c L T S 32000 > 0
    · rw [decide_eq_true g]
      simp only [if_true]
      refine Ev.bind (impl_Add c _ L T S) ?_
      exact Ev.ite (fun _=>two) (fun q=>absurd (best_ok c L T S 32000 g) q)
    · rw [decide_eq_false g]
      simp only [Bool.false_eq_true,if_false]
      exact two
  · have e1 : roomR c L T S = (0,false):=by unfold roomR;rw [chk_neg h]
    rw [e1]
    simp only [Bool.false_eq_true,if_false]
    refine Ev.step (fun k=>by rw [laws_FnColumns.j1]) ?_
    simp only [Bool.false_eq_true,if_false]
    refine Ev.step (fun k=>by rw [laws_FnColumns.j2]) ?_
    simp only [Bool.false_eq_true,if_false]
    exact columns3 l0 hc
end Go.Proofs.Ytcgfedaoimhejaa.Pure

-- Written by wip/tools/gen.py out of the translation (the kit's printer, one namespace a seat). Lean checks it.
namespace Go.Proofs.Ytcgfedaoimhejaa.G
open Go.RowKit Go.ChangeShapes Go.WideShapes Go.Deep Go.Proofs.YtcgfedaoimhejaaW.PrintWords Go.Proofs.YtcgfedaoimhejaaW.PrintLast
set_option linter.unusedVariables false
/-! Opening the arguments of a law: whatever reads as data of type t reads as a value of kind d, within what its type allows. -/
def Opens {α : Type} (P : Program) (t : TypeId) (d : Kd α) (Wf : α → Prop) : Prop :=
  ∀ {H : Type} {enc : TypeId × Value → H} {W : World} {spare : Nat → Bool} {held : Bool} {fuel : Nat} {cs : List Value} {x : DataW H × List MemPlace},
    DataW.trod enc P W 0 spare held fuel t cs = some x → ∃ a,d.K W a cs ∧ Wf a
theorem opens_int {P : Program} {t : TypeId} {k : IntKind} (ht : P.underlying t = some (.int k)) : Opens P t (Kd.int k) (fun x=>(Lit.int k x).wf = true):=by
  intro H enc W spare held fuel cs x h
  obtain ⟨n,rfl,_,hw⟩:=DataW.trod_int ht h
  exact ⟨n,rfl,hw⟩
theorem opens_row {α : Type} {d : Kd α} {Wf : α → Prop} {W : World} (Q : Nat → List Value → Prop) (hq : ∀ i cs,Q i cs → ∃ a,d.K W a cs ∧ Wf a) (n : Nat) (h : ∀ i,i < n → ∃ cs,Q i cs) :
    ∃ xs : List α,xs.length = n ∧ (∀ y ∈ xs,Wf y) ∧ ∀ j p,xs[j]? = some p → ∃ cs,Q j cs ∧ d.K W p cs:=by
  induction n with
  | zero=>exact ⟨[],rfl,fun y hy=>by simp at hy,fun j p hp=>by simp at hp⟩
  | succ n ih =>
    obtain ⟨xs,hl,hw,hx⟩:=ih (fun i hi=>h i (by omega))
    obtain ⟨cs,hcs⟩:=h n (by omega)
    obtain ⟨a,ha,hwa⟩:=hq n cs hcs
    refine ⟨xs ++ [a],by simp [hl],fun y hy=>?_,fun j p hp=>?_⟩
    · rcases List.mem_append.1 hy with hy|hy
      · exact hw y hy
      · rw [List.mem_singleton.1 hy];exact hwa
    · rcases Nat.lt_or_ge j xs.length with hj|hj
      · rw [List.getElem?_append_left hj] at hp
        exact hx j p hp
      · rw [List.getElem?_append_right hj] at hp
        have h0 : j - xs.length = 0:=by
          rcases Nat.eq_zero_or_pos (j - xs.length) with h0|h0
          · exact h0
          · rw [List.getElem?_eq_none (by simp;omega)] at hp;cases hp
        rw [h0] at hp
        simp at hp
        subst hp
        have : j = n:=by omega
        subst this
        exact ⟨cs,hcs,ha⟩
theorem opens_slice {α : Type} {P : Program} {t e : TypeId} {d : Kd α} {Wf : α → Prop} (ht : P.underlying t = some (.slice e)) (hC : P.cellsOf e = d.sz) (ho : Opens P e d Wf) :
    Opens P t (Kd.slice e d) (fun xs=>xs.length ≤ maxLen ∧ ∀ y ∈ xs,Wf y):=by
  intro H enc W spare held fuel cs x h
  rcases open_slice ht h with ⟨rfl,_⟩|⟨a,len,cap,m,n,D,Pl,rfl,_,hl,hm,hmm,_,hi⟩
  · exact ⟨[],⟨none,0,rfl,Nat.le_refl _,rfl,by simp,fun h=>by simp at h⟩,by simp [maxLen],fun y hy=>by simp at hy⟩
  · have hml : len ≤ m:=by rw [hmm];split <;> omega
    obtain ⟨xs,hxl,hw,hx⟩:=opens_row (W:=W) (d:=d) (Wf:=Wf) (fun i cs'=>W.cells? 0 (a.add (i * P.cellsOf e)) (P.cellsOf e) = some cs' ∧ DataW.trod enc P W 0 spare held n e cs' = some (D i,Pl i))
      (fun i cs' hq=>ho hq.2) len (fun i hi'=>hi i (by omega))
    refine ⟨xs,⟨some a,cap,by rw [hxl],by omega,rfl,?_,fun _=>⟨a,rfl,fun j p hj=>?_⟩⟩,by omega,hw⟩
    · simp only [maxLen] at hm
      omega
    · obtain ⟨cs',⟨hc,_⟩,hK⟩:=hx j p hj
      obtain ⟨_,hcl,hat⟩:=World.cells?_some hc
      refine ⟨cs',d.K_len hK,hK,fun i u hu=>?_⟩
      have hil : i < cs'.length:=(List.getElem?_eq_some_iff.1 hu).1
      have h1:=hat i (by omega)
      rw [hC] at h1
      rw [← Go.Deep.add_add,h1,hu]
section
variable {α β γ δ : Type} {P : Program} {t : TypeId} {f0 f1 f2 f3 : Field} {d0 : Kd α} {d1 : Kd β} {d2 : Kd γ} {d3 : Kd δ} {W0 : α → Prop} {W1 : β → Prop} {W2 : γ → Prop} {W3 : δ → Prop}
end
theorem opens_arg {α : Type} {P : Program} {t e : TypeId} {d : Kd α} {Wf : List α → Prop} (ho : Opens P t (Kd.slice e d) Wf) {H : Type} {enc : TypeId × Value → H} {W : World} {spare : Nat → Bool} {held : Bool} {a : Option Addr} {len cap : Nat} {dd : DataW H} {p : List MemPlace}
    (h : DataW.Trod enc P W 0 spare held t (.slice a len cap) dd p) : ∃ l : List α,len = l.length ∧ l.length ≤ cap ∧ Kd.C d W a l.length l ∧ Wf l:=by
  obtain ⟨fuel,hf⟩:=h
  obtain ⟨l,⟨A,c,he,hl,hC⟩,hw⟩:=ho hf
  simp [Value.cells] at he
  obtain ⟨rfl,rfl,rfl⟩:=he
  exact ⟨l,rfl,hl,hC,hw⟩
end Go.Proofs.Ytcgfedaoimhejaa.G
