/- Texts of the proof of FnExactSafePath, joined in build order. -/
import Derived.Test.YtbpccdbkaiigcaaMgFnExactSafePath2
import Derived.Test.YtbpccdbkaiigcaaMgFnExactSafePath3
import Derived.Test.YtbpccdbkaiigcaaMgFnExactSafePath1
/- Sets of cells that the program keeps as maps to bools; their ranges. -/
namespace Go.Proofs.Ytbpccdbkaiigcaa.G
open Go.RowKit Go.Maps Go.Proofs.YtbpccdbkaiigcaaW.PrintWords Go.Proofs.YtbpccdbkaiigcaaW.PrintLast
set_option linter.unusedVariables false
set_option linter.unusedSimpArgs false
theorem plainElem_bool_inv {P : Program} {e : TypeId} (he : P.underlying e = some .bool) {v : Value} {z : DataW Unit × List MemPlace} (h : plainElem P e v = some z) : ∃ x,v = .bool x ∧ z = (.lit (.bool x),[]):=by
 unfold plainElem at h
 rw [he] at h
 cases v <;> simp at h
 exact ⟨_,rfl,h.symm⟩
/-- Block b is a map that holds just the cells of S (with true). -/
def MapB (w : World) (b n : Nat) (S : S48 → Prop) : Prop := ∃ D : DataW Unit,w.ownsMap Try.prog 48 (plainElem Try.prog 4) b n D ∧ (∀ k,Maps.has D k = true → ∃ c,W64 c ∧ k = kl c) ∧ ∀ c,W64 c → (Maps.has D (kl c) = true ↔ S c) ∧ D.atKey (kl c) (.lit (.bool false)) = .lit (.bool (chk (S c) true false))
theorem MapB.lt {w : World} {b n : Nat} {S : S48 → Prop} (h : MapB w b n S) : b < w.heap.size:=by obtain ⟨D,h,_⟩:=h;exact h.lt
theorem MapB.step {w w1 : World} {b n : Nat} {S : S48 → Prop} (h : MapB w b n S) (hm : w1.heap[b]? = w.heap[b]?) : MapB w1 b n S:=by
 obtain ⟨D,⟨es,clock,hb,r⟩,h⟩:=h
 exact ⟨D,⟨es,clock,hm.trans hb,r⟩,h⟩
theorem MapB.below {w w1 : World} {b n : Nat} {S : S48 → Prop} (h : MapB w b n S) (hb : Below w.heap.size w w1) : MapB w1 b n S:=h.step (hb.block b h.lt)
theorem MapB.grown {w w1 : World} {b n : Nat} {S : S48 → Prop} {row : Option Nat} (h : MapB w b n S) (hg : w.grownBy w1 row) (hne : some b ≠ row) : MapB w1 b n S:=h.step (hg.block b h.lt hne)
theorem MapB.cells {w : World} {b n : Nat} {S : S48 → Prop} (h : MapB w b n S) {g : Nat} {cs : Array Value} {t : TypeId} {p : Nat × Nat} (hg : w.heap[g]? = some (.cells cs t p)) : b ≠ g:=by
 rintro rfl
 obtain ⟨D,⟨es,clock,hb,r⟩,h⟩:=h
 rw [hg] at hb
 cases hb
theorem MapB.congr {w : World} {b n : Nat} {S T : S48 → Prop} (h : MapB w b n S) (e : ∀ c,S c ↔ T c) : MapB w b n T:=by
 rw [show T = S from funext fun c=>propext (e c).symm]
 exact h
theorem mapB_made (w : World) : MapB (w.alloc (.map #[] 0)) w.heap.size 0 (fun _=>False):=⟨_,World.ownsMap_made w Try.prog 48 _,fun k hk=>by simp [Maps.has] at hk,fun c _=>⟨⟨fun h=>by simp [Maps.has] at h,fun h=>h.elim⟩,by rw [chk_neg (fun h=>h)];rfl⟩⟩
set_option maxRecDepth 20000 in
theorem mapB_update {w : World} {b n : Nat} {S : S48 → Prop} (h : MapB w b n S) (hn : n < maxLen) {c : S48} (hc : W64 c) : ∃ w',(Instr.mapUpdate 108 (.map (some b)) (cv c) (.bool true)).run Try.prog w = .ok () w' ∧ MapB w' b (n + 1) (fun d=>d = c ∨ S d) ∧ w.grownBy w' (some b):=by
 obtain ⟨D,ho,hk,h⟩:=h
 obtain ⟨w',hrun,h1,h2⟩:=ho.update keyed48 Try.underlying108 hn (key48 hc) (plainElem_bool Try.underlying4 true)
 have hD:=ho.isMap
 refine ⟨w',hrun,⟨_,h1,?_,?_⟩,h2⟩
 ·intro k hh
  by_cases e : k = kl c
  ·exact ⟨c,hc,e⟩
  ·rw [Maps.has_put_other e] at hh
   exact hk k hh
 ·intro d hd
  by_cases e : d = c
  ·subst e
   rw [chk_pos (show d = d ∨ S d from Or.inl rfl)]
   exact ⟨⟨fun _=>Or.inl rfl,fun _=>Maps.has_put_same hD (isKey_kl hc) _⟩,Maps.atKey_put_same hD (isKey_kl hc) _ _⟩
  ·have hne : kl d ≠ kl c:=fun h'=>e (kl_inj hd hc h')
   rw [Maps.has_put_other hne,Maps.atKey_put_other hne,(h d hd).2,(h d hd).1]
   refine ⟨⟨Or.inr,fun m=>m.elim (fun m=>absurd m e) id⟩,?_⟩
   by_cases hs : S d
   ·rw [chk_pos hs,chk_pos (Or.inr hs)]
   ·rw [chk_neg hs,chk_neg (fun m=>m.elim e hs)]
set_option maxRecDepth 20000 in
theorem mapB_run {w : World} {b n : Nat} {S : S48 → Prop} (h : MapB w b n S) {c : S48} (hc : W64 c) : (Instr.lookup 108 (.map (some b)) (cv c) false).run Try.prog w = .ok (.bool (chk (S c) true false)) w:=by
 obtain ⟨D,ho,_,h⟩:=h
 obtain ⟨v,ps,hrun,hv⟩:=ho.lookup keyed48 Try.underlying108 (zero4 w) (plainElem_bool Try.underlying4 false) (key48 hc)
 obtain ⟨x,rfl,hx⟩:=plainElem_bool_inv Try.underlying4 hv
 have hx:=congrArg Prod.fst hx
 rw [(h c hc).2] at hx
 injection hx with hx
 injection hx with hx
 rw [hx]
 exact hrun
/-- The range over block b by the iterator r is under way; Left: what is still to come. -/
def RangeB (w : World) (b r n : Nat) (Left : S48 → Prop) (cnt : Nat) : Prop := ∃ (D : DataW Unit) (left : Lit → Bool),w.ranges Try.prog 48 (plainElem Try.prog 4) b r n D left cnt ∧ (∀ k,left k = true → ∃ c,W64 c ∧ k = kl c) ∧ ∀ c,W64 c → (left (kl c) = true ↔ Left c)
theorem RangeB.kept {w w1 : World} {b r n cnt : Nat} {Left : S48 → Prop} {row : Option Nat} (h : RangeB w b r n Left cnt) (hg : w.grownBy w1 row) (hb : some b ≠ row) (hr : some r ≠ row) : RangeB w1 b r n Left cnt:=by
 obtain ⟨D,left,h1,h2⟩:=h
 exact ⟨D,left,h1.kept hg hb hr,h2⟩
theorem RangeB.below {w w1 : World} {b r n cnt : Nat} {Left : S48 → Prop} (h : RangeB w b r n Left cnt) (hb : Below w.heap.size w w1) : RangeB w1 b r n Left cnt:=h.kept (grown_of_below hb none) (by simp) (by simp)
theorem RangeB.lt {w : World} {b r n cnt : Nat} {Left : S48 → Prop} (h : RangeB w b r n Left cnt) : r < w.heap.size:=by obtain ⟨D,left,h,_⟩:=h;exact h.lt
theorem RangeB.left_eq {w : World} {b r n cnt : Nat} {Left : S48 → Prop} (h : RangeB w b r n Left cnt) : w.rangeLeft b r = cnt:=by obtain ⟨D,left,h,_⟩:=h;exact h.left_eq
theorem RangeB.iter {w : World} {b r n cnt : Nat} {Left : S48 → Prop} (h : RangeB w b r n Left cnt) {g : Nat} {cs : Array Value} {t : TypeId} {p : Nat × Nat} (hg : w.heap[g]? = some (.cells cs t p)) : r ≠ g:=by
 rintro rfl
 obtain ⟨D,left,⟨es,clock,since,seen,c0,_,_,_,_,hr,_⟩,_⟩:=h
 rw [hg] at hr
 cases hr
theorem RangeB.mapNe {w : World} {b r n cnt : Nat} {Left : S48 → Prop} (h : RangeB w b r n Left cnt) {b' n' : Nat} {S : S48 → Prop} (hm : MapB w b' n' S) : r ≠ b':=by
 rintro rfl
 obtain ⟨D,left,⟨es,clock,since,seen,c0,_,_,_,_,hr,_⟩,_⟩:=h
 obtain ⟨D',⟨es',clock',hb,_⟩,_⟩:=hm
 rw [hr] at hb
 cases hb
section
variable {ops : Array Oper} {rest : List Oper} {o : Oper} {a : Act} {Q : Exit → Act → World → Prop} {w : World} {b n : Nat} {S : S48 → Prop} {c : S48}
theorem wpB_insert (hg : o.guard = none) (mo x v : Operand) (hop : o.op = Op.insert 108 mo x v) (hm : a.eval mo = .map (some b)) (hx : a.eval x = cv c) (hv : a.eval v = .bool true) (h : MapB w b n S) (hn : n < maxLen) (hc : W64 c)
  (hK : ∀ w',MapB w' b (n + 1) (fun d=>d = c ∨ S d) → w.grownBy w' (some b) → wpList Try.prog ops Q rest (a.put o.dst undef) w') : wpList Try.prog ops Q (o :: rest) a w:=by
 refine wpList_plain hg fun K' hK'=>?_
 obtain ⟨w',hrun,r1,r2⟩:=mapB_update h hn hc
 unfold Oper.wp
 simp [execOp,hop,hm,hx,hv,hrun,Result.andThen]
 exact hK' _ _ (hK w' r1 r2)
theorem wpB_range (hg : o.guard = none) (m : Operand) (hop : o.op = Op.range 108 m) (hm : a.eval m = .map (some b)) (h : MapB w b n S)
  (hK : ∀ w' cnt,RangeB w' b w.heap.size n S cnt → cnt ≤ n → w.grownBy w' none → w'.heap.size = w.heap.size + 1 → wpList Try.prog ops Q rest (a.put o.dst (.pointer (some ⟨w.heap.size,0,none⟩))) w') : wpList Try.prog ops Q (o :: rest) a w:=by
 obtain ⟨D,ho,hk,h⟩:=h
 refine wpList_range_own w hg m 108 hop 48 4 keyed48 Try.underlying108 _ b n D hm ho fun w' h1 h2 h3=>?_
 exact hK w' _ ⟨D,_,h1,hk,fun c hc=>(h c hc).1⟩ ho.size_le h2 h3
theorem wpB_next (hg : o.guard = none) (it : Operand) (hop : o.op = Op.next it false) {r cnt : Nat} {Left : S48 → Prop} (hit : a.eval it = .pointer (some ⟨r,0,none⟩)) (h : RangeB w b r n Left cnt)
  (hDone : (∀ c,W64 c → ¬ Left c) → wpList Try.prog ops Q rest (a.put o.dst (.tuple #[.bool false])) w)
  (hMore : ∀ (c : S48) (v : Value) (w' : World) (cnt' : Nat),W64 c → Left c → RangeB w' b r n (fun d=>Left d ∧ d ≠ c) cnt' → cnt' < cnt → w.grownBy w' (some r) → w'.heap.size = w.heap.size → (Instr.entry (.pointer (some ⟨r,0,none⟩))).run Try.prog w' = .ok (.tuple #[cv c,v]) w' → wpList Try.prog ops Q rest (a.put o.dst (.tuple #[.bool true,cv c,v])) w') : wpList Try.prog ops Q (o :: rest) a w:=by
 obtain ⟨D,left,hr,hk,hl⟩:=h
 refine wpList_next_ranges w hg it hop 48 keyed48 (plainElem Try.prog 4) (fun v : Value=>v) (fun v : Value=>v) (fun key _ _=>⟨key,rfl⟩) (fun v _ _=>⟨v,rfl⟩) b r n D left cnt hit hr (fun _ hz=>hDone fun c hc hL=>?_) ?_
 ·have:=(hl c hc).2 hL
  rw [hz] at this
  cases this
 ·intro x v k y w' cnt' hkey hlk hv _ hrg hlt hgr hsz hen
  obtain ⟨c,hc,rfl⟩:=hk k hlk
  have hx : x = cv c:=Keyed.inj keyed48 hkey (key48 hc)
  subst hx
  refine hMore c v w' cnt' hc ((hl c hc).1 hlk) ⟨D,_,hrg,fun k' hk'=>hk k' (Bool.and_eq_true_iff.1 hk').1,fun d hd=>?_⟩ hlt hgr hsz hen
  rw [Bool.and_eq_true,hl d hd]
  refine and_congr_right fun _=>?_
  by_cases e : d = c
  ·subst e
   simp [WideAt.sameKey_self (isKey_kl hd)]
  ·simp only [Bool.not_eq_true']
   refine ⟨fun _=>e,fun _=>?_⟩
   apply Bool.eq_false_iff.2
   intro hs
   exact e (kl_inj hd hc (WideAt.sameKey_eq hs))
end
end Go.Proofs.Ytbpccdbkaiigcaa.G

/- The closures of isHit, safePath and SafePath; slices.ContainsFunc over paths with each of them; impl.isHit. -/
namespace Go.Proofs.Ytbpccdbkaiigcaa.G
open Go.RowKit Go.Proofs.YtbpccdbkaiigcaaW.PrintWords Go.Proofs.YtbpccdbkaiigcaaW.PrintLast Go.Proofs.YtbpccdbkaiigcaaW.PrintMore
set_option linter.unusedVariables false
set_option linter.unusedSimpArgs false
attribute [local go_sem high] eqA48
theorem eq_chk (a b : S48) : (a.f0 == b.f0 && (a.f1 == b.f1)) = chk (a = b) true false:=by
 by_cases h : a = b
 ·rw [chk_pos h];exact (eq_bool a b).2 h
 ·rw [chk_neg h];exact Bool.eq_false_iff.2 (fun m=>h ((eq_bool a b).1 m))
/-- The first place at which Q holds, from place i on over d places; -1 if there is none. -/
noncomputable def fstAt (Q : List S48 → Prop) (os : List (List S48)) : Nat → Nat → Int
 | 0,_ => -1
 | d + 1,i=>chk (Q (rd_L6 os (i : Int))) (i : Int) (fstAt Q os d (i + 1))
theorem ret_i6 {k : IntKind} {a b : Int} (h : a = b) : Ending.returned (.int k a) = .returned (.int k b):=by rw [h]
theorem fstAt_pos {Q : List S48 → Prop} {os : List (List S48)} {d i : Nat} (h : Q (rd_L6 os (i : Int))) : fstAt Q os (d + 1) i = (i : Int):=by rw [fstAt,chk_pos h]
theorem fstAt_neg {Q : List S48 → Prop} {os : List (List S48)} {d i : Nat} (h : ¬ Q (rd_L6 os (i : Int))) : fstAt Q os (d + 1) i = fstAt Q os d (i + 1):=by rw [fstAt,chk_neg h]
theorem fstAt_iff (Q : List S48 → Prop) (os : List (List S48)) : ∀ d i,fstAt Q os d i ≥ 0 ↔ ∃ j : Nat,i ≤ j ∧ j < i + d ∧ Q (rd_L6 os (j : Int)):=by
 intro d
 induction d with
 | zero=>intro i;rw [fstAt];exact ⟨fun h=>by omega,fun ⟨j,h1,h2,_⟩=>by omega⟩
 | succ d ih =>
  intro i
  by_cases h : Q (rd_L6 os (i : Int))
  ·rw [fstAt_pos h];exact ⟨fun _=>⟨i,Nat.le_refl _,by omega,h⟩,fun _=>by omega⟩
  ·rw [fstAt_neg h,ih (i + 1)]
   constructor
   ·rintro ⟨j,h1,h2,h3⟩;exact ⟨j,by omega,by omega,h3⟩
   ·rintro ⟨j,h1,h2,h3⟩
    refine ⟨j,?_,by omega,h3⟩
    by_cases e : j = i
    ·rw [e] at h3;exact absurd h3 h
    ·omega
theorem fstAt_chk (Q : List S48 → Prop) (os : List (List S48)) : decide (fstAt Q os os.length 0 ≥ 0) = chk (∃ p ∈ os,Q p) true false:=by
 have h:=fstAt_iff Q os os.length 0
 have e : (∃ p ∈ os,Q p) ↔ ∃ j : Nat,0 ≤ j ∧ j < 0 + os.length ∧ Q (rd_L6 os (j : Int)):=by
  constructor
  ·rintro ⟨p,hp,hq⟩
   obtain ⟨i,i0,i1,rfl⟩:=mem_rd6 hp
   exact ⟨i.toNat,by omega,by omega,by rw [Int.toNat_of_nonneg i0];exact hq⟩
  ·rintro ⟨j,_,h1,hq⟩
   exact ⟨_,rd6_mem (by omega) (by omega),hq⟩
 by_cases hh : ∃ p ∈ os,Q p
 ·rw [chk_pos hh];exact decide_eq_true (h.2 (e.1 hh))
 ·rw [chk_neg hh];exact decide_eq_false (fun m=>hh (e.2 (h.1 m)))
set_option maxHeartbeats 8000000 in
set_option maxRecDepth 100000 in
theorem hit99 (p : List S48) (A : Option Addr) (c : Nat) (w : World) (hp : 1 ≤ (p.length : Int) ∧ (p.length : Int) ≤ 25) (a b : S48) (t : Int) (ht : 0 ≤ t ∧ t ≤ 30) (Bt Bb Ba : Nat) (h1 : w.heap[Bt]? = some (.cells #[.int .i64 t] 3 (0,0))) (h2 : w.heap[Bb]? = some (.cells #[.int .i64 b.f0,.int .i64 b.f1] 48 (0,0))) (h3 : w.heap[Ba]? = some (.cells #[.int .i64 a.f0,.int .i64 a.f1] 48 (0,0))) (hr : Kd.C k48 w A p.length p) (hc : p.length ≤ c) :
  Calls Try.prog 99 #[.slice A p.length c,.pointer (some ⟨Bt,0,none⟩),.pointer (some ⟨Bb,0,none⟩),.pointer (some ⟨Ba,0,none⟩)] w fun e w'=>e = .returned (.bool (chk (Hit1 p a b t) true false)) ∧ Below w.heap.size w w':=by
 have hu48:=Try.underlying48
 obtain ⟨x,hx⟩ : ∃ x,cat p t = x:=⟨_,rfl⟩
 have HX : Aside0 (impl_cellAt.f p t = some (x.f0,x.f1)):=⟨by rw [← hx];exact impl_cat p hp.1 hp.2 t ht.1⟩
 obtain ⟨y,hy⟩ : ∃ y,cat p (t - 1) = y:=⟨_,rfl⟩
 have HHX:=Aside0.mk hx
 have HHY:=Aside0.mk hy
 obtain ⟨t1,ht1⟩ : ∃ t1 : Int,t - 1 = t1:=⟨_,rfl⟩
 have hwt : wrap64 (t - 1) = t1:=by rw [wrap64_id (by omega) (by omega)];exact ht1
 have HY : Aside0 (0 < t → impl_cellAt.f p t1 = some (y.f0,y.f1)):=⟨fun h0=>by rw [← hy,← ht1];exact impl_cat p hp.1 hp.2 (t - 1) (by omega)⟩
 have HP:=Aside0.mk hp
 have HTT:=Aside0.mk ht
 have HR:=Aside0.mk hr
 have HC:=Aside0.mk hc
 have HT:=Aside0.mk h1
 have HB:=Aside0.mk h2
 have HA:=Aside0.mk h3
 have ft0 : w.cell? ⟨Bt,0,none⟩ = some (.int .i64 t):=(blk_cell HT.out 0).trans rfl
 clear hx hy ht1 hp ht hr hc h1 h2 h3
 go_enter Try.func99,Try.ntmps99
 go_wp2_with (first|(go_at_call 62;(with_reducible refine (impl_cellAt.calls A c p t x.f0 x.f1 _ HR.out HC.out HX.out).mono ?_);rintro e w9 ⟨rfl,hB⟩;have HB9:=Aside0.mk hB;clear hB)|((with_reducible refine gate_dst (N:=6) rfl ?_);refine box_event ?hg (N:=6) ?hd (cs := #[.int .i64 0,.int .i64 0]) (t:=48) ?hr ?_;(case hd=>rfl);(case hg=>rfl);(case hr=>first|(go_simp;done)|(go_simp;rfl));intro g6 hgg6 w6 hbox hb;have HF6:=Aside0.mk hbox;have HB6:=Aside0.mk hb;have HG6:=Aside0.mk hgg6;clear hbox hb hgg6;have hz0 : w6.cell? ⟨g6,0,none⟩ = some (.int .i64 0):=(blk_cell HF6.out 0).trans rfl;have hz1_ : w6.cell? ⟨g6,1,none⟩ = some (.int .i64 0):=(blk_cell HF6.out 1).trans rfl;have hzf0:=blk_frozen HF6.out 0;have hzf1:=blk_frozen HF6.out 1))
 have HF6' : Aside0 (((w6.setCell ⟨g6,0,none⟩ (.int .i64 x.f0)).setCell ⟨g6,1,none⟩ (.int .i64 x.f1)).heap[g6]? = some (.cells #[.int .i64 x.f0,.int .i64 x.f1] 48 (0,0))):=Aside0.mk (blk_put (cs := #[.int .i64 x.f0,.int .i64 0]) (blk_put (cs := #[.int .i64 0,.int .i64 0]) HF6.out 0 _ rfl) 1 _ rfl)
 have HBW' : Aside0 (Below w.heap.size w ((w6.setCell ⟨g6,0,none⟩ (.int .i64 x.f0)).setCell ⟨g6,1,none⟩ (.int .i64 x.f1))):=Aside0.mk (below_step HB9.out (below_set (j:=1) (v := .int .i64 x.f1) (below_set (j:=0) (v := .int .i64 x.f0) HB6.out (Nat.le_of_eq HG6.out.symm)) (Nat.le_of_eq HG6.out.symm)))
 clear hz0 hz1_ hzf0 hzf1 HF6 HB6 HG6 ft0
 generalize ((w6.setCell ⟨g6,0,none⟩ (.int .i64 x.f0)).setCell ⟨g6,1,none⟩ (.int .i64 x.f1)) = w6 at HF6' HBW' ⊢
 have HF6:=HF6'
 have HBW:=HBW'
 have HT6:=Aside0.mk (blk_below HT.out HBW.out)
 have HB6:=Aside0.mk (blk_below HB.out HBW.out)
 have HA6:=Aside0.mk (blk_below HA.out HBW.out)
 clear HF6' HBW' HT HB HA
 by_cases e1 : x = b
 ·have hE1 : (x.f0 == b.f0 && (x.f1 == b.f1)) = true:=(eq_bool x b).2 e1
  have HF : Aside0 (Hit1 p a b t):=⟨Or.inl (by rw [HHX.out];exact e1)⟩
  clear e1
  refine start_ (n:=21) (S:=fun w'=>Below w6.heap.size w6 w') (ds:=[]) (bits 21 0) (by kernel_rfl) rfl rfl (below_drew1 (Below.refl _ _)) (fun hHeld=>?_)
  have HBd:=Aside0.mk hHeld
  generalize w6.drew = wd at HBd hHeld ⊢
  refine zzt 0 10 (zzb 21 1) hHeld ?_ (hy:=by intro w' s0;have fx0 : w'.cell? ⟨g6,0,none⟩ = some (.int .i64 x.f0):=(blk_cell (blk_below HF6.out s0) 0).trans rfl;have fx1 : w'.cell? ⟨g6,1,none⟩ = some (.int .i64 x.f1):=(blk_cell (blk_below HF6.out s0) 1).trans rfl;go_simp;with_reducible rfl)
  refine zzt 1 11 (zzb 21 3) hHeld ?_ (hy:=by intro w' s0;have fb0 : w'.cell? ⟨Bb,0,none⟩ = some (.int .i64 b.f0):=(blk_cell (blk_below HB6.out s0) 0).trans rfl;have fb1 : w'.cell? ⟨Bb,1,none⟩ = some (.int .i64 b.f1):=(blk_cell (blk_below HB6.out s0) 1).trans rfl;go_simp;with_reducible rfl);refine zzp 2 12 (zzb 21 7) ?_;refine zzp 3 13 (zzb 21 15) ?_;refine zzu 4 14 (zzb 21 31) ?_;refine zzu 5 15 (zzb 21 63) ?_;refine zzu 6 16 (zzb 21 127) ?_;refine zzu 7 17 (zzb 21 255) ?_;refine zzu 8 18 (zzb 21 511) ?_;refine zzu 9 19 (zzb 21 1023) ?_;refine zzu 10 20 (zzb 21 2047) ?_;refine zzu 11 21 (zzb 21 4095) ?_;refine zzu 12 22 (zzb 21 8191) ?_;refine zzu 13 23 (zzb 21 16383) ?_;refine zzu 14 24 (zzb 21 32767) ?_;refine zzu 15 25 (zzb 21 65535) ?_;refine zzu 16 26 (zzb 21 131071) ?_;refine zzu 17 27 (zzb 21 262143) ?_;refine zzu 18 28 (zzb 21 524287) ?_;refine zzp 19 29 (zzb 21 1048575) ?_
  refine zzp 20 5 (zzb 21 2097151) ?_
  refine done_ (by kernel_rfl) ?_
  go_wp2
  go_ret
  exact ⟨by rw [chk_pos HF.out];try rfl,below_step HBW.out HBd.out⟩
 ·have hE1 : (x.f0 == b.f0 && (x.f1 == b.f1)) = false:=Bool.eq_false_iff.2 (fun m=>e1 ((eq_bool x b).1 m))
  by_cases h0 : 0 < t
  ·have ct : decide (0 < t) = true:=decide_eq_true h0
   by_cases e2 : x = a
   ·have hE2 : (x.f0 == a.f0 && (x.f1 == a.f1)) = true:=(eq_bool x a).2 e2
    have HF : Aside0 ((y.f0 == b.f0 && (y.f1 == b.f1)) = chk (Hit1 p a b t) true false):=⟨by
     rw [eq_chk]
     refine chk_congr (p:=y = b) (q:=Hit1 p a b t) ⟨fun m=>Or.inr ⟨h0,by rw [HHX.out];exact e2,by rw [HHY.out];exact m⟩,fun m=>?_⟩ _ _
     rcases m with m|m
     ·rw [HHX.out] at m;exact absurd m e1
     ·rw [HHY.out] at m;exact m.2.2⟩
    have HY:=Aside0.mk (HY.out h0)
    clear e1 e2 h0
    refine start_ (n:=21) (S:=fun w'=>Below w6.heap.size w6 w') (ds:=[]) (bits 21 0) (by kernel_rfl) rfl rfl (below_drew1 (Below.refl _ _)) (fun hHeld=>?_)
    have HBd:=Aside0.mk hHeld
    generalize w6.drew = wd at HBd hHeld ⊢
    refine zzt 0 10 (zzb 21 1) hHeld ?_ (hy:=by intro w' s0;have fx0 : w'.cell? ⟨g6,0,none⟩ = some (.int .i64 x.f0):=(blk_cell (blk_below HF6.out s0) 0).trans rfl;have fx1 : w'.cell? ⟨g6,1,none⟩ = some (.int .i64 x.f1):=(blk_cell (blk_below HF6.out s0) 1).trans rfl;go_simp;with_reducible rfl)
    refine zzt 1 11 (zzb 21 3) hHeld ?_ (hy:=by intro w' s0;have fb0 : w'.cell? ⟨Bb,0,none⟩ = some (.int .i64 b.f0):=(blk_cell (blk_below HB6.out s0) 0).trans rfl;have fb1 : w'.cell? ⟨Bb,1,none⟩ = some (.int .i64 b.f1):=(blk_cell (blk_below HB6.out s0) 1).trans rfl;go_simp;with_reducible rfl);refine zzp 2 12 (zzb 21 7) ?_;refine zzp 3 13 (zzb 21 15) ?_
    refine zzt 4 14 (zzb 21 31) hHeld ?_ (hy:=by intro w' s0;have ft0 : w'.cell? ⟨Bt,0,none⟩ = some (.int .i64 t):=(blk_cell (blk_below HT6.out s0) 0).trans rfl;go_simp;with_reducible rfl);refine zzp 5 15 (zzb 21 63) ?_;refine zzp 6 16 (zzb 21 127) ?_
    refine zzt 7 17 (zzb 21 255) hHeld ?_ (hy:=by intro w' s0;have fx0 : w'.cell? ⟨g6,0,none⟩ = some (.int .i64 x.f0):=(blk_cell (blk_below HF6.out s0) 0).trans rfl;have fx1 : w'.cell? ⟨g6,1,none⟩ = some (.int .i64 x.f1):=(blk_cell (blk_below HF6.out s0) 1).trans rfl;go_simp;with_reducible rfl)
    refine zzt 8 18 (zzb 21 511) hHeld ?_ (hy:=by intro w' s0;have fa0 : w'.cell? ⟨Ba,0,none⟩ = some (.int .i64 a.f0):=(blk_cell (blk_below HA6.out s0) 0).trans rfl;have fa1 : w'.cell? ⟨Ba,1,none⟩ = some (.int .i64 a.f1):=(blk_cell (blk_below HA6.out s0) 1).trans rfl;go_simp;with_reducible rfl);refine zzp 9 19 (zzb 21 1023) ?_;refine zzp 10 20 (zzb 21 2047) ?_;refine zzp 11 21 (zzb 21 4095) ?_;refine zzp 12 22 (zzb 21 8191) ?_
    refine zzt 13 23 (zzb 21 16383) hHeld ?_ (hy:=by intro w' s0;have ft0 : w'.cell? ⟨Bt,0,none⟩ = some (.int .i64 t):=(blk_cell (blk_below HT6.out s0) 0).trans rfl;go_simp;with_reducible rfl);refine zzp 14 24 (zzb 21 32767) ?_
    refine zzt 16 26 (zzb 21 98303) hHeld ?_ (hy:=by intro w' s0;have fb0 : w'.cell? ⟨Bb,0,none⟩ = some (.int .i64 b.f0):=(blk_cell (blk_below HB6.out s0) 0).trans rfl;have fb1 : w'.cell? ⟨Bb,1,none⟩ = some (.int .i64 b.f1):=(blk_cell (blk_below HB6.out s0) 1).trans rfl;go_simp;with_reducible rfl)
    refine one_ (i:=15) (N:=(some 25)) (bits 21 131071) rfl rfl (by kernel_rfl) (by decide) (fun K hK=>?_)
    refine goes_ Try.func62 (by kernel_rfl) rfl #[.slice A p.length c,.int .i64 t1] (by rfl) rfl rfl (by (try simp only [List.map_toArray,List.map_cons,List.map_nil]);first|rfl|(simp only [hwt];rfl)) ?_
    with_reducible refine (impl_cellAt.calls A c p t1 y.f0 y.f1 _ (Kd.C_below HR.out (below_step HBW.out HBd.out)) HC.out HY.out).mono ?_
    rintro e w25 ⟨rfl,hB⟩
    refine ⟨_,rfl,?_⟩
    have HBn : Aside0 (Below w6.heap.size w6 w25):=Aside0.mk (below_step HBd.out hB)
    clear hB HBd hHeld
    have HBd:=HBn
    clear HBn
    refine hK.out _ _ HBd.out (fun hHeld=>?_)
    clear hK K
    refine zzn 25 ?_;refine zzp 17 27 (zzb 21 262143) ?_;refine zzp 18 28 (zzb 21 524287) ?_;refine zzp 19 29 (zzb 21 1048575) ?_;refine zzp 20 5 (zzb 21 2097151) ?_
    refine done_ (by kernel_rfl) ?_
    go_wp2
    go_ret
    exact ⟨by rw [← HF.out];try rfl,below_step HBW.out HBd.out⟩
   ·have hE2 : (x.f0 == a.f0 && (x.f1 == a.f1)) = false:=Bool.eq_false_iff.2 (fun m=>e2 ((eq_bool x a).1 m))
    have HF : Aside0 (¬ Hit1 p a b t):=⟨fun m=>by
     rcases m with m|m
     ·rw [HHX.out] at m;exact e1 m
     ·rw [HHX.out] at m;exact e2 m.2.1⟩
    clear e1 e2 h0 HY
    refine start_ (n:=21) (S:=fun w'=>Below w6.heap.size w6 w') (ds:=[]) (bits 21 0) (by kernel_rfl) rfl rfl (below_drew1 (Below.refl _ _)) (fun hHeld=>?_)
    have HBd:=Aside0.mk hHeld
    generalize w6.drew = wd at HBd hHeld ⊢
    refine zzt 0 10 (zzb 21 1) hHeld ?_ (hy:=by intro w' s0;have fx0 : w'.cell? ⟨g6,0,none⟩ = some (.int .i64 x.f0):=(blk_cell (blk_below HF6.out s0) 0).trans rfl;have fx1 : w'.cell? ⟨g6,1,none⟩ = some (.int .i64 x.f1):=(blk_cell (blk_below HF6.out s0) 1).trans rfl;go_simp;with_reducible rfl)
    refine zzt 1 11 (zzb 21 3) hHeld ?_ (hy:=by intro w' s0;have fb0 : w'.cell? ⟨Bb,0,none⟩ = some (.int .i64 b.f0):=(blk_cell (blk_below HB6.out s0) 0).trans rfl;have fb1 : w'.cell? ⟨Bb,1,none⟩ = some (.int .i64 b.f1):=(blk_cell (blk_below HB6.out s0) 1).trans rfl;go_simp;with_reducible rfl);refine zzp 2 12 (zzb 21 7) ?_;refine zzp 3 13 (zzb 21 15) ?_
    refine zzt 4 14 (zzb 21 31) hHeld ?_ (hy:=by intro w' s0;have ft0 : w'.cell? ⟨Bt,0,none⟩ = some (.int .i64 t):=(blk_cell (blk_below HT6.out s0) 0).trans rfl;go_simp;with_reducible rfl);refine zzp 5 15 (zzb 21 63) ?_;refine zzp 6 16 (zzb 21 127) ?_
    refine zzt 7 17 (zzb 21 255) hHeld ?_ (hy:=by intro w' s0;have fx0 : w'.cell? ⟨g6,0,none⟩ = some (.int .i64 x.f0):=(blk_cell (blk_below HF6.out s0) 0).trans rfl;have fx1 : w'.cell? ⟨g6,1,none⟩ = some (.int .i64 x.f1):=(blk_cell (blk_below HF6.out s0) 1).trans rfl;go_simp;with_reducible rfl)
    refine zzt 8 18 (zzb 21 511) hHeld ?_ (hy:=by intro w' s0;have fa0 : w'.cell? ⟨Ba,0,none⟩ = some (.int .i64 a.f0):=(blk_cell (blk_below HA6.out s0) 0).trans rfl;have fa1 : w'.cell? ⟨Ba,1,none⟩ = some (.int .i64 a.f1):=(blk_cell (blk_below HA6.out s0) 1).trans rfl;go_simp;with_reducible rfl);refine zzp 9 19 (zzb 21 1023) ?_;refine zzp 10 20 (zzb 21 2047) ?_;refine zzp 11 21 (zzb 21 4095) ?_;refine zzu 12 22 (zzb 21 8191) ?_;refine zzu 13 23 (zzb 21 16383) ?_;refine zzu 14 24 (zzb 21 32767) ?_;refine zzu 15 25 (zzb 21 65535) ?_;refine zzu 16 26 (zzb 21 131071) ?_;refine zzu 17 27 (zzb 21 262143) ?_;refine zzp 18 28 (zzb 21 524287) ?_;refine zzp 19 29 (zzb 21 1048575) ?_;refine zzp 20 5 (zzb 21 2097151) ?_
    refine done_ (by kernel_rfl) ?_
    go_wp2
    go_ret
    exact ⟨by rw [chk_neg HF.out];try rfl,below_step HBW.out HBd.out⟩
  ·have ct : decide (0 < t) = false:=decide_eq_false h0
   have HF : Aside0 (¬ Hit1 p a b t):=⟨fun m=>by
    rcases m with m|m
    ·rw [HHX.out] at m;exact e1 m
    ·exact h0 m.1⟩
   clear e1 h0 HY
   refine start_ (n:=21) (S:=fun w'=>Below w6.heap.size w6 w') (ds:=[]) (bits 21 0) (by kernel_rfl) rfl rfl (below_drew1 (Below.refl _ _)) (fun hHeld=>?_)
   have HBd:=Aside0.mk hHeld
   generalize w6.drew = wd at HBd hHeld ⊢
   refine zzt 0 10 (zzb 21 1) hHeld ?_ (hy:=by intro w' s0;have fx0 : w'.cell? ⟨g6,0,none⟩ = some (.int .i64 x.f0):=(blk_cell (blk_below HF6.out s0) 0).trans rfl;have fx1 : w'.cell? ⟨g6,1,none⟩ = some (.int .i64 x.f1):=(blk_cell (blk_below HF6.out s0) 1).trans rfl;go_simp;with_reducible rfl)
   refine zzt 1 11 (zzb 21 3) hHeld ?_ (hy:=by intro w' s0;have fb0 : w'.cell? ⟨Bb,0,none⟩ = some (.int .i64 b.f0):=(blk_cell (blk_below HB6.out s0) 0).trans rfl;have fb1 : w'.cell? ⟨Bb,1,none⟩ = some (.int .i64 b.f1):=(blk_cell (blk_below HB6.out s0) 1).trans rfl;go_simp;with_reducible rfl);refine zzp 2 12 (zzb 21 7) ?_;refine zzp 3 13 (zzb 21 15) ?_
   refine zzt 4 14 (zzb 21 31) hHeld ?_ (hy:=by intro w' s0;have ft0 : w'.cell? ⟨Bt,0,none⟩ = some (.int .i64 t):=(blk_cell (blk_below HT6.out s0) 0).trans rfl;go_simp;with_reducible rfl);refine zzp 5 15 (zzb 21 63) ?_;refine zzp 6 16 (zzb 21 127) ?_;refine zzu 7 17 (zzb 21 255) ?_;refine zzu 8 18 (zzb 21 511) ?_;refine zzu 9 19 (zzb 21 1023) ?_;refine zzp 10 20 (zzb 21 2047) ?_;refine zzp 11 21 (zzb 21 4095) ?_;refine zzu 12 22 (zzb 21 8191) ?_;refine zzu 13 23 (zzb 21 16383) ?_;refine zzu 14 24 (zzb 21 32767) ?_;refine zzu 15 25 (zzb 21 65535) ?_;refine zzu 16 26 (zzb 21 131071) ?_;refine zzu 17 27 (zzb 21 262143) ?_;refine zzp 18 28 (zzb 21 524287) ?_;refine zzp 19 29 (zzb 21 1048575) ?_;refine zzp 20 5 (zzb 21 2097151) ?_
   refine done_ (by kernel_rfl) ?_
   go_wp2
   go_ret
   exact ⟨by rw [chk_neg HF.out];try rfl,below_step HBW.out HBd.out⟩
set_option maxHeartbeats 8000000 in
set_option maxRecDepth 100000 in
theorem hit94 (p : List S48) (A : Option Addr) (c : Nat) (w : World) (hp : 1 ≤ (p.length : Int) ∧ (p.length : Int) ≤ 25) (b : S48) (t : Int) (ht : 0 ≤ t ∧ t ≤ 30) (Bt Bb : Nat) (h1 : w.heap[Bt]? = some (.cells #[.int .i64 t] 3 (0,0))) (h2 : w.heap[Bb]? = some (.cells #[.int .i64 b.f0,.int .i64 b.f1] 48 (0,0))) (hr : Kd.C k48 w A p.length p) (hc : p.length ≤ c) :
  Calls Try.prog 94 #[.slice A p.length c,.pointer (some ⟨Bt,0,none⟩),.pointer (some ⟨Bb,0,none⟩)] w fun e w'=>e = .returned (.bool (chk (cat p t = b) true false)) ∧ Below w.heap.size w w':=by
 have hu48:=Try.underlying48
 obtain ⟨x,hx⟩ : ∃ x,cat p t = x:=⟨_,rfl⟩
 have HX : Aside0 (impl_cellAt.f p t = some (x.f0,x.f1)):=⟨by rw [← hx];exact impl_cat p hp.1 hp.2 t ht.1⟩
 have HF : Aside0 ((x.f0 == b.f0 && (x.f1 == b.f1)) = chk (cat p t = b) true false):=⟨by rw [hx];exact eq_chk x b⟩
 have HR:=Aside0.mk hr
 have HC:=Aside0.mk hc
 have HT:=Aside0.mk h1
 have HB:=Aside0.mk h2
 clear hx hp ht hr hc h1 h2
 go_enter Try.func94,Try.ntmps94
 go_wp2
 refine start_ (n:=6) (S:=fun w'=>Below w.heap.size w w') (ds:=[]) (bits 6 0) (by kernel_rfl) rfl rfl (below_drew1 (Below.refl _ _)) (fun hHeld=>?_)
 have HBd:=Aside0.mk hHeld
 generalize w.drew = wd at HBd hHeld ⊢
 refine zzp 0 5 (zzb 6 1) ?_
 refine zzt 1 6 (zzb 6 3) hHeld ?_ (hy:=by intro w' s0;have ft0 : w'.cell? ⟨Bt,0,none⟩ = some (.int .i64 t):=(blk_cell (blk_below HT.out s0) 0).trans rfl;go_simp;with_reducible rfl)
 refine zzt 3 8 (zzb 6 11) hHeld ?_ (hy:=by intro w' s0;have fb0 : w'.cell? ⟨Bb,0,none⟩ = some (.int .i64 b.f0):=(blk_cell (blk_below HB.out s0) 0).trans rfl;have fb1 : w'.cell? ⟨Bb,1,none⟩ = some (.int .i64 b.f1):=(blk_cell (blk_below HB.out s0) 1).trans rfl;go_simp;with_reducible rfl)
 refine one_ (i:=2) (N:=(some 7)) (bits 6 15) rfl rfl (by kernel_rfl) (by decide) (fun K hK=>?_)
 refine goes_ Try.func62 (by kernel_rfl) rfl #[.slice A p.length c,.int .i64 t] (by rfl) rfl rfl (by (try simp only [List.map_toArray,List.map_cons,List.map_nil]);rfl) ?_
 with_reducible refine (impl_cellAt.calls A c p t x.f0 x.f1 _ (Kd.C_below HR.out HBd.out) HC.out HX.out).mono ?_
 rintro e w7 ⟨rfl,hB⟩
 refine ⟨_,rfl,?_⟩
 have HBn : Aside0 (Below w.heap.size w w7):=Aside0.mk (below_step HBd.out hB)
 clear hB HBd hHeld
 have HBd:=HBn
 clear HBn
 refine hK.out _ _ HBd.out (fun hHeld=>?_)
 clear hK K
 refine zzn 7 ?_;refine zzp 4 9 (zzb 6 31) ?_;refine zzp 5 4 (zzb 6 63) ?_
 refine done_ (by kernel_rfl) ?_
 go_wp2
 go_ret
 exact ⟨by rw [← HF.out];try rfl,HBd.out⟩
set_option maxHeartbeats 8000000 in
set_option maxRecDepth 100000 in
theorem hit72 (p : List S48) (A : Option Addr) (c : Nat) (w : World) (a0_0 a0_1 : Int) (A0_2 : Option Addr) (c0_2 : Nat) (l0_2 : List S48) (hb : (l0_2.length : Int) ≤ 1099511627776) (Bf : Nat) (h1 : w.heap[Bf]? = some (.cells #[.int .i64 a0_0,.int .i64 a0_1,.slice A0_2 l0_2.length c0_2] 29 (0,0))) (hr0 : Kd.C k48 w A0_2 l0_2.length l0_2) (hc0 : l0_2.length ≤ c0_2) (hr : Kd.C k48 w A p.length p) (hc : p.length ≤ c) :
  Calls Try.prog 72 #[.slice A p.length c,.pointer (some ⟨Bf,0,none⟩)] w fun e w'=>e = .returned (.bool (chk (PathOk a0_0 a0_1 l0_2 p) false true)) ∧ Below w.heap.size w w':=by
 have hu29:=Try.underlying29
 obtain ⟨k,hk⟩:=Ev.rounds (impl_path a0_0 a0_1 l0_2 hb p)
 obtain ⟨r,hr_⟩ : ∃ r,chk (PathOk a0_0 a0_1 l0_2 p) true false = r:=⟨_,rfl⟩
 rw [hr_] at hk
 have HK:=Aside0.mk hk
 have HRR : Aside0 ((!r) = chk (PathOk a0_0 a0_1 l0_2 p) false true):=⟨by
  rw [← hr_]
  by_cases hp : PathOk a0_0 a0_1 l0_2 p
  ·rw [chk_pos hp,chk_pos hp];rfl
  ·rw [chk_neg hp,chk_neg hp];rfl⟩
 have HR:=Aside0.mk hr
 have HC:=Aside0.mk hc
 have HR0:=Aside0.mk hr0
 have HC0:=Aside0.mk hc0
 have f10 : w.cell? ⟨Bf,0,none⟩ = some (.int .i64 a0_0):=(blk_cell h1 0).trans rfl;have f11 : w.cell? ⟨Bf,1,none⟩ = some (.int .i64 a0_1):=(blk_cell h1 1).trans rfl;have f12 : w.cell? ⟨Bf,2,none⟩ = some (.slice A0_2 l0_2.length c0_2):=(blk_cell h1 2).trans rfl
 clear hr hc hr0 hc0 h1 hk hr_ hb
 go_enter Try.func72,Try.ntmps72
 go_wp2_with (go_at_call 21;(with_reducible refine (impl_IsValidPath.calls k a0_0 a0_1 A0_2 c0_2 l0_2 A c p r _ HR0.out HC0.out HR.out HC.out HK.out).mono ?_);rintro e w6 ⟨rfl,hB⟩;have HB6:=Aside0.mk hB;clear hB)
 go_ret
 exact ⟨by rw [HRR.out];try rfl,HB6.out⟩
set_option maxHeartbeats 8000000 in
set_option maxRecDepth 100000 in
theorem idx99 (a b : S48) (t : Int) (Bt Bb Ba : Nat) (A0 : Option Addr) (c0 : Nat) (os : List (List S48)) (w : World) (ht : 0 ≤ t ∧ t ≤ 30) (h1 : w.heap[Bt]? = some (.cells #[.int .i64 t] 3 (0,0))) (h2 : w.heap[Bb]? = some (.cells #[.int .i64 b.f0,.int .i64 b.f1] 48 (0,0))) (h3 : w.heap[Ba]? = some (.cells #[.int .i64 a.f0,.int .i64 a.f1] 48 (0,0))) (hr0 : Kd.C SL6 w A0 os.length os) (hc0 : os.length ≤ c0) (ho : Len os) :
  Calls Try.prog 92 #[.slice A0 os.length c0,.func (.func 99) #[] #[.pointer (some ⟨Bt,0,none⟩),.pointer (some ⟨Bb,0,none⟩),.pointer (some ⟨Ba,0,none⟩)]] w fun e w'=>e = .returned (.int .i64 (fstAt (fun p=>Hit1 p a b t) os os.length 0)) ∧ Below w.heap.size w w':=by
 have HR:=Aside0.mk hr0
 have HOL:=Aside0.mk ho
 have HTT:=Aside0.mk ht
 have H1:=Aside0.mk h1
 have H2:=Aside0.mk h2
 have H3:=Aside0.mk h3
 have HN : Aside0 (fstAt (fun p=>Hit1 p a b t) os os.length 0 = fstAt (fun p=>Hit1 p a b t) os (os.length - 0) 0):=Aside0.mk rfl
 have hol : os.length ≤ 1099511627776:=by have:=ho.1;omega
 clear hr0 ho ht h1 h2 h3
 go_enter Try.func92,Try.ntmps92
 go_wp2
 go_loopw [8] (fun v8 w' => ∃ k : Nat,v8 = .int .i64 (k : Int) ∧ Aside0 (k ≤ os.length) ∧ Aside0 (fstAt (fun p=>Hit1 p a b t) os os.length 0 = fstAt (fun p=>Hit1 p a b t) os (os.length - k) k) ∧ Aside0 (Below w.heap.size w w')) (fun v8 _=>os.length - (intOf v8).toNat)
 case atStart=>exact ⟨0,rfl,⟨Nat.zero_le _⟩,HN,⟨Below.refl _ _⟩⟩
 case round =>
  clear HN
  obtain ⟨k,rfl,HK,HN,HB⟩:=hrel
  by_cases hlt : k < os.length
  ·have ck : decide ((k : Int) < (os.length : Int)) = true:=decide_eq_true (by omega)
   have ckn : decide (k < os.length) = true:=decide_eq_true hlt
   obtain ⟨ad,Ar,cr,ea,hx,hl,hC⟩:=at_L6 (Kd.C_below HR.out HB.out) (k : Int) (by omega) (by omega)
   cases ea
   rw [Int.toNat_natCast] at hx
   have hp:=HOL.out.2 _ (rd6_mem (i:=(k : Int)) (by omega) (by omega))
   obtain ⟨p,hpp⟩ : ∃ p,rd_L6 os (k : Int) = p:=⟨_,rfl⟩
   have HPP:=Aside0.mk hpp
   rw [hpp] at hx hl hC hp
   have HRp:=Aside0.mk hC
   have HCp:=Aside0.mk hl
   have HPL:=Aside0.mk hp
   have q1 : (0 ≤ (k : Int)) = True:=eq_true (by omega)
   have q2 : ((k : Int) < (os.length : Int)) = True:=eq_true (by omega)
   by_cases hq : Hit1 p a b t
   ·have hs : Aside0 (fstAt (fun p=>Hit1 p a b t) os os.length 0 = (k : Int)):=Aside0.mk (by
     rw [HN.out,show os.length - k = (os.length - (k + 1)) + 1 from by omega]
     exact fstAt_pos (by rw [HPP.out];exact hq))
    have HV : Aside0 (chk (Hit1 p a b t) true false = true):=⟨chk_pos hq _ _⟩
    clear hq hp hl hC hpp
    go_wp2_with (go_at_call 99;(with_reducible refine (hit99 p Ar cr _ HPL.out a b t HTT.out Bt Bb Ba (blk_below H1.out HB.out) (blk_below H2.out HB.out) (blk_below H3.out HB.out) HRp.out HCp.out).mono ?_);rintro e w16 ⟨rfl,hB⟩;rw [HV.out];have HB16:=Aside0.mk (below_step HB.out hB);clear hB)
    go_ret
    exact ⟨ret_i6 hs.out.symm,HB16.out⟩
   ·have hs : Aside0 (fstAt (fun p=>Hit1 p a b t) os os.length 0 = fstAt (fun p=>Hit1 p a b t) os (os.length - (k + 1)) (k + 1)):=Aside0.mk (by
     rw [HN.out,show os.length - k = (os.length - (k + 1)) + 1 from by omega]
     exact fstAt_neg (by rw [HPP.out];exact hq))
    have HV : Aside0 (chk (Hit1 p a b t) true false = false):=⟨chk_neg hq _ _⟩
    clear hq hp hl hC hpp
    go_wp2_with (go_at_call 99;(with_reducible refine (hit99 p Ar cr _ HPL.out a b t HTT.out Bt Bb Ba (blk_below H1.out HB.out) (blk_below H2.out HB.out) (blk_below H3.out HB.out) HRp.out HCp.out).mono ?_);rintro e w16 ⟨rfl,hB⟩;rw [HV.out];have HB16:=Aside0.mk (below_step HB.out hB);clear hB)
    go_roundw
    case rel=>exact ⟨k + 1,by go_num,⟨by omega⟩,hs,HB16⟩
    case measure=>simp [intOf];omega
  ·have ck : decide ((k : Int) < (os.length : Int)) = false:=decide_eq_false (by omega)
   have ckn : decide (k < os.length) = false:=decide_eq_false hlt
   have hs : Aside0 (fstAt (fun p=>Hit1 p a b t) os os.length 0 = -1):=Aside0.mk (by
    rw [HN.out,show os.length - k = 0 from by have:=HK.out;omega];rfl)
   clear hlt
   go_wp2
   go_ret
   exact ⟨ret_i6 hs.out.symm,HB.out⟩
set_option maxHeartbeats 8000000 in
set_option maxRecDepth 100000 in
theorem cont99 (a b : S48) (t : Int) (Bt Bb Ba : Nat) (A0 : Option Addr) (c0 : Nat) (os : List (List S48)) (w : World) (ht : 0 ≤ t ∧ t ≤ 30) (h1 : w.heap[Bt]? = some (.cells #[.int .i64 t] 3 (0,0))) (h2 : w.heap[Bb]? = some (.cells #[.int .i64 b.f0,.int .i64 b.f1] 48 (0,0))) (h3 : w.heap[Ba]? = some (.cells #[.int .i64 a.f0,.int .i64 a.f1] 48 (0,0))) (hr0 : Kd.C SL6 w A0 os.length os) (hc0 : os.length ≤ c0) (ho : Len os) :
  Calls Try.prog 71 #[.slice A0 os.length c0,.func (.func 99) #[] #[.pointer (some ⟨Bt,0,none⟩),.pointer (some ⟨Bb,0,none⟩),.pointer (some ⟨Ba,0,none⟩)]] w fun e w'=>e = .returned (.bool (chk (∃ p ∈ os,Hit1 p a b t) true false)) ∧ Below w.heap.size w w':=by
 have HR:=Aside0.mk hr0
 have HC:=Aside0.mk hc0
 have HOL:=Aside0.mk ho
 have HTT:=Aside0.mk ht
 have H1:=Aside0.mk h1
 have H2:=Aside0.mk h2
 have H3:=Aside0.mk h3
 have HE : Aside0 (decide (0 ≤ fstAt (fun p=>Hit1 p a b t) os os.length 0) = chk (∃ p ∈ os,Hit1 p a b t) true false):=⟨fstAt_chk (fun p=>Hit1 p a b t) os⟩
 clear hr0 hc0 ho ht h1 h2 h3
 go_enter Try.func71,Try.ntmps71
 go_wp2_with (go_at_call 92;(with_reducible refine (idx99 a b t Bt Bb Ba A0 c0 os _ HTT.out H1.out H2.out H3.out HR.out HC.out HOL.out).mono ?_);rintro e w7 ⟨rfl,hd⟩;have HB7:=Aside0.mk hd;clear hd)
 go_ret
 exact ⟨by rw [← HE.out];try rfl,HB7.out⟩
set_option maxHeartbeats 8000000 in
set_option maxRecDepth 100000 in
theorem idx94 (b : S48) (t : Int) (Bt Bb : Nat) (A0 : Option Addr) (c0 : Nat) (os : List (List S48)) (w : World) (ht : 0 ≤ t ∧ t ≤ 30) (h1 : w.heap[Bt]? = some (.cells #[.int .i64 t] 3 (0,0))) (h2 : w.heap[Bb]? = some (.cells #[.int .i64 b.f0,.int .i64 b.f1] 48 (0,0))) (hr0 : Kd.C SL6 w A0 os.length os) (hc0 : os.length ≤ c0) (ho : Len os) :
  Calls Try.prog 92 #[.slice A0 os.length c0,.func (.func 94) #[] #[.pointer (some ⟨Bt,0,none⟩),.pointer (some ⟨Bb,0,none⟩)]] w fun e w'=>e = .returned (.int .i64 (fstAt (fun p=>cat p t = b) os os.length 0)) ∧ Below w.heap.size w w':=by
 have HR:=Aside0.mk hr0
 have HOL:=Aside0.mk ho
 have HTT:=Aside0.mk ht
 have H1:=Aside0.mk h1
 have H2:=Aside0.mk h2
 have HN : Aside0 (fstAt (fun p=>cat p t = b) os os.length 0 = fstAt (fun p=>cat p t = b) os (os.length - 0) 0):=Aside0.mk rfl
 have hol : os.length ≤ 1099511627776:=by have:=ho.1;omega
 clear hr0 ho ht h1 h2
 go_enter Try.func92,Try.ntmps92
 go_wp2
 go_loopw [8] (fun v8 w' => ∃ k : Nat,v8 = .int .i64 (k : Int) ∧ Aside0 (k ≤ os.length) ∧ Aside0 (fstAt (fun p=>cat p t = b) os os.length 0 = fstAt (fun p=>cat p t = b) os (os.length - k) k) ∧ Aside0 (Below w.heap.size w w')) (fun v8 _=>os.length - (intOf v8).toNat)
 case atStart=>exact ⟨0,rfl,⟨Nat.zero_le _⟩,HN,⟨Below.refl _ _⟩⟩
 case round =>
  clear HN
  obtain ⟨k,rfl,HK,HN,HB⟩:=hrel
  by_cases hlt : k < os.length
  ·have ck : decide ((k : Int) < (os.length : Int)) = true:=decide_eq_true (by omega)
   have ckn : decide (k < os.length) = true:=decide_eq_true hlt
   obtain ⟨ad,Ar,cr,ea,hx,hl,hC⟩:=at_L6 (Kd.C_below HR.out HB.out) (k : Int) (by omega) (by omega)
   cases ea
   rw [Int.toNat_natCast] at hx
   have hp:=HOL.out.2 _ (rd6_mem (i:=(k : Int)) (by omega) (by omega))
   obtain ⟨p,hpp⟩ : ∃ p,rd_L6 os (k : Int) = p:=⟨_,rfl⟩
   have HPP:=Aside0.mk hpp
   rw [hpp] at hx hl hC hp
   have HRp:=Aside0.mk hC
   have HCp:=Aside0.mk hl
   have HPL:=Aside0.mk hp
   have q1 : (0 ≤ (k : Int)) = True:=eq_true (by omega)
   have q2 : ((k : Int) < (os.length : Int)) = True:=eq_true (by omega)
   by_cases hq : cat p t = b
   ·have hs : Aside0 (fstAt (fun p=>cat p t = b) os os.length 0 = (k : Int)):=Aside0.mk (by
     rw [HN.out,show os.length - k = (os.length - (k + 1)) + 1 from by omega]
     exact fstAt_pos (by rw [HPP.out];exact hq))
    have HV : Aside0 (chk (cat p t = b) true false = true):=⟨chk_pos hq _ _⟩
    clear hq hp hl hC hpp
    go_wp2_with (go_at_call 94;(with_reducible refine (hit94 p Ar cr _ HPL.out b t HTT.out Bt Bb (blk_below H1.out HB.out) (blk_below H2.out HB.out) HRp.out HCp.out).mono ?_);rintro e w16 ⟨rfl,hB⟩;rw [HV.out];have HB16:=Aside0.mk (below_step HB.out hB);clear hB)
    go_ret
    exact ⟨ret_i6 hs.out.symm,HB16.out⟩
   ·have hs : Aside0 (fstAt (fun p=>cat p t = b) os os.length 0 = fstAt (fun p=>cat p t = b) os (os.length - (k + 1)) (k + 1)):=Aside0.mk (by
     rw [HN.out,show os.length - k = (os.length - (k + 1)) + 1 from by omega]
     exact fstAt_neg (by rw [HPP.out];exact hq))
    have HV : Aside0 (chk (cat p t = b) true false = false):=⟨chk_neg hq _ _⟩
    clear hq hp hl hC hpp
    go_wp2_with (go_at_call 94;(with_reducible refine (hit94 p Ar cr _ HPL.out b t HTT.out Bt Bb (blk_below H1.out HB.out) (blk_below H2.out HB.out) HRp.out HCp.out).mono ?_);rintro e w16 ⟨rfl,hB⟩;rw [HV.out];have HB16:=Aside0.mk (below_step HB.out hB);clear hB)
    go_roundw
    case rel=>exact ⟨k + 1,by go_num,⟨by omega⟩,hs,HB16⟩
    case measure=>simp [intOf];omega
  ·have ck : decide ((k : Int) < (os.length : Int)) = false:=decide_eq_false (by omega)
   have ckn : decide (k < os.length) = false:=decide_eq_false hlt
   have hs : Aside0 (fstAt (fun p=>cat p t = b) os os.length 0 = -1):=Aside0.mk (by
    rw [HN.out,show os.length - k = 0 from by have:=HK.out;omega];rfl)
   clear hlt
   go_wp2
   go_ret
   exact ⟨ret_i6 hs.out.symm,HB.out⟩
set_option maxHeartbeats 8000000 in
set_option maxRecDepth 100000 in
theorem cont94 (b : S48) (t : Int) (Bt Bb : Nat) (A0 : Option Addr) (c0 : Nat) (os : List (List S48)) (w : World) (ht : 0 ≤ t ∧ t ≤ 30) (h1 : w.heap[Bt]? = some (.cells #[.int .i64 t] 3 (0,0))) (h2 : w.heap[Bb]? = some (.cells #[.int .i64 b.f0,.int .i64 b.f1] 48 (0,0))) (hr0 : Kd.C SL6 w A0 os.length os) (hc0 : os.length ≤ c0) (ho : Len os) :
  Calls Try.prog 71 #[.slice A0 os.length c0,.func (.func 94) #[] #[.pointer (some ⟨Bt,0,none⟩),.pointer (some ⟨Bb,0,none⟩)]] w fun e w'=>e = .returned (.bool (chk (∃ p ∈ os,cat p t = b) true false)) ∧ Below w.heap.size w w':=by
 have HR:=Aside0.mk hr0
 have HC:=Aside0.mk hc0
 have HOL:=Aside0.mk ho
 have HTT:=Aside0.mk ht
 have H1:=Aside0.mk h1
 have H2:=Aside0.mk h2
 have HE : Aside0 (decide (0 ≤ fstAt (fun p=>cat p t = b) os os.length 0) = chk (∃ p ∈ os,cat p t = b) true false):=⟨fstAt_chk (fun p=>cat p t = b) os⟩
 clear hr0 hc0 ho ht h1 h2
 go_enter Try.func71,Try.ntmps71
 go_wp2_with (go_at_call 92;(with_reducible refine (idx94 b t Bt Bb A0 c0 os _ HTT.out H1.out H2.out HR.out HC.out HOL.out).mono ?_);rintro e w7 ⟨rfl,hd⟩;have HB7:=Aside0.mk hd;clear hd)
 go_ret
 exact ⟨by rw [← HE.out];try rfl,HB7.out⟩
set_option maxHeartbeats 8000000 in
set_option maxRecDepth 100000 in
theorem idx72 (a0_0 a0_1 : Int) (A0_2 : Option Addr) (c0_2 : Nat) (l0_2 : List S48) (Bf : Nat) (A0 : Option Addr) (c0 : Nat) (os : List (List S48)) (w : World) (hbl : (l0_2.length : Int) ≤ 1099511627776) (h1 : w.heap[Bf]? = some (.cells #[.int .i64 a0_0,.int .i64 a0_1,.slice A0_2 l0_2.length c0_2] 29 (0,0))) (hrf : Kd.C k48 w A0_2 l0_2.length l0_2) (hcf : l0_2.length ≤ c0_2) (hr0 : Kd.C SL6 w A0 os.length os) (hc0 : os.length ≤ c0) (ho : (os.length : Int) ≤ 1099511627776) :
  Calls Try.prog 92 #[.slice A0 os.length c0,.func (.func 72) #[] #[.pointer (some ⟨Bf,0,none⟩)]] w fun e w'=>e = .returned (.int .i64 (fstAt (fun p => ¬ PathOk a0_0 a0_1 l0_2 p) os os.length 0)) ∧ Below w.heap.size w w':=by
 have HR:=Aside0.mk hr0
 have HOL:=Aside0.mk ho
 have HBL:=Aside0.mk hbl
 have H1:=Aside0.mk h1
 have HRF:=Aside0.mk hrf
 have HCF:=Aside0.mk hcf
 have HN : Aside0 (fstAt (fun p => ¬ PathOk a0_0 a0_1 l0_2 p) os os.length 0 = fstAt (fun p => ¬ PathOk a0_0 a0_1 l0_2 p) os (os.length - 0) 0):=Aside0.mk rfl
 have hol : os.length ≤ 1099511627776:=by omega
 clear hr0 ho hbl h1 hrf hcf
 go_enter Try.func92,Try.ntmps92
 go_wp2
 go_loopw [8] (fun v8 w' => ∃ k : Nat,v8 = .int .i64 (k : Int) ∧ Aside0 (k ≤ os.length) ∧ Aside0 (fstAt (fun p => ¬ PathOk a0_0 a0_1 l0_2 p) os os.length 0 = fstAt (fun p => ¬ PathOk a0_0 a0_1 l0_2 p) os (os.length - k) k) ∧ Aside0 (Below w.heap.size w w')) (fun v8 _=>os.length - (intOf v8).toNat)
 case atStart=>exact ⟨0,rfl,⟨Nat.zero_le _⟩,HN,⟨Below.refl _ _⟩⟩
 case round =>
  clear HN
  obtain ⟨k,rfl,HK,HN,HB⟩:=hrel
  by_cases hlt : k < os.length
  ·have ck : decide ((k : Int) < (os.length : Int)) = true:=decide_eq_true (by omega)
   have ckn : decide (k < os.length) = true:=decide_eq_true hlt
   obtain ⟨ad,Ar,cr,ea,hx,hl,hC⟩:=at_L6 (Kd.C_below HR.out HB.out) (k : Int) (by omega) (by omega)
   cases ea
   rw [Int.toNat_natCast] at hx
   obtain ⟨p,hpp⟩ : ∃ p,rd_L6 os (k : Int) = p:=⟨_,rfl⟩
   have HPP:=Aside0.mk hpp
   rw [hpp] at hx hl hC
   have HRp:=Aside0.mk hC
   have HCp:=Aside0.mk hl
   have q1 : (0 ≤ (k : Int)) = True:=eq_true (by omega)
   have q2 : ((k : Int) < (os.length : Int)) = True:=eq_true (by omega)
   by_cases hq : ¬ PathOk a0_0 a0_1 l0_2 p
   ·have hs : Aside0 (fstAt (fun p => ¬ PathOk a0_0 a0_1 l0_2 p) os os.length 0 = (k : Int)):=Aside0.mk (by
     rw [HN.out,show os.length - k = (os.length - (k + 1)) + 1 from by omega]
     exact fstAt_pos (by rw [HPP.out];exact hq))
    have HV : Aside0 (chk (PathOk a0_0 a0_1 l0_2 p) false true = true):=⟨chk_neg hq _ _⟩
    clear hq hl hC hpp
    go_wp2_with (go_at_call 72;(with_reducible refine (hit72 p Ar cr _ a0_0 a0_1 A0_2 c0_2 l0_2 HBL.out Bf (blk_below H1.out HB.out) (Kd.C_below HRF.out HB.out) HCF.out HRp.out HCp.out).mono ?_);rintro e w16 ⟨rfl,hB⟩;rw [HV.out];have HB16:=Aside0.mk (below_step HB.out hB);clear hB)
    go_ret
    exact ⟨ret_i6 hs.out.symm,HB16.out⟩
   ·have hs : Aside0 (fstAt (fun p => ¬ PathOk a0_0 a0_1 l0_2 p) os os.length 0 = fstAt (fun p => ¬ PathOk a0_0 a0_1 l0_2 p) os (os.length - (k + 1)) (k + 1)):=Aside0.mk (by
     rw [HN.out,show os.length - k = (os.length - (k + 1)) + 1 from by omega]
     exact fstAt_neg (by rw [HPP.out];exact hq))
    have HV : Aside0 (chk (PathOk a0_0 a0_1 l0_2 p) false true = false):=⟨chk_pos (Classical.not_not.1 hq) _ _⟩
    clear hq hl hC hpp
    go_wp2_with (go_at_call 72;(with_reducible refine (hit72 p Ar cr _ a0_0 a0_1 A0_2 c0_2 l0_2 HBL.out Bf (blk_below H1.out HB.out) (Kd.C_below HRF.out HB.out) HCF.out HRp.out HCp.out).mono ?_);rintro e w16 ⟨rfl,hB⟩;rw [HV.out];have HB16:=Aside0.mk (below_step HB.out hB);clear hB)
    go_roundw
    case rel=>exact ⟨k + 1,by go_num,⟨by omega⟩,hs,HB16⟩
    case measure=>simp [intOf];omega
  ·have ck : decide ((k : Int) < (os.length : Int)) = false:=decide_eq_false (by omega)
   have ckn : decide (k < os.length) = false:=decide_eq_false hlt
   have hs : Aside0 (fstAt (fun p => ¬ PathOk a0_0 a0_1 l0_2 p) os os.length 0 = -1):=Aside0.mk (by
    rw [HN.out,show os.length - k = 0 from by have:=HK.out;omega];rfl)
   clear hlt
   go_wp2
   go_ret
   exact ⟨ret_i6 hs.out.symm,HB.out⟩
set_option maxHeartbeats 8000000 in
set_option maxRecDepth 100000 in
theorem cont72 (a0_0 a0_1 : Int) (A0_2 : Option Addr) (c0_2 : Nat) (l0_2 : List S48) (Bf : Nat) (A0 : Option Addr) (c0 : Nat) (os : List (List S48)) (w : World) (hbl : (l0_2.length : Int) ≤ 1099511627776) (h1 : w.heap[Bf]? = some (.cells #[.int .i64 a0_0,.int .i64 a0_1,.slice A0_2 l0_2.length c0_2] 29 (0,0))) (hrf : Kd.C k48 w A0_2 l0_2.length l0_2) (hcf : l0_2.length ≤ c0_2) (hr0 : Kd.C SL6 w A0 os.length os) (hc0 : os.length ≤ c0) (ho : (os.length : Int) ≤ 1099511627776) :
  Calls Try.prog 71 #[.slice A0 os.length c0,.func (.func 72) #[] #[.pointer (some ⟨Bf,0,none⟩)]] w fun e w'=>e = .returned (.bool (chk (∃ p ∈ os,¬ PathOk a0_0 a0_1 l0_2 p) true false)) ∧ Below w.heap.size w w':=by
 have HR:=Aside0.mk hr0
 have HC:=Aside0.mk hc0
 have HOL:=Aside0.mk ho
 have HBL:=Aside0.mk hbl
 have H1:=Aside0.mk h1
 have HRF:=Aside0.mk hrf
 have HCF:=Aside0.mk hcf
 have HE : Aside0 (decide (0 ≤ fstAt (fun p => ¬ PathOk a0_0 a0_1 l0_2 p) os os.length 0) = chk (∃ p ∈ os,¬ PathOk a0_0 a0_1 l0_2 p) true false):=⟨fstAt_chk (fun p => ¬ PathOk a0_0 a0_1 l0_2 p) os⟩
 clear hr0 hc0 ho hbl h1 hrf hcf
 go_enter Try.func71,Try.ntmps71
 go_wp2_with (go_at_call 92;(with_reducible refine (idx72 a0_0 a0_1 A0_2 c0_2 l0_2 Bf A0 c0 os _ HBL.out H1.out HRF.out HCF.out HR.out HC.out HOL.out).mono ?_);rintro e w7 ⟨rfl,hd⟩;have HB7:=Aside0.mk hd;clear hd)
 go_ret
 exact ⟨by rw [← HE.out];try rfl,HB7.out⟩
set_option maxHeartbeats 8000000 in
set_option maxRecDepth 100000 in
theorem impl_isHit.calls (A1 : Option Addr) (c1 : Nat) (os : List (List S48)) (a b : S48) (t : Int) (w : World) (hr1 : Kd.C SL6 w A1 os.length os) (hc1 : os.length ≤ c1) (ho : Len os) (ht : 0 ≤ t ∧ t ≤ 30) :
  Calls Try.prog 93 #[.slice A1 os.length c1,.agg #[.int .i64 a.f0,.int .i64 a.f1],.agg #[.int .i64 b.f0,.int .i64 b.f1],.int .i64 t] w fun e w'=>e = .returned (.bool (chk (HitAt os a b t) true false)) ∧ Below w.heap.size w w':=by
 have hu48:=Try.underlying48
 have HR:=Aside0.mk hr1
 have HC:=Aside0.mk hc1
 have HO:=Aside0.mk ho
 have HT:=Aside0.mk ht
 clear hr1 hc1 ho ht
 go_enter Try.func93,Try.ntmps93
 go_wp2_with (first|((with_reducible refine gate_dst (N:=5) rfl ?_);refine box_event ?hg (N:=5) ?hd (cs := #[.int .i64 a.f0,.int .i64 a.f1]) (t:=48) ?hr ?_;(case hd=>rfl);(case hg=>rfl);(case hr=>first|(go_simp;done)|(go_simp;rfl));intro g5 hgg5 w5 hbox hb;have HF5:=Aside0.mk hbox;have HB5:=Aside0.mk hb;clear hbox hb hgg5)|((with_reducible refine gate_dst (N:=6) rfl ?_);refine box_event ?hg (N:=6) ?hd (cs := #[.int .i64 b.f0,.int .i64 b.f1]) (t:=48) ?hr ?_;(case hd=>rfl);(case hg=>rfl);(case hr=>first|(go_simp;done)|(go_simp;rfl));intro g6 hgg6 w6 hbox hb;have HF6:=Aside0.mk hbox;have HF5':=Aside0.mk (blk_below HF5.out hb);have HB6:=Aside0.mk (below_step HB5.out hb);clear HF5 HB5 hbox hb hgg6)|((with_reducible refine gate_dst (N:=7) rfl ?_);refine box_event ?hg (N:=7) ?hd (cs := #[.int .i64 t]) (t:=3) ?hr ?_;(case hd=>rfl);(case hg=>rfl);(case hr=>first|(go_simp;done)|(go_simp;rfl));intro g7 hgg7 w7 hbox hb;have HF7:=Aside0.mk hbox;have HF5'':=Aside0.mk (blk_below HF5'.out hb);have HF6':=Aside0.mk (blk_below HF6.out hb);have HB7:=Aside0.mk (below_step HB6.out hb);clear HF5' HF6 HB6 hbox hb hgg7)|(go_at_call 71;(with_reducible refine (cont99 a b t g7 g6 g5 A1 c1 os _ HT.out HF7.out HF6'.out HF5''.out (Kd.C_below HR.out HB7.out) HC.out HO.out).mono ?_);rintro e w11 ⟨rfl,hd⟩;have HB11:=Aside0.mk (below_step HB7.out hd);clear hd))
 go_ret
 exact ⟨rfl,HB11.out⟩
end Go.Proofs.Ytbpccdbkaiigcaa.G

/- What the walk of impl.safePath holds of the world: a row of maps, filled from behind; a range under way; the path. -/
namespace Go.Proofs.Ytbpccdbkaiigcaa.G
open Go.RowKit Go.Maps Go.Proofs.YtbpccdbkaiigcaaW.PrintWords Go.Proofs.YtbpccdbkaiigcaaW.PrintLast Go.Proofs.YtbpccdbkaiigcaaW.PrintMore
set_option linter.unusedVariables false
set_option linter.unusedSimpArgs false
/-- A map's value: its block, or none. -/
abbrev kMp : Kd (Option Nat):=Kd.scalar (fun b : Option Nat=>Value.map b) (fun _=>rfl)
theorem info108 : (Try.prog.info? 108).map (fun i=>(i.zero,i.size,i.bytes)) = some (some (.map none),1,8):=by kernel_rfl
theorem at_mp {w : World} {A : Option Addr} {n : Nat} {xs : List (Option Nat)} (h : Kd.C kMp w A n xs) (i : Int) (h0 : 0 ≤ i) (h1 : i < n) {b : Option Nat} (hb : xs[i.toNat]? = some b) : ∃ ad,A = some ad ∧ w.cell? (ad.add i.toNat) = some (.map b):=by
 obtain ⟨ad,c,e,_,hK,hc0⟩:=Kd.C_get h none i h0 h1
 rw [List.getD_eq_getElem?_getD,hb] at hK
 obtain rfl : c = [Value.map b]:=hK
 refine ⟨ad,e,?_⟩
 have:=hc0 0 _ rfl
 rwa [show kMp.sz = 1 from rfl,Nat.mul_one,Nat.add_zero] at this
/-- The maps for the last j + 1 minutes stand in their places, in blocks below m. -/
def Maps (G : Nat → S48 → Prop) (w : World) (m e j : Nat) (bs : List (Option Nat)) : Prop := ∀ i,i ≤ j → ∃ b n,bs[e - i]? = some (some b) ∧ n ≤ 5 ^ i ∧ b < m ∧ MapB w b n (G i)
section
variable {G : Nat → S48 → Prop} {w w1 w2 : World} {m e j : Nat} {bs : List (Option Nat)} {v v2 : Value}
theorem Maps.below (h : Maps G w m e j bs) (hb : Below w.heap.size w w2) : Maps G w2 m e j bs:=fun i hi=>by
 obtain ⟨b,n,h1,h2,h3,h4⟩:=h i hi
 exact ⟨b,n,h1,h2,h3,h4.below hb⟩
theorem Maps.grown {row : Option Nat} (h : Maps G w m e j bs) (hg : w.grownBy w2 row) (hr : ∀ k,row = some k → m ≤ k ∨ ∃ cs t,w.heap[k]? = some (.cells cs t (0,0))) : Maps G w2 m e j bs:=fun i hi=>by
 obtain ⟨b,n,h1,h2,h3,h4⟩:=h i hi
 refine ⟨b,n,h1,h2,h3,h4.grown hg (fun e'=>?_)⟩
 rcases hr b e'.symm with h|⟨cs,t,h⟩
 ·omega
 ·exact h4.cells h rfl
/-- The row of maps and the maps, held since world w1. -/
structure GB (G : Nat → S48 → Prop) (w1 w : World) (v : Value) (bs : List (Option Nat)) (e j : Nat) : Prop where
 r : Kd.R kMp 108 w w1.heap.size (fun _=>True) v bs
 len : bs.length = e + 1
 mp : Maps G w w.heap.size e j bs
 bl : Below w1.heap.size w1 w
theorem GB.below (h : GB G w1 w v bs e j) (hb : Below w.heap.size w w2) : GB G w1 w2 v bs e j:=⟨Kd.R_below h.r hb,h.len,(h.mp.below hb).raise (fun b hb'=>hb'),below_step h.bl hb⟩
theorem R_mp_grown {base : Nat} (h : Kd.R kMp 108 w base (fun _=>True) v bs) {k n : Nat} {S : S48 → Prop} (hm : MapB w k n S) (hg : w.grownBy w2 (some k)) : Kd.R kMp 108 w2 base (fun _=>True) v bs :=
 Kd.R_grown1 h rfl hg (fun e'=>by
  obtain ⟨cells,hc⟩:=Kd.R_typed h k e'.symm
  exact hm.cells hc rfl)
theorem R_flat_grown {base k n : Nat} {S : S48 → Prop} {l : List S48} {ok : Nat → Prop} (h : Kd.R k48 48 w base ok v l) (hm : MapB w k n S) (hg : w.grownBy w2 (some k)) : Kd.R k48 48 w2 base ok v l :=
 Kd.R_grown1 h rfl hg (fun e'=>by
  obtain ⟨cells,hc⟩:=Kd.R_typed h k e'.symm
  exact hm.cells hc rfl)
/-- While a minute's map is ranged over: the next map, in block bn (that is not below m), grows. -/
structure PB (G : Nat → S48 → Prop) (w1 w : World) (v : Value) (bs : List (Option Nat)) (e j m bn : Nat) (n : Nat) (T : S48 → Prop) : Prop where
 r : Kd.R kMp 108 w w1.heap.size (fun _=>True) v bs
 mp : Maps G w m e j bs
 tg : MapB w bn n T
 nb : m ≤ bn
 lw : w1.heap.size ≤ m
 bl : Below w1.heap.size w1 w
theorem PB.below {bn n : Nat} {T : S48 → Prop} (h : PB G w1 w v bs e j m bn n T) (hb : Below w.heap.size w w2) : PB G w1 w2 v bs e j m bn n T:=⟨Kd.R_below h.r hb,h.mp.below hb,h.tg.below hb,h.nb,h.lw,below_step h.bl hb⟩
theorem PB.put {bn n n2 : Nat} {T T2 : S48 → Prop} (h : PB G w1 w v bs e j m bn n T) (hm : MapB w2 bn n2 T2) (hg : w.grownBy w2 (some bn)) : PB G w1 w2 v bs e j m bn n2 T2 :=
 ⟨R_mp_grown h.r h.tg hg,h.mp.grown hg (fun k hk=>by cases hk;exact .inl h.nb),hm,h.nb,h.lw,h.bl.grown hg h.bl.size (fun k hk=>by cases hk;exact Nat.le_trans h.lw h.nb)⟩
theorem PB.iter {bn n r : Nat} {T : S48 → Prop} {bt nt cnt : Nat} {L : S48 → Prop} (h : PB G w1 w v bs e j m bn n T) (hr : RangeB w bt r nt L cnt) (hg : w.grownBy w2 (some r)) (hrm : m ≤ r) : PB G w1 w2 v bs e j m bn n T :=
 ⟨Kd.R_grown1 h.r rfl hg (fun e'=>by
  obtain ⟨cells,hc⟩:=Kd.R_typed h.r r e'.symm
  exact hr.iter hc rfl),h.mp.grown hg (fun k hk=>by cases hk;exact .inl hrm),h.tg.grown hg (fun e'=>hr.mapNe h.tg (Option.some.inj e').symm),h.nb,h.lw,h.bl.grown hg h.bl.size (fun k hk=>by cases hk;exact Nat.le_trans h.lw hrm)⟩
/-- While the path is made. -/
structure PC (G : Nat → S48 → Prop) (w1 w : World) (v : Value) (bs : List (Option Nat)) (e : Nat) (v2 : Value) (p : List S48) : Prop where
 g : GB G w1 w v bs e e
 out : Kd.R k48 48 w w1.heap.size (fun _=>True) v2 p
theorem PC.below {p : List S48} (h : PC G w1 w v bs e v2 p) (hb : Below w.heap.size w w2) : PC G w1 w2 v bs e v2 p:=⟨h.g.below hb,Kd.R_below h.out hb⟩
theorem PC.app {p p' : List S48} {v3 : Value} (h : PC G w1 w v bs e v2 p) (hq : Kd.R k48 48 w2 w1.heap.size (fun _=>True) v3 p') (hB : Below w1.heap.size w1 w2) (hg : w.grownBy w2 v2.ownBlock) : PC G w1 w2 v bs e v3 p' :=
 ⟨⟨Kd.R_over' h.g.r (Kd.R_typed h.out) (by decide) hg,h.g.len,(h.g.mp.grown hg (fun k hk => .inr (by
  obtain ⟨cells,hc⟩:=Kd.R_typed h.out k hk
  exact ⟨cells,48,hc⟩))).raise (fun b hb'=>hb'),hB⟩,hq⟩
theorem R_mp_put {base g n cap : Nat} (h : Kd.R kMp 108 w base (fun _=>True) (.slice (some ⟨g,0,none⟩) n cap) bs) (i : Int) (h0 : 0 ≤ i) (h1 : i < n) (b : Option Nat) :
  Kd.R kMp 108 (w.setCell ⟨g,i.toNat,none⟩ (.map b)) base (fun _=>True) (.slice (some ⟨g,0,none⟩) n cap) (bs.set i.toNat b) ∧ base ≤ g ∧ g < w.heap.size ∧ (∃ u,w.cell? ⟨g,i.toNat,none⟩ = some u) ∧ w.frozen? ⟨g,i.toNat,none⟩ = false ∧ ∃ cs,w.heap[g]? = some (.cells cs 108 (0,0)):=by
 obtain ⟨c,hcl,hM,hcc,hfz⟩:=Kd.R_elem h none i h0 h1
 obtain ⟨cs,hg⟩:=Kd.R_typed h g (by simp [Value.ownBlock])
 have hb:=Kd.R_base h g (by simp [Value.ownBlock])
 have r:=(Kd.R_seg (c:=c) (seg:=[Value.map b]) (j:=0) (x':=b) (okp:=fun _=>False) h i h0 h1 hcl hcc (Nat.le_refl 1) (by
  have e : c.drop (0 + [Value.map b].length) = []:=List.drop_eq_nil_of_le (by rw [hcl];exact Nat.le_refl 1)
  rw [e,List.take_zero]
  rfl) (fun _ h=>h.elim)).1
 rw [show i.toNat * kMp.sz + 0 = i.toNat from by rw [show kMp.sz = 1 from rfl];omega] at r
 refine ⟨r,hb,blk_lt hg,?_,?_,cs,hg⟩
 ·cases c with
  | nil=>exact absurd hcl (by decide)
  | cons u c' =>
   have:=hcc 0 u rfl
   rw [show i.toNat * kMp.sz + 0 = i.toNat from by rw [show kMp.sz = 1 from rfl];omega] at this
   exact ⟨u,this⟩
 ·have:=hfz 0
  rwa [show i.toNat * kMp.sz + 0 = i.toNat from by rw [show kMp.sz = 1 from rfl];omega] at this
/-- A new map is laid into the row: the next minute begins. -/
theorem GB.next {g cap : Nat} {zm : Int} (h : GB G w1 w (.slice (some ⟨g,0,none⟩) (e + 1) cap) bs e j) (h0 : 0 ≤ zm) (h1 : zm < ((e + 1 : Nat) : Int)) (hz : zm.toNat + j < e) :
  PB G w1 ((w.alloc (.map #[] 0)).setCell ⟨g,zm.toNat,none⟩ (.map (some w.heap.size))) (.slice (some ⟨g,0,none⟩) (e + 1) cap) (bs.set zm.toNat (some w.heap.size)) e j w.heap.size w.heap.size 0 (fun _=>False):=by
 have hal:=below_alloc (Below.refl w.heap.size w) (.map #[] 0)
 have hr:=Kd.R_below h.r hal
 obtain ⟨r,hb,hlt,_,_,cs,hg⟩:=R_mp_put hr zm h0 h1 (some w.heap.size)
 have hgw : g < w.heap.size:=by
  obtain ⟨cs,hg⟩:=Kd.R_typed h.r g (by simp [Value.ownBlock])
  exact blk_lt hg
 refine ⟨r,fun i hi=>?_,?_,Nat.le_refl _,h.bl.size,Below.setCell (below_step h.bl hal) hb _⟩
 ·obtain ⟨b,n,e1,e2,e3,e4⟩:=h.mp i hi
  refine ⟨b,n,?_,e2,e3,(e4.below hal).step (Below.heap_setCell _ ⟨g,zm.toNat,none⟩ _ b (fun e'=>?_))⟩
  ·rw [List.getElem?_set,if_neg (by omega)];exact e1
  ·exact (e4.below hal).cells hg e'
 ·exact (mapB_made w).step (Below.heap_setCell _ ⟨g,zm.toNat,none⟩ _ w.heap.size (fun e'=>Nat.ne_of_lt hgw e'.symm))
/-- The minute's set is whole: it counts as one of the maps. -/
theorem PB.whole {n bn : Nat} {zm : Int} {T : S48 → Prop} (h : PB G w1 w v bs e j m bn n T) (hz : zm.toNat = e - (j + 1)) (hje : j < e) (hbs : bs[e - (j + 1)]? = some (some bn)) (hl : bs.length = e + 1) (hn : n ≤ 5 ^ (j + 1)) (hT : ∀ c,T c ↔ G (j + 1) c) : GB G w1 w v bs e (j + 1) :=
 ⟨h.r,hl,fun i hi=>by
  by_cases e1 : i = j + 1
  ·subst e1
   exact ⟨bn,n,hbs,hn,h.tg.lt,h.tg.congr hT⟩
  ·obtain ⟨b,n,e2,e3,e4,e5⟩:=h.mp i (by omega)
   exact ⟨b,n,e2,e3,e5.lt,e5⟩,h.bl⟩
end
/-- What the program's safePath answers. -/
noncomputable def safeA (w h : Int) (bl : List S48) (os : List (List S48)) (a b : S48) : List S48 × Bool:=match safeI w h bl os a b with
 | some p=>(p,true)
 | none=>([],false)
theorem safeA_hit {w h : Int} {bl : List S48} {os : List (List S48)} {a b : S48} (hh : HitAt os a a 0) : safeA w h bl os a b = ([],false):=by
 unfold safeA safeI
 rw [chk_pos hh]
theorem safeA_none {w h : Int} {bl : List S48} {os : List (List S48)} {a b : S48} (hh : ¬ HitAt os a a 0) (hn : ∀ s,s < 25 → ¬ EndI w h bl os a b s) : safeA w h bl os a b = ([],false):=by
 unfold safeA safeI
 rw [chk_neg hh]
 cases hf : firstN (EndI w h bl os a b) 25 0 with
 | none=>rfl
 | some e =>
  have:=firstN_some hf
  exact absurd this.1 (hn e (by omega))
theorem safeA_some {w h : Int} {bl : List S48} {os : List (List S48)} {a b : S48} (hh : ¬ HitAt os a a 0) {e : Nat} (he : e < 25) (hn : ∀ s,s < e → ¬ EndI w h bl os a b s) (hE : EndI w h bl os a b e) {p : List S48} (hp : trace (nxI w h bl os b e) a e = some p) : safeA w h bl os a b = (p,true):=by
 unfold safeA safeI
 rw [chk_neg hh,firstN_of (e:=e) hE (fun s _ h1=>hn s h1) (Nat.zero_le _) (by omega)]
 show (match trace (nxI w h bl os b e) a e with
  | some p=>(p,true)
  | none=>([],false)) = (p,true)
 rw [hp]
/-- A range's step, what has come told in one place. -/
theorem wpB_next' {ops : Array Oper} {rest : List Oper} {o : Oper} {a : Act} {Q : Exit → Act → World → Prop} {w : World} {b n : Nat} (hg : o.guard = none) (it : Operand) (hop : o.op = Op.next it false) {r cnt : Nat} {Left : S48 → Prop} (hit : a.eval it = .pointer (some ⟨r,0,none⟩)) (h : RangeB w b r n Left cnt)
  (hDone : Aside0 (∀ c,W64 c → ¬ Left c) → wpList Try.prog ops Q rest (a.put o.dst (.tuple #[.bool false])) w)
  (hMore : ∀ (c : S48) (v : Value) (w' : World) (cnt' : Nat),Aside0 (Left c ∧ RangeB w' b r n (fun d=>Left d ∧ d ≠ c) cnt' ∧ cnt' < cnt ∧ w.grownBy w' (some r)) → (Instr.entry (.pointer (some ⟨r,0,none⟩))).run Try.prog w' = .ok (.tuple #[.agg #[.int .i64 c.f0,.int .i64 c.f1],v]) w' → wpList Try.prog ops Q rest (a.put o.dst (.tuple #[.bool true,.agg #[.int .i64 c.f0,.int .i64 c.f1],v])) w') : wpList Try.prog ops Q (o :: rest) a w :=
 wpB_next hg it hop hit h (fun hd=>hDone ⟨hd⟩) (fun c v w' cnt' _ h2 h3 h4 h5 _ h7=>hMore c v w' cnt' ⟨h2,h3,h4,h5⟩ h7)
theorem below_of_grown {w w' : World} (hg : w.grownBy w' none) : Below w.heap.size w w':=⟨hg.os,hg.tape,hg.output,hg.size,fun i hi=>hg.block i hi (by simp)⟩
theorem PB.congr {G : Nat → S48 → Prop} {w1 w : World} {v : Value} {bs : List (Option Nat)} {e j m bn n : Nat} {T T2 : S48 → Prop} (h : PB G w1 w v bs e j m bn n T) (hT : ∀ c,T c ↔ T2 c) : PB G w1 w v bs e j m bn n T2:=⟨h.r,h.mp,h.tg.congr hT,h.nb,h.lw,h.bl⟩
end Go.Proofs.Ytbpccdbkaiigcaa.G

/- The walk of impl.safePath. -/
namespace Go.Proofs.Ytbpccdbkaiigcaa.G
open Go.RowKit Go.Maps Go.Proofs.YtbpccdbkaiigcaaW.PrintWords Go.Proofs.YtbpccdbkaiigcaaW.PrintLast Go.Proofs.YtbpccdbkaiigcaaW.PrintMore
set_option linter.unusedVariables false
set_option linter.unusedSimpArgs false
/-- At no minute from e on does one of the others stand at b. -/
def Stays (os : List (List S48)) (b : S48) (e : Nat) (t : Nat) : Prop := ∀ s : Nat,e ≤ s → s < t → ¬ ∃ p ∈ os,cat p (s : Int) = b
theorem stays_succ {os : List (List S48)} {b : S48} {e t : Nat} (h : e ≤ t) : Stays os b e (t + 1) ↔ Stays os b e t ∧ ¬ ∃ p ∈ os,cat p (t : Int) = b:=by
 constructor
 ·intro m
  exact ⟨fun s h0 h1=>m s h0 (by omega),m t h (by omega)⟩
 ·rintro ⟨m1,m2⟩ s h0 h1
  by_cases e' : s = t
  ·rw [e'];exact m2
  ·exact m1 s h0 (by omega)
/-- The next minute's set, while it is filled: what comes of the cells behind, and of c's first i neighbours. -/
def T5 (os : List (List S48)) (NF : S48 → List S48) (G L : S48 → Prop) (c : S48) (z : Int) (i : Nat) (x : S48) : Prop:=(∃ d,(G d ∧ ¬ L d) ∧ x ∈ NF d ∧ ¬ HitAt os x d z) ∨ (x ∈ (NF c).take i ∧ ¬ HitAt os x c z)
section
variable {os : List (List S48)} {NF : S48 → List S48} {G L : S48 → Prop} {c x y : S48} {z : Int} {i : Nat}
theorem take_succ48 {l : List S48} (hi : i < l.length) (hx : rd_T48 l (i : Int) = x) : l.take (i + 1) = l.take i ++ [x]:=by
 rw [List.take_succ_eq_append_getElem hi]
 congr 2
 rw [← hx]
 unfold rd_T48
 rw [Int.toNat_natCast,List.getD_eq_getElem?_getD,List.getElem?_eq_getElem hi]
 rfl
theorem t5_hit (hi : i < (NF c).length) (hx : rd_T48 (NF c) (i : Int) = x) (hh : HitAt os x c z) : T5 os NF G L c z i y ↔ T5 os NF G L c z (i + 1) y:=by
 unfold T5
 rw [take_succ48 hi hx,List.mem_append,List.mem_singleton]
 constructor
 ·rintro (h|⟨h,h2⟩)
  ·exact .inl h
  ·exact .inr ⟨.inl h,h2⟩
 ·rintro (h|⟨h|h,h2⟩)
  ·exact .inl h
  ·exact .inr ⟨h,h2⟩
  ·subst h;exact absurd hh h2
theorem t5_miss (hi : i < (NF c).length) (hx : rd_T48 (NF c) (i : Int) = x) (hh : ¬ HitAt os x c z) : (y = x ∨ T5 os NF G L c z i y) ↔ T5 os NF G L c z (i + 1) y:=by
 unfold T5
 rw [take_succ48 hi hx,List.mem_append,List.mem_singleton]
 constructor
 ·rintro (h|h|⟨h,h2⟩)
  ·subst h;exact .inr ⟨.inr rfl,hh⟩
  ·exact .inl h
  ·exact .inr ⟨.inl h,h2⟩
 ·rintro (h|⟨h|h,h2⟩)
  ·exact .inr (.inl h)
  ·exact .inr (.inr ⟨h,h2⟩)
  ·exact .inl h
theorem t5_all (hc : G c) : T5 os NF G L c z (NF c).length y ↔ ∃ d,(G d ∧ ¬ (L d ∧ d ≠ c)) ∧ y ∈ NF d ∧ ¬ HitAt os y d z:=by
 unfold T5
 rw [List.take_length]
 constructor
 ·rintro (⟨d,⟨h1,h2⟩,h3⟩|h)
  ·exact ⟨d,⟨h1,fun m=>h2 m.1⟩,h3⟩
  ·exact ⟨c,⟨hc,fun m=>m.2 rfl⟩,h⟩
 ·rintro ⟨d,⟨h1,h2⟩,h3⟩
  by_cases e : d = c
  ·subst e;exact .inr h3
  ·exact .inl ⟨d,⟨h1,fun m=>h2 ⟨m,e⟩⟩,h3⟩
theorem t5_done {w h : Int} {bl : List S48} {b : S48} {e j : Nat} (hd : ∀ d,W64 d → ¬ L d) (hw : ∀ d,GI w h bl os b e j d → W64 d) (hz : z = ((e - j : Nat) : Int)) : (∃ d,(GI w h bl os b e j d ∧ ¬ L d) ∧ y ∈ nbOf w h bl d ∧ ¬ HitAt os y d z) ↔ GI w h bl os b e (j + 1) y:=by
 subst hz
 exact ⟨fun ⟨d,⟨h1,_⟩,h2,h3⟩=>⟨d,h1,h2,h3⟩,fun ⟨d,h1,h2,h3⟩=>⟨d,⟨h1,hd d (hw d h1)⟩,h2,h3⟩⟩
theorem t5_len {nt n' n2 cn i j e l : Nat} (h1 : n' + 5 * cn ≤ 5 * nt) (h2 : nt ≤ 5 ^ j) (h3 : j < e) (h4 : e ≤ 25) (h5 : n2 ≤ n' + i) (h6 : i ≤ l) (h7 : l ≤ 5) : n2 < maxLen:=by
 have:=Nat.pow_le_pow_right (n:=5) (by decide) (show j ≤ 24 by omega)
 have e24 : 5 ^ 24 = 59604644775390625:=by decide
 unfold maxLen
 omega
end
theorem trace_nextI {nx : Nat → S48 → Option S48} {a : S48} {t : Nat} {p p' : List S48} (h : trace nx a t = some p) (h' : trace nx a (t + 1) = some p') : ∃ c,nx (t + 1) (rd_T48 p (t : Int)) = some c ∧ p' = p ++ [c]:=by
 rw [trace,h] at h'
 dsimp only at h'
 cases hc : nx (t + 1) (rd_T48 p (t : Int)) with
 | none=>rw [hc] at h';cases h'
 | some c =>
  rw [hc] at h'
  exact ⟨c,rfl,(Option.some.inj h').symm⟩
theorem stays_all {os : List (List S48)} {b : S48} {e : Nat} : Stays os b e 26 ↔ ∀ s : Nat,e ≤ s → s ≤ 25 → ¬ ∃ p ∈ os,cat p (s : Int) = b:=⟨fun m s h0 h1=>m s h0 (by omega),fun m s h0 h1=>m s h0 (by omega)⟩
set_option maxHeartbeats 8000000 in
set_option maxRecDepth 100000 in
theorem impl_safePath.hit (a0_0 a0_1 : Int) (A0_2 : Option Addr) (c0_2 : Nat) (l0_2 : List S48) (A1 : Option Addr) (c1 : Nat) (os : List (List S48)) (c2 c3 : S48) (w : World) (hr0_2 : Kd.C k48 w A0_2 l0_2.length l0_2) (hc0_2 : l0_2.length ≤ c0_2) (hr1 : Kd.C SL6 w A1 os.length os) (hc1 : os.length ≤ c1) (hf : FloorOk a0_0 a0_1 l0_2) (hb : (l0_2.length : Int) ≤ 1099511627776) (ha : Free a0_0 a0_1 l0_2 c2) (hbt : Free a0_0 a0_1 l0_2 c3) (ho : Len os) (R : List S48 × Bool) (hR : R = ([],false)) (hh : HitAt os c2 c2 0) :
  Calls Try.prog 73 #[.agg #[.int .i64 a0_0,.int .i64 a0_1,.slice A0_2 l0_2.length c0_2],.slice A1 os.length c1,.agg #[.int .i64 c2.f0,.int .i64 c2.f1],.agg #[.int .i64 c3.f0,.int .i64 c3.f1]] w fun e_ w' => ∃ u : Value,e_ = .returned (.tuple #[u,.bool R.2]) ∧ Kd.R k48 48 w' w.heap.size (fun _=>True) u R.1 ∧ Below w.heap.size w w':=by
 have hu29:=Try.underlying29
 have hu48:=Try.underlying48
 have HR0:=Aside0.mk hr0_2
 have HC0:=Aside0.mk hc0_2
 have HR1:=Aside0.mk hr1
 have HC1:=Aside0.mk hc1
 have HFL:=Aside0.mk hf
 have HBL:=Aside0.mk hb
 have HA:=Aside0.mk ha
 have HT:=Aside0.mk hbt
 have HO:=Aside0.mk ho
 clear hr0_2 hc0_2 hr1 hc1 hf hb ha hbt ho
 have HH:=Aside0.mk hh
 subst hR
 clear hh
 go_enter Try.func73,Try.ntmps73
 go_wp2_with (first|((with_reducible refine gate_dst (N:=4) rfl ?_);refine box_event ?hg (N:=4) ?hd (cs := #[.int .i64 a0_0,.int .i64 a0_1,.slice A0_2 l0_2.length c0_2]) (t:=29) ?hr ?_;(case hd=>rfl);(case hg=>rfl);(case hr=>first|(go_simp;done)|(go_simp;rfl));intro g4 hgg4 w4 hbox hb;have HF4:=Aside0.mk hbox;have HB4:=Aside0.mk hb;clear hbox hb hgg4)|((with_reducible refine gate_dst (N:=6) rfl ?_);refine box_event ?hg (N:=6) ?hd (cs := #[.int .i64 c2.f0,.int .i64 c2.f1]) (t:=48) ?hr ?_;(case hd=>rfl);(case hg=>rfl);(case hr=>first|(go_simp;done)|(go_simp;rfl));intro g6 hgg6 w6 hbox hb;have HF6:=Aside0.mk hbox;have HF4':=Aside0.mk (blk_below HF4.out hb);have HB6:=Aside0.mk (below_step HB4.out hb);clear HF4 HB4 hbox hb hgg6;have f60 : w6.cell? ⟨g6,0,none⟩ = some (.int .i64 c2.f0):=(blk_cell HF6.out 0).trans rfl;have f61 : w6.cell? ⟨g6,1,none⟩ = some (.int .i64 c2.f1):=(blk_cell HF6.out 1).trans rfl)|((with_reducible refine gate_dst (N:=7) rfl ?_);refine box_event ?hg (N:=7) ?hd (cs := #[.int .i64 c3.f0,.int .i64 c3.f1]) (t:=48) ?hr ?_;(case hd=>rfl);(case hg=>rfl);(case hr=>first|(go_simp;done)|(go_simp;rfl));intro g7 hgg7 w7 hbox hb;have HF7:=Aside0.mk hbox;have HF4'':=Aside0.mk (blk_below HF4'.out hb);have HF6':=Aside0.mk (blk_below HF6.out hb);have HB7:=Aside0.mk (below_step HB6.out hb);clear HF4' HF6 HB6 hbox hb hgg7 f60 f61;have f60 : w7.cell? ⟨g6,0,none⟩ = some (.int .i64 c2.f0):=(blk_cell HF6'.out 0).trans rfl;have f61 : w7.cell? ⟨g6,1,none⟩ = some (.int .i64 c2.f1):=(blk_cell HF6'.out 1).trans rfl)|(go_at_call 93;(with_reducible refine (impl_isHit.calls A1 c1 os c2 c2 0 _ (Kd.C_below HR1.out HB7.out) HC1.out HO.out ⟨by omega,by omega⟩).mono ?_);rintro e_ w1 ⟨rfl,hB⟩;rw [chk_pos HH.out];have HF4:=Aside0.mk (blk_below HF4''.out hB);have HF6:=Aside0.mk (blk_below HF6'.out hB);have HF7_:=Aside0.mk (blk_below HF7.out hB);have HB1:=Aside0.mk (below_step HB7.out hB);clear f60 f61 HF4'' HF6' HF7 HB7 hB))
 go_ret2
 exact ⟨_,rfl,Kd.R_nil _ _ _ _ _,HB1.out⟩
set_option maxHeartbeats 8000000 in
set_option maxRecDepth 100000 in
theorem impl_safePath.main (a0_0 a0_1 : Int) (A0_2 : Option Addr) (c0_2 : Nat) (l0_2 : List S48) (A1 : Option Addr) (c1 : Nat) (os : List (List S48)) (c2 c3 : S48) (w : World) (hr0_2 : Kd.C k48 w A0_2 l0_2.length l0_2) (hc0_2 : l0_2.length ≤ c0_2) (hr1 : Kd.C SL6 w A1 os.length os) (hc1 : os.length ≤ c1) (hf : FloorOk a0_0 a0_1 l0_2) (hb : (l0_2.length : Int) ≤ 1099511627776) (ha : Free a0_0 a0_1 l0_2 c2) (hbt : Free a0_0 a0_1 l0_2 c3) (ho : Len os) (R : List S48 × Bool) (hh : ¬ HitAt os c2 c2 0) (hRn : (∀ s,s < 25 → ¬ EndI a0_0 a0_1 l0_2 os c2 c3 s) → R = ([],false)) (hRs : ∀ e,e < 25 → (∀ s,s < e → ¬ EndI a0_0 a0_1 l0_2 os c2 c3 s) → EndI a0_0 a0_1 l0_2 os c2 c3 e → ∀ p,trace (nxI a0_0 a0_1 l0_2 os c3 e) c2 e = some p → R = (p,true)) :
  Calls Try.prog 73 #[.agg #[.int .i64 a0_0,.int .i64 a0_1,.slice A0_2 l0_2.length c0_2],.slice A1 os.length c1,.agg #[.int .i64 c2.f0,.int .i64 c2.f1],.agg #[.int .i64 c3.f0,.int .i64 c3.f1]] w fun e_ w' => ∃ u : Value,e_ = .returned (.tuple #[u,.bool R.2]) ∧ Kd.R k48 48 w' w.heap.size (fun _=>True) u R.1 ∧ Below w.heap.size w w':=by
 have hu29:=Try.underlying29
 have hu48:=Try.underlying48
 have HR0:=Aside0.mk hr0_2
 have HC0:=Aside0.mk hc0_2
 have HR1:=Aside0.mk hr1
 have HC1:=Aside0.mk hc1
 have HFL:=Aside0.mk hf
 have HBL:=Aside0.mk hb
 have HA:=Aside0.mk ha
 have HT:=Aside0.mk hbt
 have HO:=Aside0.mk ho
 clear hr0_2 hc0_2 hr1 hc1 hf hb ha hbt ho
 have HNH:=Aside0.mk hh
 have HRN:=Aside0.mk hRn
 have HRS:=Aside0.mk hRs
 have hmm := @run_makeMap Try.prog
 clear hh hRn hRs
 go_enter Try.func73,Try.ntmps73
 go_wp2_with (first|((with_reducible refine gate_dst (N:=4) rfl ?_);refine box_event ?hg (N:=4) ?hd (cs := #[.int .i64 a0_0,.int .i64 a0_1,.slice A0_2 l0_2.length c0_2]) (t:=29) ?hr ?_;(case hd=>rfl);(case hg=>rfl);(case hr=>first|(go_simp;done)|(go_simp;rfl));intro g4 hgg4 w4 hbox hb;have HF4:=Aside0.mk hbox;have HB4:=Aside0.mk hb;clear hbox hb hgg4)|((with_reducible refine gate_dst (N:=6) rfl ?_);refine box_event ?hg (N:=6) ?hd (cs := #[.int .i64 c2.f0,.int .i64 c2.f1]) (t:=48) ?hr ?_;(case hd=>rfl);(case hg=>rfl);(case hr=>first|(go_simp;done)|(go_simp;rfl));intro g6 hgg6 w6 hbox hb;have HF6:=Aside0.mk hbox;have HF4':=Aside0.mk (blk_below HF4.out hb);have HB6:=Aside0.mk (below_step HB4.out hb);clear HF4 HB4 hbox hb hgg6;have f60 : w6.cell? ⟨g6,0,none⟩ = some (.int .i64 c2.f0):=(blk_cell HF6.out 0).trans rfl;have f61 : w6.cell? ⟨g6,1,none⟩ = some (.int .i64 c2.f1):=(blk_cell HF6.out 1).trans rfl)|((with_reducible refine gate_dst (N:=7) rfl ?_);refine box_event ?hg (N:=7) ?hd (cs := #[.int .i64 c3.f0,.int .i64 c3.f1]) (t:=48) ?hr ?_;(case hd=>rfl);(case hg=>rfl);(case hr=>first|(go_simp;done)|(go_simp;rfl));intro g7 hgg7 w7 hbox hb;have HF7:=Aside0.mk hbox;have HF4'':=Aside0.mk (blk_below HF4'.out hb);have HF6':=Aside0.mk (blk_below HF6.out hb);have HB7:=Aside0.mk (below_step HB6.out hb);clear HF4' HF6 HB6 hbox hb hgg7 f60 f61;have f60 : w7.cell? ⟨g6,0,none⟩ = some (.int .i64 c2.f0):=(blk_cell HF6'.out 0).trans rfl;have f61 : w7.cell? ⟨g6,1,none⟩ = some (.int .i64 c2.f1):=(blk_cell HF6'.out 1).trans rfl)|(go_at_call 93;(with_reducible refine (impl_isHit.calls A1 c1 os c2 c2 0 _ (Kd.C_below HR1.out HB7.out) HC1.out HO.out ⟨by omega,by omega⟩).mono ?_);rintro e_ w1 ⟨rfl,hB⟩;rw [chk_neg HNH.out];have HF4:=Aside0.mk (blk_below HF4''.out hB);have HF6:=Aside0.mk (blk_below HF6'.out hB);have HF7_:=Aside0.mk (blk_below HF7.out hB);have HB1:=Aside0.mk (below_step HB7.out hB);clear f60 f61 HF4'' HF6' HF7 HB7 hB))
 go_loopg [27] 30 (fun kq v27 w' => ∃ e : Nat,v27 = .int .i64 (e : Int) ∧ Aside0 (e + kq = 30 ∧ e ≤ 25) ∧ Aside0 (∀ s,s < e → ¬ EndI a0_0 a0_1 l0_2 os c2 c3 s) ∧ Aside0 (Below w1.heap.size w1 w'))
 case atStart=>exact ⟨0,rfl,⟨by omega⟩,⟨fun s h=>by omega⟩,⟨Below.refl _ _⟩⟩
 case round =>
  obtain ⟨e,rfl,HE,HN,HB⟩:=hrel
  cases gk with
  | zero=>exact absurd HE.out (by omega)
  | succ k1 =>
   by_cases he : e < 25
   ·have ce : decide ((e : Int) < 25) = true:=decide_eq_true (by omega)
    have he2 : e < 25:=he
    clear he
    go_wp2_with (first|((with_reducible refine gate_dst (N:=12) rfl ?_);refine box_event ?hg (N:=12) ?hd (cs := #[.int .i64 0]) (t:=3) ?hr ?_;(case hd=>rfl);(case hg=>rfl);(case hr=>first|(go_simp;done)|(go_simp;rfl));intro g12 hgg12 w12 hbox hb;have HF12:=Aside0.mk hbox;have HB12:=Aside0.mk hb;have HG12:=Aside0.mk hgg12;clear hbox hb hgg12;have hz0 : w12.cell? ⟨g12,0,none⟩ = some (.int .i64 0):=(blk_cell HF12.out 0).trans rfl;have hzf0:=blk_frozen HF12.out 0))
    have HG:=Aside0.mk (And.intro (show w1.heap.size ≤ g12 from Nat.le_trans HB.out.size (Nat.le_of_eq HG12.out.symm)) (blk_put (cs := #[.int .i64 0]) HF12.out 0 (.int .i64 (e : Int)) rfl : (w12.setCell ⟨g12,0,none⟩ (.int .i64 (e : Int))).heap[g12]? = some (.cells #[.int .i64 (e : Int)] 3 (0,0))))
    have HB2:=Aside0.mk (below_step HB.out (below_set (j:=0) (v := .int .i64 (e : Int)) HB12.out (Nat.le_of_eq HG12.out.symm)))
    clear HB hz0 hzf0 HF12 HB12 HG12
    generalize w12.setCell ⟨g12,0,none⟩ (.int .i64 (e : Int)) = w12_ at HG HB2 ⊢
    go_loopg [11,12] 30 (fun kq v11 v12 w' => ∃ (t : Nat) (st : Bool) (g : Nat),v11 = .bool st ∧ v12 = .pointer (some ⟨g,0,none⟩) ∧ Aside0 (t + kq = e + 30 ∧ e ≤ t ∧ t ≤ 26) ∧ Aside0 (st = true ↔ Stays os c3 e t) ∧ Aside0 (w1.heap.size ≤ g ∧ w'.heap[g]? = some (.cells #[.int .i64 (t : Int)] 3 (0,0))) ∧ Aside0 (Below w1.heap.size w1 w'))
    case atStart=>exact ⟨e,true,g12,rfl,rfl,⟨by omega⟩,⟨⟨fun _ s h0 h1=>by omega,fun _=>rfl⟩⟩,HG,HB2⟩
    case round =>
     clear HG HB2
     obtain ⟨t,st,g,rfl,rfl,HTT,HST,HG,HB⟩:=hrel
     have ft0 : wr.cell? ⟨g,0,none⟩ = some (.int .i64 (t : Int)):=(blk_cell HG.out.2 0).trans rfl
     cases gk with
     | zero=>exact absurd HTT.out (by omega)
     | succ k2 =>
      have ht100 : t < 100:=by have:=HTT.out;omega
      by_cases ht : t ≤ 25
      ·have ct : decide ((t : Int) ≤ 25) = true:=decide_eq_true (by omega)
       have HT25:=Aside0.mk ht
       have HSS:=Aside0.mk (stays_succ (os:=os) (b:=c3) HTT.out.2.1)
       clear ht
       cases st with
       | true =>
        by_cases hq : ∃ p ∈ os,cat p (t : Int) = c3
        ·have HQ:=Aside0.mk hq
         clear hq
         go_wp2_with (first|(go_at_call 71;(with_reducible refine (cont94 c3 (t : Int) g g7 A1 c1 os _ ⟨by omega,by have:=HTT.out;omega⟩ HG.out.2 (blk_below HF7_.out HB.out) (Kd.C_below HR1.out (below_step HB1.out HB.out)) HC1.out HO.out).mono ?_);rintro e_ w39 ⟨rfl,hB⟩;rw [chk_pos HQ.out];have HG2:=Aside0.mk (And.intro HG.out.1 (blk_below HG.out.2 hB));have HB2:=Aside0.mk (below_step HB.out hB);clear ft0 HG HB hB;have ft0 : w39.cell? ⟨g,0,none⟩ = some (.int .i64 (t : Int)):=(blk_cell HG2.out.2 0).trans rfl)|((with_reducible refine gate_dst (N:=12) rfl ?_);refine box_event ?hg (N:=12) ?hd (cs := #[.int .i64 0]) (t:=3) ?hr ?_;(case hd=>rfl);(case hg=>rfl);(case hr=>first|(go_simp;done)|(go_simp;rfl));intro g12 hgg12 w12 hbox hb;have HF12:=Aside0.mk hbox;have HB12:=Aside0.mk hb;have HG12:=Aside0.mk hgg12;clear hbox hb hgg12;have hz0 : w12.cell? ⟨g12,0,none⟩ = some (.int .i64 0):=(blk_cell HF12.out 0).trans rfl;have hzf0:=blk_frozen HF12.out 0))
         go_roundg k2
         case measure=>omega
         case rel=>exact ⟨t + 1,false,g12,rfl,rfl,⟨by have:=HTT.out;have:=HT25.out;omega⟩,⟨⟨fun h=>(by cases h),fun h=>absurd HQ.out (HSS.out.1 h).2⟩⟩,⟨Nat.le_trans HB2.out.size (Nat.le_of_eq HG12.out.symm),blk_put (cs := #[.int .i64 (t : Int)]) (blk_put (cs := #[.int .i64 0]) HF12.out 0 _ rfl) 0 _ rfl⟩,⟨below_step HB2.out (below_set (j:=0) (below_set (j:=0) HB12.out (Nat.le_of_eq HG12.out.symm)) (Nat.le_of_eq HG12.out.symm))⟩⟩
        ·have HQ:=Aside0.mk hq
         clear hq
         go_wp2_with (first|(go_at_call 71;(with_reducible refine (cont94 c3 (t : Int) g g7 A1 c1 os _ ⟨by omega,by have:=HTT.out;omega⟩ HG.out.2 (blk_below HF7_.out HB.out) (Kd.C_below HR1.out (below_step HB1.out HB.out)) HC1.out HO.out).mono ?_);rintro e_ w39 ⟨rfl,hB⟩;rw [chk_neg HQ.out];have HG2:=Aside0.mk (And.intro HG.out.1 (blk_below HG.out.2 hB));have HB2:=Aside0.mk (below_step HB.out hB);clear ft0 HG HB hB;have ft0 : w39.cell? ⟨g,0,none⟩ = some (.int .i64 (t : Int)):=(blk_cell HG2.out.2 0).trans rfl)|((with_reducible refine gate_dst (N:=12) rfl ?_);refine box_event ?hg (N:=12) ?hd (cs := #[.int .i64 0]) (t:=3) ?hr ?_;(case hd=>rfl);(case hg=>rfl);(case hr=>first|(go_simp;done)|(go_simp;rfl));intro g12 hgg12 w12 hbox hb;have HF12:=Aside0.mk hbox;have HB12:=Aside0.mk hb;have HG12:=Aside0.mk hgg12;clear hbox hb hgg12;have hz0 : w12.cell? ⟨g12,0,none⟩ = some (.int .i64 0):=(blk_cell HF12.out 0).trans rfl;have hzf0:=blk_frozen HF12.out 0))
         go_roundg k2
         case measure=>omega
         case rel=>exact ⟨t + 1,true,g12,rfl,rfl,⟨by have:=HTT.out;have:=HT25.out;omega⟩,⟨⟨fun _=>HSS.out.2 ⟨HST.out.1 (by first|rfl|trivial),HQ.out⟩,fun _=>rfl⟩⟩,⟨Nat.le_trans HB2.out.size (Nat.le_of_eq HG12.out.symm),blk_put (cs := #[.int .i64 (t : Int)]) (blk_put (cs := #[.int .i64 0]) HF12.out 0 _ rfl) 0 _ rfl⟩,⟨below_step HB2.out (below_set (j:=0) (below_set (j:=0) HB12.out (Nat.le_of_eq HG12.out.symm)) (Nat.le_of_eq HG12.out.symm))⟩⟩
       | false =>
        have HG2:=HG
        have HB2:=HB
        clear HG HB
        go_wp2_with (first|((with_reducible refine gate_dst (N:=12) rfl ?_);refine box_event ?hg (N:=12) ?hd (cs := #[.int .i64 0]) (t:=3) ?hr ?_;(case hd=>rfl);(case hg=>rfl);(case hr=>first|(go_simp;done)|(go_simp;rfl));intro g12 hgg12 w12 hbox hb;have HF12:=Aside0.mk hbox;have HB12:=Aside0.mk hb;have HG12:=Aside0.mk hgg12;clear hbox hb hgg12;have hz0 : w12.cell? ⟨g12,0,none⟩ = some (.int .i64 0):=(blk_cell HF12.out 0).trans rfl;have hzf0:=blk_frozen HF12.out 0))
        go_roundg k2
        case measure=>omega
        case rel=>exact ⟨t + 1,false,g12,rfl,rfl,⟨by have:=HTT.out;have:=HT25.out;omega⟩,⟨⟨fun h=>(by cases h),fun h=>(by have:=HST.out.2 (HSS.out.1 h).1;cases this)⟩⟩,⟨Nat.le_trans HB2.out.size (Nat.le_of_eq HG12.out.symm),blk_put (cs := #[.int .i64 (t : Int)]) (blk_put (cs := #[.int .i64 0]) HF12.out 0 _ rfl) 0 _ rfl⟩,⟨below_step HB2.out (below_set (j:=0) (below_set (j:=0) HB12.out (Nat.le_of_eq HG12.out.symm)) (Nat.le_of_eq HG12.out.symm))⟩⟩
      ·have ct : decide ((t : Int) ≤ 25) = false:=decide_eq_false (by omega)
       obtain rfl : t = 26:=by have:=HTT.out;omega
       cases st with
       | false =>
        have HNE : Aside0 (∀ s,s < e + 1 → ¬ EndI a0_0 a0_1 l0_2 os c2 c3 s):=⟨fun s hs hE=>by
         by_cases e' : s = e
         ·subst e'
          have:=HST.out.2 (stays_all.2 hE.1)
          cases this
         ·exact HN.out s (by omega) hE⟩
        go_wp2
        go_roundg k1
        case measure=>omega
        case rel=>exact ⟨e + 1,by go_num,⟨by have:=HE.out;omega⟩,HNE,HB⟩
       | true =>
        have HSTY : Aside0 (∀ s : Nat,e ≤ s → s ≤ 25 → ¬ ∃ p ∈ os,cat p (s : Int) = c3):=⟨stays_all.1 (HST.out.1 rfl)⟩
        clear HST HTT HG
        obtain ⟨wo,rfl⟩ : ∃ wo : World,wo = wr:=⟨_,rfl⟩
        obtain ⟨z0,hz0⟩ : ∃ z0 : Int,(e : Int) + 1 = z0:=⟨_,rfl⟩
        have HZ0 : Aside0 (z0 = (e : Int) + 1):=⟨hz0.symm⟩
        have hwz : wrap64 ((e : Int) + 1) = z0:=by rw [wrap64_id (by omega) (by omega)];exact hz0
        have p1 : (0 ≤ (e : Int)) = True:=eq_true (by omega)
        have p2 : ((e : Int) < ((e + 1 : Nat) : Int)) = True:=eq_true (by omega)
        have p3 : ((e : Int) < (e : Int) + 1) = True:=eq_true (by omega)
        have HW3 : Aside0 (W64 c3):=⟨(nbs_impl HFL.out HBL.out).wf c3 HT.out⟩
        have HBo:=HB
        have f70 : wo.cell? ⟨g7,0,none⟩ = some (.int .i64 c3.f0):=(blk_cell (blk_below HF7_.out HB.out) 0).trans rfl;have f71 : wo.cell? ⟨g7,1,none⟩ = some (.int .i64 c3.f1):=(blk_cell (blk_below HF7_.out HB.out) 1).trans rfl
        clear hz0 ce
        go_wp2_with (first|((with_reducible refine gate_dst (N:=46) rfl ?_);refine wp_add rfl (.tmp 45) (.const (.int .i64 1)) rfl rfl rfl hwz ?_)|((with_reducible refine gate_dst (N:=47) rfl ?_);refine Kd.R_make kMp _ 108 rfl (N:=47) rfl 107 _ _ rfl (z0 : Int) rfl rfl Try.underlying107 (.map none) 8 info108 rfl (by decide) (by omega) none (ok:=fun _=>True) (okp:=fun _=>True) rfl (fun _ hk=>hk) trivial (by have:=HZ0.out;omega) (by have:=HZ0.out;omega) (Below.refl _ _) (Nat.le_refl _) ?_;intro v47 w47 hS hb hg_ hnew_;clear hg_ hnew_;rw [show z0.toNat = e + 1 from by have:=HZ0.out;omega] at hS;obtain ⟨g13,c13,ev,_,_,_⟩:=Kd.R_form hS (by rw [List.length_replicate];omega);rw [List.length_replicate] at ev;subst ev;have HS47:=Aside0.mk hS;have HB47:=Aside0.mk hb;clear hS hb f70 f71;have f70 : (w47.alloc (.map #[] 0)).cell? ⟨g7,0,none⟩ = some (.int .i64 c3.f0):=(blk_cell (blk_below HF7_.out (below_step (below_step HB.out HB47.out) (below_alloc (Below.refl _ _) (.map #[] 0)))) 0).trans rfl;have f71 : (w47.alloc (.map #[] 0)).cell? ⟨g7,1,none⟩ = some (.int .i64 c3.f1):=(blk_cell (blk_below HF7_.out (below_step (below_step HB.out HB47.out) (below_alloc (Below.refl _ _) (.map #[] 0)))) 1).trans rfl)|(refine wpB_insert (c:=c3) (b:=w47.heap.size) (n:=0) (S:=fun _=>False) rfl (.tmp 50) (.tmp 51) (.const (.bool true)) rfl rfl rfl rfl (mapB_made w47) (by decide) HW3.out ?_;intro w51 hm hg;have hR51:=R_mp_grown (Kd.R_below HS47.out (below_alloc (Below.refl _ _) (.map #[] 0))) (mapB_made w47) hg;obtain ⟨hR9,hgo,_,⟨u51,hu⟩,hfz,cs51,hcs⟩:=R_mp_put hR51 (e : Int) (by omega) (by omega) (some w47.heap.size);rw [Int.toNat_natCast] at hu hfz hR9;have HM51:=Aside0.mk hm;have HR9:=Aside0.mk hR9;have HGO:=Aside0.mk hgo;have HCS:=Aside0.mk hcs;have hb51:=below_step HB47.out (below_alloc (Below.refl _ _) (.map #[] 0));have HB51:=Aside0.mk (hb51.grown hg hb51.size (fun k hk=>by cases hk;exact HB47.out.size));clear hm hg hR51 hR9 hgo hcs hb51 f70 f71 HS47))
        have HG0 : Aside0 (GB (GI a0_0 a0_1 l0_2 os c3 e) wo (w51.setCell ⟨g13,e,none⟩ (.map (some w47.heap.size))) (.slice (some ⟨g13,0,none⟩) (e + 1) c13) ((List.replicate (e + 1) none).set e (some w47.heap.size)) e 0):=⟨HR9.out,by rw [List.length_set,List.length_replicate],fun i hi=>by
         obtain rfl : i = 0:=by omega
         have hm9:=HM51.out.step (Below.heap_setCell w51 ⟨g13,e,none⟩ (.map (some w47.heap.size)) w47.heap.size (fun e'=>HM51.out.cells HCS.out e'))
         refine ⟨w47.heap.size,1,?_,by decide,hm9.lt,hm9.congr (fun d=>⟨fun h=>h.elim id (fun h=>h.elim),Or.inl⟩)⟩
         rw [Nat.sub_zero,List.getElem?_set,if_pos rfl,if_pos (by rw [List.length_replicate];omega)],Below.setCell HB51.out HGO.out _⟩
        clear HR9 HM51 HCS HGO HB51 HB47 hu hfz p1 p2 p3 hwz HB
        generalize w51.setCell ⟨g13,e,none⟩ (.map (some w47.heap.size)) = w53_ at HG0 ⊢
        go_loopg [14] 30 (fun kq v14 w' => ∃ (j : Nat) (z : Int) (bs : List (Option Nat)),v14 = .int .i64 z ∧ Aside0 (z = (e : Int) - j ∧ j ≤ e ∧ j + kq = 30) ∧ Aside0 (GB (GI a0_0 a0_1 l0_2 os c3 e) wo w' (.slice (some ⟨g13,0,none⟩) (e + 1) c13) bs e j))
        case atStart=>exact ⟨0,(e : Int),_,rfl,⟨by omega⟩,HG0⟩
        case round =>
         clear HG0
         obtain ⟨j,z,bs,rfl,HZJ,HG⟩:=hrel
         cases gk with
         | zero=>exact absurd HZJ.out (by omega)
         | succ k3 =>
          by_cases hz : 0 < z
          ·have cz : decide (0 < z) = true:=decide_eq_true hz
           have HZP : Aside0 (0 < z ∧ z ≤ 25):=⟨by have:=HZJ.out;omega⟩
           obtain ⟨zm,hzm⟩ : ∃ zm : Int,z - 1 = zm:=⟨_,rfl⟩
           have HZM : Aside0 (zm = z - 1):=⟨hzm.symm⟩
           have hwzm : wrap64 (z - 1) = zm:=by rw [wrap64_id (by omega) (by have:=HZJ.out;omega)];exact hzm
           have q1 : (0 ≤ zm) = True:=eq_true (by omega)
           have q2 : (zm < ((e + 1 : Nat) : Int)) = True:=eq_true (by have:=HZJ.out;omega)
           have q3 : (zm < (e : Int) + 1) = True:=eq_true (by have:=HZJ.out;omega)
           have q4 : (0 ≤ z) = True:=eq_true (by omega)
           have q5 : (z < ((e + 1 : Nat) : Int)) = True:=eq_true (by have:=HZJ.out;omega)
           have q6 : (z < (e : Int) + 1) = True:=eq_true (by have:=HZJ.out;omega)
           have HZT : Aside0 (zm.toNat = e - (j + 1) ∧ j < e ∧ z.toNat = e - j ∧ z = ((e - j : Nat) : Int)):=⟨by have:=HZJ.out;omega⟩
           have HBSL:=Aside0.mk HG.out.len
           have HN:=Aside0.mk (HG.out.next (zm:=zm) (by omega) (by have:=HZJ.out;omega) (by have:=HZT.out;omega))
           obtain ⟨_,_,_,⟨u,hu⟩,hfz,_⟩:=R_mp_put (Kd.R_below HG.out.r (below_alloc (Below.refl _ _) (.map #[] 0))) zm (by omega) (by have:=HZJ.out;omega) none
           clear hz hzm
           go_upto_region 20 with (fail)
           clear hu hfz HG
           generalize (wr.alloc (.map #[] 0)).setCell ⟨g13,zm.toNat,none⟩ (.map (some wr.heap.size)) = w63_ at HN ⊢
           generalize wr.heap.size = bn at HN ⊢
           obtain ⟨bs',hbs⟩ : ∃ b,bs.set zm.toNat (some bn) = b:=⟨_,rfl⟩
           have HBN : Aside0 (bs'[e - (j + 1)]? = some (some bn) ∧ bs'.length = e + 1):=⟨by
            rw [← hbs,List.length_set,List.getElem?_set,if_pos HZT.out.1,if_pos (by rw [HBSL.out];have:=HZT.out;omega)]
            exact ⟨rfl,HBSL.out⟩⟩
           rw [hbs] at HN
           obtain ⟨bt,nt,hb1,hn1,hlt1,hm1⟩:=HN.out.mp j (Nat.le_refl _)
           obtain ⟨ad13,ea,hgx⟩:=at_mp (Kd.R_reads' HN.out.r).2.2 z (by have:=HZP.out;omega) (by rw [HBN.out.2];have:=HZT.out;omega) (b:=some bt) (by rw [HZT.out.2.2.1];exact hb1)
           cases ea
           rw [add_plain] at hgx
           have HMT:=Aside0.mk hm1
           have HNT:=Aside0.mk hn1
           have HBT:=Aside0.mk hlt1
           clear hb1 hn1 hlt1 hm1 hbs HBSL
           obtain ⟨rr,hrr⟩ : ∃ r,w63_.heap.size = r:=⟨_,rfl⟩
           go_wp2_with (first|(at_range;refine wpB_range (b:=bt) rfl (.tmp 67) rfl rfl HMT.out ?_;intro w68 cnt hr hcn hg hsz;have HRG:=Aside0.mk hr;have HCN:=Aside0.mk hcn;have HPB0 : Aside0 (PB (GI a0_0 a0_1 l0_2 os c3 e) wo w68 (.slice (some ⟨g13,0,none⟩) (e + 1) c13) bs' e j bn bn 0 (fun x => ∃ d,(GI a0_0 a0_1 l0_2 os c3 e j d ∧ ¬ GI a0_0 a0_1 l0_2 os c3 e j d) ∧ x ∈ nbOf a0_0 a0_1 l0_2 d ∧ ¬ HitAt os x d z)):=Aside0.mk ((HN.out.below (below_of_grown hg)).congr (fun x=>⟨fun h=>h.elim,fun h=>by obtain ⟨d,⟨h1,h2⟩,_⟩:=h;exact absurd h1 h2⟩));have HRR : Aside0 (bn ≤ w63_.heap.size):=Aside0.mk (Nat.le_of_lt HN.out.tg.lt);clear hr hcn hg hsz HN HMT hgx))
           rw [hrr] at HRG HRR
           simp only [hrr]
           clear hrr
           go_simp
           go_loopg [15] (cnt + 1) (fun kq v15 w' => ∃ (Left : S48 → Prop) (cn n' : Nat),Aside0 (cn < kq) ∧ Aside0 (RangeB w' bt rr nt Left cn) ∧ Aside0 (∀ d,Left d → GI a0_0 a0_1 l0_2 os c3 e j d) ∧ Aside0 (n' + 5 * cn ≤ 5 * nt) ∧ Aside0 (PB (GI a0_0 a0_1 l0_2 os c3 e) wo w' (.slice (some ⟨g13,0,none⟩) (e + 1) c13) bs' e j bn bn n' (fun x => ∃ d,(GI a0_0 a0_1 l0_2 os c3 e j d ∧ ¬ Left d) ∧ x ∈ nbOf a0_0 a0_1 l0_2 d ∧ ¬ HitAt os x d z)))
           case atStart=>exact ⟨GI a0_0 a0_1 l0_2 os c3 e j,cnt,0,⟨by omega⟩,HRG,⟨fun _ h=>h⟩,⟨by have:=HCN.out;omega⟩,HPB0⟩
           case round =>
            clear HRG HPB0 HCN
            obtain ⟨Left,cn,n',HCK,HRG,HLG,HNC,HPB⟩:=hrel
            cases gk with
            | zero=>exact absurd HCK.out (by omega)
            | succ k4 =>
             go_wp2_with (first|(at_next;refine wpB_next' rfl (.tmp 68) rfl rfl HRG.out (fun HDN=>?_) (fun c v w69 cn' HPK hen=>?_))|((with_reducible refine gate_dst (N:=15) rfl ?_);refine box_event ?hg (N:=15) ?hd (cs := #[.int .i64 0,.int .i64 0]) (t:=48) ?hr ?_;(case hd=>rfl);(case hg=>rfl);(case hr=>first|(go_simp;done)|(go_simp;rfl));intro g15 hgg15 w15 hbox hb;have HF15:=Aside0.mk hbox;have HB15:=Aside0.mk hb;have HG15:=Aside0.mk hgg15;clear hbox hb hgg15;have hz0 : w15.cell? ⟨g15,0,none⟩ = some (.int .i64 0):=(blk_cell HF15.out 0).trans rfl;have hz1_ : w15.cell? ⟨g15,1,none⟩ = some (.int .i64 0):=(blk_cell HF15.out 1).trans rfl;have hzf0:=blk_frozen HF15.out 0;have hzf1:=blk_frozen HF15.out 1)|((with_reducible refine gate_dst (N:=73) rfl ?_);have HPB9 : Aside0 (PB (GI a0_0 a0_1 l0_2 os c3 e) wo ((w15.setCell ⟨g15,0,none⟩ (.int .i64 c.f0)).setCell ⟨g15,1,none⟩ (.int .i64 c.f1)) (.slice (some ⟨g13,0,none⟩) (e + 1) c13) bs' e j bn bn n' (fun x => ∃ d,(GI a0_0 a0_1 l0_2 os c3 e j d ∧ ¬ Left d) ∧ x ∈ nbOf a0_0 a0_1 l0_2 d ∧ ¬ HitAt os x d z)):=Aside0.mk ((HPB.out.iter HRG.out HPK.out.2.2.2 HRR.out).below (below_set (j:=1) (v := .int .i64 c.f1) (below_set (j:=0) (v := .int .i64 c.f0) HB15.out (Nat.le_of_eq HG15.out.symm)) (Nat.le_of_eq HG15.out.symm)));have HRG9 : Aside0 (RangeB ((w15.setCell ⟨g15,0,none⟩ (.int .i64 c.f0)).setCell ⟨g15,1,none⟩ (.int .i64 c.f1)) bt rr nt (fun d=>Left d ∧ d ≠ c) cn'):=Aside0.mk (HPK.out.2.1.below (below_set (j:=1) (v := .int .i64 c.f1) (below_set (j:=0) (v := .int .i64 c.f0) HB15.out (Nat.le_of_eq HG15.out.symm)) (Nat.le_of_eq HG15.out.symm)));have HC15 : Aside0 (((w15.setCell ⟨g15,0,none⟩ (.int .i64 c.f0)).setCell ⟨g15,1,none⟩ (.int .i64 c.f1)).heap[g15]? = some (.cells #[.int .i64 c.f0,.int .i64 c.f1] 48 (0,0))):=Aside0.mk (blk_put (cs := #[.int .i64 c.f0,.int .i64 0]) (blk_put (cs := #[.int .i64 0,.int .i64 0]) HF15.out 0 _ rfl) 1 _ rfl);obtain ⟨ka,hka⟩:=(nbs_impl HFL.out HBL.out).run c (gi_free HT.out (HLG.out c HPK.out.1));have HKA:=Aside0.mk hka;clear hka hz0 hz1_ hzf0 hzf1 HF15 HB15 HG15 HPB HRG hen;generalize ((w15.setCell ⟨g15,0,none⟩ (.int .i64 c.f0)).setCell ⟨g15,1,none⟩ (.int .i64 c.f1)) = w15_ at HPB9 HRG9 HC15 ⊢;have f40 : w15_.cell? ⟨g4,0,none⟩ = some (.int .i64 a0_0):=(blk_cell (blk_below HF4.out (below_step HBo.out HPB9.out.bl)) 0).trans rfl;have f41 : w15_.cell? ⟨g4,1,none⟩ = some (.int .i64 a0_1):=(blk_cell (blk_below HF4.out (below_step HBo.out HPB9.out.bl)) 1).trans rfl;have f42 : w15_.cell? ⟨g4,2,none⟩ = some (.slice A0_2 l0_2.length c0_2):=(blk_cell (blk_below HF4.out (below_step HBo.out HPB9.out.bl)) 2).trans rfl;have f150 : w15_.cell? ⟨g15,0,none⟩ = some (.int .i64 c.f0):=(blk_cell HC15.out 0).trans rfl;have f151 : w15_.cell? ⟨g15,1,none⟩ = some (.int .i64 c.f1):=(blk_cell HC15.out 1).trans rfl)|(go_at_call 70;(with_reducible refine (impl_around.calls ka a0_0 a0_1 A0_2 c0_2 l0_2 c.f0 c.f1 (nbOf a0_0 a0_1 l0_2 c) _ (Kd.C_below HR0.out (below_step HB1.out (below_step HBo.out HPB9.out.bl))) HC0.out HKA.out).mono ?_);rintro e_ w75 ⟨v75,rfl,hR,hB⟩;obtain ⟨A75,c75,rfl⟩:=Kd.R_slice hR;have HPB5:=Aside0.mk (HPB9.out.below hB);have HRG5:=Aside0.mk (HRG9.out.below hB);have HCR:=Aside0.mk (And.intro (blk_below HC15.out hB) (Kd.R_lower hR HPB9.out.bl.size));clear hR hB HPB9 HRG9 HC15 f40 f41 f42 f150 f151))
             ·have hnn : n' ≤ 5 ^ (j + 1):=by have:=HNC.out;have:=HNT.out;rw [Nat.pow_succ];omega
              go_roundg k3
              case measure=>omega
              case rel=>exact ⟨j + 1,zm,bs',(by first|rfl|rw [hwzm]),⟨by have:=HZJ.out;have:=HZM.out;have:=HZT.out;omega⟩,⟨HPB.out.whole HZT.out.1 HZT.out.2.1 HBN.out.1 HBN.out.2 hnn (fun y=>t5_done HDN.out (fun d hd=>(nbs_impl HFL.out HBL.out).wf d (gi_free HT.out hd)) HZT.out.2.2.2)⟩⟩
             ·have hnl : (nbOf a0_0 a0_1 l0_2 c).length ≤ 5:=nb_len _ _ _ _
              go_loopg [77] 30 (fun kq v77 w' => ∃ (i n2 : Nat),v77 = .int .i64 (i : Int) ∧ Aside0 (i + kq = 30 ∧ i ≤ (nbOf a0_0 a0_1 l0_2 c).length ∧ n2 ≤ n' + i) ∧ Aside0 (PB (GI a0_0 a0_1 l0_2 os c3 e) wo w' (.slice (some ⟨g13,0,none⟩) (e + 1) c13) bs' e j bn bn n2 (T5 os (nbOf a0_0 a0_1 l0_2) (GI a0_0 a0_1 l0_2 os c3 e j) Left c z i)) ∧ Aside0 (RangeB w' bt rr nt (fun d=>Left d ∧ d ≠ c) cn') ∧ Aside0 (w'.heap[g15]? = some (.cells #[.int .i64 c.f0,.int .i64 c.f1] 48 (0,0)) ∧ Kd.R k48 48 w' wo.heap.size (fun _=>True) (.slice A75 (nbOf a0_0 a0_1 l0_2 c).length c75) (nbOf a0_0 a0_1 l0_2 c)))
              case atStart=>exact ⟨0,n',rfl,⟨by omega⟩,⟨HPB5.out.congr (fun x=>t5_zero.symm)⟩,HRG5,HCR⟩
              case round =>
               clear HPB5 HRG5 HCR
               obtain ⟨i,n2,rfl,HI,HPB,HRG,HCR⟩:=hrel
               cases gk with
               | zero=>exact absurd HI.out (by omega)
               | succ k5 =>
                by_cases hi : i < (nbOf a0_0 a0_1 l0_2 c).length
                ·have ci : decide ((i : Int) < ((nbOf a0_0 a0_1 l0_2 c).length : Int)) = true:=decide_eq_true (by omega)
                 have cin : decide (i < (nbOf a0_0 a0_1 l0_2 c).length) = true:=decide_eq_true hi
                 have hi2 : i < 100:=by omega
                 have q7 : (0 ≤ (i : Int)) = True:=eq_true (by omega)
                 have q8 : ((i : Int) < ((nbOf a0_0 a0_1 l0_2 c).length : Int)) = True:=eq_true (by omega)
                 obtain ⟨ad75,ea75,hx0,hx1⟩:=at_T48 (Kd.R_reads' HCR.out.2).2.2 (i : Int) (by omega) (by omega)
                 cases ea75
                 obtain ⟨x,hx⟩ : ∃ x,rd_T48 (nbOf a0_0 a0_1 l0_2 c) (i : Int) = x:=⟨_,rfl⟩
                 rw [hx,Int.toNat_natCast] at hx0 hx1
                 have HX:=Aside0.mk hx
                 have HI2 : Aside0 (i < (nbOf a0_0 a0_1 l0_2 c).length):=⟨hi⟩
                 have HWX : Aside0 (W64 x):=⟨by rw [← hx];exact (nbs_impl HFL.out HBL.out).wf _ (nb_iff.1 (mem48 _ _ (by omega) (by omega))).1⟩
                 have HNB : Aside0 (n2 < maxLen):=⟨t5_len HNC.out HNT.out HZT.out.2.1 HE.out.2 HI.out.2.2 HI.out.2.1 hnl⟩
                 clear hx
                 by_cases hh : HitAt os x c z
                 ·have HH5:=Aside0.mk hh
                  clear hh
                  go_wp2_with (first|((with_reducible refine gate_dst (N:=17) rfl ?_);refine box_event ?hg (N:=17) ?hd (cs := #[.int .i64 0,.int .i64 0]) (t:=48) ?hr ?_;(case hd=>rfl);(case hg=>rfl);(case hr=>first|(go_simp;done)|(go_simp;rfl));intro g17 hgg17 w17 hbox hb;have HF17:=Aside0.mk hbox;have HB17:=Aside0.mk hb;have HG17:=Aside0.mk hgg17;clear hbox hb hgg17;have hz0 : w17.cell? ⟨g17,0,none⟩ = some (.int .i64 0):=(blk_cell HF17.out 0).trans rfl;have hz1_ : w17.cell? ⟨g17,1,none⟩ = some (.int .i64 0):=(blk_cell HF17.out 1).trans rfl;have hzf0:=blk_frozen HF17.out 0;have hzf1:=blk_frozen HF17.out 1)|((with_reducible refine gate_dst (N:=82) rfl ?_);have HPB9 : Aside0 (PB (GI a0_0 a0_1 l0_2 os c3 e) wo ((w17.setCell ⟨g17,0,none⟩ (.int .i64 x.f0)).setCell ⟨g17,1,none⟩ (.int .i64 x.f1)) (.slice (some ⟨g13,0,none⟩) (e + 1) c13) bs' e j bn bn n2 (T5 os (nbOf a0_0 a0_1 l0_2) (GI a0_0 a0_1 l0_2 os c3 e j) Left c z i)):=Aside0.mk (HPB.out.below (below_set (j:=1) (v := .int .i64 x.f1) (below_set (j:=0) (v := .int .i64 x.f0) HB17.out (Nat.le_of_eq HG17.out.symm)) (Nat.le_of_eq HG17.out.symm)));have HRG9 : Aside0 (RangeB ((w17.setCell ⟨g17,0,none⟩ (.int .i64 x.f0)).setCell ⟨g17,1,none⟩ (.int .i64 x.f1)) bt rr nt (fun d=>Left d ∧ d ≠ c) cn'):=Aside0.mk (HRG.out.below (below_set (j:=1) (v := .int .i64 x.f1) (below_set (j:=0) (v := .int .i64 x.f0) HB17.out (Nat.le_of_eq HG17.out.symm)) (Nat.le_of_eq HG17.out.symm)));have HCR9 : Aside0 (((w17.setCell ⟨g17,0,none⟩ (.int .i64 x.f0)).setCell ⟨g17,1,none⟩ (.int .i64 x.f1)).heap[g15]? = some (.cells #[.int .i64 c.f0,.int .i64 c.f1] 48 (0,0)) ∧ Kd.R k48 48 ((w17.setCell ⟨g17,0,none⟩ (.int .i64 x.f0)).setCell ⟨g17,1,none⟩ (.int .i64 x.f1)) wo.heap.size (fun _=>True) (.slice (some ad75) (nbOf a0_0 a0_1 l0_2 c).length c75) (nbOf a0_0 a0_1 l0_2 c) ∧ ((w17.setCell ⟨g17,0,none⟩ (.int .i64 x.f0)).setCell ⟨g17,1,none⟩ (.int .i64 x.f1)).heap[g17]? = some (.cells #[.int .i64 x.f0,.int .i64 x.f1] 48 (0,0))):=Aside0.mk ⟨blk_below HCR.out.1 (below_set (j:=1) (v := .int .i64 x.f1) (below_set (j:=0) (v := .int .i64 x.f0) HB17.out (Nat.le_of_eq HG17.out.symm)) (Nat.le_of_eq HG17.out.symm)),Kd.R_below HCR.out.2 (below_set (j:=1) (v := .int .i64 x.f1) (below_set (j:=0) (v := .int .i64 x.f0) HB17.out (Nat.le_of_eq HG17.out.symm)) (Nat.le_of_eq HG17.out.symm)),(blk_put (cs := #[.int .i64 x.f0,.int .i64 0]) (blk_put (cs := #[.int .i64 0,.int .i64 0]) HF17.out 0 _ rfl) 1 _ rfl)⟩;clear hz0 hz1_ hzf0 hzf1 HF17 HB17 HG17 HPB HRG HCR hx0 hx1;generalize ((w17.setCell ⟨g17,0,none⟩ (.int .i64 x.f0)).setCell ⟨g17,1,none⟩ (.int .i64 x.f1)) = w17_ at HPB9 HRG9 HCR9 ⊢;have f150 : w17_.cell? ⟨g15,0,none⟩ = some (.int .i64 c.f0):=(blk_cell HCR9.out.1 0).trans rfl;have f151 : w17_.cell? ⟨g15,1,none⟩ = some (.int .i64 c.f1):=(blk_cell HCR9.out.1 1).trans rfl;have f170 : w17_.cell? ⟨g17,0,none⟩ = some (.int .i64 x.f0):=(blk_cell HCR9.out.2.2 0).trans rfl;have f171 : w17_.cell? ⟨g17,1,none⟩ = some (.int .i64 x.f1):=(blk_cell HCR9.out.2.2 1).trans rfl)|(go_at_call 93;(with_reducible refine (impl_isHit.calls A1 c1 os x c z _ (Kd.C_below HR1.out (below_step HB1.out (below_step HBo.out HPB9.out.bl))) HC1.out HO.out ⟨by have:=HZP.out;omega,by have:=HZP.out;omega⟩).mono ?_);rintro e_ w85 ⟨rfl,hB⟩;rw [chk_pos HH5.out];have HPB7:=Aside0.mk (HPB9.out.below hB);have HRG7:=Aside0.mk (HRG9.out.below hB);have HCR7:=Aside0.mk (And.intro (blk_below HCR9.out.1 hB) (And.intro (Kd.R_below HCR9.out.2.1 hB) (blk_below HCR9.out.2.2 hB)));clear hB HPB9 HRG9 HCR9 f150 f151 f170 f171))
                  go_roundg k5
                  case measure=>omega
                  case rel=>exact ⟨i + 1,n2,by go_num,⟨by have:=HI.out;have:=HI2.out;omega⟩,⟨HPB7.out.congr (fun y=>t5_hit HI2.out HX.out HH5.out)⟩,HRG7,⟨HCR7.out.1,HCR7.out.2.1⟩⟩
                 ·have HH5:=Aside0.mk hh
                  clear hh
                  go_upto_region 27 with (first|((with_reducible refine gate_dst (N:=17) rfl ?_);refine box_event ?hg (N:=17) ?hd (cs := #[.int .i64 0,.int .i64 0]) (t:=48) ?hr ?_;(case hd=>rfl);(case hg=>rfl);(case hr=>first|(go_simp;done)|(go_simp;rfl));intro g17 hgg17 w17 hbox hb;have HF17:=Aside0.mk hbox;have HB17:=Aside0.mk hb;have HG17:=Aside0.mk hgg17;clear hbox hb hgg17;have hz0 : w17.cell? ⟨g17,0,none⟩ = some (.int .i64 0):=(blk_cell HF17.out 0).trans rfl;have hz1_ : w17.cell? ⟨g17,1,none⟩ = some (.int .i64 0):=(blk_cell HF17.out 1).trans rfl;have hzf0:=blk_frozen HF17.out 0;have hzf1:=blk_frozen HF17.out 1)|((with_reducible refine gate_dst (N:=82) rfl ?_);have HPB9 : Aside0 (PB (GI a0_0 a0_1 l0_2 os c3 e) wo ((w17.setCell ⟨g17,0,none⟩ (.int .i64 x.f0)).setCell ⟨g17,1,none⟩ (.int .i64 x.f1)) (.slice (some ⟨g13,0,none⟩) (e + 1) c13) bs' e j bn bn n2 (T5 os (nbOf a0_0 a0_1 l0_2) (GI a0_0 a0_1 l0_2 os c3 e j) Left c z i)):=Aside0.mk (HPB.out.below (below_set (j:=1) (v := .int .i64 x.f1) (below_set (j:=0) (v := .int .i64 x.f0) HB17.out (Nat.le_of_eq HG17.out.symm)) (Nat.le_of_eq HG17.out.symm)));have HRG9 : Aside0 (RangeB ((w17.setCell ⟨g17,0,none⟩ (.int .i64 x.f0)).setCell ⟨g17,1,none⟩ (.int .i64 x.f1)) bt rr nt (fun d=>Left d ∧ d ≠ c) cn'):=Aside0.mk (HRG.out.below (below_set (j:=1) (v := .int .i64 x.f1) (below_set (j:=0) (v := .int .i64 x.f0) HB17.out (Nat.le_of_eq HG17.out.symm)) (Nat.le_of_eq HG17.out.symm)));have HCR9 : Aside0 (((w17.setCell ⟨g17,0,none⟩ (.int .i64 x.f0)).setCell ⟨g17,1,none⟩ (.int .i64 x.f1)).heap[g15]? = some (.cells #[.int .i64 c.f0,.int .i64 c.f1] 48 (0,0)) ∧ Kd.R k48 48 ((w17.setCell ⟨g17,0,none⟩ (.int .i64 x.f0)).setCell ⟨g17,1,none⟩ (.int .i64 x.f1)) wo.heap.size (fun _=>True) (.slice (some ad75) (nbOf a0_0 a0_1 l0_2 c).length c75) (nbOf a0_0 a0_1 l0_2 c) ∧ ((w17.setCell ⟨g17,0,none⟩ (.int .i64 x.f0)).setCell ⟨g17,1,none⟩ (.int .i64 x.f1)).heap[g17]? = some (.cells #[.int .i64 x.f0,.int .i64 x.f1] 48 (0,0))):=Aside0.mk ⟨blk_below HCR.out.1 (below_set (j:=1) (v := .int .i64 x.f1) (below_set (j:=0) (v := .int .i64 x.f0) HB17.out (Nat.le_of_eq HG17.out.symm)) (Nat.le_of_eq HG17.out.symm)),Kd.R_below HCR.out.2 (below_set (j:=1) (v := .int .i64 x.f1) (below_set (j:=0) (v := .int .i64 x.f0) HB17.out (Nat.le_of_eq HG17.out.symm)) (Nat.le_of_eq HG17.out.symm)),(blk_put (cs := #[.int .i64 x.f0,.int .i64 0]) (blk_put (cs := #[.int .i64 0,.int .i64 0]) HF17.out 0 _ rfl) 1 _ rfl)⟩;clear hz0 hz1_ hzf0 hzf1 HF17 HB17 HG17 HPB HRG HCR hx0 hx1;generalize ((w17.setCell ⟨g17,0,none⟩ (.int .i64 x.f0)).setCell ⟨g17,1,none⟩ (.int .i64 x.f1)) = w17_ at HPB9 HRG9 HCR9 ⊢;have f150 : w17_.cell? ⟨g15,0,none⟩ = some (.int .i64 c.f0):=(blk_cell HCR9.out.1 0).trans rfl;have f151 : w17_.cell? ⟨g15,1,none⟩ = some (.int .i64 c.f1):=(blk_cell HCR9.out.1 1).trans rfl;have f170 : w17_.cell? ⟨g17,0,none⟩ = some (.int .i64 x.f0):=(blk_cell HCR9.out.2.2 0).trans rfl;have f171 : w17_.cell? ⟨g17,1,none⟩ = some (.int .i64 x.f1):=(blk_cell HCR9.out.2.2 1).trans rfl)|(go_at_call 93;(with_reducible refine (impl_isHit.calls A1 c1 os x c z _ (Kd.C_below HR1.out (below_step HB1.out (below_step HBo.out HPB9.out.bl))) HC1.out HO.out ⟨by have:=HZP.out;omega,by have:=HZP.out;omega⟩).mono ?_);rintro e_ w85 ⟨rfl,hB⟩;rw [chk_neg HH5.out];have HPB7:=Aside0.mk (HPB9.out.below hB);have HRG7:=Aside0.mk (HRG9.out.below hB);have HCR7:=Aside0.mk (And.intro (blk_below HCR9.out.1 hB) (And.intro (Kd.R_below HCR9.out.2.1 hB) (blk_below HCR9.out.2.2 hB)));clear hB HPB9 HRG9 HCR9 f150 f151 f170 f171))
                  obtain ⟨adm,eam,hgm⟩:=at_mp (Kd.R_reads' HPB7.out.r).2.2 zm (by have:=HZM.out;have:=HZP.out;omega) (by rw [HBN.out.2];have:=HZM.out;have:=HZT.out;omega) (b:=some bn) (by rw [HZT.out.1];exact HBN.out.1)
                  cases eam
                  rw [add_plain] at hgm
                  refine start_ (n:=7) (S:=fun w'=>Below w85.heap.size w85 w') (ds:=[6]) (bits 7 0) (by kernel_rfl) rfl rfl (below_drew1 (Below.refl _ _)) (fun hHeld=>?_)
                  have HBd:=Aside0.mk hHeld
                  have HPB8:=Aside0.mk (HPB7.out.below HBd.out)
                  have HRG8:=Aside0.mk (HRG7.out.below HBd.out)
                  generalize w85.drew = wd at HBd HPB8 HRG8 hHeld ⊢
                  refine zzp 0 87 (zzb 7 1) ?_;refine zzp 1 88 (zzb 7 3) ?_;refine zzp 2 89 (zzb 7 7) ?_;refine zzp 3 90 (zzb 7 15) ?_
                  refine zzt 4 91 (zzb 7 31) hHeld ?_ (hy:=by intro w' s0;have hx_:=pw_cell_below s0 hgm;go_simp;with_reducible rfl)
                  refine zzt 5 92 (zzb 7 63) hHeld ?_ (hy:=by intro w' s0;have f170 : w'.cell? ⟨g17,0,none⟩ = some (.int .i64 x.f0):=(blk_cell (blk_below HCR7.out.2.2 s0) 0).trans rfl;have f171 : w'.cell? ⟨g17,1,none⟩ = some (.int .i64 x.f1):=(blk_cell (blk_below HCR7.out.2.2 s0) 1).trans rfl;go_simp;with_reducible rfl)
                  refine last_ (i:=6) (N:=none) (bits 7 127) rfl rfl (by kernel_rfl) (by decide) (fun K hK=>?_)
                  obtain ⟨w10,hrun10,hm10,hg10⟩:=mapB_update HPB8.out.tg HNB.out HWX.out
                  have hrun11 : (Instr.mapUpdate 108 (.map (some bn)) (.agg #[.int .i64 x.f0,.int .i64 x.f1]) (.bool true)).run Try.prog wd = .ok () w10:=hrun10
                  refine skip_ (w1:=w10) (by rfl) rfl ?hr8 ?_
                  case hr8=>first|(go_simp;done)|(go_simp;rfl)
                  refine hK.out _ _ ?_
                  clear hK K
                  have HPB9:=Aside0.mk (HPB8.out.put hm10 hg10)
                  have HRG9:=Aside0.mk (HRG8.out.kept hg10 (fun e'=>by have:=HBT.out;have:=Option.some.inj e';omega) (fun e'=>HRG8.out.mapNe HPB8.out.tg (Option.some.inj e')))
                  have HCR9 : Aside0 (w10.heap[g15]? = some (.cells #[.int .i64 c.f0,.int .i64 c.f1] 48 (0,0)) ∧ Kd.R k48 48 w10 wo.heap.size (fun _=>True) (.slice (some ad75) (nbOf a0_0 a0_1 l0_2 c).length c75) (nbOf a0_0 a0_1 l0_2 c)):=Aside0.mk ⟨(hg10.block g15 (blk_lt (blk_below HCR7.out.1 HBd.out)) (fun e'=>HPB8.out.tg.cells (blk_below HCR7.out.1 HBd.out) (Option.some.inj e').symm)).trans (blk_below HCR7.out.1 HBd.out),R_flat_grown (Kd.R_below HCR7.out.2.1 HBd.out) HPB8.out.tg hg10⟩
                  clear hm10 hg10 hrun10 hrun11 hHeld HPB7 HRG7 HCR7 HPB8 HRG8 hgm
                  refine done_ (by kernel_rfl) ?_
                  go_wp2
                  go_roundg k5
                  case measure=>omega
                  case rel=>exact ⟨i + 1,n2 + 1,by go_num,⟨by have:=HI.out;have:=HI2.out;omega⟩,⟨HPB9.out.congr (fun y=>t5_miss HI2.out HX.out HH5.out)⟩,HRG9,HCR9⟩
                ·have ci : decide ((i : Int) < ((nbOf a0_0 a0_1 l0_2 c).length : Int)) = false:=decide_eq_false (by omega)
                 have cin : decide (i < (nbOf a0_0 a0_1 l0_2 c).length) = false:=decide_eq_false hi
                 obtain rfl : i = (nbOf a0_0 a0_1 l0_2 c).length:=by have:=HI.out;omega
                 go_wp2
                 go_roundg k4
                 case measure=>omega
                 case rel=>exact ⟨_,cn',n2,⟨by have:=HCK.out;have:=HPK.out.2.2.1;omega⟩,HRG,⟨fun d hd=>HLG.out d hd.1⟩,⟨by have:=HNC.out;have:=HI.out;have:=HPK.out.2.2.1;omega⟩,⟨HPB.out.congr (fun y=>t5_all (HLG.out c HPK.out.1))⟩⟩
          ·obtain rfl : e = j:=by have:=HZJ.out;omega
           obtain rfl : z = 0:=by have:=HZJ.out;omega
           have cz : decide (0 < (0 : Int)) = false:=rfl
           clear hz HZJ
           obtain ⟨b0,n0,hb0,_,_,hm0⟩:=HG.out.mp e (Nat.le_refl _)
           obtain ⟨adm,eam,hgm_⟩:=at_mp (Kd.R_reads' HG.out.r).2.2 0 (Int.le_refl 0) (by rw [HG.out.len];omega) (b:=some b0) (by rw [show (0 : Int).toNat = e - e from by omega];exact hb0)
           cases eam
           rw [add_plain] at hgm_
           have hgm : wr.cell? ⟨g13,0,none⟩ = some (.map (some b0)):=hgm_
           clear hgm_
           have HM0:=Aside0.mk hm0
           have HWA : Aside0 (W64 c2):=⟨(nbs_impl HFL.out HBL.out).wf c2 HA.out⟩
           have p4 : ((0 : Int) < ((e + 1 : Nat) : Int)) = True:=eq_true (by omega)
           have p5 : ((0 : Int) < (e : Int) + 1) = True:=eq_true (by omega)
           clear hb0 hm0
           by_cases hin : GI a0_0 a0_1 l0_2 os c3 e e c2
           ·have HIN:=Aside0.mk hin
            have HR_ : Aside0 (∀ p,trace (nxI a0_0 a0_1 l0_2 os c3 e) c2 e = some p → R = (p,true)):=⟨HRS.out e he2 HN.out ⟨HSTY.out,HIN.out⟩⟩
            have HEV : Aside0 (c3 ∈ lev a0_0 a0_1 l0_2 os c2 e):=⟨(end_iff HA.out HT.out e).2 HIN.out⟩
            clear hin HRS HRN
            go_upto_region 29 with (fail)
            refine start_ (n:=6) (S:=fun w'=>Below wr.heap.size wr w') (ds:=[]) (bits 6 0) (by kernel_rfl) rfl rfl (below_drew1 (Below.refl _ _)) (fun hHeld=>?_)
            have HBd:=Aside0.mk hHeld
            have HG9:=Aside0.mk (HG.out.below HBd.out)
            generalize wr.drew = wd at HBd HG9 hHeld ⊢
            refine zzp 0 94 (zzb 6 1) ?_;refine zzp 1 95 (zzb 6 3) ?_
            refine zzt 2 96 (zzb 6 7) hHeld ?_ (hy:=by intro w' s0;have hx_:=pw_cell_below s0 hgm;go_simp;with_reducible rfl)
            refine zzt 3 97 (zzb 6 15) hHeld ?_ (hy:=by intro w' s0;have f60 : w'.cell? ⟨g6,0,none⟩ = some (.int .i64 c2.f0):=(blk_cell (blk_below HF6.out (below_step HBo.out (below_step HG.out.bl s0))) 0).trans rfl;have f61 : w'.cell? ⟨g6,1,none⟩ = some (.int .i64 c2.f1):=(blk_cell (blk_below HF6.out (below_step HBo.out (below_step HG.out.bl s0))) 1).trans rfl;go_simp;with_reducible rfl)
            refine zzt 4 98 (zzb 6 31) hHeld ?_ (hy:=by intro w' s0;(have hl_ : (Instr.lookup 108 (.map (some b0)) (.agg #[.int .i64 c2.f0,.int .i64 c2.f1]) false).run Try.prog w' = .ok (.bool true) w':=(mapB_run (HM0.out.below s0) HWA.out).trans (by rw [chk_pos HIN.out]));go_simp;with_reducible rfl);refine zzp 5 99 (zzb 6 63) ?_
            refine done_ (by kernel_rfl) ?_
            clear HG HM0 hgm
            have f60 : wd.cell? ⟨g6,0,none⟩ = some (.int .i64 c2.f0):=(blk_cell (blk_below HF6.out (below_step HBo.out HG9.out.bl)) 0).trans rfl;have f61 : wd.cell? ⟨g6,1,none⟩ = some (.int .i64 c2.f1):=(blk_cell (blk_below HF6.out (below_step HBo.out HG9.out.bl)) 1).trans rfl
            go_wp2_with (first|((with_reducible refine gate_dst (N:=101) rfl ?_);refine Kd.R_lit k48 _ 48 ?hg (N:=101) ?hd (xs:=([c2] : List S48)) (inner:=[.int .i64 c2.f0,.int .i64 c2.f1]) (ok:=fun _=>True) (okp:=fun _=>True) ?hr ?hp (fun _ hk=>hk) trivial (Below.refl _ _) (Nat.le_refl _) (by simp) ?_;(case hd=>rfl);(case hg=>rfl);(case hr=>first|(go_simp;done)|(go_simp;rfl));(case hp=>exact (Reps.c2 (show Kd.M k48 _ _ _ c2 [.int .i64 c2.f0,.int .i64 c2.f1] from k48_mkM _ _ _ c2) (Reps.none _ _)));intro v101 w101 hR hB hg_ hnew_;clear hg_ hnew_;obtain ⟨A101,c101,e101⟩:=Kd.R_slice hR;rw [show ([c2] : List S48).length = 1 from rfl] at e101;subst e101;have HP4 : Aside0 (PC (GI a0_0 a0_1 l0_2 os c3 e) wo w101 (.slice (some ⟨g13,0,none⟩) (e + 1) c13) bs e (.slice A101 1 c101) [c2]):=Aside0.mk ⟨HG9.out.below hB,Kd.R_lower hR HG9.out.bl.size⟩;clear f60 f61 HG9;clear hR hB))
            go_loopg [18,19] 30 (fun kq v18 v19 w' => ∃ (s : Nat) (z : Int) (p : List S48),v19 = .int .i64 z ∧ Aside0 (z = (s : Int) + 1 ∧ s ≤ e ∧ s + kq = 30) ∧ Aside0 (trace (nxI a0_0 a0_1 l0_2 os c3 e) c2 s = some p) ∧ Aside0 (PC (GI a0_0 a0_1 l0_2 os c3 e) wo w' (.slice (some ⟨g13,0,none⟩) (e + 1) c13) bs e v18 p))
            case atStart=>exact ⟨0,1,[c2],rfl,⟨by omega⟩,⟨rfl⟩,HP4⟩
            case round =>
             clear HP4
             obtain ⟨s,z,p,rfl,HSE,HTR,HP⟩:=hrel
             have HPL:=Aside0.mk (trace_len HTR.out)
             obtain ⟨A18,c18,e18⟩:=Kd.R_slice HP.out.out
             subst e18
             cases gk with
             | zero=>exact absurd HSE.out (by omega)
             | succ k6 =>
              by_cases hz : z ≤ (e : Int)
              ·have cz6 : decide (z ≤ (e : Int)) = true:=decide_eq_true hz
               have hse : s < e:=by have:=HSE.out;omega
               have HSL:=Aside0.mk hse
               obtain ⟨p2,hp2,hp2b,hp2c⟩:=trace_both HA.out HT.out HEV.out (s + 1) hse
               obtain ⟨cc,hcc,hpp⟩:=trace_nextI HTR.out hp2
               have HP2 : Aside0 (trace (nxI a0_0 a0_1 l0_2 os c3 e) c2 (s + 1) = some (p ++ [cc])):=⟨by rw [← hpp];exact hp2⟩
               have hzs : z - 1 = (s : Int):=by have:=HSE.out;omega
               have hwzs : wrap64 (z - 1) = (s : Int):=by rw [wrap64_id (by omega) (by have:=HSE.out;omega)];exact hzs
               have hs30 : s < 30:=by omega
               obtain ⟨ad18,ea,hd0,hd1⟩:=at_T48 (Kd.R_reads' HP.out.out).2.2 (s : Int) (by omega) (by have:=HPL.out;omega)
               cases ea
               rw [Int.toNat_natCast] at hd0 hd1
               obtain ⟨d,hd⟩ : ∃ d,rd_T48 p (s : Int) = d:=⟨_,rfl⟩
               rw [hd] at hd0 hd1 hcc
               have p1 : (0 ≤ (s : Int)) = True:=eq_true (by omega)
               have p2_ : ((s : Int) < (p.length : Int)) = True:=eq_true (by have:=HPL.out;omega)
               have HFN : Aside0 (fnd (fun x=>GI a0_0 a0_1 l0_2 os c3 e (e - (s + 1)) x ∧ ¬ HitAt os d x ((s + 1 : Nat) : Int)) (nbOf a0_0 a0_1 l0_2 d) = some cc):=⟨hcc⟩
               have HZS : Aside0 (z = ((s + 1 : Nat) : Int)):=⟨by have:=HSE.out;omega⟩
               have HZ64 : Aside0 (0 ≤ z ∧ z ≤ 30):=⟨by have:=HSE.out;omega⟩
               have HDF : Aside0 (Free a0_0 a0_1 l0_2 d):=⟨by
                have h1:=(hp2c.on s (by omega)).1
                rw [hpp,rd_app_lt (by have:=HPL.out;omega),hd] at h1
                exact lev_free HA.out s d h1⟩
               have p3 : (0 ≤ z) = True:=eq_true (by have:=HSE.out;omega)
               have p6 : (z < ((e + 1 : Nat) : Int)) = True:=eq_true (by omega)
               have p7 : (z < (e : Int) + 1) = True:=eq_true (by omega)
               obtain ⟨zq,hzq⟩ : ∃ zq : Int,z + 1 = zq:=⟨_,rfl⟩
               have HZQ : Aside0 (zq = z + 1):=⟨hzq.symm⟩
               have hwzq : wrap64 (z + 1) = zq:=by rw [wrap64_id (by omega) (by omega)];exact hzq
               obtain ⟨ka,hka⟩:=(nbs_impl HFL.out HBL.out).run d HDF.out
               have HKA:=Aside0.mk hka
               clear hp2 hp2b hp2c hcc hpp hd hzq hzs hka
               go_wp2_with (first|((with_reducible refine gate_dst (N:=20) rfl ?_);refine box_event ?hg (N:=20) ?hd (cs := #[.int .i64 0,.int .i64 0]) (t:=48) ?hr ?_;(case hd=>rfl);(case hg=>rfl);(case hr=>first|(go_simp;done)|(go_simp;rfl));intro g20 hgg20 w20 hbox hb;have HF20:=Aside0.mk hbox;have HB20:=Aside0.mk hb;have HG20:=Aside0.mk hgg20;clear hbox hb hgg20;have hz0 : w20.cell? ⟨g20,0,none⟩ = some (.int .i64 0):=(blk_cell HF20.out 0).trans rfl;have hz1_ : w20.cell? ⟨g20,1,none⟩ = some (.int .i64 0):=(blk_cell HF20.out 1).trans rfl;have hzf0:=blk_frozen HF20.out 0;have hzf1:=blk_frozen HF20.out 1)|((with_reducible refine gate_dst (N:=112) rfl ?_);have HP5 : Aside0 (PC (GI a0_0 a0_1 l0_2 os c3 e) wo ((w20.setCell ⟨g20,0,none⟩ (.int .i64 d.f0)).setCell ⟨g20,1,none⟩ (.int .i64 d.f1)) (.slice (some ⟨g13,0,none⟩) (e + 1) c13) bs e (.slice (some ad18) p.length c18) p ∧ ((w20.setCell ⟨g20,0,none⟩ (.int .i64 d.f0)).setCell ⟨g20,1,none⟩ (.int .i64 d.f1)).heap[g20]? = some (.cells #[.int .i64 d.f0,.int .i64 d.f1] 48 (0,0))):=Aside0.mk ⟨HP.out.below (below_set (j:=1) (v := .int .i64 d.f1) (below_set (j:=0) (v := .int .i64 d.f0) HB20.out (Nat.le_of_eq HG20.out.symm)) (Nat.le_of_eq HG20.out.symm)),(blk_put (cs := #[.int .i64 d.f0,.int .i64 0]) (blk_put (cs := #[.int .i64 0,.int .i64 0]) HF20.out 0 _ rfl) 1 _ rfl)⟩;clear HP hz0 hz1_ hzf0 hzf1 HF20 HB20 HG20 hd0 hd1 hwzs;generalize ((w20.setCell ⟨g20,0,none⟩ (.int .i64 d.f0)).setCell ⟨g20,1,none⟩ (.int .i64 d.f1)) = w20_ at HP5 ⊢;have f40 : w20_.cell? ⟨g4,0,none⟩ = some (.int .i64 a0_0):=(blk_cell (blk_below HF4.out (below_step HBo.out HP5.out.1.g.bl)) 0).trans rfl;have f41 : w20_.cell? ⟨g4,1,none⟩ = some (.int .i64 a0_1):=(blk_cell (blk_below HF4.out (below_step HBo.out HP5.out.1.g.bl)) 1).trans rfl;have f42 : w20_.cell? ⟨g4,2,none⟩ = some (.slice A0_2 l0_2.length c0_2):=(blk_cell (blk_below HF4.out (below_step HBo.out HP5.out.1.g.bl)) 2).trans rfl;have f200 : w20_.cell? ⟨g20,0,none⟩ = some (.int .i64 d.f0):=(blk_cell HP5.out.2 0).trans rfl;have f201 : w20_.cell? ⟨g20,1,none⟩ = some (.int .i64 d.f1):=(blk_cell HP5.out.2 1).trans rfl)|(go_at_call 70;(with_reducible refine (impl_around.calls ka a0_0 a0_1 A0_2 c0_2 l0_2 d.f0 d.f1 (nbOf a0_0 a0_1 l0_2 d) _ (Kd.C_below HR0.out (below_step HB1.out (below_step HBo.out HP5.out.1.g.bl))) HC0.out HKA.out).mono ?_);rintro e_ w114 ⟨v114,rfl,hR,hB⟩;obtain ⟨A114,c114,rfl⟩:=Kd.R_slice hR;have HP6:=Aside0.mk (HP5.out.1.below hB);have HCR:=Aside0.mk (And.intro (blk_below HP5.out.2 hB) (Kd.R_lower hR HP5.out.1.g.bl.size));clear hR hB HP5 f40 f41 f42 f200 f201))
               have hnl : (nbOf a0_0 a0_1 l0_2 d).length ≤ 5:=nb_len _ _ _ _
               go_loopg [18,116] 30 (fun kq v18 v116 w' => ∃ (k : Nat),v18 = .slice (some ad18) p.length c18 ∧ v116 = .int .i64 (k : Int) ∧ Aside0 (k + kq = 30 ∧ k ≤ (nbOf a0_0 a0_1 l0_2 d).length) ∧ Aside0 (PC (GI a0_0 a0_1 l0_2 os c3 e) wo w' (.slice (some ⟨g13,0,none⟩) (e + 1) c13) bs e (.slice (some ad18) p.length c18) p) ∧ Aside0 (fnd (fun x=>GI a0_0 a0_1 l0_2 os c3 e (e - (s + 1)) x ∧ ¬ HitAt os d x ((s + 1 : Nat) : Int)) ((nbOf a0_0 a0_1 l0_2 d).drop k) = some cc) ∧ Aside0 (w'.heap[g20]? = some (.cells #[.int .i64 d.f0,.int .i64 d.f1] 48 (0,0)) ∧ Kd.R k48 48 w' wo.heap.size (fun _=>True) (.slice A114 (nbOf a0_0 a0_1 l0_2 d).length c114) (nbOf a0_0 a0_1 l0_2 d)))
               case atStart=>exact ⟨0,rfl,rfl,⟨by omega⟩,HP6,⟨HFN.out⟩,HCR⟩
               case round =>
                clear HP6 HFN HCR
                obtain ⟨k,rfl,rfl,HK,HP,HFN,HCR⟩:=hrel
                cases gk with
                | zero=>exact absurd HK.out (by omega)
                | succ k7 =>
                 by_cases hk : k < (nbOf a0_0 a0_1 l0_2 d).length
                 ·have ck : decide ((k : Int) < ((nbOf a0_0 a0_1 l0_2 d).length : Int)) = true:=decide_eq_true (by omega)
                  have ckn : decide (k < (nbOf a0_0 a0_1 l0_2 d).length) = true:=decide_eq_true hk
                  have hk2 : k < 100:=by omega
                  have q7 : (0 ≤ (k : Int)) = True:=eq_true (by omega)
                  have q8 : ((k : Int) < ((nbOf a0_0 a0_1 l0_2 d).length : Int)) = True:=eq_true (by omega)
                  obtain ⟨ad114,ea114,hx0,hx1⟩:=at_T48 (Kd.R_reads' HCR.out.2).2.2 (k : Int) (by omega) (by omega)
                  cases ea114
                  obtain ⟨c,hc⟩ : ∃ c,rd_T48 (nbOf a0_0 a0_1 l0_2 d) (k : Int) = c:=⟨_,rfl⟩
                  rw [hc,Int.toNat_natCast] at hx0 hx1
                  have HKL : Aside0 (k < (nbOf a0_0 a0_1 l0_2 d).length):=⟨hk⟩
                  have HWC : Aside0 (W64 c):=⟨by rw [← hc];exact (nbs_impl HFL.out HBL.out).wf _ (nb_iff.1 (mem48 _ _ (by omega) (by omega))).1⟩
                  have HDR : Aside0 ((nbOf a0_0 a0_1 l0_2 d).drop k = c :: (nbOf a0_0 a0_1 l0_2 d).drop (k + 1)):=⟨by
                   have:=drop48 (nbOf a0_0 a0_1 l0_2 d) (k : Int) (by omega) (by omega)
                   rw [hc,Int.toNat_natCast] at this
                   exact this⟩
                  have hfn:=HFN.out
                  rw [HDR.out] at hfn
                  clear hc
                  go_upto_region 38 with (first|((with_reducible refine gate_dst (N:=22) rfl ?_);refine box_event ?hg (N:=22) ?hd (cs := #[.int .i64 0,.int .i64 0]) (t:=48) ?hr ?_;(case hd=>rfl);(case hg=>rfl);(case hr=>first|(go_simp;done)|(go_simp;rfl));intro g22 hgg22 w22 hbox hb;have HF22:=Aside0.mk hbox;have HB22:=Aside0.mk hb;have HG22:=Aside0.mk hgg22;clear hbox hb hgg22;have hz0 : w22.cell? ⟨g22,0,none⟩ = some (.int .i64 0):=(blk_cell HF22.out 0).trans rfl;have hz1_ : w22.cell? ⟨g22,1,none⟩ = some (.int .i64 0):=(blk_cell HF22.out 1).trans rfl;have hzf0:=blk_frozen HF22.out 0;have hzf1:=blk_frozen HF22.out 1))
                  have HP7 : Aside0 (PC (GI a0_0 a0_1 l0_2 os c3 e) wo ((w22.setCell ⟨g22,0,none⟩ (.int .i64 c.f0)).setCell ⟨g22,1,none⟩ (.int .i64 c.f1)) (.slice (some ⟨g13,0,none⟩) (e + 1) c13) bs e (.slice (some ad18) p.length c18) p):=Aside0.mk (HP.out.below (below_set (j:=1) (v := .int .i64 c.f1) (below_set (j:=0) (v := .int .i64 c.f0) HB22.out (Nat.le_of_eq HG22.out.symm)) (Nat.le_of_eq HG22.out.symm)))
                  have HCR7 : Aside0 (((w22.setCell ⟨g22,0,none⟩ (.int .i64 c.f0)).setCell ⟨g22,1,none⟩ (.int .i64 c.f1)).heap[g20]? = some (.cells #[.int .i64 d.f0,.int .i64 d.f1] 48 (0,0)) ∧ Kd.R k48 48 ((w22.setCell ⟨g22,0,none⟩ (.int .i64 c.f0)).setCell ⟨g22,1,none⟩ (.int .i64 c.f1)) wo.heap.size (fun _=>True) (.slice (some ad114) (nbOf a0_0 a0_1 l0_2 d).length c114) (nbOf a0_0 a0_1 l0_2 d) ∧ ((w22.setCell ⟨g22,0,none⟩ (.int .i64 c.f0)).setCell ⟨g22,1,none⟩ (.int .i64 c.f1)).heap[g22]? = some (.cells #[.int .i64 c.f0,.int .i64 c.f1] 48 (0,0))):=Aside0.mk ⟨blk_below HCR.out.1 (below_set (j:=1) (v := .int .i64 c.f1) (below_set (j:=0) (v := .int .i64 c.f0) HB22.out (Nat.le_of_eq HG22.out.symm)) (Nat.le_of_eq HG22.out.symm)),Kd.R_below HCR.out.2 (below_set (j:=1) (v := .int .i64 c.f1) (below_set (j:=0) (v := .int .i64 c.f0) HB22.out (Nat.le_of_eq HG22.out.symm)) (Nat.le_of_eq HG22.out.symm)),(blk_put (cs := #[.int .i64 c.f0,.int .i64 0]) (blk_put (cs := #[.int .i64 0,.int .i64 0]) HF22.out 0 _ rfl) 1 _ rfl)⟩
                  clear HP HCR hz0 hz1_ hzf0 hzf1 HF22 HB22 HG22 hx0 hx1
                  generalize ((w22.setCell ⟨g22,0,none⟩ (.int .i64 c.f0)).setCell ⟨g22,1,none⟩ (.int .i64 c.f1)) = w22_ at HP7 HCR7 ⊢
                  obtain ⟨b2,n2,hb2,_,_,hm2⟩:=HP7.out.g.mp (e - (s + 1)) (by omega)
                  obtain ⟨adm,eam,hgm⟩:=at_mp (Kd.R_reads' HP7.out.g.r).2.2 z (by have:=HZ64.out;omega) (by rw [HP7.out.g.len];omega) (b:=some b2) (by rw [show z.toNat = e - (e - (s + 1)) from by have:=HSE.out;have:=HSL.out;omega];exact hb2)
                  cases eam
                  rw [add_plain] at hgm
                  have HM2:=Aside0.mk hm2
                  clear hb2 hm2
                  by_cases hin2 : GI a0_0 a0_1 l0_2 os c3 e (e - (s + 1)) c
                  ·have HIN2:=Aside0.mk hin2
                   by_cases hhc : HitAt os d c z
                   ·have HHC:=Aside0.mk hhc
                    rw [fnd_neg (by rw [← HZS.out];exact fun m=>m.2 hhc)] at hfn
                    have HFN2:=Aside0.mk hfn
                    clear hin2 hhc hfn
                    refine start_ (n:=14) (S:=fun w'=>Below w22_.heap.size w22_ w') (ds:=[]) (bits 14 0) (by kernel_rfl) rfl rfl (below_drew1 (Below.refl _ _)) (fun hHeld=>?_)
                    have HBd:=Aside0.mk hHeld
                    generalize w22_.drew = wd2 at HBd hHeld ⊢
                    refine zzp 0 120 (zzb 14 1) ?_;refine zzp 1 121 (zzb 14 3) ?_;refine zzp 2 122 (zzb 14 7) ?_
                    refine zzt 3 123 (zzb 14 15) hHeld ?_ (hy:=by intro w' s0;have hx_:=pw_cell_below s0 hgm;go_simp;with_reducible rfl)
                    refine zzt 4 124 (zzb 14 31) hHeld ?_ (hy:=by intro w' s0;have f220 : w'.cell? ⟨g22,0,none⟩ = some (.int .i64 c.f0):=(blk_cell (blk_below HCR7.out.2.2 s0) 0).trans rfl;have f221 : w'.cell? ⟨g22,1,none⟩ = some (.int .i64 c.f1):=(blk_cell (blk_below HCR7.out.2.2 s0) 1).trans rfl;go_simp;with_reducible rfl)
                    refine zzt 5 125 (zzb 14 63) hHeld ?_ (hy:=by intro w' s0;(have hl_ : (Instr.lookup 108 (.map (some b2)) (.agg #[.int .i64 c.f0,.int .i64 c.f1]) false).run Try.prog w' = .ok (.bool true) w':=(mapB_run (HM2.out.below s0) HWC.out).trans (by rw [chk_pos HIN2.out]));go_simp;with_reducible rfl);refine zzp 6 126 (zzb 14 127) ?_;refine zzp 7 127 (zzb 14 255) ?_
                    refine zzt 8 128 (zzb 14 511) hHeld ?_ (hy:=by intro w' s0;have f200 : w'.cell? ⟨g20,0,none⟩ = some (.int .i64 d.f0):=(blk_cell (blk_below HCR7.out.1 s0) 0).trans rfl;have f201 : w'.cell? ⟨g20,1,none⟩ = some (.int .i64 d.f1):=(blk_cell (blk_below HCR7.out.1 s0) 1).trans rfl;go_simp;with_reducible rfl)
                    refine zzt 9 129 (zzb 14 1023) hHeld ?_ (hy:=by intro w' s0;have f220 : w'.cell? ⟨g22,0,none⟩ = some (.int .i64 c.f0):=(blk_cell (blk_below HCR7.out.2.2 s0) 0).trans rfl;have f221 : w'.cell? ⟨g22,1,none⟩ = some (.int .i64 c.f1):=(blk_cell (blk_below HCR7.out.2.2 s0) 1).trans rfl;go_simp;with_reducible rfl);refine zzp 10 130 (zzb 14 2047) ?_
                    refine one_ (i:=11) (N:=(some 131)) (bits 14 4095) rfl rfl (by kernel_rfl) (by decide) (fun K hK=>?_)
                    refine goes_ Try.func93 (by kernel_rfl) rfl #[.slice A1 os.length c1,.agg #[.int .i64 d.f0,.int .i64 d.f1],.agg #[.int .i64 c.f0,.int .i64 c.f1],.int .i64 z] (by rfl) rfl rfl (by (try simp only [List.map_toArray,List.map_cons,List.map_nil]);rfl) ?_
                    with_reducible refine (impl_isHit.calls A1 c1 os d c z _ (Kd.C_below HR1.out (below_step HB1.out (below_step HBo.out (below_step HP7.out.g.bl HBd.out)))) HC1.out HO.out HZ64.out).mono ?_
                    rintro e w131 ⟨rfl,hB⟩
                    refine ⟨_,rfl,?_⟩
                    rw [chk_pos HHC.out]
                    have HBn : Aside0 (Below w22_.heap.size w22_ w131):=Aside0.mk (below_step HBd.out hB)
                    clear hB HBd hHeld
                    have HBd:=HBn
                    clear HBn
                    refine hK.out _ _ HBd.out (fun hHeld=>?_)
                    clear hK K
                    refine zzn 131 ?_;refine zzp 12 132 (zzb 14 8191) ?_;refine zzp 13 133 (zzb 14 16383) ?_
                    refine done_ (by kernel_rfl) ?_
                    have HP8:=Aside0.mk (HP7.out.below HBd.out)
                    have HCR8:=Aside0.mk (And.intro (blk_below HCR7.out.1 HBd.out) (And.intro (Kd.R_below HCR7.out.2.1 HBd.out) (blk_below HCR7.out.2.2 HBd.out)))
                    clear HP7 HCR7 HM2 hgm
                    go_wp2
                    go_roundg k7
                    case measure=>omega
                    case rel=>exact ⟨k + 1,rfl,by go_num,⟨by have:=HK.out;have:=HKL.out;omega⟩,HP8,HFN2,⟨HCR8.out.1,HCR8.out.2.1⟩⟩
                   ·have HHC:=Aside0.mk hhc
                    rw [fnd_pos (by rw [← HZS.out];exact ⟨hin2,hhc⟩)] at hfn
                    obtain rfl:=Option.some.inj hfn
                    clear hin2 hhc hfn
                    refine start_ (n:=14) (S:=fun w'=>Below w22_.heap.size w22_ w') (ds:=[]) (bits 14 0) (by kernel_rfl) rfl rfl (below_drew1 (Below.refl _ _)) (fun hHeld=>?_)
                    have HBd:=Aside0.mk hHeld
                    generalize w22_.drew = wd2 at HBd hHeld ⊢
                    refine zzp 0 120 (zzb 14 1) ?_;refine zzp 1 121 (zzb 14 3) ?_;refine zzp 2 122 (zzb 14 7) ?_
                    refine zzt 3 123 (zzb 14 15) hHeld ?_ (hy:=by intro w' s0;have hx_:=pw_cell_below s0 hgm;go_simp;with_reducible rfl)
                    refine zzt 4 124 (zzb 14 31) hHeld ?_ (hy:=by intro w' s0;have f220 : w'.cell? ⟨g22,0,none⟩ = some (.int .i64 c.f0):=(blk_cell (blk_below HCR7.out.2.2 s0) 0).trans rfl;have f221 : w'.cell? ⟨g22,1,none⟩ = some (.int .i64 c.f1):=(blk_cell (blk_below HCR7.out.2.2 s0) 1).trans rfl;go_simp;with_reducible rfl)
                    refine zzt 5 125 (zzb 14 63) hHeld ?_ (hy:=by intro w' s0;(have hl_ : (Instr.lookup 108 (.map (some b2)) (.agg #[.int .i64 c.f0,.int .i64 c.f1]) false).run Try.prog w' = .ok (.bool true) w':=(mapB_run (HM2.out.below s0) HWC.out).trans (by rw [chk_pos HIN2.out]));go_simp;with_reducible rfl);refine zzp 6 126 (zzb 14 127) ?_;refine zzp 7 127 (zzb 14 255) ?_
                    refine zzt 8 128 (zzb 14 511) hHeld ?_ (hy:=by intro w' s0;have f200 : w'.cell? ⟨g20,0,none⟩ = some (.int .i64 d.f0):=(blk_cell (blk_below HCR7.out.1 s0) 0).trans rfl;have f201 : w'.cell? ⟨g20,1,none⟩ = some (.int .i64 d.f1):=(blk_cell (blk_below HCR7.out.1 s0) 1).trans rfl;go_simp;with_reducible rfl)
                    refine zzt 9 129 (zzb 14 1023) hHeld ?_ (hy:=by intro w' s0;have f220 : w'.cell? ⟨g22,0,none⟩ = some (.int .i64 c.f0):=(blk_cell (blk_below HCR7.out.2.2 s0) 0).trans rfl;have f221 : w'.cell? ⟨g22,1,none⟩ = some (.int .i64 c.f1):=(blk_cell (blk_below HCR7.out.2.2 s0) 1).trans rfl;go_simp;with_reducible rfl);refine zzp 10 130 (zzb 14 2047) ?_
                    refine one_ (i:=11) (N:=(some 131)) (bits 14 4095) rfl rfl (by kernel_rfl) (by decide) (fun K hK=>?_)
                    refine goes_ Try.func93 (by kernel_rfl) rfl #[.slice A1 os.length c1,.agg #[.int .i64 d.f0,.int .i64 d.f1],.agg #[.int .i64 c.f0,.int .i64 c.f1],.int .i64 z] (by rfl) rfl rfl (by (try simp only [List.map_toArray,List.map_cons,List.map_nil]);rfl) ?_
                    with_reducible refine (impl_isHit.calls A1 c1 os d c z _ (Kd.C_below HR1.out (below_step HB1.out (below_step HBo.out (below_step HP7.out.g.bl HBd.out)))) HC1.out HO.out HZ64.out).mono ?_
                    rintro e w131 ⟨rfl,hB⟩
                    refine ⟨_,rfl,?_⟩
                    rw [chk_neg HHC.out]
                    have HBn : Aside0 (Below w22_.heap.size w22_ w131):=Aside0.mk (below_step HBd.out hB)
                    clear hB HBd hHeld
                    have HBd:=HBn
                    clear HBn
                    refine hK.out _ _ HBd.out (fun hHeld=>?_)
                    clear hK K
                    refine zzn 131 ?_;refine zzp 12 132 (zzb 14 8191) ?_;refine zzp 13 133 (zzb 14 16383) ?_
                    refine done_ (by kernel_rfl) ?_
                    have HP8:=Aside0.mk (HP7.out.below HBd.out)
                    have HCR8:=Aside0.mk (And.intro (blk_below HCR7.out.1 HBd.out) (And.intro (Kd.R_below HCR7.out.2.1 HBd.out) (blk_below HCR7.out.2.2 HBd.out)))
                    clear HP7 HCR7 HM2 hgm
                    have f220 : w131.cell? ⟨g22,0,none⟩ = some (.int .i64 c.f0):=(blk_cell HCR8.out.2.2 0).trans rfl
                    have f221 : w131.cell? ⟨g22,1,none⟩ = some (.int .i64 c.f1):=(blk_cell HCR8.out.2.2 1).trans rfl
                    go_wp2_with (first|(at_builtin;refine Kd.R_append k48 (W:=w131) wo.heap.size rfl (.tmp 134) (.tmp 136) 27 48 _ 16 rfl Try.underlying27 info48 rfl (by decide) (by decide) (.slice (some ad18) p.length c18) p c [.int .i64 c.f0,.int .i64 c.f1] (fun _=>True) (fun _=>False) rfl rfl (k48_mkM _ _ _ c) (fun _ hk=>hk.elim) (fun _ _=>trivial) HP8.out.out HP8.out.g.bl HP8.out.g.bl.size (by have:=HPL.out;have:=HSE.out;omega) ?_;intro v137 w137 hQ hB hg hat;have HP10:=Aside0.mk (HP8.out.app hQ hB hg);clear hQ hB hg hat HP8))
                    go_roundg k6
                    case measure=>omega
                    case rel=>exact ⟨s + 1,zq,p ++ [c],(by first|rfl|rw [hwzq]),⟨by have:=HZQ.out;have:=HSE.out;have:=HSL.out;omega⟩,HP2,HP10⟩
                  ·have HIN2:=Aside0.mk hin2
                   rw [fnd_neg (fun m=>hin2 m.1)] at hfn
                   have HFN2:=Aside0.mk hfn
                   clear hin2 hfn
                   refine start_ (n:=14) (S:=fun w'=>Below w22_.heap.size w22_ w') (ds:=[]) (bits 14 0) (by kernel_rfl) rfl rfl (below_drew1 (Below.refl _ _)) (fun hHeld=>?_)
                   have HBd:=Aside0.mk hHeld
                   generalize w22_.drew = wd2 at HBd hHeld ⊢
                   refine zzp 0 120 (zzb 14 1) ?_;refine zzp 1 121 (zzb 14 3) ?_;refine zzp 2 122 (zzb 14 7) ?_
                   refine zzt 3 123 (zzb 14 15) hHeld ?_ (hy:=by intro w' s0;have hx_:=pw_cell_below s0 hgm;go_simp;with_reducible rfl)
                   refine zzt 4 124 (zzb 14 31) hHeld ?_ (hy:=by intro w' s0;have f220 : w'.cell? ⟨g22,0,none⟩ = some (.int .i64 c.f0):=(blk_cell (blk_below HCR7.out.2.2 s0) 0).trans rfl;have f221 : w'.cell? ⟨g22,1,none⟩ = some (.int .i64 c.f1):=(blk_cell (blk_below HCR7.out.2.2 s0) 1).trans rfl;go_simp;with_reducible rfl)
                   refine zzt 5 125 (zzb 14 63) hHeld ?_ (hy:=by intro w' s0;(have hl_ : (Instr.lookup 108 (.map (some b2)) (.agg #[.int .i64 c.f0,.int .i64 c.f1]) false).run Try.prog w' = .ok (.bool false) w':=(mapB_run (HM2.out.below s0) HWC.out).trans (by rw [chk_neg HIN2.out]));go_simp;with_reducible rfl);refine zzp 6 126 (zzb 14 127) ?_;refine zzu 7 127 (zzb 14 255) ?_;refine zzu 8 128 (zzb 14 511) ?_;refine zzu 9 129 (zzb 14 1023) ?_;refine zzu 10 130 (zzb 14 2047) ?_;refine zzu 11 131 (zzb 14 4095) ?_;refine zzu 12 132 (zzb 14 8191) ?_;refine zzp 13 133 (zzb 14 16383) ?_
                   refine done_ (by kernel_rfl) ?_
                   have HP8:=Aside0.mk (HP7.out.below HBd.out)
                   have HCR8:=Aside0.mk (And.intro (blk_below HCR7.out.1 HBd.out) (And.intro (Kd.R_below HCR7.out.2.1 HBd.out) (blk_below HCR7.out.2.2 HBd.out)))
                   clear HP7 HCR7 HM2 hgm
                   go_wp2
                   go_roundg k7
                   case measure=>omega
                   case rel=>exact ⟨k + 1,rfl,by go_num,⟨by have:=HK.out;have:=HKL.out;omega⟩,HP8,HFN2,⟨HCR8.out.1,HCR8.out.2.1⟩⟩
                 ·have hfn:=HFN.out
                  rw [List.drop_eq_nil_of_le (by omega),fnd_nil] at hfn
                  cases hfn
              ·have cz6 : decide (z ≤ (e : Int)) = false:=decide_eq_false hz
               have hse : s = e:=by have:=HSE.out;omega
               have hR:=HR_.out p (by rw [← HTR.out,hse])
               subst hR
               clear hz hse
               go_wp2
               go_ret2
               exact ⟨_,rfl,Kd.R_lower HP.out.out (below_step HB1.out HBo.out).size,below_step HB1.out (below_step HBo.out HP.out.g.bl)⟩
           ·have HIN:=Aside0.mk hin
            have HNE : Aside0 (∀ s,s < e + 1 → ¬ EndI a0_0 a0_1 l0_2 os c2 c3 s):=⟨fun s hs hE=>by
             by_cases e' : s = e
             ·subst e'
              exact HIN.out hE.2
             ·exact HN.out s (by omega) hE⟩
            clear hin
            go_upto_region 29 with (fail)
            refine start_ (n:=6) (S:=fun w'=>Below wr.heap.size wr w') (ds:=[]) (bits 6 0) (by kernel_rfl) rfl rfl (below_drew1 (Below.refl _ _)) (fun hHeld=>?_)
            have HBd:=Aside0.mk hHeld
            have HG9:=Aside0.mk (HG.out.below HBd.out)
            generalize wr.drew = wd at HBd HG9 hHeld ⊢
            refine zzp 0 94 (zzb 6 1) ?_;refine zzp 1 95 (zzb 6 3) ?_
            refine zzt 2 96 (zzb 6 7) hHeld ?_ (hy:=by intro w' s0;have hx_:=pw_cell_below s0 hgm;go_simp;with_reducible rfl)
            refine zzt 3 97 (zzb 6 15) hHeld ?_ (hy:=by intro w' s0;have f60 : w'.cell? ⟨g6,0,none⟩ = some (.int .i64 c2.f0):=(blk_cell (blk_below HF6.out (below_step HBo.out (below_step HG.out.bl s0))) 0).trans rfl;have f61 : w'.cell? ⟨g6,1,none⟩ = some (.int .i64 c2.f1):=(blk_cell (blk_below HF6.out (below_step HBo.out (below_step HG.out.bl s0))) 1).trans rfl;go_simp;with_reducible rfl)
            refine zzt 4 98 (zzb 6 31) hHeld ?_ (hy:=by intro w' s0;(have hl_ : (Instr.lookup 108 (.map (some b0)) (.agg #[.int .i64 c2.f0,.int .i64 c2.f1]) false).run Try.prog w' = .ok (.bool false) w':=(mapB_run (HM0.out.below s0) HWA.out).trans (by rw [chk_neg HIN.out]));go_simp;with_reducible rfl);refine zzp 5 99 (zzb 6 63) ?_
            refine done_ (by kernel_rfl) ?_
            clear HG HM0 hgm
            go_wp2
            go_roundg k1
            case measure=>omega
            case rel=>exact ⟨e + 1,by go_num,⟨by have:=HE.out;omega⟩,HNE,⟨below_step HBo.out HG9.out.bl⟩⟩
   ·have ce : decide ((e : Int) < 25) = false:=decide_eq_false (by omega)
    have hR:=HRN.out (fun s hs=>HN.out s (by omega))
    subst hR
    go_wp2
    go_ret2
    exact ⟨_,rfl,Kd.R_nil _ _ _ _ _,below_step HB1.out HB.out⟩
end Go.Proofs.Ytbpccdbkaiigcaa.G

/- The contracts of impl.safePath and impl.SafePath. -/
namespace Go.Proofs.Ytbpccdbkaiigcaa.G
open Go.RowKit Go.Proofs.YtbpccdbkaiigcaaW.PrintWords Go.Proofs.YtbpccdbkaiigcaaW.PrintLast
set_option linter.unusedVariables false
set_option linter.unusedSimpArgs false
theorem safeA_eq {w h : Int} {bl : List S48} {os : List (List S48)} {a b : S48} (ha : Free w h bl a) (hb : Free w h bl b) (ho : Len os) : safeA w h bl os a b = safeR w h bl os a b:=by
 unfold safeA safeR
 rw [safe_eq ha hb ho.2]
 cases safeP w h bl os a b <;> rfl
theorem impl_safePath.calls (a0_0 a0_1 : Int) (A0_2 : Option Addr) (c0_2 : Nat) (l0_2 : List S48) (A1 : Option Addr) (c1 : Nat) (os : List (List S48)) (c2 c3 : S48) (w : World) (hr0_2 : Kd.C k48 w A0_2 l0_2.length l0_2) (hc0_2 : l0_2.length ≤ c0_2) (hr1 : Kd.C SL6 w A1 os.length os) (hc1 : os.length ≤ c1) (hf : FloorOk a0_0 a0_1 l0_2) (hb : (l0_2.length : Int) ≤ 1099511627776) (ha : Free a0_0 a0_1 l0_2 c2) (hbt : Free a0_0 a0_1 l0_2 c3) (ho : Len os) :
  Calls Try.prog 73 #[.agg #[.int .i64 a0_0,.int .i64 a0_1,.slice A0_2 l0_2.length c0_2],.slice A1 os.length c1,.agg #[.int .i64 c2.f0,.int .i64 c2.f1],.agg #[.int .i64 c3.f0,.int .i64 c3.f1]] w fun e w' => ∃ u : Value,e = .returned (.tuple #[u,.bool (safeR a0_0 a0_1 l0_2 os c2 c3).2]) ∧ Kd.R k48 48 w' w.heap.size (fun _=>True) u (safeR a0_0 a0_1 l0_2 os c2 c3).1 ∧ Below w.heap.size w w':=by
 have e:=safeA_eq ha hbt ho
 by_cases hh : HitAt os c2 c2 0
 ·exact impl_safePath.hit a0_0 a0_1 A0_2 c0_2 l0_2 A1 c1 os c2 c3 w hr0_2 hc0_2 hr1 hc1 hf hb ha hbt ho _ (by rw [← e,safeA_hit hh]) hh
 ·exact impl_safePath.main a0_0 a0_1 A0_2 c0_2 l0_2 A1 c1 os c2 c3 w hr0_2 hc0_2 hr1 hc1 hf hb ha hbt ho _ hh (fun hn=>by rw [← e,safeA_none hh hn]) (fun e' he hn hE p hp=>by rw [← e,safeA_some hh he hn hE hp])
set_option maxHeartbeats 8000000 in
set_option maxRecDepth 100000 in
theorem impl_SafePath.bad1 (a0_0 a0_1 : Int) (A0_2 : Option Addr) (c0_2 : Nat) (l0_2 : List S48) (A1 : Option Addr) (c1 : Nat) (os : List (List S48)) (c2 c3 : S48) (w : World) (hr0_2 : Kd.C k48 w A0_2 l0_2.length l0_2) (hc0_2 : l0_2.length ≤ c0_2) (hr1 : Kd.C SL6 w A1 os.length os) (hc1 : os.length ≤ c1) (hbl : (l0_2.length : Int) ≤ 1099511627776) (kv : Nat) (hv : impl_IsValidFloor.f kv a0_0 a0_1 l0_2 = some false) :
  Calls Try.prog 41 #[.agg #[.int .i64 a0_0,.int .i64 a0_1,.slice A0_2 l0_2.length c0_2],.slice A1 os.length c1,.agg #[.int .i64 c2.f0,.int .i64 c2.f1],.agg #[.int .i64 c3.f0,.int .i64 c3.f1]] w fun e w' => ∃ u : Value,e = .returned (.tuple #[u,.bool false]) ∧ Kd.R k48 48 w' w.heap.size (fun _=>True) u [] ∧ Below w.heap.size w w':=by
 have hu29:=Try.underlying29
 have hu48:=Try.underlying48
 have HR0:=Aside0.mk hr0_2
 have HC0:=Aside0.mk hc0_2
 have HR1:=Aside0.mk hr1
 have HC1:=Aside0.mk hc1
 have HBL:=Aside0.mk hbl
 have HV:=Aside0.mk hv
 clear hr0_2 hc0_2 hr1 hc1 hbl hv
 go_enter Try.func41,Try.ntmps41
 go_wp2_with (first|((with_reducible refine gate_dst (N:=4) rfl ?_);refine box_event ?hg (N:=4) ?hd (cs := #[.int .i64 a0_0,.int .i64 a0_1,.slice A0_2 l0_2.length c0_2]) (t:=29) ?hr ?_;(case hd=>rfl);(case hg=>rfl);(case hr=>first|(go_simp;done)|(go_simp;rfl));intro g4 hgg4 w4 hbox hb;have Hg4:=Aside0.mk hbox;have HB:=Aside0.mk hb;clear hbox hb hgg4;have fg40_4 : w4.cell? ⟨g4,0,none⟩ = some (.int .i64 a0_0):=(blk_cell Hg4.out 0).trans rfl;have fg41_4 : w4.cell? ⟨g4,1,none⟩ = some (.int .i64 a0_1):=(blk_cell Hg4.out 1).trans rfl;have fg42_4 : w4.cell? ⟨g4,2,none⟩ = some (.slice A0_2 l0_2.length c0_2):=(blk_cell Hg4.out 2).trans rfl)|((with_reducible refine gate_dst (N:=6) rfl ?_);refine box_event ?hg (N:=6) ?hd (cs := #[.int .i64 c2.f0,.int .i64 c2.f1]) (t:=48) ?hr ?_;(case hd=>rfl);(case hg=>rfl);(case hr=>first|(go_simp;done)|(go_simp;rfl));intro g6 hgg6 w6 hbox hb;have Hg4':=Aside0.mk (blk_below Hg4.out hb);have HB':=Aside0.mk (below_step HB.out hb);clear HB Hg4;have Hg4:=Hg4';have HB:=HB';clear HB' Hg4';have fg40_6 : w6.cell? ⟨g4,0,none⟩ = some (.int .i64 a0_0):=(blk_cell Hg4.out 0).trans rfl;have fg41_6 : w6.cell? ⟨g4,1,none⟩ = some (.int .i64 a0_1):=(blk_cell Hg4.out 1).trans rfl;have fg42_6 : w6.cell? ⟨g4,2,none⟩ = some (.slice A0_2 l0_2.length c0_2):=(blk_cell Hg4.out 2).trans rfl;have Hg6:=Aside0.mk hbox;have fg60_6 : w6.cell? ⟨g6,0,none⟩ = some (.int .i64 c2.f0):=(blk_cell Hg6.out 0).trans rfl;have fg61_6 : w6.cell? ⟨g6,1,none⟩ = some (.int .i64 c2.f1):=(blk_cell Hg6.out 1).trans rfl;clear hbox hb hgg6)|((with_reducible refine gate_dst (N:=7) rfl ?_);refine box_event ?hg (N:=7) ?hd (cs := #[.int .i64 c3.f0,.int .i64 c3.f1]) (t:=48) ?hr ?_;(case hd=>rfl);(case hg=>rfl);(case hr=>first|(go_simp;done)|(go_simp;rfl));intro g7 hgg7 w7 hbox hb;have Hg4':=Aside0.mk (blk_below Hg4.out hb);have Hg6':=Aside0.mk (blk_below Hg6.out hb);have HB':=Aside0.mk (below_step HB.out hb);clear HB Hg4 Hg6;have Hg4:=Hg4';have Hg6:=Hg6';have HB:=HB';clear HB' Hg4' Hg6';have fg40_7 : w7.cell? ⟨g4,0,none⟩ = some (.int .i64 a0_0):=(blk_cell Hg4.out 0).trans rfl;have fg41_7 : w7.cell? ⟨g4,1,none⟩ = some (.int .i64 a0_1):=(blk_cell Hg4.out 1).trans rfl;have fg42_7 : w7.cell? ⟨g4,2,none⟩ = some (.slice A0_2 l0_2.length c0_2):=(blk_cell Hg4.out 2).trans rfl;have fg60_7 : w7.cell? ⟨g6,0,none⟩ = some (.int .i64 c2.f0):=(blk_cell Hg6.out 0).trans rfl;have fg61_7 : w7.cell? ⟨g6,1,none⟩ = some (.int .i64 c2.f1):=(blk_cell Hg6.out 1).trans rfl;have Hg7:=Aside0.mk hbox;have fg70_7 : w7.cell? ⟨g7,0,none⟩ = some (.int .i64 c3.f0):=(blk_cell Hg7.out 0).trans rfl;have fg71_7 : w7.cell? ⟨g7,1,none⟩ = some (.int .i64 c3.f1):=(blk_cell Hg7.out 1).trans rfl;clear hbox hb hgg7)|(go_at_call 16;(with_reducible refine (impl_IsValidFloor.calls kv a0_0 a0_1 A0_2 c0_2 l0_2 false _ (Kd.C_below HR0.out HB.out) HC0.out HV.out).mono ?_);rintro e w8 ⟨rfl,hB⟩;have Hg4':=Aside0.mk (blk_below Hg4.out hB);have Hg6':=Aside0.mk (blk_below Hg6.out hB);have Hg7':=Aside0.mk (blk_below Hg7.out hB);have HB':=Aside0.mk (below_step HB.out hB);clear HB Hg4 Hg6 Hg7;have Hg4:=Hg4';have Hg6:=Hg6';have Hg7:=Hg7';have HB:=HB';clear HB' Hg4' Hg6' Hg7';have fg40_8 : w8.cell? ⟨g4,0,none⟩ = some (.int .i64 a0_0):=(blk_cell Hg4.out 0).trans rfl;have fg41_8 : w8.cell? ⟨g4,1,none⟩ = some (.int .i64 a0_1):=(blk_cell Hg4.out 1).trans rfl;have fg42_8 : w8.cell? ⟨g4,2,none⟩ = some (.slice A0_2 l0_2.length c0_2):=(blk_cell Hg4.out 2).trans rfl;have fg60_8 : w8.cell? ⟨g6,0,none⟩ = some (.int .i64 c2.f0):=(blk_cell Hg6.out 0).trans rfl;have fg61_8 : w8.cell? ⟨g6,1,none⟩ = some (.int .i64 c2.f1):=(blk_cell Hg6.out 1).trans rfl;have fg70_8 : w8.cell? ⟨g7,0,none⟩ = some (.int .i64 c3.f0):=(blk_cell Hg7.out 0).trans rfl;have fg71_8 : w8.cell? ⟨g7,1,none⟩ = some (.int .i64 c3.f1):=(blk_cell Hg7.out 1).trans rfl;clear hB))
 go_ret2
 exact ⟨_,rfl,Kd.R_nil _ _ _ _ _,HB.out⟩
set_option maxHeartbeats 8000000 in
set_option maxRecDepth 100000 in
theorem impl_SafePath.bad2 (a0_0 a0_1 : Int) (A0_2 : Option Addr) (c0_2 : Nat) (l0_2 : List S48) (A1 : Option Addr) (c1 : Nat) (os : List (List S48)) (c2 c3 : S48) (w : World) (hr0_2 : Kd.C k48 w A0_2 l0_2.length l0_2) (hc0_2 : l0_2.length ≤ c0_2) (hr1 : Kd.C SL6 w A1 os.length os) (hc1 : os.length ≤ c1) (hbl : (l0_2.length : Int) ≤ 1099511627776) (kv : Nat) (hv : impl_IsValidFloor.f kv a0_0 a0_1 l0_2 = some true) (hol : 3 < (os.length : Int)) :
  Calls Try.prog 41 #[.agg #[.int .i64 a0_0,.int .i64 a0_1,.slice A0_2 l0_2.length c0_2],.slice A1 os.length c1,.agg #[.int .i64 c2.f0,.int .i64 c2.f1],.agg #[.int .i64 c3.f0,.int .i64 c3.f1]] w fun e w' => ∃ u : Value,e = .returned (.tuple #[u,.bool false]) ∧ Kd.R k48 48 w' w.heap.size (fun _=>True) u [] ∧ Below w.heap.size w w':=by
 have hu29:=Try.underlying29
 have hu48:=Try.underlying48
 have HR0:=Aside0.mk hr0_2
 have HC0:=Aside0.mk hc0_2
 have HR1:=Aside0.mk hr1
 have HC1:=Aside0.mk hc1
 have HBL:=Aside0.mk hbl
 have HV:=Aside0.mk hv
 have HOL:=Aside0.mk hol
 have cl : decide (3 < (os.length : Int)) = true:=decide_eq_true (by have:=HOL.out;omega)
 clear hr0_2 hc0_2 hr1 hc1 hbl hv hol
 go_enter Try.func41,Try.ntmps41
 go_wp2_with (first|((with_reducible refine gate_dst (N:=4) rfl ?_);refine box_event ?hg (N:=4) ?hd (cs := #[.int .i64 a0_0,.int .i64 a0_1,.slice A0_2 l0_2.length c0_2]) (t:=29) ?hr ?_;(case hd=>rfl);(case hg=>rfl);(case hr=>first|(go_simp;done)|(go_simp;rfl));intro g4 hgg4 w4 hbox hb;have Hg4:=Aside0.mk hbox;have HB:=Aside0.mk hb;clear hbox hb hgg4;have fg40_4 : w4.cell? ⟨g4,0,none⟩ = some (.int .i64 a0_0):=(blk_cell Hg4.out 0).trans rfl;have fg41_4 : w4.cell? ⟨g4,1,none⟩ = some (.int .i64 a0_1):=(blk_cell Hg4.out 1).trans rfl;have fg42_4 : w4.cell? ⟨g4,2,none⟩ = some (.slice A0_2 l0_2.length c0_2):=(blk_cell Hg4.out 2).trans rfl)|((with_reducible refine gate_dst (N:=6) rfl ?_);refine box_event ?hg (N:=6) ?hd (cs := #[.int .i64 c2.f0,.int .i64 c2.f1]) (t:=48) ?hr ?_;(case hd=>rfl);(case hg=>rfl);(case hr=>first|(go_simp;done)|(go_simp;rfl));intro g6 hgg6 w6 hbox hb;have Hg4':=Aside0.mk (blk_below Hg4.out hb);have HB':=Aside0.mk (below_step HB.out hb);clear HB Hg4;have Hg4:=Hg4';have HB:=HB';clear HB' Hg4';have fg40_6 : w6.cell? ⟨g4,0,none⟩ = some (.int .i64 a0_0):=(blk_cell Hg4.out 0).trans rfl;have fg41_6 : w6.cell? ⟨g4,1,none⟩ = some (.int .i64 a0_1):=(blk_cell Hg4.out 1).trans rfl;have fg42_6 : w6.cell? ⟨g4,2,none⟩ = some (.slice A0_2 l0_2.length c0_2):=(blk_cell Hg4.out 2).trans rfl;have Hg6:=Aside0.mk hbox;have fg60_6 : w6.cell? ⟨g6,0,none⟩ = some (.int .i64 c2.f0):=(blk_cell Hg6.out 0).trans rfl;have fg61_6 : w6.cell? ⟨g6,1,none⟩ = some (.int .i64 c2.f1):=(blk_cell Hg6.out 1).trans rfl;clear hbox hb hgg6)|((with_reducible refine gate_dst (N:=7) rfl ?_);refine box_event ?hg (N:=7) ?hd (cs := #[.int .i64 c3.f0,.int .i64 c3.f1]) (t:=48) ?hr ?_;(case hd=>rfl);(case hg=>rfl);(case hr=>first|(go_simp;done)|(go_simp;rfl));intro g7 hgg7 w7 hbox hb;have Hg4':=Aside0.mk (blk_below Hg4.out hb);have Hg6':=Aside0.mk (blk_below Hg6.out hb);have HB':=Aside0.mk (below_step HB.out hb);clear HB Hg4 Hg6;have Hg4:=Hg4';have Hg6:=Hg6';have HB:=HB';clear HB' Hg4' Hg6';have fg40_7 : w7.cell? ⟨g4,0,none⟩ = some (.int .i64 a0_0):=(blk_cell Hg4.out 0).trans rfl;have fg41_7 : w7.cell? ⟨g4,1,none⟩ = some (.int .i64 a0_1):=(blk_cell Hg4.out 1).trans rfl;have fg42_7 : w7.cell? ⟨g4,2,none⟩ = some (.slice A0_2 l0_2.length c0_2):=(blk_cell Hg4.out 2).trans rfl;have fg60_7 : w7.cell? ⟨g6,0,none⟩ = some (.int .i64 c2.f0):=(blk_cell Hg6.out 0).trans rfl;have fg61_7 : w7.cell? ⟨g6,1,none⟩ = some (.int .i64 c2.f1):=(blk_cell Hg6.out 1).trans rfl;have Hg7:=Aside0.mk hbox;have fg70_7 : w7.cell? ⟨g7,0,none⟩ = some (.int .i64 c3.f0):=(blk_cell Hg7.out 0).trans rfl;have fg71_7 : w7.cell? ⟨g7,1,none⟩ = some (.int .i64 c3.f1):=(blk_cell Hg7.out 1).trans rfl;clear hbox hb hgg7)|(go_at_call 16;(with_reducible refine (impl_IsValidFloor.calls kv a0_0 a0_1 A0_2 c0_2 l0_2 true _ (Kd.C_below HR0.out HB.out) HC0.out HV.out).mono ?_);rintro e w8 ⟨rfl,hB⟩;have Hg4':=Aside0.mk (blk_below Hg4.out hB);have Hg6':=Aside0.mk (blk_below Hg6.out hB);have Hg7':=Aside0.mk (blk_below Hg7.out hB);have HB':=Aside0.mk (below_step HB.out hB);clear HB Hg4 Hg6 Hg7;have Hg4:=Hg4';have Hg6:=Hg6';have Hg7:=Hg7';have HB:=HB';clear HB' Hg4' Hg6' Hg7';have fg40_8 : w8.cell? ⟨g4,0,none⟩ = some (.int .i64 a0_0):=(blk_cell Hg4.out 0).trans rfl;have fg41_8 : w8.cell? ⟨g4,1,none⟩ = some (.int .i64 a0_1):=(blk_cell Hg4.out 1).trans rfl;have fg42_8 : w8.cell? ⟨g4,2,none⟩ = some (.slice A0_2 l0_2.length c0_2):=(blk_cell Hg4.out 2).trans rfl;have fg60_8 : w8.cell? ⟨g6,0,none⟩ = some (.int .i64 c2.f0):=(blk_cell Hg6.out 0).trans rfl;have fg61_8 : w8.cell? ⟨g6,1,none⟩ = some (.int .i64 c2.f1):=(blk_cell Hg6.out 1).trans rfl;have fg70_8 : w8.cell? ⟨g7,0,none⟩ = some (.int .i64 c3.f0):=(blk_cell Hg7.out 0).trans rfl;have fg71_8 : w8.cell? ⟨g7,1,none⟩ = some (.int .i64 c3.f1):=(blk_cell Hg7.out 1).trans rfl;clear hB))
 go_ret2
 exact ⟨_,rfl,Kd.R_nil _ _ _ _ _,HB.out⟩
set_option maxHeartbeats 8000000 in
set_option maxRecDepth 100000 in
theorem impl_SafePath.bad3 (a0_0 a0_1 : Int) (A0_2 : Option Addr) (c0_2 : Nat) (l0_2 : List S48) (A1 : Option Addr) (c1 : Nat) (os : List (List S48)) (c2 c3 : S48) (w : World) (hr0_2 : Kd.C k48 w A0_2 l0_2.length l0_2) (hc0_2 : l0_2.length ≤ c0_2) (hr1 : Kd.C SL6 w A1 os.length os) (hc1 : os.length ≤ c1) (hbl : (l0_2.length : Int) ≤ 1099511627776) (kv : Nat) (kf : Nat) (hv : impl_IsValidFloor.f kv a0_0 a0_1 l0_2 = some true) (hol : (os.length : Int) ≤ 3) (hf : impl_isFree.f kf a0_0 a0_1 l0_2 c2.f0 c2.f1 = some false) :
  Calls Try.prog 41 #[.agg #[.int .i64 a0_0,.int .i64 a0_1,.slice A0_2 l0_2.length c0_2],.slice A1 os.length c1,.agg #[.int .i64 c2.f0,.int .i64 c2.f1],.agg #[.int .i64 c3.f0,.int .i64 c3.f1]] w fun e w' => ∃ u : Value,e = .returned (.tuple #[u,.bool false]) ∧ Kd.R k48 48 w' w.heap.size (fun _=>True) u [] ∧ Below w.heap.size w w':=by
 have hu29:=Try.underlying29
 have hu48:=Try.underlying48
 have HR0:=Aside0.mk hr0_2
 have HC0:=Aside0.mk hc0_2
 have HR1:=Aside0.mk hr1
 have HC1:=Aside0.mk hc1
 have HBL:=Aside0.mk hbl
 have HV:=Aside0.mk hv
 have HOL:=Aside0.mk hol
 have HF:=Aside0.mk hf
 have cl : decide (3 < (os.length : Int)) = false:=decide_eq_false (by have:=HOL.out;omega)
 clear hr0_2 hc0_2 hr1 hc1 hbl hv hol hf
 go_enter Try.func41,Try.ntmps41
 go_wp2_with (first|((with_reducible refine gate_dst (N:=4) rfl ?_);refine box_event ?hg (N:=4) ?hd (cs := #[.int .i64 a0_0,.int .i64 a0_1,.slice A0_2 l0_2.length c0_2]) (t:=29) ?hr ?_;(case hd=>rfl);(case hg=>rfl);(case hr=>first|(go_simp;done)|(go_simp;rfl));intro g4 hgg4 w4 hbox hb;have Hg4:=Aside0.mk hbox;have HB:=Aside0.mk hb;clear hbox hb hgg4;have fg40_4 : w4.cell? ⟨g4,0,none⟩ = some (.int .i64 a0_0):=(blk_cell Hg4.out 0).trans rfl;have fg41_4 : w4.cell? ⟨g4,1,none⟩ = some (.int .i64 a0_1):=(blk_cell Hg4.out 1).trans rfl;have fg42_4 : w4.cell? ⟨g4,2,none⟩ = some (.slice A0_2 l0_2.length c0_2):=(blk_cell Hg4.out 2).trans rfl)|((with_reducible refine gate_dst (N:=6) rfl ?_);refine box_event ?hg (N:=6) ?hd (cs := #[.int .i64 c2.f0,.int .i64 c2.f1]) (t:=48) ?hr ?_;(case hd=>rfl);(case hg=>rfl);(case hr=>first|(go_simp;done)|(go_simp;rfl));intro g6 hgg6 w6 hbox hb;have Hg4':=Aside0.mk (blk_below Hg4.out hb);have HB':=Aside0.mk (below_step HB.out hb);clear HB Hg4;have Hg4:=Hg4';have HB:=HB';clear HB' Hg4';have fg40_6 : w6.cell? ⟨g4,0,none⟩ = some (.int .i64 a0_0):=(blk_cell Hg4.out 0).trans rfl;have fg41_6 : w6.cell? ⟨g4,1,none⟩ = some (.int .i64 a0_1):=(blk_cell Hg4.out 1).trans rfl;have fg42_6 : w6.cell? ⟨g4,2,none⟩ = some (.slice A0_2 l0_2.length c0_2):=(blk_cell Hg4.out 2).trans rfl;have Hg6:=Aside0.mk hbox;have fg60_6 : w6.cell? ⟨g6,0,none⟩ = some (.int .i64 c2.f0):=(blk_cell Hg6.out 0).trans rfl;have fg61_6 : w6.cell? ⟨g6,1,none⟩ = some (.int .i64 c2.f1):=(blk_cell Hg6.out 1).trans rfl;clear hbox hb hgg6)|((with_reducible refine gate_dst (N:=7) rfl ?_);refine box_event ?hg (N:=7) ?hd (cs := #[.int .i64 c3.f0,.int .i64 c3.f1]) (t:=48) ?hr ?_;(case hd=>rfl);(case hg=>rfl);(case hr=>first|(go_simp;done)|(go_simp;rfl));intro g7 hgg7 w7 hbox hb;have Hg4':=Aside0.mk (blk_below Hg4.out hb);have Hg6':=Aside0.mk (blk_below Hg6.out hb);have HB':=Aside0.mk (below_step HB.out hb);clear HB Hg4 Hg6;have Hg4:=Hg4';have Hg6:=Hg6';have HB:=HB';clear HB' Hg4' Hg6';have fg40_7 : w7.cell? ⟨g4,0,none⟩ = some (.int .i64 a0_0):=(blk_cell Hg4.out 0).trans rfl;have fg41_7 : w7.cell? ⟨g4,1,none⟩ = some (.int .i64 a0_1):=(blk_cell Hg4.out 1).trans rfl;have fg42_7 : w7.cell? ⟨g4,2,none⟩ = some (.slice A0_2 l0_2.length c0_2):=(blk_cell Hg4.out 2).trans rfl;have fg60_7 : w7.cell? ⟨g6,0,none⟩ = some (.int .i64 c2.f0):=(blk_cell Hg6.out 0).trans rfl;have fg61_7 : w7.cell? ⟨g6,1,none⟩ = some (.int .i64 c2.f1):=(blk_cell Hg6.out 1).trans rfl;have Hg7:=Aside0.mk hbox;have fg70_7 : w7.cell? ⟨g7,0,none⟩ = some (.int .i64 c3.f0):=(blk_cell Hg7.out 0).trans rfl;have fg71_7 : w7.cell? ⟨g7,1,none⟩ = some (.int .i64 c3.f1):=(blk_cell Hg7.out 1).trans rfl;clear hbox hb hgg7)|(go_at_call 16;(with_reducible refine (impl_IsValidFloor.calls kv a0_0 a0_1 A0_2 c0_2 l0_2 true _ (Kd.C_below HR0.out HB.out) HC0.out HV.out).mono ?_);rintro e w8 ⟨rfl,hB⟩;have Hg4':=Aside0.mk (blk_below Hg4.out hB);have Hg6':=Aside0.mk (blk_below Hg6.out hB);have Hg7':=Aside0.mk (blk_below Hg7.out hB);have HB':=Aside0.mk (below_step HB.out hB);clear HB Hg4 Hg6 Hg7;have Hg4:=Hg4';have Hg6:=Hg6';have Hg7:=Hg7';have HB:=HB';clear HB' Hg4' Hg6' Hg7';have fg40_8 : w8.cell? ⟨g4,0,none⟩ = some (.int .i64 a0_0):=(blk_cell Hg4.out 0).trans rfl;have fg41_8 : w8.cell? ⟨g4,1,none⟩ = some (.int .i64 a0_1):=(blk_cell Hg4.out 1).trans rfl;have fg42_8 : w8.cell? ⟨g4,2,none⟩ = some (.slice A0_2 l0_2.length c0_2):=(blk_cell Hg4.out 2).trans rfl;have fg60_8 : w8.cell? ⟨g6,0,none⟩ = some (.int .i64 c2.f0):=(blk_cell Hg6.out 0).trans rfl;have fg61_8 : w8.cell? ⟨g6,1,none⟩ = some (.int .i64 c2.f1):=(blk_cell Hg6.out 1).trans rfl;have fg70_8 : w8.cell? ⟨g7,0,none⟩ = some (.int .i64 c3.f0):=(blk_cell Hg7.out 0).trans rfl;have fg71_8 : w8.cell? ⟨g7,1,none⟩ = some (.int .i64 c3.f1):=(blk_cell Hg7.out 1).trans rfl;clear hB)|(go_at_call 58;(with_reducible refine (impl_isFree.calls kf a0_0 a0_1 A0_2 c0_2 l0_2 c2.f0 c2.f1 false _ (Kd.C_below HR0.out HB.out) HC0.out HF.out).mono ?_);rintro e w9 ⟨rfl,hB⟩;have Hg4':=Aside0.mk (blk_below Hg4.out hB);have Hg6':=Aside0.mk (blk_below Hg6.out hB);have Hg7':=Aside0.mk (blk_below Hg7.out hB);have HB':=Aside0.mk (below_step HB.out hB);clear HB Hg4 Hg6 Hg7;have Hg4:=Hg4';have Hg6:=Hg6';have Hg7:=Hg7';have HB:=HB';clear HB' Hg4' Hg6' Hg7';have fg40_9 : w9.cell? ⟨g4,0,none⟩ = some (.int .i64 a0_0):=(blk_cell Hg4.out 0).trans rfl;have fg41_9 : w9.cell? ⟨g4,1,none⟩ = some (.int .i64 a0_1):=(blk_cell Hg4.out 1).trans rfl;have fg42_9 : w9.cell? ⟨g4,2,none⟩ = some (.slice A0_2 l0_2.length c0_2):=(blk_cell Hg4.out 2).trans rfl;have fg60_9 : w9.cell? ⟨g6,0,none⟩ = some (.int .i64 c2.f0):=(blk_cell Hg6.out 0).trans rfl;have fg61_9 : w9.cell? ⟨g6,1,none⟩ = some (.int .i64 c2.f1):=(blk_cell Hg6.out 1).trans rfl;have fg70_9 : w9.cell? ⟨g7,0,none⟩ = some (.int .i64 c3.f0):=(blk_cell Hg7.out 0).trans rfl;have fg71_9 : w9.cell? ⟨g7,1,none⟩ = some (.int .i64 c3.f1):=(blk_cell Hg7.out 1).trans rfl;clear hB))
 go_ret2
 exact ⟨_,rfl,Kd.R_nil _ _ _ _ _,HB.out⟩
set_option maxHeartbeats 8000000 in
set_option maxRecDepth 100000 in
theorem impl_SafePath.bad4 (a0_0 a0_1 : Int) (A0_2 : Option Addr) (c0_2 : Nat) (l0_2 : List S48) (A1 : Option Addr) (c1 : Nat) (os : List (List S48)) (c2 c3 : S48) (w : World) (hr0_2 : Kd.C k48 w A0_2 l0_2.length l0_2) (hc0_2 : l0_2.length ≤ c0_2) (hr1 : Kd.C SL6 w A1 os.length os) (hc1 : os.length ≤ c1) (hbl : (l0_2.length : Int) ≤ 1099511627776) (kv : Nat) (kf : Nat) (kg : Nat) (hv : impl_IsValidFloor.f kv a0_0 a0_1 l0_2 = some true) (hol : (os.length : Int) ≤ 3) (hf : impl_isFree.f kf a0_0 a0_1 l0_2 c2.f0 c2.f1 = some true) (hg : impl_isFree.f kg a0_0 a0_1 l0_2 c3.f0 c3.f1 = some false) :
  Calls Try.prog 41 #[.agg #[.int .i64 a0_0,.int .i64 a0_1,.slice A0_2 l0_2.length c0_2],.slice A1 os.length c1,.agg #[.int .i64 c2.f0,.int .i64 c2.f1],.agg #[.int .i64 c3.f0,.int .i64 c3.f1]] w fun e w' => ∃ u : Value,e = .returned (.tuple #[u,.bool false]) ∧ Kd.R k48 48 w' w.heap.size (fun _=>True) u [] ∧ Below w.heap.size w w':=by
 have hu29:=Try.underlying29
 have hu48:=Try.underlying48
 have HR0:=Aside0.mk hr0_2
 have HC0:=Aside0.mk hc0_2
 have HR1:=Aside0.mk hr1
 have HC1:=Aside0.mk hc1
 have HBL:=Aside0.mk hbl
 have HV:=Aside0.mk hv
 have HOL:=Aside0.mk hol
 have HF:=Aside0.mk hf
 have HG2:=Aside0.mk hg
 have cl : decide (3 < (os.length : Int)) = false:=decide_eq_false (by have:=HOL.out;omega)
 clear hr0_2 hc0_2 hr1 hc1 hbl hv hol hf hg
 go_enter Try.func41,Try.ntmps41
 go_wp2_with (first|((with_reducible refine gate_dst (N:=4) rfl ?_);refine box_event ?hg (N:=4) ?hd (cs := #[.int .i64 a0_0,.int .i64 a0_1,.slice A0_2 l0_2.length c0_2]) (t:=29) ?hr ?_;(case hd=>rfl);(case hg=>rfl);(case hr=>first|(go_simp;done)|(go_simp;rfl));intro g4 hgg4 w4 hbox hb;have Hg4:=Aside0.mk hbox;have HB:=Aside0.mk hb;clear hbox hb hgg4;have fg40_4 : w4.cell? ⟨g4,0,none⟩ = some (.int .i64 a0_0):=(blk_cell Hg4.out 0).trans rfl;have fg41_4 : w4.cell? ⟨g4,1,none⟩ = some (.int .i64 a0_1):=(blk_cell Hg4.out 1).trans rfl;have fg42_4 : w4.cell? ⟨g4,2,none⟩ = some (.slice A0_2 l0_2.length c0_2):=(blk_cell Hg4.out 2).trans rfl)|((with_reducible refine gate_dst (N:=6) rfl ?_);refine box_event ?hg (N:=6) ?hd (cs := #[.int .i64 c2.f0,.int .i64 c2.f1]) (t:=48) ?hr ?_;(case hd=>rfl);(case hg=>rfl);(case hr=>first|(go_simp;done)|(go_simp;rfl));intro g6 hgg6 w6 hbox hb;have Hg4':=Aside0.mk (blk_below Hg4.out hb);have HB':=Aside0.mk (below_step HB.out hb);clear HB Hg4;have Hg4:=Hg4';have HB:=HB';clear HB' Hg4';have fg40_6 : w6.cell? ⟨g4,0,none⟩ = some (.int .i64 a0_0):=(blk_cell Hg4.out 0).trans rfl;have fg41_6 : w6.cell? ⟨g4,1,none⟩ = some (.int .i64 a0_1):=(blk_cell Hg4.out 1).trans rfl;have fg42_6 : w6.cell? ⟨g4,2,none⟩ = some (.slice A0_2 l0_2.length c0_2):=(blk_cell Hg4.out 2).trans rfl;have Hg6:=Aside0.mk hbox;have fg60_6 : w6.cell? ⟨g6,0,none⟩ = some (.int .i64 c2.f0):=(blk_cell Hg6.out 0).trans rfl;have fg61_6 : w6.cell? ⟨g6,1,none⟩ = some (.int .i64 c2.f1):=(blk_cell Hg6.out 1).trans rfl;clear hbox hb hgg6)|((with_reducible refine gate_dst (N:=7) rfl ?_);refine box_event ?hg (N:=7) ?hd (cs := #[.int .i64 c3.f0,.int .i64 c3.f1]) (t:=48) ?hr ?_;(case hd=>rfl);(case hg=>rfl);(case hr=>first|(go_simp;done)|(go_simp;rfl));intro g7 hgg7 w7 hbox hb;have Hg4':=Aside0.mk (blk_below Hg4.out hb);have Hg6':=Aside0.mk (blk_below Hg6.out hb);have HB':=Aside0.mk (below_step HB.out hb);clear HB Hg4 Hg6;have Hg4:=Hg4';have Hg6:=Hg6';have HB:=HB';clear HB' Hg4' Hg6';have fg40_7 : w7.cell? ⟨g4,0,none⟩ = some (.int .i64 a0_0):=(blk_cell Hg4.out 0).trans rfl;have fg41_7 : w7.cell? ⟨g4,1,none⟩ = some (.int .i64 a0_1):=(blk_cell Hg4.out 1).trans rfl;have fg42_7 : w7.cell? ⟨g4,2,none⟩ = some (.slice A0_2 l0_2.length c0_2):=(blk_cell Hg4.out 2).trans rfl;have fg60_7 : w7.cell? ⟨g6,0,none⟩ = some (.int .i64 c2.f0):=(blk_cell Hg6.out 0).trans rfl;have fg61_7 : w7.cell? ⟨g6,1,none⟩ = some (.int .i64 c2.f1):=(blk_cell Hg6.out 1).trans rfl;have Hg7:=Aside0.mk hbox;have fg70_7 : w7.cell? ⟨g7,0,none⟩ = some (.int .i64 c3.f0):=(blk_cell Hg7.out 0).trans rfl;have fg71_7 : w7.cell? ⟨g7,1,none⟩ = some (.int .i64 c3.f1):=(blk_cell Hg7.out 1).trans rfl;clear hbox hb hgg7)|(go_at_call 16;(with_reducible refine (impl_IsValidFloor.calls kv a0_0 a0_1 A0_2 c0_2 l0_2 true _ (Kd.C_below HR0.out HB.out) HC0.out HV.out).mono ?_);rintro e w8 ⟨rfl,hB⟩;have Hg4':=Aside0.mk (blk_below Hg4.out hB);have Hg6':=Aside0.mk (blk_below Hg6.out hB);have Hg7':=Aside0.mk (blk_below Hg7.out hB);have HB':=Aside0.mk (below_step HB.out hB);clear HB Hg4 Hg6 Hg7;have Hg4:=Hg4';have Hg6:=Hg6';have Hg7:=Hg7';have HB:=HB';clear HB' Hg4' Hg6' Hg7';have fg40_8 : w8.cell? ⟨g4,0,none⟩ = some (.int .i64 a0_0):=(blk_cell Hg4.out 0).trans rfl;have fg41_8 : w8.cell? ⟨g4,1,none⟩ = some (.int .i64 a0_1):=(blk_cell Hg4.out 1).trans rfl;have fg42_8 : w8.cell? ⟨g4,2,none⟩ = some (.slice A0_2 l0_2.length c0_2):=(blk_cell Hg4.out 2).trans rfl;have fg60_8 : w8.cell? ⟨g6,0,none⟩ = some (.int .i64 c2.f0):=(blk_cell Hg6.out 0).trans rfl;have fg61_8 : w8.cell? ⟨g6,1,none⟩ = some (.int .i64 c2.f1):=(blk_cell Hg6.out 1).trans rfl;have fg70_8 : w8.cell? ⟨g7,0,none⟩ = some (.int .i64 c3.f0):=(blk_cell Hg7.out 0).trans rfl;have fg71_8 : w8.cell? ⟨g7,1,none⟩ = some (.int .i64 c3.f1):=(blk_cell Hg7.out 1).trans rfl;clear hB)|(go_at_call 58;(with_reducible refine (impl_isFree.calls kf a0_0 a0_1 A0_2 c0_2 l0_2 c2.f0 c2.f1 true _ (Kd.C_below HR0.out HB.out) HC0.out HF.out).mono ?_);rintro e w9 ⟨rfl,hB⟩;have Hg4':=Aside0.mk (blk_below Hg4.out hB);have Hg6':=Aside0.mk (blk_below Hg6.out hB);have Hg7':=Aside0.mk (blk_below Hg7.out hB);have HB':=Aside0.mk (below_step HB.out hB);clear HB Hg4 Hg6 Hg7;have Hg4:=Hg4';have Hg6:=Hg6';have Hg7:=Hg7';have HB:=HB';clear HB' Hg4' Hg6' Hg7';have fg40_9 : w9.cell? ⟨g4,0,none⟩ = some (.int .i64 a0_0):=(blk_cell Hg4.out 0).trans rfl;have fg41_9 : w9.cell? ⟨g4,1,none⟩ = some (.int .i64 a0_1):=(blk_cell Hg4.out 1).trans rfl;have fg42_9 : w9.cell? ⟨g4,2,none⟩ = some (.slice A0_2 l0_2.length c0_2):=(blk_cell Hg4.out 2).trans rfl;have fg60_9 : w9.cell? ⟨g6,0,none⟩ = some (.int .i64 c2.f0):=(blk_cell Hg6.out 0).trans rfl;have fg61_9 : w9.cell? ⟨g6,1,none⟩ = some (.int .i64 c2.f1):=(blk_cell Hg6.out 1).trans rfl;have fg70_9 : w9.cell? ⟨g7,0,none⟩ = some (.int .i64 c3.f0):=(blk_cell Hg7.out 0).trans rfl;have fg71_9 : w9.cell? ⟨g7,1,none⟩ = some (.int .i64 c3.f1):=(blk_cell Hg7.out 1).trans rfl;clear hB)|(go_at_call 58;(with_reducible refine (impl_isFree.calls kg a0_0 a0_1 A0_2 c0_2 l0_2 c3.f0 c3.f1 false _ (Kd.C_below HR0.out HB.out) HC0.out HG2.out).mono ?_);rintro e w10 ⟨rfl,hB⟩;have Hg4':=Aside0.mk (blk_below Hg4.out hB);have Hg6':=Aside0.mk (blk_below Hg6.out hB);have Hg7':=Aside0.mk (blk_below Hg7.out hB);have HB':=Aside0.mk (below_step HB.out hB);clear HB Hg4 Hg6 Hg7;have Hg4:=Hg4';have Hg6:=Hg6';have Hg7:=Hg7';have HB:=HB';clear HB' Hg4' Hg6' Hg7';have fg40_10 : w10.cell? ⟨g4,0,none⟩ = some (.int .i64 a0_0):=(blk_cell Hg4.out 0).trans rfl;have fg41_10 : w10.cell? ⟨g4,1,none⟩ = some (.int .i64 a0_1):=(blk_cell Hg4.out 1).trans rfl;have fg42_10 : w10.cell? ⟨g4,2,none⟩ = some (.slice A0_2 l0_2.length c0_2):=(blk_cell Hg4.out 2).trans rfl;have fg60_10 : w10.cell? ⟨g6,0,none⟩ = some (.int .i64 c2.f0):=(blk_cell Hg6.out 0).trans rfl;have fg61_10 : w10.cell? ⟨g6,1,none⟩ = some (.int .i64 c2.f1):=(blk_cell Hg6.out 1).trans rfl;have fg70_10 : w10.cell? ⟨g7,0,none⟩ = some (.int .i64 c3.f0):=(blk_cell Hg7.out 0).trans rfl;have fg71_10 : w10.cell? ⟨g7,1,none⟩ = some (.int .i64 c3.f1):=(blk_cell Hg7.out 1).trans rfl;clear hB))
 go_ret2
 exact ⟨_,rfl,Kd.R_nil _ _ _ _ _,HB.out⟩
set_option maxHeartbeats 8000000 in
set_option maxRecDepth 100000 in
theorem impl_SafePath.bad5 (a0_0 a0_1 : Int) (A0_2 : Option Addr) (c0_2 : Nat) (l0_2 : List S48) (A1 : Option Addr) (c1 : Nat) (os : List (List S48)) (c2 c3 : S48) (w : World) (hr0_2 : Kd.C k48 w A0_2 l0_2.length l0_2) (hc0_2 : l0_2.length ≤ c0_2) (hr1 : Kd.C SL6 w A1 os.length os) (hc1 : os.length ≤ c1) (hbl : (l0_2.length : Int) ≤ 1099511627776) (kv : Nat) (kf : Nat) (kg : Nat) (hv : impl_IsValidFloor.f kv a0_0 a0_1 l0_2 = some true) (hol : (os.length : Int) ≤ 3) (hf : impl_isFree.f kf a0_0 a0_1 l0_2 c2.f0 c2.f1 = some true) (hg : impl_isFree.f kg a0_0 a0_1 l0_2 c3.f0 c3.f1 = some true) (hp : ∃ p ∈ os,¬ PathOk a0_0 a0_1 l0_2 p) :
  Calls Try.prog 41 #[.agg #[.int .i64 a0_0,.int .i64 a0_1,.slice A0_2 l0_2.length c0_2],.slice A1 os.length c1,.agg #[.int .i64 c2.f0,.int .i64 c2.f1],.agg #[.int .i64 c3.f0,.int .i64 c3.f1]] w fun e w' => ∃ u : Value,e = .returned (.tuple #[u,.bool false]) ∧ Kd.R k48 48 w' w.heap.size (fun _=>True) u [] ∧ Below w.heap.size w w':=by
 have hu29:=Try.underlying29
 have hu48:=Try.underlying48
 have HR0:=Aside0.mk hr0_2
 have HC0:=Aside0.mk hc0_2
 have HR1:=Aside0.mk hr1
 have HC1:=Aside0.mk hc1
 have HBL:=Aside0.mk hbl
 have HV:=Aside0.mk hv
 have HOL:=Aside0.mk hol
 have HF:=Aside0.mk hf
 have HG2:=Aside0.mk hg
 have HP:=Aside0.mk hp
 have cl : decide (3 < (os.length : Int)) = false:=decide_eq_false (by have:=HOL.out;omega)
 clear hr0_2 hc0_2 hr1 hc1 hbl hv hol hf hg hp
 go_enter Try.func41,Try.ntmps41
 go_wp2_with (first|((with_reducible refine gate_dst (N:=4) rfl ?_);refine box_event ?hg (N:=4) ?hd (cs := #[.int .i64 a0_0,.int .i64 a0_1,.slice A0_2 l0_2.length c0_2]) (t:=29) ?hr ?_;(case hd=>rfl);(case hg=>rfl);(case hr=>first|(go_simp;done)|(go_simp;rfl));intro g4 hgg4 w4 hbox hb;have Hg4:=Aside0.mk hbox;have HB:=Aside0.mk hb;clear hbox hb hgg4;have fg40_4 : w4.cell? ⟨g4,0,none⟩ = some (.int .i64 a0_0):=(blk_cell Hg4.out 0).trans rfl;have fg41_4 : w4.cell? ⟨g4,1,none⟩ = some (.int .i64 a0_1):=(blk_cell Hg4.out 1).trans rfl;have fg42_4 : w4.cell? ⟨g4,2,none⟩ = some (.slice A0_2 l0_2.length c0_2):=(blk_cell Hg4.out 2).trans rfl)|((with_reducible refine gate_dst (N:=6) rfl ?_);refine box_event ?hg (N:=6) ?hd (cs := #[.int .i64 c2.f0,.int .i64 c2.f1]) (t:=48) ?hr ?_;(case hd=>rfl);(case hg=>rfl);(case hr=>first|(go_simp;done)|(go_simp;rfl));intro g6 hgg6 w6 hbox hb;have Hg4':=Aside0.mk (blk_below Hg4.out hb);have HB':=Aside0.mk (below_step HB.out hb);clear HB Hg4;have Hg4:=Hg4';have HB:=HB';clear HB' Hg4';have fg40_6 : w6.cell? ⟨g4,0,none⟩ = some (.int .i64 a0_0):=(blk_cell Hg4.out 0).trans rfl;have fg41_6 : w6.cell? ⟨g4,1,none⟩ = some (.int .i64 a0_1):=(blk_cell Hg4.out 1).trans rfl;have fg42_6 : w6.cell? ⟨g4,2,none⟩ = some (.slice A0_2 l0_2.length c0_2):=(blk_cell Hg4.out 2).trans rfl;have Hg6:=Aside0.mk hbox;have fg60_6 : w6.cell? ⟨g6,0,none⟩ = some (.int .i64 c2.f0):=(blk_cell Hg6.out 0).trans rfl;have fg61_6 : w6.cell? ⟨g6,1,none⟩ = some (.int .i64 c2.f1):=(blk_cell Hg6.out 1).trans rfl;clear hbox hb hgg6)|((with_reducible refine gate_dst (N:=7) rfl ?_);refine box_event ?hg (N:=7) ?hd (cs := #[.int .i64 c3.f0,.int .i64 c3.f1]) (t:=48) ?hr ?_;(case hd=>rfl);(case hg=>rfl);(case hr=>first|(go_simp;done)|(go_simp;rfl));intro g7 hgg7 w7 hbox hb;have Hg4':=Aside0.mk (blk_below Hg4.out hb);have Hg6':=Aside0.mk (blk_below Hg6.out hb);have HB':=Aside0.mk (below_step HB.out hb);clear HB Hg4 Hg6;have Hg4:=Hg4';have Hg6:=Hg6';have HB:=HB';clear HB' Hg4' Hg6';have fg40_7 : w7.cell? ⟨g4,0,none⟩ = some (.int .i64 a0_0):=(blk_cell Hg4.out 0).trans rfl;have fg41_7 : w7.cell? ⟨g4,1,none⟩ = some (.int .i64 a0_1):=(blk_cell Hg4.out 1).trans rfl;have fg42_7 : w7.cell? ⟨g4,2,none⟩ = some (.slice A0_2 l0_2.length c0_2):=(blk_cell Hg4.out 2).trans rfl;have fg60_7 : w7.cell? ⟨g6,0,none⟩ = some (.int .i64 c2.f0):=(blk_cell Hg6.out 0).trans rfl;have fg61_7 : w7.cell? ⟨g6,1,none⟩ = some (.int .i64 c2.f1):=(blk_cell Hg6.out 1).trans rfl;have Hg7:=Aside0.mk hbox;have fg70_7 : w7.cell? ⟨g7,0,none⟩ = some (.int .i64 c3.f0):=(blk_cell Hg7.out 0).trans rfl;have fg71_7 : w7.cell? ⟨g7,1,none⟩ = some (.int .i64 c3.f1):=(blk_cell Hg7.out 1).trans rfl;clear hbox hb hgg7)|(go_at_call 16;(with_reducible refine (impl_IsValidFloor.calls kv a0_0 a0_1 A0_2 c0_2 l0_2 true _ (Kd.C_below HR0.out HB.out) HC0.out HV.out).mono ?_);rintro e w8 ⟨rfl,hB⟩;have Hg4':=Aside0.mk (blk_below Hg4.out hB);have Hg6':=Aside0.mk (blk_below Hg6.out hB);have Hg7':=Aside0.mk (blk_below Hg7.out hB);have HB':=Aside0.mk (below_step HB.out hB);clear HB Hg4 Hg6 Hg7;have Hg4:=Hg4';have Hg6:=Hg6';have Hg7:=Hg7';have HB:=HB';clear HB' Hg4' Hg6' Hg7';have fg40_8 : w8.cell? ⟨g4,0,none⟩ = some (.int .i64 a0_0):=(blk_cell Hg4.out 0).trans rfl;have fg41_8 : w8.cell? ⟨g4,1,none⟩ = some (.int .i64 a0_1):=(blk_cell Hg4.out 1).trans rfl;have fg42_8 : w8.cell? ⟨g4,2,none⟩ = some (.slice A0_2 l0_2.length c0_2):=(blk_cell Hg4.out 2).trans rfl;have fg60_8 : w8.cell? ⟨g6,0,none⟩ = some (.int .i64 c2.f0):=(blk_cell Hg6.out 0).trans rfl;have fg61_8 : w8.cell? ⟨g6,1,none⟩ = some (.int .i64 c2.f1):=(blk_cell Hg6.out 1).trans rfl;have fg70_8 : w8.cell? ⟨g7,0,none⟩ = some (.int .i64 c3.f0):=(blk_cell Hg7.out 0).trans rfl;have fg71_8 : w8.cell? ⟨g7,1,none⟩ = some (.int .i64 c3.f1):=(blk_cell Hg7.out 1).trans rfl;clear hB)|(go_at_call 58;(with_reducible refine (impl_isFree.calls kf a0_0 a0_1 A0_2 c0_2 l0_2 c2.f0 c2.f1 true _ (Kd.C_below HR0.out HB.out) HC0.out HF.out).mono ?_);rintro e w9 ⟨rfl,hB⟩;have Hg4':=Aside0.mk (blk_below Hg4.out hB);have Hg6':=Aside0.mk (blk_below Hg6.out hB);have Hg7':=Aside0.mk (blk_below Hg7.out hB);have HB':=Aside0.mk (below_step HB.out hB);clear HB Hg4 Hg6 Hg7;have Hg4:=Hg4';have Hg6:=Hg6';have Hg7:=Hg7';have HB:=HB';clear HB' Hg4' Hg6' Hg7';have fg40_9 : w9.cell? ⟨g4,0,none⟩ = some (.int .i64 a0_0):=(blk_cell Hg4.out 0).trans rfl;have fg41_9 : w9.cell? ⟨g4,1,none⟩ = some (.int .i64 a0_1):=(blk_cell Hg4.out 1).trans rfl;have fg42_9 : w9.cell? ⟨g4,2,none⟩ = some (.slice A0_2 l0_2.length c0_2):=(blk_cell Hg4.out 2).trans rfl;have fg60_9 : w9.cell? ⟨g6,0,none⟩ = some (.int .i64 c2.f0):=(blk_cell Hg6.out 0).trans rfl;have fg61_9 : w9.cell? ⟨g6,1,none⟩ = some (.int .i64 c2.f1):=(blk_cell Hg6.out 1).trans rfl;have fg70_9 : w9.cell? ⟨g7,0,none⟩ = some (.int .i64 c3.f0):=(blk_cell Hg7.out 0).trans rfl;have fg71_9 : w9.cell? ⟨g7,1,none⟩ = some (.int .i64 c3.f1):=(blk_cell Hg7.out 1).trans rfl;clear hB)|(go_at_call 58;(with_reducible refine (impl_isFree.calls kg a0_0 a0_1 A0_2 c0_2 l0_2 c3.f0 c3.f1 true _ (Kd.C_below HR0.out HB.out) HC0.out HG2.out).mono ?_);rintro e w10 ⟨rfl,hB⟩;have Hg4':=Aside0.mk (blk_below Hg4.out hB);have Hg6':=Aside0.mk (blk_below Hg6.out hB);have Hg7':=Aside0.mk (blk_below Hg7.out hB);have HB':=Aside0.mk (below_step HB.out hB);clear HB Hg4 Hg6 Hg7;have Hg4:=Hg4';have Hg6:=Hg6';have Hg7:=Hg7';have HB:=HB';clear HB' Hg4' Hg6' Hg7';have fg40_10 : w10.cell? ⟨g4,0,none⟩ = some (.int .i64 a0_0):=(blk_cell Hg4.out 0).trans rfl;have fg41_10 : w10.cell? ⟨g4,1,none⟩ = some (.int .i64 a0_1):=(blk_cell Hg4.out 1).trans rfl;have fg42_10 : w10.cell? ⟨g4,2,none⟩ = some (.slice A0_2 l0_2.length c0_2):=(blk_cell Hg4.out 2).trans rfl;have fg60_10 : w10.cell? ⟨g6,0,none⟩ = some (.int .i64 c2.f0):=(blk_cell Hg6.out 0).trans rfl;have fg61_10 : w10.cell? ⟨g6,1,none⟩ = some (.int .i64 c2.f1):=(blk_cell Hg6.out 1).trans rfl;have fg70_10 : w10.cell? ⟨g7,0,none⟩ = some (.int .i64 c3.f0):=(blk_cell Hg7.out 0).trans rfl;have fg71_10 : w10.cell? ⟨g7,1,none⟩ = some (.int .i64 c3.f1):=(blk_cell Hg7.out 1).trans rfl;clear hB)|(go_at_call 71;(with_reducible refine (cont72 a0_0 a0_1 A0_2 c0_2 l0_2 g4 A1 c1 os _ HBL.out Hg4.out (Kd.C_below HR0.out HB.out) HC0.out (Kd.C_below HR1.out HB.out) HC1.out (by have:=HOL.out;omega)).mono ?_);rintro e w11 ⟨rfl,hB⟩;rw [chk_pos HP.out];have Hg4':=Aside0.mk (blk_below Hg4.out hB);have Hg6':=Aside0.mk (blk_below Hg6.out hB);have Hg7':=Aside0.mk (blk_below Hg7.out hB);have HB':=Aside0.mk (below_step HB.out hB);clear HB Hg4 Hg6 Hg7;have Hg4:=Hg4';have Hg6:=Hg6';have Hg7:=Hg7';have HB:=HB';clear HB' Hg4' Hg6' Hg7';have fg40_11 : w11.cell? ⟨g4,0,none⟩ = some (.int .i64 a0_0):=(blk_cell Hg4.out 0).trans rfl;have fg41_11 : w11.cell? ⟨g4,1,none⟩ = some (.int .i64 a0_1):=(blk_cell Hg4.out 1).trans rfl;have fg42_11 : w11.cell? ⟨g4,2,none⟩ = some (.slice A0_2 l0_2.length c0_2):=(blk_cell Hg4.out 2).trans rfl;have fg60_11 : w11.cell? ⟨g6,0,none⟩ = some (.int .i64 c2.f0):=(blk_cell Hg6.out 0).trans rfl;have fg61_11 : w11.cell? ⟨g6,1,none⟩ = some (.int .i64 c2.f1):=(blk_cell Hg6.out 1).trans rfl;have fg70_11 : w11.cell? ⟨g7,0,none⟩ = some (.int .i64 c3.f0):=(blk_cell Hg7.out 0).trans rfl;have fg71_11 : w11.cell? ⟨g7,1,none⟩ = some (.int .i64 c3.f1):=(blk_cell Hg7.out 1).trans rfl;clear hB))
 go_ret2
 exact ⟨_,rfl,Kd.R_nil _ _ _ _ _,HB.out⟩
set_option maxHeartbeats 8000000 in
set_option maxRecDepth 100000 in
theorem impl_SafePath.good (a0_0 a0_1 : Int) (A0_2 : Option Addr) (c0_2 : Nat) (l0_2 : List S48) (A1 : Option Addr) (c1 : Nat) (os : List (List S48)) (c2 c3 : S48) (w : World) (hr0_2 : Kd.C k48 w A0_2 l0_2.length l0_2) (hc0_2 : l0_2.length ≤ c0_2) (hr1 : Kd.C SL6 w A1 os.length os) (hc1 : os.length ≤ c1) (hbl : (l0_2.length : Int) ≤ 1099511627776) (kv : Nat) (kf : Nat) (kg : Nat) (hv : impl_IsValidFloor.f kv a0_0 a0_1 l0_2 = some true) (hol : (os.length : Int) ≤ 3) (hf : impl_isFree.f kf a0_0 a0_1 l0_2 c2.f0 c2.f1 = some true) (hg : impl_isFree.f kg a0_0 a0_1 l0_2 c3.f0 c3.f1 = some true) (hp : ¬ ∃ p ∈ os,¬ PathOk a0_0 a0_1 l0_2 p) (hfl : FloorOk a0_0 a0_1 l0_2) (ha : Free a0_0 a0_1 l0_2 c2) (hbt : Free a0_0 a0_1 l0_2 c3) (ho : Len os) :
  Calls Try.prog 41 #[.agg #[.int .i64 a0_0,.int .i64 a0_1,.slice A0_2 l0_2.length c0_2],.slice A1 os.length c1,.agg #[.int .i64 c2.f0,.int .i64 c2.f1],.agg #[.int .i64 c3.f0,.int .i64 c3.f1]] w fun e w' => ∃ u : Value,e = .returned (.tuple #[u,.bool (safeR a0_0 a0_1 l0_2 os c2 c3).2]) ∧ Kd.R k48 48 w' w.heap.size (fun _=>True) u (safeR a0_0 a0_1 l0_2 os c2 c3).1 ∧ Below w.heap.size w w':=by
 have hu29:=Try.underlying29
 have hu48:=Try.underlying48
 have HR0:=Aside0.mk hr0_2
 have HC0:=Aside0.mk hc0_2
 have HR1:=Aside0.mk hr1
 have HC1:=Aside0.mk hc1
 have HBL:=Aside0.mk hbl
 have HV:=Aside0.mk hv
 have HOL:=Aside0.mk hol
 have HF:=Aside0.mk hf
 have HG2:=Aside0.mk hg
 have HP:=Aside0.mk hp
 have HFL:=Aside0.mk hfl
 have HA:=Aside0.mk ha
 have HT:=Aside0.mk hbt
 have HO:=Aside0.mk ho
 have cl : decide (3 < (os.length : Int)) = false:=decide_eq_false (by have:=HOL.out;omega)
 clear hr0_2 hc0_2 hr1 hc1 hbl hv hol hf hg hp hfl ha hbt ho
 go_enter Try.func41,Try.ntmps41
 go_wp2_with (first|((with_reducible refine gate_dst (N:=4) rfl ?_);refine box_event ?hg (N:=4) ?hd (cs := #[.int .i64 a0_0,.int .i64 a0_1,.slice A0_2 l0_2.length c0_2]) (t:=29) ?hr ?_;(case hd=>rfl);(case hg=>rfl);(case hr=>first|(go_simp;done)|(go_simp;rfl));intro g4 hgg4 w4 hbox hb;have Hg4:=Aside0.mk hbox;have HB:=Aside0.mk hb;clear hbox hb hgg4;have fg40_4 : w4.cell? ⟨g4,0,none⟩ = some (.int .i64 a0_0):=(blk_cell Hg4.out 0).trans rfl;have fg41_4 : w4.cell? ⟨g4,1,none⟩ = some (.int .i64 a0_1):=(blk_cell Hg4.out 1).trans rfl;have fg42_4 : w4.cell? ⟨g4,2,none⟩ = some (.slice A0_2 l0_2.length c0_2):=(blk_cell Hg4.out 2).trans rfl)|((with_reducible refine gate_dst (N:=6) rfl ?_);refine box_event ?hg (N:=6) ?hd (cs := #[.int .i64 c2.f0,.int .i64 c2.f1]) (t:=48) ?hr ?_;(case hd=>rfl);(case hg=>rfl);(case hr=>first|(go_simp;done)|(go_simp;rfl));intro g6 hgg6 w6 hbox hb;have Hg4':=Aside0.mk (blk_below Hg4.out hb);have HB':=Aside0.mk (below_step HB.out hb);clear HB Hg4;have Hg4:=Hg4';have HB:=HB';clear HB' Hg4';have fg40_6 : w6.cell? ⟨g4,0,none⟩ = some (.int .i64 a0_0):=(blk_cell Hg4.out 0).trans rfl;have fg41_6 : w6.cell? ⟨g4,1,none⟩ = some (.int .i64 a0_1):=(blk_cell Hg4.out 1).trans rfl;have fg42_6 : w6.cell? ⟨g4,2,none⟩ = some (.slice A0_2 l0_2.length c0_2):=(blk_cell Hg4.out 2).trans rfl;have Hg6:=Aside0.mk hbox;have fg60_6 : w6.cell? ⟨g6,0,none⟩ = some (.int .i64 c2.f0):=(blk_cell Hg6.out 0).trans rfl;have fg61_6 : w6.cell? ⟨g6,1,none⟩ = some (.int .i64 c2.f1):=(blk_cell Hg6.out 1).trans rfl;clear hbox hb hgg6)|((with_reducible refine gate_dst (N:=7) rfl ?_);refine box_event ?hg (N:=7) ?hd (cs := #[.int .i64 c3.f0,.int .i64 c3.f1]) (t:=48) ?hr ?_;(case hd=>rfl);(case hg=>rfl);(case hr=>first|(go_simp;done)|(go_simp;rfl));intro g7 hgg7 w7 hbox hb;have Hg4':=Aside0.mk (blk_below Hg4.out hb);have Hg6':=Aside0.mk (blk_below Hg6.out hb);have HB':=Aside0.mk (below_step HB.out hb);clear HB Hg4 Hg6;have Hg4:=Hg4';have Hg6:=Hg6';have HB:=HB';clear HB' Hg4' Hg6';have fg40_7 : w7.cell? ⟨g4,0,none⟩ = some (.int .i64 a0_0):=(blk_cell Hg4.out 0).trans rfl;have fg41_7 : w7.cell? ⟨g4,1,none⟩ = some (.int .i64 a0_1):=(blk_cell Hg4.out 1).trans rfl;have fg42_7 : w7.cell? ⟨g4,2,none⟩ = some (.slice A0_2 l0_2.length c0_2):=(blk_cell Hg4.out 2).trans rfl;have fg60_7 : w7.cell? ⟨g6,0,none⟩ = some (.int .i64 c2.f0):=(blk_cell Hg6.out 0).trans rfl;have fg61_7 : w7.cell? ⟨g6,1,none⟩ = some (.int .i64 c2.f1):=(blk_cell Hg6.out 1).trans rfl;have Hg7:=Aside0.mk hbox;have fg70_7 : w7.cell? ⟨g7,0,none⟩ = some (.int .i64 c3.f0):=(blk_cell Hg7.out 0).trans rfl;have fg71_7 : w7.cell? ⟨g7,1,none⟩ = some (.int .i64 c3.f1):=(blk_cell Hg7.out 1).trans rfl;clear hbox hb hgg7)|(go_at_call 16;(with_reducible refine (impl_IsValidFloor.calls kv a0_0 a0_1 A0_2 c0_2 l0_2 true _ (Kd.C_below HR0.out HB.out) HC0.out HV.out).mono ?_);rintro e w8 ⟨rfl,hB⟩;have Hg4':=Aside0.mk (blk_below Hg4.out hB);have Hg6':=Aside0.mk (blk_below Hg6.out hB);have Hg7':=Aside0.mk (blk_below Hg7.out hB);have HB':=Aside0.mk (below_step HB.out hB);clear HB Hg4 Hg6 Hg7;have Hg4:=Hg4';have Hg6:=Hg6';have Hg7:=Hg7';have HB:=HB';clear HB' Hg4' Hg6' Hg7';have fg40_8 : w8.cell? ⟨g4,0,none⟩ = some (.int .i64 a0_0):=(blk_cell Hg4.out 0).trans rfl;have fg41_8 : w8.cell? ⟨g4,1,none⟩ = some (.int .i64 a0_1):=(blk_cell Hg4.out 1).trans rfl;have fg42_8 : w8.cell? ⟨g4,2,none⟩ = some (.slice A0_2 l0_2.length c0_2):=(blk_cell Hg4.out 2).trans rfl;have fg60_8 : w8.cell? ⟨g6,0,none⟩ = some (.int .i64 c2.f0):=(blk_cell Hg6.out 0).trans rfl;have fg61_8 : w8.cell? ⟨g6,1,none⟩ = some (.int .i64 c2.f1):=(blk_cell Hg6.out 1).trans rfl;have fg70_8 : w8.cell? ⟨g7,0,none⟩ = some (.int .i64 c3.f0):=(blk_cell Hg7.out 0).trans rfl;have fg71_8 : w8.cell? ⟨g7,1,none⟩ = some (.int .i64 c3.f1):=(blk_cell Hg7.out 1).trans rfl;clear hB)|(go_at_call 58;(with_reducible refine (impl_isFree.calls kf a0_0 a0_1 A0_2 c0_2 l0_2 c2.f0 c2.f1 true _ (Kd.C_below HR0.out HB.out) HC0.out HF.out).mono ?_);rintro e w9 ⟨rfl,hB⟩;have Hg4':=Aside0.mk (blk_below Hg4.out hB);have Hg6':=Aside0.mk (blk_below Hg6.out hB);have Hg7':=Aside0.mk (blk_below Hg7.out hB);have HB':=Aside0.mk (below_step HB.out hB);clear HB Hg4 Hg6 Hg7;have Hg4:=Hg4';have Hg6:=Hg6';have Hg7:=Hg7';have HB:=HB';clear HB' Hg4' Hg6' Hg7';have fg40_9 : w9.cell? ⟨g4,0,none⟩ = some (.int .i64 a0_0):=(blk_cell Hg4.out 0).trans rfl;have fg41_9 : w9.cell? ⟨g4,1,none⟩ = some (.int .i64 a0_1):=(blk_cell Hg4.out 1).trans rfl;have fg42_9 : w9.cell? ⟨g4,2,none⟩ = some (.slice A0_2 l0_2.length c0_2):=(blk_cell Hg4.out 2).trans rfl;have fg60_9 : w9.cell? ⟨g6,0,none⟩ = some (.int .i64 c2.f0):=(blk_cell Hg6.out 0).trans rfl;have fg61_9 : w9.cell? ⟨g6,1,none⟩ = some (.int .i64 c2.f1):=(blk_cell Hg6.out 1).trans rfl;have fg70_9 : w9.cell? ⟨g7,0,none⟩ = some (.int .i64 c3.f0):=(blk_cell Hg7.out 0).trans rfl;have fg71_9 : w9.cell? ⟨g7,1,none⟩ = some (.int .i64 c3.f1):=(blk_cell Hg7.out 1).trans rfl;clear hB)|(go_at_call 58;(with_reducible refine (impl_isFree.calls kg a0_0 a0_1 A0_2 c0_2 l0_2 c3.f0 c3.f1 true _ (Kd.C_below HR0.out HB.out) HC0.out HG2.out).mono ?_);rintro e w10 ⟨rfl,hB⟩;have Hg4':=Aside0.mk (blk_below Hg4.out hB);have Hg6':=Aside0.mk (blk_below Hg6.out hB);have Hg7':=Aside0.mk (blk_below Hg7.out hB);have HB':=Aside0.mk (below_step HB.out hB);clear HB Hg4 Hg6 Hg7;have Hg4:=Hg4';have Hg6:=Hg6';have Hg7:=Hg7';have HB:=HB';clear HB' Hg4' Hg6' Hg7';have fg40_10 : w10.cell? ⟨g4,0,none⟩ = some (.int .i64 a0_0):=(blk_cell Hg4.out 0).trans rfl;have fg41_10 : w10.cell? ⟨g4,1,none⟩ = some (.int .i64 a0_1):=(blk_cell Hg4.out 1).trans rfl;have fg42_10 : w10.cell? ⟨g4,2,none⟩ = some (.slice A0_2 l0_2.length c0_2):=(blk_cell Hg4.out 2).trans rfl;have fg60_10 : w10.cell? ⟨g6,0,none⟩ = some (.int .i64 c2.f0):=(blk_cell Hg6.out 0).trans rfl;have fg61_10 : w10.cell? ⟨g6,1,none⟩ = some (.int .i64 c2.f1):=(blk_cell Hg6.out 1).trans rfl;have fg70_10 : w10.cell? ⟨g7,0,none⟩ = some (.int .i64 c3.f0):=(blk_cell Hg7.out 0).trans rfl;have fg71_10 : w10.cell? ⟨g7,1,none⟩ = some (.int .i64 c3.f1):=(blk_cell Hg7.out 1).trans rfl;clear hB)|(go_at_call 71;(with_reducible refine (cont72 a0_0 a0_1 A0_2 c0_2 l0_2 g4 A1 c1 os _ HBL.out Hg4.out (Kd.C_below HR0.out HB.out) HC0.out (Kd.C_below HR1.out HB.out) HC1.out (by have:=HOL.out;omega)).mono ?_);rintro e w11 ⟨rfl,hB⟩;rw [chk_neg HP.out];have Hg4':=Aside0.mk (blk_below Hg4.out hB);have Hg6':=Aside0.mk (blk_below Hg6.out hB);have Hg7':=Aside0.mk (blk_below Hg7.out hB);have HB':=Aside0.mk (below_step HB.out hB);clear HB Hg4 Hg6 Hg7;have Hg4:=Hg4';have Hg6:=Hg6';have Hg7:=Hg7';have HB:=HB';clear HB' Hg4' Hg6' Hg7';have fg40_11 : w11.cell? ⟨g4,0,none⟩ = some (.int .i64 a0_0):=(blk_cell Hg4.out 0).trans rfl;have fg41_11 : w11.cell? ⟨g4,1,none⟩ = some (.int .i64 a0_1):=(blk_cell Hg4.out 1).trans rfl;have fg42_11 : w11.cell? ⟨g4,2,none⟩ = some (.slice A0_2 l0_2.length c0_2):=(blk_cell Hg4.out 2).trans rfl;have fg60_11 : w11.cell? ⟨g6,0,none⟩ = some (.int .i64 c2.f0):=(blk_cell Hg6.out 0).trans rfl;have fg61_11 : w11.cell? ⟨g6,1,none⟩ = some (.int .i64 c2.f1):=(blk_cell Hg6.out 1).trans rfl;have fg70_11 : w11.cell? ⟨g7,0,none⟩ = some (.int .i64 c3.f0):=(blk_cell Hg7.out 0).trans rfl;have fg71_11 : w11.cell? ⟨g7,1,none⟩ = some (.int .i64 c3.f1):=(blk_cell Hg7.out 1).trans rfl;clear hB)|(go_at_call 73;(with_reducible refine (impl_safePath.calls a0_0 a0_1 A0_2 c0_2 l0_2 A1 c1 os c2 c3 _ (Kd.C_below HR0.out HB.out) HC0.out (Kd.C_below HR1.out HB.out) HC1.out HFL.out HBL.out HA.out HT.out HO.out).mono ?_);rintro e w12 ⟨u12,rfl,hR,hB⟩;have HR12:=Aside0.mk hR;have HB12:=Aside0.mk hB;clear hR hB))
 go_ret2
 exact ⟨_,rfl,Kd.R_lower HR12.out HB.out.size,below_step HB.out HB12.out⟩
/-- What SafePath has to be asked for to search at all. -/
def AskOk (w h : Int) (bl : List S48) (os : List (List S48)) (a b : S48) : Prop:=FloorOk w h bl ∧ (os.length : Int) ≤ 3 ∧ Free w h bl a ∧ Free w h bl b ∧ ∀ p ∈ os,PathOk w h bl p
theorem AskOk.len {w h : Int} {bl : List S48} {os : List (List S48)} {a b : S48} (x : AskOk w h bl os a b) : Len os:=⟨by have:=x.2.1;omega,fun p hp=>(x.2.2.2.2 p hp).2.1⟩
noncomputable def impl_SafePath.f (a0_0 : Int) (a0_1 : Int) (l0_2 : List S48) (l1 : List (List S48)) (a2_0 : Int) (a2_1 : Int) (a3_0 : Int) (a3_1 : Int) : Option (List S48 × Bool):=chk ((l0_2.length : Int) ≤ 1099511627776) (some (chk (AskOk a0_0 a0_1 l0_2 l1 ⟨a2_0,a2_1⟩ ⟨a3_0,a3_1⟩) (safeR a0_0 a0_1 l0_2 l1 ⟨a2_0,a2_1⟩ ⟨a3_0,a3_1⟩) ([],false))) none
theorem impl_SafePath.calls (a0_0 : Int) (a0_1 : Int) (A0_2 : Option Addr) (c0_2 : Nat) (l0_2 : List S48) (A1 : Option Addr) (c1 : Nat) (l1 : List (List S48)) (a2_0 : Int) (a2_1 : Int) (a3_0 : Int) (a3_1 : Int) (r1 : List S48) (r2 : Bool) (w : World) (hr0_2 : Kd.C k48 w A0_2 l0_2.length l0_2) (hc0_2 : l0_2.length ≤ c0_2) (hr1 : Kd.C (Kd.slice 48 k48) w A1 l1.length l1) (hc1 : l1.length ≤ c1) (h : impl_SafePath.f a0_0 a0_1 l0_2 l1 a2_0 a2_1 a3_0 a3_1 = some (r1,r2)) :
  Calls Try.prog 41 #[.agg #[.int .i64 a0_0,.int .i64 a0_1,.slice A0_2 l0_2.length c0_2],.slice A1 l1.length c1,.agg #[.int .i64 a2_0,.int .i64 a2_1],.agg #[.int .i64 a3_0,.int .i64 a3_1]] w fun e w' => ∃ v1 : Value,e = .returned (.tuple #[v1,.bool r2]) ∧ Kd.R k48 48 w' w.heap.size (fun _=>True) v1 r1 ∧ Below w.heap.size w w':=by
 unfold impl_SafePath.f at h
 by_cases hb : (l0_2.length : Int) ≤ 1099511627776
 ·rw [chk_pos hb] at h
  replace h:=Option.some.inj h
  obtain ⟨a,ha⟩ : ∃ a : S48,a = ⟨a2_0,a2_1⟩:=⟨_,rfl⟩
  obtain ⟨b,hb'⟩ : ∃ b : S48,b = ⟨a3_0,a3_1⟩:=⟨_,rfl⟩
  rw [← ha,← hb'] at h
  obtain rfl : a.f0 = a2_0:=by rw [ha]
  obtain rfl : a.f1 = a2_1:=by rw [ha]
  obtain rfl : b.f0 = a3_0:=by rw [hb']
  obtain rfl : b.f1 = a3_1:=by rw [hb']
  clear ha hb'
  obtain ⟨kv,hkv⟩:=Ev.rounds (impl_floor a0_0 a0_1 l0_2 hb)
  by_cases hf : FloorOk a0_0 a0_1 l0_2
  ·rw [chk_pos hf] at hkv
   by_cases ho : (l1.length : Int) ≤ 3
   ·obtain ⟨kf,hkf⟩:=Ev.rounds (impl_free a0_0 a0_1 l0_2 a hf.1 hf.2.1 hb)
    by_cases hfa : Free a0_0 a0_1 l0_2 a
    ·rw [chk_pos hfa] at hkf
     obtain ⟨kg,hkg⟩:=Ev.rounds (impl_free a0_0 a0_1 l0_2 b hf.1 hf.2.1 hb)
     by_cases hfb : Free a0_0 a0_1 l0_2 b
     ·rw [chk_pos hfb] at hkg
      by_cases hp : ∃ p ∈ l1,¬ PathOk a0_0 a0_1 l0_2 p
      ·rw [chk_neg (fun x=>by obtain ⟨p,h1,h2⟩:=hp;exact h2 (x.2.2.2.2 p h1))] at h
       cases h
       exact impl_SafePath.bad5 _ _ _ _ _ _ _ _ a b w hr0_2 hc0_2 hr1 hc1 hb kv kf kg hkv ho hkf hkg hp
      ·have hok : AskOk a0_0 a0_1 l0_2 l1 a b:=⟨hf,ho,hfa,hfb,fun p h1=>Classical.byContradiction fun h2=>hp ⟨p,h1,h2⟩⟩
       rw [chk_pos hok] at h
       have e1 : (safeR a0_0 a0_1 l0_2 l1 a b).1 = r1:=by rw [h]
       have e2 : (safeR a0_0 a0_1 l0_2 l1 a b).2 = r2:=by rw [h]
       rw [← e1,← e2]
       exact impl_SafePath.good _ _ _ _ _ _ _ _ a b w hr0_2 hc0_2 hr1 hc1 hb kv kf kg hkv ho hkf hkg hp hf hfa hfb hok.len
     ·rw [chk_neg hfb] at hkg
      rw [chk_neg (fun x=>hfb x.2.2.2.1)] at h
      cases h
      exact impl_SafePath.bad4 _ _ _ _ _ _ _ _ a b w hr0_2 hc0_2 hr1 hc1 hb kv kf kg hkv ho hkf hkg
    ·rw [chk_neg hfa] at hkf
     rw [chk_neg (fun x=>hfa x.2.2.1)] at h
     cases h
     exact impl_SafePath.bad3 _ _ _ _ _ _ _ _ a b w hr0_2 hc0_2 hr1 hc1 hb kv kf hkv ho hkf
   ·rw [chk_neg (fun x=>ho x.2.1)] at h
    cases h
    exact impl_SafePath.bad2 _ _ _ _ _ _ _ _ a b w hr0_2 hc0_2 hr1 hc1 hb kv hkv (by omega)
  ·rw [chk_neg hf] at hkv
   rw [chk_neg (fun x=>hf x.1)] at h
   cases h
   exact impl_SafePath.bad1 _ _ _ _ _ _ _ _ a b w hr0_2 hc0_2 hr1 hc1 hb kv hkv
 ·rw [chk_neg hb] at h
  cases h
end Go.Proofs.Ytbpccdbkaiigcaa.G

/- The walks of impl.ShortestPath. -/
namespace Go.Proofs.Ytbpccdbkaiigcaa.G
open Go.RowKit Go.Proofs.YtbpccdbkaiigcaaW.PrintWords Go.Proofs.YtbpccdbkaiigcaaW.PrintLast Go.Proofs.YtbpccdbkaiigcaaW.PrintMore
set_option linter.unusedVariables false
set_option linter.unusedSimpArgs false
end Go.Proofs.Ytbpccdbkaiigcaa.G

/- The contract of impl.ShortestPath: the first shortest path. -/
namespace Go.Proofs.Ytbpccdbkaiigcaa.G
open Go.RowKit Go.Proofs.YtbpccdbkaiigcaaW.PrintWords Go.Proofs.YtbpccdbkaiigcaaW.PrintLast
set_option linter.unusedVariables false
set_option linter.unusedSimpArgs false
noncomputable def impl_ShortestPath.f (a0_0 : Int) (a0_1 : Int) (l0_2 : List S48) (a1_0 : Int) (a1_1 : Int) (a2_0 : Int) (a2_1 : Int) : Option (List S48 × Bool):=chk ((l0_2.length : Int) ≤ 1099511627776) (some (shortR a0_0 a0_1 l0_2 ⟨a1_0,a1_1⟩ ⟨a2_0,a2_1⟩)) none
end Go.Proofs.Ytbpccdbkaiigcaa.G

-- Written by wip/tools/gen.py out of the translation (the kit's printer, one namespace a seat). Lean checks it.
namespace Go.Proofs.Ytbpccdbkaiigcaa.G
open Go.RowKit Go.Proofs.YtbpccdbkaiigcaaW.PrintWords Go.Proofs.YtbpccdbkaiigcaaW.PrintLast Go.Proofs.YtbpccdbkaiigcaaW.PrintMore
attribute [local go_sem] max2_int min2_int max_two min_two max_three min_three max_four min_four   -- for this text's walks alone
set_option linter.unusedVariables false
set_option linter.unusedSimpArgs false

/-! ### spec_ShortestPath: function 34 -/
noncomputable def spec_ShortestPath.f (k:Nat) (a0_0:Int) (a0_1:Int) (l0_2:List (S48)) (a1_0:Int) (a1_1:Int) (a2_0:Int) (a2_1:Int):Option ((List (S48)) × Bool):=(spec_l16Asked.f k a0_0 a0_1 l0_2 a1_0 a1_1 a2_0 a2_1).bind fun t515=>(if t515 = true then ((spec_l16Safe.f a0_0 a0_1 l0_2 (([]:List (List (S48)))) a1_0 a1_1 a2_0 a2_1).bind fun bt519=>(some (bt519.1,bt519.2))) else (some ((([]:List (S48))),false)))


/-! ### laws_toCell: function 28 -/
def laws_toCell.f (a0_0:Int) (a0_1:Int):Option (Int × Int):=some (a0_0,a0_1)
set_option maxHeartbeats 8000000 in
set_option maxRecDepth 100000 in
theorem laws_toCell.calls (a0_0:Int) (a0_1:Int) (r1:Int) (r2:Int) (w:World) (h:laws_toCell.f a0_0 a0_1 = some (r1,r2)) :
  Calls Try.prog 28 #[.agg #[.int .i64 a0_0,.int .i64 a0_1]] w fun e w'=>e = .returned (.agg #[.int .i64 r1,.int .i64 r2]) ∧ Below w.heap.size w w':=by
 have hu44:=Try.underlying44;have hu48:=Try.underlying48;have HB:=zM (Below.refl w.heap.size w);have H:(some (a0_0,a0_1)) = some (r1,r2):=h
 clear h;simp only [Option.some.injEq,Prod.mk.injEq] at H
 obtain ⟨rfl,rfl⟩:=H;go_enter Try.func28,Try.ntmps28
 go_wp2_with (first|((with_reducible refine gate_dst (N:=1) rfl ?_);refine box_event ?hg (N:=1) ?hd (cs := #[.int .i64 a0_0,.int .i64 a0_1]) (t:=44) ?hr ?_;(case hd=>rfl);(case hg=>rfl);(case hr=>first|(go_simp;done)|(go_simp;rfl));intro gb118 hg w2 hbox hb;have n0_:=zM (zQ (by repeat (first|(with_reducible first|exact HB.out|apply zD|apply zE|apply zF)|exact HB.out)) hb);have n1_:=zM (hbox);have n2_:=zM ((by rw [hg];exact (zR (by repeat (first|(with_reducible first|exact HB.out|apply zD|apply zE|apply zF)|exact HB.out))):w.heap.size ≤ gb118));have n3_:=zM ((by rw [hg];exact (zR (by repeat (first|(with_reducible first|exact HB.out|apply zD|apply zE|apply zF)|exact HB.out))):w.heap.size ≤ gb118));clear HB;have HB:=n0_;have BK118:=n1_;have GW118:=n2_;have GE118:=n3_;clear n0_ n1_ n2_ n3_;clear hb hbox hg)|((with_reducible refine gate_dst (N:=2) rfl ?_);refine box_event ?hg (N:=2) ?hd (cs := #[.int .i64 0,.int .i64 0]) (t:=48) ?hr ?_;(case hd=>rfl);(case hg=>rfl);(case hr=>first|(go_simp;done)|(go_simp;rfl));intro gb119 hg w3 hbox hb;have n0_:=zM (blk_below (g:=gb118) (o := .cells #[.int .i64 a0_0,.int .i64 a0_1] 44 (0,0)) (by (with_reducible repeat (first|refine zJ ?_ _|refine zK ?_|refine zL ?_ _));exact BK118.out) hb);have n1_:=zM (zQ (by repeat (first|(with_reducible first|exact HB.out|apply zD|apply zE|apply zF|refine below_set ?_ GE118.out)|exact HB.out)) hb);have n2_:=zM (hbox);have n3_:=zM ((by rw [hg];exact (zR (by repeat (first|(with_reducible first|exact HB.out|apply zD|apply zE|apply zF|refine below_set ?_ GE118.out)|exact HB.out))):w.heap.size ≤ gb119));have n4_:=zM ((by rw [hg];exact (zR (by repeat (first|(with_reducible first|exact HB.out|apply zD|apply zE|apply zF|refine below_set ?_ GE118.out)|exact HB.out))):w.heap.size ≤ gb119));have n5_:=zM ((by rw [hg];exact Nat.ne_of_lt (blk_lt (g:=gb118) (o := .cells #[.int .i64 a0_0,.int .i64 a0_1] 44 (0,0)) (by (with_reducible repeat (first|refine zJ ?_ _|refine zK ?_|refine zL ?_ _));exact BK118.out)):gb118 ≠ gb119));have n6_:=zM ((by rw [hg];exact Nat.ne_of_gt (blk_lt (g:=gb118) (o := .cells #[.int .i64 a0_0,.int .i64 a0_1] 44 (0,0)) (by (with_reducible repeat (first|refine zJ ?_ _|refine zK ?_|refine zL ?_ _));exact BK118.out)):gb119 ≠ gb118));clear BK118;clear HB;have BK118:=n0_;have HB:=n1_;have BK119:=n2_;have GW119:=n3_;have GE119:=n4_;have NB118_119:=n5_;have NB119_118:=n6_;clear n0_ n1_ n2_ n3_ n4_ n5_ n6_;clear hb hbox hg)|((with_reducible refine gate_dst (N:=3) rfl ?_);refine box_event ?hg (N:=3) ?hd (cs := #[.int .i64 0,.int .i64 0]) (t:=48) ?hr ?_;(case hd=>rfl);(case hg=>rfl);(case hr=>first|(go_simp;done)|(go_simp;rfl));intro gb120 hg w4 hbox hb;have n0_:=zM (blk_below (g:=gb118) (o := .cells #[.int .i64 a0_0,.int .i64 a0_1] 44 (0,0)) (by (with_reducible repeat (first|refine zJ ?_ _|refine zK ?_|refine zL ?_ _));exact BK118.out) hb);have n1_:=zM (blk_below (g:=gb119) (o := .cells #[.int .i64 0,.int .i64 0] 48 (0,0)) (by (with_reducible repeat (first|refine zJ ?_ _|refine zK ?_|refine zL ?_ _));exact BK119.out) hb);have n2_:=zM (zQ (by repeat (first|(with_reducible first|exact HB.out|apply zD|apply zE|apply zF|refine below_set ?_ GE118.out|refine below_set ?_ GE119.out)|exact HB.out)) hb);have n3_:=zM (hbox);have n4_:=zM ((by rw [hg];exact (zR (by repeat (first|(with_reducible first|exact HB.out|apply zD|apply zE|apply zF|refine below_set ?_ GE118.out|refine below_set ?_ GE119.out)|exact HB.out))):w.heap.size ≤ gb120));have n5_:=zM ((by rw [hg];exact (zR (by repeat (first|(with_reducible first|exact HB.out|apply zD|apply zE|apply zF|refine below_set ?_ GE118.out|refine below_set ?_ GE119.out)|exact HB.out))):w.heap.size ≤ gb120));have n6_:=zM ((by rw [hg];exact Nat.ne_of_lt (blk_lt (g:=gb118) (o := .cells #[.int .i64 a0_0,.int .i64 a0_1] 44 (0,0)) (by (with_reducible repeat (first|refine zJ ?_ _|refine zK ?_|refine zL ?_ _));exact BK118.out)):gb118 ≠ gb120));have n7_:=zM ((by rw [hg];exact Nat.ne_of_gt (blk_lt (g:=gb118) (o := .cells #[.int .i64 a0_0,.int .i64 a0_1] 44 (0,0)) (by (with_reducible repeat (first|refine zJ ?_ _|refine zK ?_|refine zL ?_ _));exact BK118.out)):gb120 ≠ gb118));have n8_:=zM ((by rw [hg];exact Nat.ne_of_lt (blk_lt (g:=gb119) (o := .cells #[.int .i64 0,.int .i64 0] 48 (0,0)) (by (with_reducible repeat (first|refine zJ ?_ _|refine zK ?_|refine zL ?_ _));exact BK119.out)):gb119 ≠ gb120));have n9_:=zM ((by rw [hg];exact Nat.ne_of_gt (blk_lt (g:=gb119) (o := .cells #[.int .i64 0,.int .i64 0] 48 (0,0)) (by (with_reducible repeat (first|refine zJ ?_ _|refine zK ?_|refine zL ?_ _));exact BK119.out)):gb120 ≠ gb119));clear BK118;clear BK119;clear HB;have BK118:=n0_;have BK119:=n1_;have HB:=n2_;have BK120:=n3_;have GW120:=n4_;have GE120:=n5_;have NB118_120:=n6_;have NB120_118:=n7_;have NB119_120:=n8_;have NB120_119:=n9_;clear n0_ n1_ n2_ n3_ n4_ n5_ n6_ n7_ n8_ n9_;clear hb hbox hg;have hnb5:=NB118_119.out;have hnc5:=NB119_118.out;have hnb6:=NB118_120.out;have hnc6:=NB120_118.out;have hcz7_0:w4.cell? ⟨gb118,0,none⟩ = some (.int .i64 a0_0):=(blk_cell BK118.out 0).trans rfl;have hcz7_1:w4.cell? ⟨gb118,1,none⟩ = some (.int .i64 a0_1):=(blk_cell BK118.out 1).trans rfl;have hfz7_0:=blk_frozen BK118.out 0;have hfz7_1:=blk_frozen BK118.out 1;have hnb8:=NB120_119.out;have hnc8:=NB119_120.out;have hcz9_0:w4.cell? ⟨gb120,0,none⟩ = some (.int .i64 0):=(blk_cell BK120.out 0).trans rfl;have hcz9_1:w4.cell? ⟨gb120,1,none⟩ = some (.int .i64 0):=(blk_cell BK120.out 1).trans rfl;have hfz9_0:=blk_frozen BK120.out 0;have hfz9_1:=blk_frozen BK120.out 1;have hcz10_0:w4.cell? ⟨gb119,0,none⟩ = some (.int .i64 0):=(blk_cell BK119.out 0).trans rfl;have hcz10_1:w4.cell? ⟨gb119,1,none⟩ = some (.int .i64 0):=(blk_cell BK119.out 1).trans rfl;have hfz10_0:=blk_frozen BK119.out 0;have hfz10_1:=blk_frozen BK119.out 1))
 refine bodyPost_ret (results_cell_row rfl _ _ gb119 48 #[.int .i64 a0_0,.int .i64 a0_1] (0,0) _ rfl (by (with_reducible repeat (first|refine zJ ?_ _|refine zK ?_|refine zL ?_ _));refine blk_put (cs := #[.int .i64 a0_0,.int .i64 0]) ?_ 1 _ rfl;(with_reducible repeat (first|refine zJ ?_ _|refine zK ?_|refine zL ?_ _));refine blk_put (cs := #[.int .i64 0,.int .i64 0]) ?_ 0 _ rfl;(with_reducible repeat (first|refine zJ ?_ _|refine zK ?_|refine zL ?_ _));refine blk_far ?_ NB119_120.out _;(with_reducible repeat (first|refine zJ ?_ _|refine zK ?_|refine zL ?_ _));refine blk_far ?_ NB119_120.out _;(with_reducible repeat (first|refine zJ ?_ _|refine zK ?_|refine zL ?_ _));exact BK119.out) Try.underlying48 rfl (by kernel_rfl)) rfl ?_
 exact ⟨by first|rfl|(simp [errW_none,errW_some] <;> rfl)|(simp [*,errW_none,errW_some] <;> rfl),by repeat (first|(with_reducible first|exact HB.out|apply zD|apply zE|apply zF|refine below_set ?_ GE118.out|refine below_set ?_ GE119.out|refine below_set ?_ GE120.out)|exact HB.out)⟩

end Go.Proofs.Ytbpccdbkaiigcaa.G

/- What spec.ShortestPath answers. -/
namespace Go.Proofs.Ytbpccdbkaiigcaa.G
open Go.RowKit Go.Proofs.YtbpccdbkaiigcaaW.PrintWords Go.Proofs.YtbpccdbkaiigcaaW.PrintLast
set_option linter.unusedVariables false
set_option linter.unusedSimpArgs false
theorem safeP_len {w h : Int} {bl : List S48} {os : List (List S48)} {a b : S48} {p : List S48} (hp : safeP w h bl os a b = some p) : 1 ≤ p.length ∧ p.length ≤ 25:=by
 unfold safeP at hp
 by_cases hh : HitAt os a a 0
 ·rw [chk_pos hh] at hp;cases hp
 ·rw [chk_neg hh] at hp
  cases hf : firstN (EndS w h bl os a b) 25 0 with
  | none=>rw [hf] at hp;cases hp
  | some e =>
   rw [hf] at hp
   have h1 : trace (nxS w h bl os a b e) a e = some p:=hp
   have:=trace_len h1
   have:=(firstN_some hf).2.2
   omega
theorem safeR_len (w h : Int) (bl : List S48) (os : List (List S48)) (a b : S48) : (safeR w h bl os a b).1.length ≤ 25:=by
 cases hp : safeP w h bl os a b with
 | none=>rw [safeR_none hp];exact Nat.zero_le _
 | some p=>rw [safeR_some hp];exact (safeP_len hp).2
end Go.Proofs.Ytbpccdbkaiigcaa.G

-- Written by wip/tools/gen.py out of the translation (the kit's printer, one namespace a seat). Lean checks it.
namespace Go.Proofs.Ytbpccdbkaiigcaa.G
open Go.RowKit Go.Proofs.YtbpccdbkaiigcaaW.PrintWords Go.Proofs.YtbpccdbkaiigcaaW.PrintLast Go.Proofs.YtbpccdbkaiigcaaW.PrintMore
attribute [local go_sem] max2_int min2_int max_two min_two max_three min_three max_four min_four   -- for this text's walks alone
set_option linter.unusedVariables false
set_option linter.unusedSimpArgs false

/-! ### spec_SafePath: function 39 -/
mutual
noncomputable def spec_SafePath.j0:Nat → List (List (S48)) → Bool → Int → Int → List (S48) → Int → Int → Int → Int → Option ((List (S48)) × Bool)
 | 0,_,_,_,_,_,_,_,_,_=>none
 | k + 1,x1,x20,x590000,x590001,x590002,x591000,x591001,x592000,x592001=>if x20 = true then (some ((([]:List (S48))),false)) else (spec_SafePath.l0 k x1 0 x590000 x590001 x590002 x591000 x591001 x592000 x592001)
noncomputable def spec_SafePath.l0:Nat → List (List (S48)) → Int → Int → Int → List (S48) → Int → Int → Int → Int → Option ((List (S48)) × Bool)
 | 0,_,_,_,_,_,_,_,_,_=>none
 | k + 1,x1,x10,x590000,x590001,x590002,x591000,x591001,x592000,x592001=>if x10 < (x1.length:Int) then (if 0 ≤ x10 then ((spec_l16Path.f k x590000 x590001 x590002 (rd_L6 x1 x10)).bind fun t597=>(if t597 = true then (spec_SafePath.l0 k x1 (wrap64 (x10 + 1)) x590000 x590001 x590002 x591000 x591001 x592000 x592001) else (some ((([]:List (S48))),false)))) else (none)) else ((spec_l16Safe.f x590000 x590001 x590002 x1 x591000 x591001 x592000 x592001).bind fun bt601=>(some (bt601.1,bt601.2)))
end
noncomputable def spec_SafePath.f (k:Nat) (a0_0:Int) (a0_1:Int) (l0_2:List (S48)) (l1:List (List (S48))) (a2_0:Int) (a2_1:Int) (a3_0:Int) (a3_1:Int):Option ((List (S48)) × Bool):=(spec_l16Asked.f k a0_0 a0_1 l0_2 a2_0 a2_1 a3_0 a3_1).bind fun t592=>(if t592 = true then (spec_SafePath.j0 k l1 (decide ((l1.length:Int) > 3)) a0_0 a0_1 l0_2 a2_0 a2_1 a3_0 a3_1) else (spec_SafePath.j0 k l1 true a0_0 a0_1 l0_2 a2_0 a2_1 a3_0 a3_1))
set_option maxHeartbeats 8000000 in
set_option maxRecDepth 100000 in
theorem spec_SafePath.calls (k:Nat) (a0_0:Int) (a0_1:Int) (A0_2:Option Addr) (c0_2:Nat) (l0_2:List (S48)) (A1:Option Addr) (c1:Nat) (l1:List (List (S48))) (a2_0:Int) (a2_1:Int) (a3_0:Int) (a3_1:Int) (r1:List (S48)) (r2:Bool) (w:World) (hr0_2:Kd.C k48 w A0_2 l0_2.length l0_2) (hc0_2:l0_2.length ≤ c0_2) (hr1:Kd.C (Kd.slice 48 k48) w A1 l1.length l1) (hc1:l1.length ≤ c1) (h:spec_SafePath.f k a0_0 a0_1 l0_2 l1 a2_0 a2_1 a3_0 a3_1 = some (r1,r2)) :
  Calls Try.prog 39 #[.agg #[.int .i64 a0_0,.int .i64 a0_1,.slice A0_2 l0_2.length c0_2],.slice A1 l1.length c1,.agg #[.int .i64 a2_0,.int .i64 a2_1],.agg #[.int .i64 a3_0,.int .i64 a3_1]] w fun e w' => ∃ v0_:Value,e = .returned (.tuple #[v0_,.bool r2]) ∧ Kd.R k48 48 w' w.heap.size (fun _=>True) v0_ r1 ∧ Below w.heap.size w w':=by
 have hu29:=Try.underlying29;have hu48:=Try.underlying48;have HR0_2:=zM hr0_2;have HC0_2:=zM hc0_2;clear hr0_2 hc0_2;have HR1:=zM hr1;have HC1:=zM hc1;clear hr1 hc1;have HB:=zM (Below.refl w.heap.size w);have H:((spec_l16Asked.f k a0_0 a0_1 l0_2 a2_0 a2_1 a3_0 a3_1).bind fun t592=>(if t592 = true then (spec_SafePath.j0 k l1 (decide ((l1.length:Int) > 3)) a0_0 a0_1 l0_2 a2_0 a2_1 a3_0 a3_1) else (spec_SafePath.j0 k l1 true a0_0 a0_1 l0_2 a2_0 a2_1 a3_0 a3_1))) = some (r1,r2):=h
 clear h;have HC5:=zM H;clear H;go_enter Try.func39,Try.ntmps39
 go_upto_region 1 with (first|((with_reducible refine gate_dst (N:=4) rfl ?_);(try (refine gate_guard (by rfl) ?_;dsimp only));refine box_event ?hg (N:=4) ?hd (cs := #[.int .i64 a0_0,.int .i64 a0_1,.slice A0_2 l0_2.length c0_2]) (t:=29) ?hr ?_;(case hd=>rfl);(case hg=>rfl);(case hr=>first|(go_simp;done)|(go_simp;rfl));intro gb589 hg w6 hbox hb;have n0_:=zM (zQ (by repeat (first|(with_reducible first|exact HB.out|apply zD|apply zE|apply zF)|exact HB.out)) hb);have n1_:=zM (hbox);have n2_:=zM ((by rw [hg];exact (zR (by repeat (first|(with_reducible first|exact HB.out|apply zD|apply zE|apply zF)|exact HB.out))):w.heap.size ≤ gb589));have n3_:=zM ((by rw [hg];exact (zR (by repeat (first|(with_reducible first|exact HB.out|apply zD|apply zE|apply zF)|exact HB.out))):w.heap.size ≤ gb589));clear HB;have HB:=n0_;have BK589:=n1_;have GW589:=n2_;have GE589:=n3_;clear n0_ n1_ n2_ n3_;clear hb hbox hg)|((with_reducible refine gate_dst (N:=6) rfl ?_);(try (refine gate_guard (by rfl) ?_;dsimp only));refine box_event ?hg (N:=6) ?hd (cs := #[.int .i64 a2_0,.int .i64 a2_1]) (t:=48) ?hr ?_;(case hd=>rfl);(case hg=>rfl);(case hr=>first|(go_simp;done)|(go_simp;rfl));intro gb590 hg w7 hbox hb;have n0_:=zM (blk_below (g:=gb589) (o := .cells #[.int .i64 a0_0,.int .i64 a0_1,.slice A0_2 l0_2.length c0_2] 29 (0,0)) (by (with_reducible repeat (first|refine zJ ?_ _|refine zK ?_|refine zL ?_ _));exact BK589.out) hb);have n1_:=zM (zQ (by repeat (first|(with_reducible first|exact HB.out|apply zD|apply zE|apply zF|refine below_set ?_ GE589.out)|exact HB.out)) hb);have n2_:=zM (hbox);have n3_:=zM ((by rw [hg];exact (zR (by repeat (first|(with_reducible first|exact HB.out|apply zD|apply zE|apply zF|refine below_set ?_ GE589.out)|exact HB.out))):w.heap.size ≤ gb590));have n4_:=zM ((by rw [hg];exact (zR (by repeat (first|(with_reducible first|exact HB.out|apply zD|apply zE|apply zF|refine below_set ?_ GE589.out)|exact HB.out))):w.heap.size ≤ gb590));have n5_:=zM ((by rw [hg];exact Nat.ne_of_lt (blk_lt (g:=gb589) (o := .cells #[.int .i64 a0_0,.int .i64 a0_1,.slice A0_2 l0_2.length c0_2] 29 (0,0)) (by (with_reducible repeat (first|refine zJ ?_ _|refine zK ?_|refine zL ?_ _));exact BK589.out)):gb589 ≠ gb590));have n6_:=zM ((by rw [hg];exact Nat.ne_of_gt (blk_lt (g:=gb589) (o := .cells #[.int .i64 a0_0,.int .i64 a0_1,.slice A0_2 l0_2.length c0_2] 29 (0,0)) (by (with_reducible repeat (first|refine zJ ?_ _|refine zK ?_|refine zL ?_ _));exact BK589.out)):gb590 ≠ gb589));clear BK589;clear HB;have BK589:=n0_;have HB:=n1_;have BK590:=n2_;have GW590:=n3_;have GE590:=n4_;have NB589_590:=n5_;have NB590_589:=n6_;clear n0_ n1_ n2_ n3_ n4_ n5_ n6_;clear hb hbox hg)|((with_reducible refine gate_dst (N:=7) rfl ?_);(try (refine gate_guard (by rfl) ?_;dsimp only));refine box_event ?hg (N:=7) ?hd (cs := #[.int .i64 a3_0,.int .i64 a3_1]) (t:=48) ?hr ?_;(case hd=>rfl);(case hg=>rfl);(case hr=>first|(go_simp;done)|(go_simp;rfl));intro gb591 hg w8 hbox hb;have n0_:=zM (blk_below (g:=gb589) (o := .cells #[.int .i64 a0_0,.int .i64 a0_1,.slice A0_2 l0_2.length c0_2] 29 (0,0)) (by (with_reducible repeat (first|refine zJ ?_ _|refine zK ?_|refine zL ?_ _));exact BK589.out) hb);have n1_:=zM (blk_below (g:=gb590) (o := .cells #[.int .i64 a2_0,.int .i64 a2_1] 48 (0,0)) (by (with_reducible repeat (first|refine zJ ?_ _|refine zK ?_|refine zL ?_ _));exact BK590.out) hb);have n2_:=zM (zQ (by repeat (first|(with_reducible first|exact HB.out|apply zD|apply zE|apply zF|refine below_set ?_ GE589.out|refine below_set ?_ GE590.out)|exact HB.out)) hb);have n3_:=zM (hbox);have n4_:=zM ((by rw [hg];exact (zR (by repeat (first|(with_reducible first|exact HB.out|apply zD|apply zE|apply zF|refine below_set ?_ GE589.out|refine below_set ?_ GE590.out)|exact HB.out))):w.heap.size ≤ gb591));have n5_:=zM ((by rw [hg];exact (zR (by repeat (first|(with_reducible first|exact HB.out|apply zD|apply zE|apply zF|refine below_set ?_ GE589.out|refine below_set ?_ GE590.out)|exact HB.out))):w.heap.size ≤ gb591));have n6_:=zM ((by rw [hg];exact Nat.ne_of_lt (blk_lt (g:=gb589) (o := .cells #[.int .i64 a0_0,.int .i64 a0_1,.slice A0_2 l0_2.length c0_2] 29 (0,0)) (by (with_reducible repeat (first|refine zJ ?_ _|refine zK ?_|refine zL ?_ _));exact BK589.out)):gb589 ≠ gb591));have n7_:=zM ((by rw [hg];exact Nat.ne_of_gt (blk_lt (g:=gb589) (o := .cells #[.int .i64 a0_0,.int .i64 a0_1,.slice A0_2 l0_2.length c0_2] 29 (0,0)) (by (with_reducible repeat (first|refine zJ ?_ _|refine zK ?_|refine zL ?_ _));exact BK589.out)):gb591 ≠ gb589));have n8_:=zM ((by rw [hg];exact Nat.ne_of_lt (blk_lt (g:=gb590) (o := .cells #[.int .i64 a2_0,.int .i64 a2_1] 48 (0,0)) (by (with_reducible repeat (first|refine zJ ?_ _|refine zK ?_|refine zL ?_ _));exact BK590.out)):gb590 ≠ gb591));have n9_:=zM ((by rw [hg];exact Nat.ne_of_gt (blk_lt (g:=gb590) (o := .cells #[.int .i64 a2_0,.int .i64 a2_1] 48 (0,0)) (by (with_reducible repeat (first|refine zJ ?_ _|refine zK ?_|refine zL ?_ _));exact BK590.out)):gb591 ≠ gb590));clear BK589;clear BK590;clear HB;have BK589:=n0_;have BK590:=n1_;have HB:=n2_;have BK591:=n3_;have GW591:=n4_;have GE591:=n5_;have NB589_591:=n6_;have NB591_589:=n7_;have NB590_591:=n8_;have NB591_590:=n9_;clear n0_ n1_ n2_ n3_ n4_ n5_ n6_ n7_ n8_ n9_;clear hb hbox hg))
 (try simp only [Act.put,zT,zU,zV])
 go_cut [20] (fun v20 wc => ∃ (kq:Nat) (x20_4:Bool),v20 = .bool x20_4 ∧ Aside0 (spec_SafePath.j0 kq l1 x20_4 a0_0 a0_1 l0_2 a2_0 a2_1 a3_0 a3_1 = some (r1,r2)) ∧ Aside0 (kq ≤ k) ∧ Aside0 (wc.heap[gb589]? = some (.cells #[.int .i64 a0_0,.int .i64 a0_1,(.slice A0_2 l0_2.length c0_2)] 29 (0,0))) ∧ Aside0 (wc.heap[gb590]? = some (.cells #[.int .i64 a2_0,.int .i64 a2_1] 48 (0,0))) ∧ Aside0 (wc.heap[gb591]? = some (.cells #[.int .i64 a3_0,.int .i64 a3_1] 48 (0,0))) ∧ Aside0 (Below w.heap.size w wc))
 case first =>
  have H:=HC5.out;clear HC5;replace H:=Option.bind_eq_some_iff.mp H;obtain ⟨t592,A90,H⟩:=H;replace H:(if t592 = true then (spec_SafePath.j0 k l1 (decide ((l1.length:Int) > 3)) a0_0 a0_1 l0_2 a2_0 a2_1 a3_0 a3_1) else (spec_SafePath.j0 k l1 true a0_0 a0_1 l0_2 a2_0 a2_1 a3_0 a3_1)) = some (r1,r2):=H
  have A9:=zM A90;clear A90;by_cases c10:t592 = true
  ·subst c10
   have H1:(spec_SafePath.j0 k l1 (decide ((l1.length:Int) > 3)) a0_0 a0_1 l0_2 a2_0 a2_1 a3_0 a3_1) = some (r1,r2):=by rw [if_pos rfl] at H;exact H
   clear H;have H:=H1;clear H1;have H':=zM H;clear H;have hnb11:=NB589_590.out;have hnc11:=NB590_589.out;have hnb12:=NB589_591.out;have hnc12:=NB591_589.out;have hcz13_0:w8.cell? ⟨gb589,0,none⟩ = some (.int .i64 a0_0):=(blk_cell BK589.out 0).trans rfl
   have hcz13_1:w8.cell? ⟨gb589,1,none⟩ = some (.int .i64 a0_1):=(blk_cell BK589.out 1).trans rfl
   have hcz13_2:w8.cell? ⟨gb589,2,none⟩ = some (.slice A0_2 l0_2.length c0_2):=(blk_cell BK589.out 2).trans rfl
   have hfz13_0:=blk_frozen BK589.out 0;have hfz13_1:=blk_frozen BK589.out 1;have hfz13_2:=blk_frozen BK589.out 2;have hnb14:=NB590_591.out;have hnc14:=NB591_590.out;have hcz15_0:w8.cell? ⟨gb590,0,none⟩ = some (.int .i64 a2_0):=(blk_cell BK590.out 0).trans rfl
   have hcz15_1:w8.cell? ⟨gb590,1,none⟩ = some (.int .i64 a2_1):=(blk_cell BK590.out 1).trans rfl
   have hfz15_0:=blk_frozen BK590.out 0;have hfz15_1:=blk_frozen BK590.out 1;have hcz16_0:w8.cell? ⟨gb591,0,none⟩ = some (.int .i64 a3_0):=(blk_cell BK591.out 0).trans rfl
   have hcz16_1:w8.cell? ⟨gb591,1,none⟩ = some (.int .i64 a3_1):=(blk_cell BK591.out 1).trans rfl
   have hfz16_0:=blk_frozen BK591.out 0;have hfz16_1:=blk_frozen BK591.out 1;go_wp2_with (first|((with_reducible refine gate_callee (f:=63) rfl ?_);refine goesL_ (some 14) rfl rfl Try.func63 (by kernel_rfl) rfl #[.agg #[.int .i64 a0_0,.int .i64 a0_1,.slice A0_2 l0_2.length c0_2],.agg #[.int .i64 a2_0,.int .i64 a2_1],.agg #[.int .i64 a3_0,.int .i64 a3_1]] rfl (by (try simp only [List.map_toArray,List.map_cons,List.map_nil]);first|done|rfl|(simp only [List.length_drop,List.length_take];rfl)) ?_;(with_reducible refine (spec_l16Asked.calls k a0_0 a0_1 _ _ l0_2 a2_0 a2_1 a3_0 a3_1 true _ ?side1 ?side2 A9.out).mono ?_);(case side1=>repeat (first|exact (zO HR0_2.out HB.out)|(with_reducible first|refine zG ?_ _|refine zH ?_ _|refine zI ?_)));(case side2=>exact HC0_2.out);rintro e w17 ⟨rfl,hb⟩;refine ⟨_,rfl,?_⟩;have n0_:=zM (blk_below (g:=gb589) (o := .cells #[.int .i64 a0_0,.int .i64 a0_1,.slice A0_2 l0_2.length c0_2] 29 (0,0)) (by (with_reducible repeat (first|refine zJ ?_ _|refine zK ?_|refine zL ?_ _));exact BK589.out) hb);have n1_:=zM (blk_below (g:=gb590) (o := .cells #[.int .i64 a2_0,.int .i64 a2_1] 48 (0,0)) (by (with_reducible repeat (first|refine zJ ?_ _|refine zK ?_|refine zL ?_ _));exact BK590.out) hb);have n2_:=zM (blk_below (g:=gb591) (o := .cells #[.int .i64 a3_0,.int .i64 a3_1] 48 (0,0)) (by (with_reducible repeat (first|refine zJ ?_ _|refine zK ?_|refine zL ?_ _));exact BK591.out) hb);have n3_:=zM (zQ (by repeat (first|(with_reducible first|exact HB.out|apply zD|apply zE|apply zF|refine below_set ?_ GE589.out|refine below_set ?_ GE590.out|refine below_set ?_ GE591.out)|exact HB.out)) hb);clear BK589;clear BK590;clear BK591;clear HB;have BK589:=n0_;have BK590:=n1_;have BK591:=n2_;have HB:=n3_;clear n0_ n1_ n2_ n3_;(try clear hb);(try clear hb2);(try clear hk);(try clear hi)))
   go_meet
   case rel=>exact ⟨_,(decide ((l1.length:Int) > 3)),(by first|rfl|(simp;done)|(simp [*];done)),H',⟨by first|omega|exact Nat.le_refl _⟩,⟨by (with_reducible repeat (first|refine zJ ?_ _|refine zK ?_|refine zL ?_ _));exact BK589.out⟩,⟨by (with_reducible repeat (first|refine zJ ?_ _|refine zK ?_|refine zL ?_ _));exact BK590.out⟩,⟨by (with_reducible repeat (first|refine zJ ?_ _|refine zK ?_|refine zL ?_ _));exact BK591.out⟩,⟨by repeat (first|(with_reducible first|exact HB.out|apply zD|apply zE|apply zF|refine below_set ?_ GE589.out|refine below_set ?_ GE590.out|refine below_set ?_ GE591.out)|exact HB.out)⟩⟩
  ·replace c10:=Bool.eq_false_iff.mpr c10
   subst c10;have H1:(spec_SafePath.j0 k l1 true a0_0 a0_1 l0_2 a2_0 a2_1 a3_0 a3_1) = some (r1,r2):=by rw [if_neg (show ¬ (false = true) by decide)] at H;exact H
   clear H;have H:=H1;clear H1;have H':=zM H;clear H;have hnb18:=NB589_590.out;have hnc18:=NB590_589.out;have hnb19:=NB589_591.out;have hnc19:=NB591_589.out;have hcz20_0:w8.cell? ⟨gb589,0,none⟩ = some (.int .i64 a0_0):=(blk_cell BK589.out 0).trans rfl
   have hcz20_1:w8.cell? ⟨gb589,1,none⟩ = some (.int .i64 a0_1):=(blk_cell BK589.out 1).trans rfl
   have hcz20_2:w8.cell? ⟨gb589,2,none⟩ = some (.slice A0_2 l0_2.length c0_2):=(blk_cell BK589.out 2).trans rfl
   have hfz20_0:=blk_frozen BK589.out 0;have hfz20_1:=blk_frozen BK589.out 1;have hfz20_2:=blk_frozen BK589.out 2;have hnb21:=NB590_591.out;have hnc21:=NB591_590.out;have hcz22_0:w8.cell? ⟨gb590,0,none⟩ = some (.int .i64 a2_0):=(blk_cell BK590.out 0).trans rfl
   have hcz22_1:w8.cell? ⟨gb590,1,none⟩ = some (.int .i64 a2_1):=(blk_cell BK590.out 1).trans rfl
   have hfz22_0:=blk_frozen BK590.out 0;have hfz22_1:=blk_frozen BK590.out 1;have hcz23_0:w8.cell? ⟨gb591,0,none⟩ = some (.int .i64 a3_0):=(blk_cell BK591.out 0).trans rfl
   have hcz23_1:w8.cell? ⟨gb591,1,none⟩ = some (.int .i64 a3_1):=(blk_cell BK591.out 1).trans rfl
   have hfz23_0:=blk_frozen BK591.out 0;have hfz23_1:=blk_frozen BK591.out 1;go_wp2_with (first|((with_reducible refine gate_callee (f:=63) rfl ?_);refine goesL_ (some 14) rfl rfl Try.func63 (by kernel_rfl) rfl #[.agg #[.int .i64 a0_0,.int .i64 a0_1,.slice A0_2 l0_2.length c0_2],.agg #[.int .i64 a2_0,.int .i64 a2_1],.agg #[.int .i64 a3_0,.int .i64 a3_1]] rfl (by (try simp only [List.map_toArray,List.map_cons,List.map_nil]);first|done|rfl|(simp only [List.length_drop,List.length_take];rfl)) ?_;(with_reducible refine (spec_l16Asked.calls k a0_0 a0_1 _ _ l0_2 a2_0 a2_1 a3_0 a3_1 false _ ?side1 ?side2 A9.out).mono ?_);(case side1=>repeat (first|exact (zO HR0_2.out HB.out)|(with_reducible first|refine zG ?_ _|refine zH ?_ _|refine zI ?_)));(case side2=>exact HC0_2.out);rintro e w24 ⟨rfl,hb⟩;refine ⟨_,rfl,?_⟩;have n0_:=zM (blk_below (g:=gb589) (o := .cells #[.int .i64 a0_0,.int .i64 a0_1,.slice A0_2 l0_2.length c0_2] 29 (0,0)) (by (with_reducible repeat (first|refine zJ ?_ _|refine zK ?_|refine zL ?_ _));exact BK589.out) hb);have n1_:=zM (blk_below (g:=gb590) (o := .cells #[.int .i64 a2_0,.int .i64 a2_1] 48 (0,0)) (by (with_reducible repeat (first|refine zJ ?_ _|refine zK ?_|refine zL ?_ _));exact BK590.out) hb);have n2_:=zM (blk_below (g:=gb591) (o := .cells #[.int .i64 a3_0,.int .i64 a3_1] 48 (0,0)) (by (with_reducible repeat (first|refine zJ ?_ _|refine zK ?_|refine zL ?_ _));exact BK591.out) hb);have n3_:=zM (zQ (by repeat (first|(with_reducible first|exact HB.out|apply zD|apply zE|apply zF|refine below_set ?_ GE589.out|refine below_set ?_ GE590.out|refine below_set ?_ GE591.out)|exact HB.out)) hb);clear BK589;clear BK590;clear BK591;clear HB;have BK589:=n0_;have BK590:=n1_;have BK591:=n2_;have HB:=n3_;clear n0_ n1_ n2_ n3_;(try clear hb);(try clear hb2);(try clear hk);(try clear hi)))
   go_meet
   case rel=>exact ⟨_,(true),(by first|rfl|(simp;done)|(simp [*];done)),H',⟨by first|omega|exact Nat.le_refl _⟩,⟨by (with_reducible repeat (first|refine zJ ?_ _|refine zK ?_|refine zL ?_ _));exact BK589.out⟩,⟨by (with_reducible repeat (first|refine zJ ?_ _|refine zK ?_|refine zL ?_ _));exact BK590.out⟩,⟨by (with_reducible repeat (first|refine zJ ?_ _|refine zK ?_|refine zL ?_ _));exact BK591.out⟩,⟨by repeat (first|(with_reducible first|exact HB.out|apply zD|apply zE|apply zF|refine below_set ?_ GE589.out|refine below_set ?_ GE590.out|refine below_set ?_ GE591.out)|exact HB.out)⟩⟩
 case rest =>
  clear HC5;(try clear c1);(try clear c2);(try clear p2);(try clear c3);(try clear c6);(try clear c10);(try clear c11);(try clear c12);(try clear c14);(try clear c18);(try clear c19);(try clear c21);(try clear hcz13_0);(try clear hcz13_1);(try clear hcz13_2);(try clear hcz15_0);(try clear hcz15_1);(try clear hcz16_0);(try clear hcz16_1);(try clear hcz20_0);(try clear hcz20_1);(try clear hcz20_2);(try clear hcz22_0);(try clear hcz22_1);(try clear hcz23_0);(try clear hcz23_1);(try clear hfz13_0);(try clear hfz13_1);(try clear hfz13_2);(try clear hfz15_0);(try clear hfz15_1);(try clear hfz16_0);(try clear hfz16_1);(try clear hfz20_0);(try clear hfz20_1);(try clear hfz20_2);(try clear hfz22_0);(try clear hfz22_1);(try clear hfz23_0);(try clear hfz23_1);obtain ⟨kq,x20_4,rfl,HA,HJ4,BK589,BK590,BK591,HB⟩:=hcut;cases kq with
  | zero=>exact absurd HA.out (by simp [spec_SafePath.j0])
  | succ kj4 =>
   have H:=HA.out;clear HA;simp only [spec_SafePath.j0] at H
   by_cases c25:x20_4 = true
   ·subst c25
    have H1:(some ((([]:List (S48))),false)) = some (r1,r2):=by rw [if_pos rfl] at H;exact H
    clear H;have H:=H1;clear H1;obtain ⟨y593,hy593⟩ : ∃ y_:List (S48),y_ = (([]:List (S48))):=⟨_,rfl⟩
    replace H:(some (y593,false)) = some (r1,r2):=by first|(rw [hy593];with_reducible exact H)|(have H2_:=(Option.bind_some _ _).symm.trans H;rw [hy593];with_reducible exact H2_)|(have H2_:=(Option.bind_some _ _).symm.trans H;with_reducible exact H2_)|with_reducible exact H|(rw [hy593];exact H)|exact H
    have Ny593:=zM hy593;clear hy593;simp only [Option.some.injEq,Prod.mk.injEq] at H
    obtain ⟨rfl,rfl⟩:=H;go_wp2_with (first|((with_reducible refine gate_dst (N:=21) rfl ?_);(try (refine gate_guard (by rfl) ?_;dsimp only));refine Kd.R_lit k48 _ 48 ?hg (N:=21) ?hd (xs:=([]:List (S48))) (inner:=[]) (ok:=fun _=>True) (okp:=fun _=>True) ?hr ?hp (fun _ hk=>hk) trivial (Below.refl _ _) (Nat.le_refl _) (by simp) ?_;(case hd=>rfl);(case hg=>rfl);(case hr=>first|(go_simp;done)|(go_simp;rfl));(case hp=>exact (Reps.none _ _));intro v594 w26 ho27 hb hg_ hnew_;clear hg_ hnew_;(first|rw [← Ny593.out] at ho27|(simp only [Int.reduceToNat] at ho27;rw [← Ny593.out] at ho27));have n0_:=zM (Kd.R_lower (Kd.R_newB (Kd.R_newB ho27 (g:=gb590) (o := .cells #[.int .i64 a2_0,.int .i64 a2_1] 48 (0,0)) (by (with_reducible repeat (first|refine zJ ?_ _|refine zK ?_|refine zL ?_ _));exact BK590.out)) (g:=gb591) (o := .cells #[.int .i64 a3_0,.int .i64 a3_1] 48 (0,0)) (by (with_reducible repeat (first|refine zJ ?_ _|refine zK ?_|refine zL ?_ _));exact BK591.out)) (zR (by repeat (first|(with_reducible first|exact HB.out|apply zD|apply zE|apply zF|refine below_set ?_ GE589.out|refine below_set ?_ GE590.out|refine below_set ?_ GE591.out)|exact HB.out))));have n1_:=zM (blk_below (g:=gb589) (o := .cells #[.int .i64 a0_0,.int .i64 a0_1,.slice A0_2 l0_2.length c0_2] 29 (0,0)) (by (with_reducible repeat (first|refine zJ ?_ _|refine zK ?_|refine zL ?_ _));exact BK589.out) hb);have n2_:=zM (blk_below (g:=gb590) (o := .cells #[.int .i64 a2_0,.int .i64 a2_1] 48 (0,0)) (by (with_reducible repeat (first|refine zJ ?_ _|refine zK ?_|refine zL ?_ _));exact BK590.out) hb);have n3_:=zM (blk_below (g:=gb591) (o := .cells #[.int .i64 a3_0,.int .i64 a3_1] 48 (0,0)) (by (with_reducible repeat (first|refine zJ ?_ _|refine zK ?_|refine zL ?_ _));exact BK591.out) hb);have n4_:=zM (zQ (by repeat (first|(with_reducible first|exact HB.out|apply zD|apply zE|apply zF|refine below_set ?_ GE589.out|refine below_set ?_ GE590.out|refine below_set ?_ GE591.out)|exact HB.out)) hb);clear BK589;clear BK590;clear BK591;clear HB;have HO595:=n0_;have BK589:=n1_;have BK590:=n2_;have BK591:=n3_;have HB:=n4_;clear n0_ n1_ n2_ n3_ n4_;clear hb ho27))
    go_ret2
    exact ⟨_,by first|rfl|(simp [errW_none,errW_some] <;> rfl)|(simp [*,errW_none,errW_some] <;> rfl),by (with_reducible repeat (first|apply zA|apply zB|apply zC));exact Kd.R_mono HO595.out (fun _ hk=>trivial),by repeat (first|(with_reducible first|exact HB.out|apply zD|apply zE|apply zF|refine below_set ?_ GE589.out|refine below_set ?_ GE590.out|refine below_set ?_ GE591.out)|exact HB.out)⟩
   ·replace c25:=Bool.eq_false_iff.mpr c25
    subst c25;have H1:(spec_SafePath.l0 kj4 l1 0 a0_0 a0_1 l0_2 a2_0 a2_1 a3_0 a3_1) = some (r1,r2):=by rw [if_neg (show ¬ (false = true) by decide)] at H;exact H
    clear H;have H:=H1;clear H1;have H':=zM H;clear H;go_wp2
    go_loopg [10] kj4 (fun kq v10 w' => ∃ (x10_2:Int),v10 = .int .i64 x10_2 ∧ Aside0 (spec_SafePath.l0 kq l1 x10_2 a0_0 a0_1 l0_2 a2_0 a2_1 a3_0 a3_1 = some (r1,r2)) ∧ Aside0 (kq ≤ kj4) ∧ Aside0 (w'.heap[gb589]? = some (.cells #[.int .i64 a0_0,.int .i64 a0_1,(.slice A0_2 l0_2.length c0_2)] 29 (0,0))) ∧ Aside0 (w'.heap[gb590]? = some (.cells #[.int .i64 a2_0,.int .i64 a2_1] 48 (0,0))) ∧ Aside0 (w'.heap[gb591]? = some (.cells #[.int .i64 a3_0,.int .i64 a3_1] 48 (0,0))) ∧ Aside0 (Below w.heap.size w w'))
    case atStart=>exact ⟨(0),(by first|rfl|(simp;done)|(simp [*];done)),H',⟨Nat.le_refl _⟩,⟨by (with_reducible repeat (first|refine zJ ?_ _|refine zK ?_|refine zL ?_ _));exact BK589.out⟩,⟨by (with_reducible repeat (first|refine zJ ?_ _|refine zK ?_|refine zL ?_ _));exact BK590.out⟩,⟨by (with_reducible repeat (first|refine zJ ?_ _|refine zK ?_|refine zL ?_ _));exact BK591.out⟩,⟨by repeat (first|(with_reducible first|exact HB.out|apply zD|apply zE|apply zF|refine below_set ?_ GE589.out|refine below_set ?_ GE590.out|refine below_set ?_ GE591.out)|exact HB.out)⟩⟩
    case round =>
     clear H';(try clear c1);(try clear c2);(try clear p2);(try clear c3);(try clear c6);(try clear c10);(try clear c11);(try clear c12);(try clear c14);(try clear c18);(try clear c19);(try clear c21);(try clear c25);(try clear hcz13_0);(try clear hcz13_1);(try clear hcz13_2);(try clear hcz15_0);(try clear hcz15_1);(try clear hcz16_0);(try clear hcz16_1);(try clear hcz20_0);(try clear hcz20_1);(try clear hcz20_2);(try clear hcz22_0);(try clear hcz22_1);(try clear hcz23_0);(try clear hcz23_1);(try clear hfz13_0);(try clear hfz13_1);(try clear hfz13_2);(try clear hfz15_0);(try clear hfz15_1);(try clear hfz16_0);(try clear hfz16_1);(try clear hfz20_0);(try clear hfz20_1);(try clear hfz20_2);(try clear hfz22_0);(try clear hfz22_1);(try clear hfz23_0);(try clear hfz23_1);(try clear p2);obtain ⟨x10_2,rfl,HA,HK2,BK589,BK590,BK591,HB⟩:=hrel;cases gk with
     | zero=>exact absurd HA.out (by simp [spec_SafePath.l0])
     | succ k2 =>
      have H:=HA.out;clear HA;simp only [spec_SafePath.l0] at H
      by_cases c28:x10_2 < (l1.length:Int)
      ·rw [if_pos c28] at H
       have c28b0:decide (x10_2 < (l1.length:Int)) = true:=decide_eq_true c28
       clear c28;by_cases c29:0 ≤ x10_2
       ·rw [if_pos c29] at H
        have c29b0:decide (0 ≤ x10_2) = true:=decide_eq_true c29
        clear c29;replace H:=Option.bind_eq_some_iff.mp H;obtain ⟨t597,A300,H⟩:=H;replace H:(if t597 = true then (spec_SafePath.l0 k2 l1 (wrap64 (x10_2 + 1)) a0_0 a0_1 l0_2 a2_0 a2_1 a3_0 a3_1) else (some ((([]:List (S48))),false))) = some (r1,r2):=H
        have A30:=zM A300;clear A300;by_cases c31:t597 = true
        ·subst c31
         have H1:(spec_SafePath.l0 k2 l1 (wrap64 (x10_2 + 1)) a0_0 a0_1 l0_2 a2_0 a2_1 a3_0 a3_1) = some (r1,r2):=by rw [if_pos rfl] at H;exact H
         clear H;have H:=H1;clear H1;have H':=zM H;clear H;try go_wp2
         have n0_:=zM (zK BK589.out);have n1_:=zM (zK BK590.out);have n2_:=zM (zK BK591.out);have n3_:=zM (zF HB.out);clear BK589;clear BK590;clear BK591;clear HB;have BK589:=n0_;have BK590:=n1_;have BK591:=n2_;have HB:=n3_;clear n0_ n1_ n2_ n3_;have p596:0 ≤ (x10_2:Int):=of_decide_eq_true (by first|(with_reducible assumption)|assumption)
         have q596:x10_2 < (l1.length:Int):=of_decide_eq_true (by first|(with_reducible assumption)|assumption)
         obtain ⟨ad596,A596_0,c596_0,e596,hx596_0,hl596_0,hi596_0⟩:=at_L6 HR1.out x10_2 p596 q596;have hw596_0:=hx596_0;cases e596
         replace hx596_0:=zS HB.out hx596_0;have HR596_0:=zM hi596_0;have HC596_0:=zM hl596_0;clear hi596_0 hl596_0;replace p596:=eq_true p596;replace q596:=eq_true q596;refine start_ (n:=7) (S:=fun w'=>w'.cell? ⟨gb589,0,none⟩ = some (.int .i64 a0_0) ∧ w'.cell? ⟨gb589,1,none⟩ = some (.int .i64 a0_1) ∧ w'.cell? ⟨gb589,2,none⟩ = some (.slice A0_2 l0_2.length c0_2) ∧ w'.cell? (ad596.add (x10_2).toNat) = some (.slice A596_0 (rd_L6 l1 x10_2).length c596_0)) (ds:=[]) #[false,false,false,false,false,false,false] (by kernel_rfl) rfl rfl ⟨(blk_cell BK589.out 0).trans rfl,(blk_cell BK589.out 1).trans rfl,(blk_cell BK589.out 2).trans rfl,(zS HB.out hw596_0 :)⟩ (fun hHeld=>?_)
         generalize wr.drew = w32 at BK589 BK590 BK591 HB HR596_0 hx596_0 hHeld ⊢
         refine zzp 1 29 (zzb 7 2) ?_;refine zzp 2 30 (zzb 7 6) ?_;refine zzp 3 31 (zzb 7 14) ?_
         refine zzt 0 28 (zzb 7 15) hHeld ?_ (hy:=by rintro w' ⟨s0,s1,s2,s3⟩;go_simp;with_reducible rfl)
         refine zzt 4 32 (zzb 7 31) hHeld ?_ (hy:=by rintro w' ⟨s0,s1,s2,s3⟩;go_simp;with_reducible rfl)
         refine one_ (i:=5) (N:=some 33) #[true,true,true,true,true,true,false] rfl rfl (by kernel_rfl) (by decide) (fun K hK=>?_)
         refine goes_ Try.func57 (by kernel_rfl) rfl #[.agg #[.int .i64 a0_0,.int .i64 a0_1,.slice A0_2 l0_2.length c0_2],.slice A596_0 (rd_L6 l1 x10_2).length c596_0] (by rfl) rfl rfl (by (try simp only [List.map_toArray,List.map_cons,List.map_nil]);first|done|rfl|(simp only [List.length_drop,List.length_take];rfl)) ?_
         with_reducible refine (spec_l16Path.calls k2 a0_0 a0_1 _ _ l0_2 _ _ (rd_L6 l1 x10_2) true _ ?side1 ?side2 ?side3 ?side4 A30.out).mono ?_
         (case side1=>repeat (first|exact (zO HR0_2.out HB.out)|(with_reducible first|refine zG ?_ _|refine zH ?_ _|refine zI ?_)))
         (case side2=>exact HC0_2.out)
         (case side3=>repeat (first|exact (zO HR596_0.out HB.out)|(with_reducible first|refine zG ?_ _|refine zH ?_ _|refine zI ?_)))
         (case side4=>exact HC596_0.out)
         rintro e w33 ⟨rfl,hb⟩
         refine ⟨_,rfl,?_⟩
         have n0_:=zM (blk_below (g:=gb589) (o := .cells #[.int .i64 a0_0,.int .i64 a0_1,.slice A0_2 l0_2.length c0_2] 29 (0,0)) (by (with_reducible repeat (first|refine zJ ?_ _|refine zK ?_|refine zL ?_ _));exact BK589.out) hb)
         have n1_:=zM (blk_below (g:=gb590) (o := .cells #[.int .i64 a2_0,.int .i64 a2_1] 48 (0,0)) (by (with_reducible repeat (first|refine zJ ?_ _|refine zK ?_|refine zL ?_ _));exact BK590.out) hb)
         have n2_:=zM (blk_below (g:=gb591) (o := .cells #[.int .i64 a3_0,.int .i64 a3_1] 48 (0,0)) (by (with_reducible repeat (first|refine zJ ?_ _|refine zK ?_|refine zL ?_ _));exact BK591.out) hb)
         have n3_:=zM (zQ (by repeat (first|(with_reducible first|exact HB.out|apply zD|apply zE|apply zF|refine below_set ?_ GE589.out|refine below_set ?_ GE590.out|refine below_set ?_ GE591.out)|exact HB.out)) hb)
         clear BK589;clear BK590;clear BK591;clear HB;have BK589:=n0_;have BK590:=n1_;have BK591:=n2_;have HB:=n3_;clear n0_ n1_ n2_ n3_;(try clear hb)
         (try clear hb2)
         (try clear hk)
         (try clear hi)
         refine hK.out _ _ ⟨(blk_cell BK589.out 0).trans rfl,(blk_cell BK589.out 1).trans rfl,(blk_cell BK589.out 2).trans rfl,(zS HB.out hw596_0 :)⟩ (fun hHeld=>?_)
         clear hK K;refine zzn 33 ?_;refine zzp 6 34 (zzb 7 127) ?_
         refine done_ (by kernel_rfl) ?_
         try go_wp2
         go_roundg k2
         case measure=>have:=HJ4.out;have:=HK2.out;omega
         case rel=>exact ⟨(wrap64 (x10_2 + 1)),(by first|rfl|(simp;done)|(simp [*];done)),H',⟨by have:=HJ4.out;have:=HK2.out;omega⟩,⟨by (with_reducible repeat (first|refine zJ ?_ _|refine zK ?_|refine zL ?_ _));exact BK589.out⟩,⟨by (with_reducible repeat (first|refine zJ ?_ _|refine zK ?_|refine zL ?_ _));exact BK590.out⟩,⟨by (with_reducible repeat (first|refine zJ ?_ _|refine zK ?_|refine zL ?_ _));exact BK591.out⟩,⟨by repeat (first|(with_reducible first|exact HB.out|apply zD|apply zE|apply zF|refine below_set ?_ GE589.out|refine below_set ?_ GE590.out|refine below_set ?_ GE591.out)|exact HB.out)⟩⟩
        ·replace c31:=Bool.eq_false_iff.mpr c31
         subst c31;have H1:(some ((([]:List (S48))),false)) = some (r1,r2):=by rw [if_neg (show ¬ (false = true) by decide)] at H;exact H
         clear H;have H:=H1;clear H1;obtain ⟨y598,hy598⟩ : ∃ y_:List (S48),y_ = (([]:List (S48))):=⟨_,rfl⟩
         replace H:(some (y598,false)) = some (r1,r2):=by first|(rw [hy598];with_reducible exact H)|(have H2_:=(Option.bind_some _ _).symm.trans H;rw [hy598];with_reducible exact H2_)|(have H2_:=(Option.bind_some _ _).symm.trans H;with_reducible exact H2_)|with_reducible exact H|(rw [hy598];exact H)|exact H
         have Ny598:=zM hy598;clear hy598;simp only [Option.some.injEq,Prod.mk.injEq] at H
         obtain ⟨rfl,rfl⟩:=H;try go_wp2
         have n0_:=zM (zK BK589.out);have n1_:=zM (zK BK590.out);have n2_:=zM (zK BK591.out);have n3_:=zM (zF HB.out);clear BK589;clear BK590;clear BK591;clear HB;have BK589:=n0_;have BK590:=n1_;have BK591:=n2_;have HB:=n3_;clear n0_ n1_ n2_ n3_;have p596:0 ≤ (x10_2:Int):=of_decide_eq_true (by first|(with_reducible assumption)|assumption)
         have q596:x10_2 < (l1.length:Int):=of_decide_eq_true (by first|(with_reducible assumption)|assumption)
         obtain ⟨ad596,A596_0,c596_0,e596,hx596_0,hl596_0,hi596_0⟩:=at_L6 HR1.out x10_2 p596 q596;have hw596_0:=hx596_0;cases e596
         replace hx596_0:=zS HB.out hx596_0;have HR596_0:=zM hi596_0;have HC596_0:=zM hl596_0;clear hi596_0 hl596_0;replace p596:=eq_true p596;replace q596:=eq_true q596;refine start_ (n:=7) (S:=fun w'=>w'.cell? ⟨gb589,0,none⟩ = some (.int .i64 a0_0) ∧ w'.cell? ⟨gb589,1,none⟩ = some (.int .i64 a0_1) ∧ w'.cell? ⟨gb589,2,none⟩ = some (.slice A0_2 l0_2.length c0_2) ∧ w'.cell? (ad596.add (x10_2).toNat) = some (.slice A596_0 (rd_L6 l1 x10_2).length c596_0)) (ds:=[]) #[false,false,false,false,false,false,false] (by kernel_rfl) rfl rfl ⟨(blk_cell BK589.out 0).trans rfl,(blk_cell BK589.out 1).trans rfl,(blk_cell BK589.out 2).trans rfl,(zS HB.out hw596_0 :)⟩ (fun hHeld=>?_)
         generalize wr.drew = w34 at BK589 BK590 BK591 HB HR596_0 hx596_0 hHeld ⊢
         refine zzp 1 29 (zzb 7 2) ?_;refine zzp 2 30 (zzb 7 6) ?_;refine zzp 3 31 (zzb 7 14) ?_
         refine zzt 0 28 (zzb 7 15) hHeld ?_ (hy:=by rintro w' ⟨s0,s1,s2,s3⟩;go_simp;with_reducible rfl)
         refine zzt 4 32 (zzb 7 31) hHeld ?_ (hy:=by rintro w' ⟨s0,s1,s2,s3⟩;go_simp;with_reducible rfl)
         refine one_ (i:=5) (N:=some 33) #[true,true,true,true,true,true,false] rfl rfl (by kernel_rfl) (by decide) (fun K hK=>?_)
         refine goes_ Try.func57 (by kernel_rfl) rfl #[.agg #[.int .i64 a0_0,.int .i64 a0_1,.slice A0_2 l0_2.length c0_2],.slice A596_0 (rd_L6 l1 x10_2).length c596_0] (by rfl) rfl rfl (by (try simp only [List.map_toArray,List.map_cons,List.map_nil]);first|done|rfl|(simp only [List.length_drop,List.length_take];rfl)) ?_
         with_reducible refine (spec_l16Path.calls k2 a0_0 a0_1 _ _ l0_2 _ _ (rd_L6 l1 x10_2) false _ ?side1 ?side2 ?side3 ?side4 A30.out).mono ?_
         (case side1=>repeat (first|exact (zO HR0_2.out HB.out)|(with_reducible first|refine zG ?_ _|refine zH ?_ _|refine zI ?_)))
         (case side2=>exact HC0_2.out)
         (case side3=>repeat (first|exact (zO HR596_0.out HB.out)|(with_reducible first|refine zG ?_ _|refine zH ?_ _|refine zI ?_)))
         (case side4=>exact HC596_0.out)
         rintro e w35 ⟨rfl,hb⟩
         refine ⟨_,rfl,?_⟩
         have n0_:=zM (blk_below (g:=gb589) (o := .cells #[.int .i64 a0_0,.int .i64 a0_1,.slice A0_2 l0_2.length c0_2] 29 (0,0)) (by (with_reducible repeat (first|refine zJ ?_ _|refine zK ?_|refine zL ?_ _));exact BK589.out) hb)
         have n1_:=zM (blk_below (g:=gb590) (o := .cells #[.int .i64 a2_0,.int .i64 a2_1] 48 (0,0)) (by (with_reducible repeat (first|refine zJ ?_ _|refine zK ?_|refine zL ?_ _));exact BK590.out) hb)
         have n2_:=zM (blk_below (g:=gb591) (o := .cells #[.int .i64 a3_0,.int .i64 a3_1] 48 (0,0)) (by (with_reducible repeat (first|refine zJ ?_ _|refine zK ?_|refine zL ?_ _));exact BK591.out) hb)
         have n3_:=zM (zQ (by repeat (first|(with_reducible first|exact HB.out|apply zD|apply zE|apply zF|refine below_set ?_ GE589.out|refine below_set ?_ GE590.out|refine below_set ?_ GE591.out)|exact HB.out)) hb)
         clear BK589;clear BK590;clear BK591;clear HB;have BK589:=n0_;have BK590:=n1_;have BK591:=n2_;have HB:=n3_;clear n0_ n1_ n2_ n3_;(try clear hb)
         (try clear hb2)
         (try clear hk)
         (try clear hi)
         refine hK.out _ _ ⟨(blk_cell BK589.out 0).trans rfl,(blk_cell BK589.out 1).trans rfl,(blk_cell BK589.out 2).trans rfl,(zS HB.out hw596_0 :)⟩ (fun hHeld=>?_)
         clear hK K;refine zzn 33 ?_;refine zzp 6 34 (zzb 7 127) ?_
         refine done_ (by kernel_rfl) ?_
         try go_wp2_with (first|((with_reducible refine gate_dst (N:=35) rfl ?_);(try (refine gate_guard (by rfl) ?_;dsimp only));refine Kd.R_lit k48 _ 48 ?hg (N:=35) ?hd (xs:=([]:List (S48))) (inner:=[]) (ok:=fun _=>True) (okp:=fun _=>True) ?hr ?hp (fun _ hk=>hk) trivial (Below.refl _ _) (Nat.le_refl _) (by simp) ?_;(case hd=>rfl);(case hg=>rfl);(case hr=>first|(go_simp;done)|(go_simp;rfl));(case hp=>exact (Reps.none _ _));intro v599 w36 ho37 hb hg_ hnew_;clear hg_ hnew_;(first|rw [← Ny598.out] at ho37|(simp only [Int.reduceToNat] at ho37;rw [← Ny598.out] at ho37));have n0_:=zM (Kd.R_lower (Kd.R_newB (Kd.R_newB ho37 (g:=gb590) (o := .cells #[.int .i64 a2_0,.int .i64 a2_1] 48 (0,0)) (by (with_reducible repeat (first|refine zJ ?_ _|refine zK ?_|refine zL ?_ _));exact BK590.out)) (g:=gb591) (o := .cells #[.int .i64 a3_0,.int .i64 a3_1] 48 (0,0)) (by (with_reducible repeat (first|refine zJ ?_ _|refine zK ?_|refine zL ?_ _));exact BK591.out)) (zR (by repeat (first|(with_reducible first|exact HB.out|apply zD|apply zE|apply zF|refine below_set ?_ GE589.out|refine below_set ?_ GE590.out|refine below_set ?_ GE591.out)|exact HB.out))));have n1_:=zM (blk_below (g:=gb589) (o := .cells #[.int .i64 a0_0,.int .i64 a0_1,.slice A0_2 l0_2.length c0_2] 29 (0,0)) (by (with_reducible repeat (first|refine zJ ?_ _|refine zK ?_|refine zL ?_ _));exact BK589.out) hb);have n2_:=zM (blk_below (g:=gb590) (o := .cells #[.int .i64 a2_0,.int .i64 a2_1] 48 (0,0)) (by (with_reducible repeat (first|refine zJ ?_ _|refine zK ?_|refine zL ?_ _));exact BK590.out) hb);have n3_:=zM (blk_below (g:=gb591) (o := .cells #[.int .i64 a3_0,.int .i64 a3_1] 48 (0,0)) (by (with_reducible repeat (first|refine zJ ?_ _|refine zK ?_|refine zL ?_ _));exact BK591.out) hb);have n4_:=zM (zQ (by repeat (first|(with_reducible first|exact HB.out|apply zD|apply zE|apply zF|refine below_set ?_ GE589.out|refine below_set ?_ GE590.out|refine below_set ?_ GE591.out)|exact HB.out)) hb);clear BK589;clear BK590;clear BK591;clear HB;have HO600:=n0_;have BK589:=n1_;have BK590:=n2_;have BK591:=n3_;have HB:=n4_;clear n0_ n1_ n2_ n3_ n4_;clear hb ho37))
         go_ret2
         exact ⟨_,by first|rfl|(simp [errW_none,errW_some] <;> rfl)|(simp [*,errW_none,errW_some] <;> rfl),by (with_reducible repeat (first|apply zA|apply zB|apply zC));exact Kd.R_mono HO600.out (fun _ hk=>trivial),by repeat (first|(with_reducible first|exact HB.out|apply zD|apply zE|apply zF|refine below_set ?_ GE589.out|refine below_set ?_ GE590.out|refine below_set ?_ GE591.out)|exact HB.out)⟩
       ·rw [if_neg c29] at H
        exact absurd H (by simp)
      ·rw [if_neg c28] at H
       have c28b0:decide (x10_2 < (l1.length:Int)) = false:=decide_eq_false c28
       clear c28;replace H:=Option.bind_eq_some_iff.mp H;obtain ⟨⟨t601,t604⟩,A380,H⟩:=H;replace H:(some (t601,t604)) = some (r1,r2):=H
       have A38:=zM A380;clear A380;simp only [Option.some.injEq,Prod.mk.injEq] at H
       obtain ⟨rfl,rfl⟩:=H;have hnb39:=NB589_590.out;have hnc39:=NB590_589.out;have hnb40:=NB589_591.out;have hnc40:=NB591_589.out;have hcz41_0:wr.cell? ⟨gb589,0,none⟩ = some (.int .i64 a0_0):=(blk_cell BK589.out 0).trans rfl
       have hcz41_1:wr.cell? ⟨gb589,1,none⟩ = some (.int .i64 a0_1):=(blk_cell BK589.out 1).trans rfl
       have hcz41_2:wr.cell? ⟨gb589,2,none⟩ = some (.slice A0_2 l0_2.length c0_2):=(blk_cell BK589.out 2).trans rfl
       have hfz41_0:=blk_frozen BK589.out 0;have hfz41_1:=blk_frozen BK589.out 1;have hfz41_2:=blk_frozen BK589.out 2;have hnb42:=NB590_591.out;have hnc42:=NB591_590.out;have hcz43_0:wr.cell? ⟨gb590,0,none⟩ = some (.int .i64 a2_0):=(blk_cell BK590.out 0).trans rfl
       have hcz43_1:wr.cell? ⟨gb590,1,none⟩ = some (.int .i64 a2_1):=(blk_cell BK590.out 1).trans rfl
       have hfz43_0:=blk_frozen BK590.out 0;have hfz43_1:=blk_frozen BK590.out 1;have hcz44_0:wr.cell? ⟨gb591,0,none⟩ = some (.int .i64 a3_0):=(blk_cell BK591.out 0).trans rfl
       have hcz44_1:wr.cell? ⟨gb591,1,none⟩ = some (.int .i64 a3_1):=(blk_cell BK591.out 1).trans rfl
       have hfz44_0:=blk_frozen BK591.out 0;have hfz44_1:=blk_frozen BK591.out 1;go_wp2_with (first|((with_reducible refine gate_callee (f:=69) rfl ?_);refine goesL_ (some 40) rfl rfl Try.func69 (by kernel_rfl) rfl #[.agg #[.int .i64 a0_0,.int .i64 a0_1,.slice A0_2 l0_2.length c0_2],.slice A1 l1.length c1,.agg #[.int .i64 a2_0,.int .i64 a2_1],.agg #[.int .i64 a3_0,.int .i64 a3_1]] rfl (by (try simp only [List.map_toArray,List.map_cons,List.map_nil]);first|done|rfl|(simp only [List.length_drop,List.length_take];rfl)) ?_;(with_reducible refine (spec_l16Safe.calls a0_0 a0_1 _ _ l0_2 _ _ l1 a2_0 a2_1 a3_0 a3_1 t601 t604 _ ?side1 ?side2 ?side3 ?side4 A38.out).mono ?_);(case side1=>repeat (first|exact (zO HR0_2.out HB.out)|(with_reducible first|refine zG ?_ _|refine zH ?_ _|refine zI ?_)));(case side2=>exact HC0_2.out);(case side3=>repeat (first|exact (zO HR1.out HB.out)|(with_reducible first|refine zG ?_ _|refine zH ?_ _|refine zI ?_)));(case side4=>exact HC1.out);rintro e w45 ⟨v602,rfl,ho0,hb⟩;refine ⟨_,rfl,?_⟩;have n0_:=zM (Kd.R_lower (Kd.R_newB (Kd.R_newB ho0 (g:=gb590) (o := .cells #[.int .i64 a2_0,.int .i64 a2_1] 48 (0,0)) (by (with_reducible repeat (first|refine zJ ?_ _|refine zK ?_|refine zL ?_ _));exact BK590.out)) (g:=gb591) (o := .cells #[.int .i64 a3_0,.int .i64 a3_1] 48 (0,0)) (by (with_reducible repeat (first|refine zJ ?_ _|refine zK ?_|refine zL ?_ _));exact BK591.out)) (zR (by repeat (first|(with_reducible first|exact HB.out|apply zD|apply zE|apply zF|refine below_set ?_ GE589.out|refine below_set ?_ GE590.out|refine below_set ?_ GE591.out)|exact HB.out))));have n1_:=zM (blk_below (g:=gb589) (o := .cells #[.int .i64 a0_0,.int .i64 a0_1,.slice A0_2 l0_2.length c0_2] 29 (0,0)) (by (with_reducible repeat (first|refine zJ ?_ _|refine zK ?_|refine zL ?_ _));exact BK589.out) hb);have n2_:=zM (blk_below (g:=gb590) (o := .cells #[.int .i64 a2_0,.int .i64 a2_1] 48 (0,0)) (by (with_reducible repeat (first|refine zJ ?_ _|refine zK ?_|refine zL ?_ _));exact BK590.out) hb);have n3_:=zM (blk_below (g:=gb591) (o := .cells #[.int .i64 a3_0,.int .i64 a3_1] 48 (0,0)) (by (with_reducible repeat (first|refine zJ ?_ _|refine zK ?_|refine zL ?_ _));exact BK591.out) hb);have n4_:=zM (zQ (by repeat (first|(with_reducible first|exact HB.out|apply zD|apply zE|apply zF|refine below_set ?_ GE589.out|refine below_set ?_ GE590.out|refine below_set ?_ GE591.out)|exact HB.out)) hb);clear BK589;clear BK590;clear BK591;clear HB;have HO603:=n0_;have BK589:=n1_;have BK590:=n2_;have BK591:=n3_;have HB:=n4_;clear n0_ n1_ n2_ n3_ n4_;(try clear hb);(try clear hb2);(try clear hk);(try clear hi);(try clear ho0)))
       go_ret2
       exact ⟨_,by first|rfl|(simp [errW_none,errW_some] <;> rfl)|(simp [*,errW_none,errW_some] <;> rfl),by (with_reducible repeat (first|apply zA|apply zB|apply zC));exact Kd.R_mono HO603.out (fun _ hk=>trivial),by repeat (first|(with_reducible first|exact HB.out|apply zD|apply zE|apply zF|refine below_set ?_ GE589.out|refine below_set ?_ GE590.out|refine below_set ?_ GE591.out)|exact HB.out)⟩

end Go.Proofs.Ytbpccdbkaiigcaa.G

/- What spec.SafePath and impl.SafePath answer: the same. -/
namespace Go.Proofs.Ytbpccdbkaiigcaa.G
open Go.RowKit Go.Proofs.YtbpccdbkaiigcaaW.PrintWords Go.Proofs.YtbpccdbkaiigcaaW.PrintLast
set_option linter.unusedVariables false
set_option linter.unusedSimpArgs false
/-- What SafePath answers. -/
noncomputable def askR (w h : Int) (bl : List S48) (os : List (List S48)) (a b : S48) : List S48 × Bool:=chk (AskOk w h bl os a b) (safeR w h bl os a b) ([],false)
theorem askR_len (w h : Int) (bl : List S48) (os : List (List S48)) (a b : S48) : (askR w h bl os a b).1.length ≤ 25:=by
 unfold askR
 by_cases hc : AskOk w h bl os a b
 ·rw [chk_pos hc];exact safeR_len _ _ _ _ _ _
 ·rw [chk_neg hc];exact Nat.zero_le _
theorem impl_safe (w h : Int) (bl : List S48) (os : List (List S48)) (hb : (bl.length : Int) ≤ 1099511627776) (a0 a1 b0 b1 : Int) : impl_SafePath.f w h bl os a0 a1 b0 b1 = some (askR w h bl os ⟨a0,a1⟩ ⟨b0,b1⟩):=by
 unfold impl_SafePath.f askR
 rw [chk_pos hb]
theorem rd6_in (os : List (List S48)) (i : Int) (h0 : 0 ≤ i) (h1 : i < (os.length : Int)) : rd_L6 os i ∈ os:=by
 unfold rd_L6
 rw [List.getD_eq_getElem?_getD,List.getElem?_eq_getElem (by omega)]
 exact List.getElem_mem _
theorem all_rows {P : List S48 → Prop} {os : List (List S48)} (h : ∀ i : Int,0 ≤ i → i < (os.length : Int) → P (rd_L6 os i)) : ∀ p ∈ os,P p:=by
 intro p hp
 obtain ⟨i,hi,e⟩:=List.mem_iff_getElem.1 hp
 have:=h (i : Int) (by omega) (by omega)
 unfold rd_L6 at this
 rw [Int.toNat_natCast,List.getD_eq_getElem?_getD,List.getElem?_eq_getElem hi] at this
 rw [← e]
 exact this
theorem spec_safe (w h : Int) (bl : List S48) (os : List (List S48)) (hb : (bl.length : Int) ≤ 1099511627776) (hos : ∀ p ∈ os,(p.length : Int) ≤ 1099511627776) (a0 a1 b0 b1 : Int) : Ev (fun k=>spec_SafePath.f k w h bl os a0 a1 b0 b1) (askR w h bl os ⟨a0,a1⟩ ⟨b0,b1⟩):=by
 obtain ⟨a,ha⟩ : ∃ a : S48,a = ⟨a0,a1⟩:=⟨_,rfl⟩
 obtain ⟨b,hb'⟩ : ∃ b : S48,b = ⟨b0,b1⟩:=⟨_,rfl⟩
 rw [← ha,← hb']
 obtain rfl : a.f0 = a0:=by rw [ha]
 obtain rfl : a.f1 = a1:=by rw [ha]
 obtain rfl : b.f0 = b0:=by rw [hb']
 obtain rfl : b.f1 = b1:=by rw [hb']
 clear ha hb'
 unfold spec_SafePath.f
 refine Ev.bind (spec_asked w h bl hb a b) ?_
 by_cases hc : FloorOk w h bl ∧ Free w h bl a ∧ Free w h bl b
 ·rw [chk_pos hc]
  simp only [if_true]
  refine Ev.step (fun k=>by rw [spec_SafePath.j0]) ?_
  by_cases hl : (os.length : Int) > 3
  ·rw [decide_eq_true hl]
   simp only [if_true]
   unfold askR
   rw [chk_neg (fun x=>by have:=x.2.1;omega)]
   exact Ev.now _
  ·rw [decide_eq_false hl]
   simp only [Bool.false_eq_true,if_false]
   refine Ev.up (fun k (_ : Unit) i=>spec_SafePath.l0 k os i w h bl a.f0 a.f1 b.f0 b.f1) (fun _ _=>askR w h bl os a b) (fun _ i=>0 ≤ i ∧ ∀ j : Int,0 ≤ j → j < i → PathOk w h bl (rd_L6 os j)) (os.length : Int) ?_ ?_ () 0 ⟨Int.le_refl _,fun j h0 h1=>by omega⟩ (by omega)
   ·rintro _ ⟨_,hp⟩
    refine Ev.step (fun k=>by rw [spec_SafePath.l0]) ?_
    have hok : AskOk w h bl os a b:=⟨hc.1,by omega,hc.2.1,hc.2.2,all_rows hp⟩
    simp only [Int.lt_irrefl,if_false]
    unfold spec_l16Safe.f
    rw [chk_pos (show SafeOk w h bl os ⟨a.f0,a.f1⟩ ⟨b.f0,b.f1⟩ from ⟨hc.1,hb,hc.2.1,hc.2.2,hok.len⟩)]
    simp only [Option.bind_some]
    unfold askR
    rw [chk_pos hok]
    exact Ev.now _
   ·rintro _ i ⟨h0,hp⟩ hlt ih
    refine Ev.step (fun k=>by rw [spec_SafePath.l0]) ?_
    have e9 : wrap64 (i + 1) = i + 1:=wrap64_id (by omega) (by omega)
    simp only [if_pos hlt,if_pos h0,e9]
    refine Ev.bind (spec_path hc.1 hb _ (hos _ (rd6_in os i h0 hlt))) ?_
    by_cases hpi : PathOk w h bl (rd_L6 os i)
    ·rw [chk_pos hpi]
     simp only [if_true]
     exact ih () ⟨by omega,fun j j0 j1=>by
      by_cases e : j = i
      ·rw [e];exact hpi
      ·exact hp j j0 (by omega)⟩
    ·rw [chk_neg hpi]
     simp only [Bool.false_eq_true,if_false]
     unfold askR
     rw [chk_neg (fun x=>hpi (x.2.2.2.2 _ (rd6_in os i h0 hlt)))]
     exact Ev.now _
 ·rw [chk_neg hc]
  simp only [Bool.false_eq_true,if_false]
  refine Ev.step (fun k=>by rw [spec_SafePath.j0]) ?_
  simp only [if_true]
  unfold askR
  rw [chk_neg (fun x=>hc ⟨x.1,x.2.2.1,x.2.2.2.1⟩)]
  exact Ev.now _
end Go.Proofs.Ytbpccdbkaiigcaa.G

-- Written by wip/tools/gen.py out of the translation (the kit's printer, one namespace a seat). Lean checks it.
namespace Go.Proofs.Ytbpccdbkaiigcaa.G
open Go.RowKit Go.Proofs.YtbpccdbkaiigcaaW.PrintWords Go.Proofs.YtbpccdbkaiigcaaW.PrintLast Go.Proofs.YtbpccdbkaiigcaaW.PrintMore
attribute [local go_sem] max2_int min2_int max_two min_two max_three min_three max_four min_four   -- for this text's walks alone
set_option linter.unusedVariables false
set_option linter.unusedSimpArgs false

/-! ### laws_szCellS: function 18 -/
def laws_szCellS.f (l0:List (S44)) (a1:Int):Option (Int):=if (wrap64 (a1 - (l0.length:Int))) < 0 then (some (-1)) else (some (wrap64 (a1 - (l0.length:Int))))
set_option maxHeartbeats 8000000 in
set_option maxRecDepth 100000 in
theorem laws_szCellS.calls (A0:Option Addr) (c0:Nat) (l0:List (S44)) (a1:Int) (r:Int) (w:World) (hr0:Kd.C k44 w A0 l0.length l0) (hc0:l0.length ≤ c0) (h:laws_szCellS.f l0 a1 = some r) :
  Calls Try.prog 18 #[.slice A0 l0.length c0,.int .i64 a1] w fun e w'=>e = .returned (.int .i64 r) ∧ Drawn0 w w':=by
 have HR0:=zM hr0;have HC0:=zM hc0;clear hr0 hc0;have H:(if (wrap64 (a1 - (l0.length:Int))) < 0 then (some (-1)) else (some (wrap64 (a1 - (l0.length:Int))))) = some r:=h
 clear h;by_cases c3:(wrap64 (a1 - (l0.length:Int))) < 0
 ·rw [if_pos c3] at H
  have c3b0:decide ((wrap64 (a1 - (l0.length:Int))) < 0) = true:=decide_eq_true c3
  clear c3;obtain rfl:=Option.some.inj H;go_enter Try.func18,Try.ntmps18
  go_wp2
  go_ret
  exact ⟨by first|rfl|(simp;done)|(simp [*];done),by repeat (first|exact Drawn0.refl _|apply Drawn0.step)⟩
 ·rw [if_neg c3] at H
  have c3b0:decide ((wrap64 (a1 - (l0.length:Int))) < 0) = false:=decide_eq_false c3
  clear c3;obtain rfl:=Option.some.inj H;go_enter Try.func18,Try.ntmps18
  go_wp2
  go_ret
  exact ⟨by first|rfl|(simp;done)|(simp [*];done),by repeat (first|exact Drawn0.refl _|apply Drawn0.step)⟩



/-! ### laws_toCellS: function 20 -/
def laws_toCellS.l0:Nat → List (S44) → List (S48) → Int → Option ((List (S48)))
 | 0,_,_,_=>none
 | k + 1,x0,x3,x4=>if x4 < (x0.length:Int) then (if 0 ≤ x4 then ((laws_toCell.f ((rd_T44 x0 x4).f0) ((rd_T44 x0 x4).f1)).bind fun bt125=>(if x4 < (x3.length:Int) then (laws_toCellS.l0 k x0 (x3.set (x4:Int).toNat (⟨bt125.1,bt125.2⟩ : S48)) (wrap64 (x4 + 1))) else (none))) else (none)) else (some x3)
def laws_toCellS.f (k:Nat) (l0:List (S44)):Option ((List (S48))):=if 0 ≤ (l0.length:Int) then (if ((l0.length:Int):Int).toNat ≤ 17592186044416 then (laws_toCellS.l0 k l0 (List.replicate ((l0.length:Int):Int).toNat z48) 0) else (none)) else (none)
set_option maxHeartbeats 8000000 in
set_option maxRecDepth 100000 in
theorem laws_toCellS.calls (k:Nat) (A0:Option Addr) (c0:Nat) (l0:List (S44)) (r:List (S48)) (w:World) (hr0:Kd.C k44 w A0 l0.length l0) (hc0:l0.length ≤ c0) (h:laws_toCellS.f k l0 = some r) :
  Calls Try.prog 20 #[.slice A0 l0.length c0] w fun e w' => ∃ v0_:Value,e = .returned (v0_) ∧ Kd.R k48 48 w' w.heap.size (fun _=>True) v0_ r ∧ Below w.heap.size w w':=by
 have hu44:=Try.underlying44;have hu48:=Try.underlying48;have HR0:=zM hr0;have HC0:=zM hc0;clear hr0 hc0;have HB:=zM (Below.refl w.heap.size w);have H:(if 0 ≤ (l0.length:Int) then (if ((l0.length:Int):Int).toNat ≤ 17592186044416 then (laws_toCellS.l0 k l0 (List.replicate ((l0.length:Int):Int).toNat z48) 0) else (none)) else (none)) = some r:=h
 clear h;by_cases c2:0 ≤ (l0.length:Int)
 ·rw [if_pos c2] at H
  have c2b0:=eq_true c2;have c2b1:decide (0 ≤ (l0.length:Int)) = true:=decide_eq_true c2
  clear c2;by_cases c3:((l0.length:Int):Int).toNat ≤ 17592186044416
  ·rw [if_pos c3] at H
   have c3b0:=eq_true c3;have c3b1:decide (((l0.length:Int):Int).toNat ≤ 17592186044416) = true:=decide_eq_true c3
   clear c3;obtain ⟨y121,hy121⟩ : ∃ y_:List (S48),y_ = (List.replicate ((l0.length:Int):Int).toNat z48):=⟨_,rfl⟩
   replace H:(laws_toCellS.l0 k l0 y121 0) = some r:=by first|(rw [hy121];with_reducible exact H)|(have H2_:=(Option.bind_some _ _).symm.trans H;rw [hy121];with_reducible exact H2_)|(have H2_:=(Option.bind_some _ _).symm.trans H;with_reducible exact H2_)|with_reducible exact H|(rw [hy121];exact H)|exact H
   have Ny121:=zM hy121;clear hy121;have H':=zM H;clear H;go_enter Try.func20,Try.ntmps20
   go_wp2_with (first|((with_reducible refine gate_dst (N:=7) rfl ?_);refine Kd.R_make k48 _ 48 rfl (N:=7) rfl 27 _ _ rfl (l0.length:Int) rfl rfl Try.underlying27 (.agg #[(.int .i64 0),(.int .i64 0)]) 16 info48 rfl (by decide) (by omega) z48 (ok:=fun _=>True) (okp:=fun _=>True) (k48_mkM _ _ _ z48 ) (fun _ hk=>hk) trivial (of_decide_eq_true (by first|(with_reducible assumption)|assumption)) (Nat.le_trans (Nat.mul_le_mul_right _ (of_decide_eq_true (by first|(with_reducible assumption)|assumption):(l0.length:Int).toNat ≤ 17592186044416)) (by omega)) (Below.refl _ _) (Nat.le_refl _) ?_;intro v122 w4 ho5 hb hg_ hnew_;clear hg_ hnew_;(first|rw [← Ny121.out] at ho5|(simp only [Int.reduceToNat] at ho5;rw [← Ny121.out] at ho5));have n0_:=zM (Kd.R_lower ho5 (zR (by repeat (first|(with_reducible first|exact HB.out|apply zD|apply zE|apply zF)|exact HB.out))));have n1_:=zM (zQ (by repeat (first|(with_reducible first|exact HB.out|apply zD|apply zE|apply zF)|exact HB.out)) hb);clear HB;have HO123:=n0_;have HB:=n1_;clear n0_ n1_;clear hb ho5))
   go_loopg [4] k (fun kq v4 w' => ∃ (x3_1:List (S48)) (x4_1:Int),v4 = .int .i64 x4_1 ∧ Aside0 (laws_toCellS.l0 kq l0 x3_1 x4_1 = some r) ∧ Aside0 (kq ≤ k) ∧ Aside0 (Kd.R k48 48 w' w.heap.size (fun _=>True) v122 x3_1) ∧ Aside0 (Below w.heap.size w w'))
   case atStart=>exact ⟨(y121),(0),(by first|rfl|(simp;done)|(simp [*];done)),H',⟨Nat.le_refl _⟩,⟨by (with_reducible repeat (first|apply zA|apply zB|apply zC));exact HO123.out⟩,⟨by repeat (first|(with_reducible first|exact HB.out|apply zD|apply zE|apply zF)|exact HB.out)⟩⟩
   case round =>
    clear H';(try clear c2);(try clear c2b0);(try clear c2b1);(try clear p2);(try clear c3);(try clear c3b0);(try clear c3b1);obtain ⟨x3_1,x4_1,rfl,HA,HK1,HO_3,HB⟩:=hrel;cases gk with
    | zero=>exact absurd HA.out (by simp [laws_toCellS.l0])
    | succ k1 =>
     have H:=HA.out;clear HA;simp only [laws_toCellS.l0] at H
     by_cases c6:x4_1 < (l0.length:Int)
     ·rw [if_pos c6] at H
      have c6b0:decide (x4_1 < (l0.length:Int)) = true:=decide_eq_true c6
      clear c6;by_cases c7:0 ≤ x4_1
      ·rw [if_pos c7] at H
       have c7b0:decide (0 ≤ x4_1) = true:=decide_eq_true c7
       clear c7;replace H:=Option.bind_eq_some_iff.mp H;obtain ⟨⟨t125,t126⟩,A80,H⟩:=H;replace H:(if x4_1 < (x3_1.length:Int) then (laws_toCellS.l0 k1 l0 (x3_1.set (x4_1:Int).toNat (⟨t125,t126⟩ : S48)) (wrap64 (x4_1 + 1))) else (none)) = some r:=H
       have A8:=zM A80;clear A80;by_cases c9:x4_1 < (x3_1.length:Int)
       ·rw [if_pos c9] at H
        have c9b0:decide (x4_1 < (x3_1.length:Int)) = true:=decide_eq_true c9
        clear c9;obtain ⟨y127,hy127⟩ : ∃ y_:List (S48),y_ = (x3_1.set (x4_1:Int).toNat (⟨t125,t126⟩ : S48)):=⟨_,rfl⟩
        replace H:(laws_toCellS.l0 k1 l0 y127 (wrap64 (x4_1 + 1))) = some r:=by first|(rw [hy127];with_reducible exact H)|(have H2_:=(Option.bind_some _ _).symm.trans H;rw [hy127];with_reducible exact H2_)|(have H2_:=(Option.bind_some _ _).symm.trans H;with_reducible exact H2_)|with_reducible exact H|(rw [hy127];exact H)|exact H
        have Ny127:=zM hy127;clear hy127;have H':=zM H;clear H;have p124:0 ≤ (x4_1:Int):=of_decide_eq_true (by first|(with_reducible assumption)|assumption)
        have q124:x4_1 < (l0.length:Int):=of_decide_eq_true (by first|(with_reducible assumption)|assumption)
        obtain ⟨ad124,e124,hx124_0,hx124_1⟩:=at_T44 HR0.out x4_1 p124 q124;cases e124
        replace hx124_0:=zS HB.out hx124_0;replace hx124_1:=zS HB.out hx124_1;replace p124:=eq_true p124;replace q124:=eq_true q124;go_wp2_with (first|((with_reducible refine gate_callee (f:=28) rfl ?_);refine goesL_ (some 20) rfl rfl Try.func28 (by kernel_rfl) rfl #[.agg #[.int .i64 ((rd_T44 l0 x4_1).f0),.int .i64 ((rd_T44 l0 x4_1).f1)]] rfl (by (try simp only [List.map_toArray,List.map_cons,List.map_nil]);first|done|rfl|(simp only [List.length_drop,List.length_take];rfl)) ?_;(with_reducible refine (laws_toCell.calls ((rd_T44 l0 x4_1).f0) ((rd_T44 l0 x4_1).f1) t125 t126 _ A8.out).mono ?_);rintro e w11 ⟨rfl,hb⟩;refine ⟨_,rfl,?_⟩;have n0_:=zM (zP (by (with_reducible repeat (first|apply zA|apply zB|apply zC));exact HO_3.out) hb);have n1_:=zM (zQ (by repeat (first|(with_reducible first|exact HB.out|apply zD|apply zE|apply zF)|exact HB.out)) hb);clear HO_3;clear HB;have HO_3:=n0_;have HB:=n1_;clear n0_ n1_;(try clear hb);(try clear hb2);(try clear hk);(try clear hi);have p10:0 ≤ (x4_1:Int):=of_decide_eq_true (by first|(with_reducible assumption)|assumption);have q10:(x4_1:Int) < ((x3_1.length:Int):Int):=of_decide_eq_true (by first|(with_reducible assumption)|assumption);obtain ⟨go10,co10,eo10,gb10,gl10,cl10,HG10⟩:=Kd.R_form HO_3.out (by omega);(first|cases eo10|(injection eo10 with ea_ en_ ec_;(first|subst ea_|(injection ea_ with ea_;subst ea_));subst ec_;clear en_));have GB10:=zM gb10;have GG10:=zM HG10;clear gb10 gl10 HG10;obtain ⟨ce10,hcl10,hM10,hcc10,hfr10⟩:=Kd.R_elem HO_3.out z48 (x4_1:Int) p10 q10;obtain rfl:=k48_openM hM10;have hx10_0:w11.cell? ⟨go10,(x4_1:Int).toNat * 2,none⟩ = some (.int .i64 ((rd_T48 x3_1 x4_1).f0)):=hcc10 0 _ rfl;have hx10_1:w11.cell? ⟨go10,(x4_1:Int).toNat * 2 + 1,none⟩ = some (.int .i64 ((rd_T48 x3_1 x4_1).f1)):=hcc10 1 _ rfl;have hf10_0:w11.frozen? ⟨go10,(x4_1:Int).toNat * 2,none⟩ = false:=hfr10 0;have hf10_1:w11.frozen? ⟨go10,(x4_1:Int).toNat * 2 + 1,none⟩ = false:=hfr10 1;clear hcl10 hcc10 hfr10;(try clear hM10);replace p10:=eq_true p10;replace q10:=eq_true q10;have HX12:=zM (show Kd.R k48 48 w11 w.heap.size (fun _=>True) (.slice (some ⟨go10,0,none⟩) x3_1.length co10) x3_1 from (by (with_reducible repeat (first|apply zA|apply zB|apply zC));exact HO_3.out));obtain ⟨ce12,hcl12,hM12,hcc12,hfr12⟩:=Kd.R_elem HX12.out z48 (x4_1:Int) (of_decide_eq_true (by first|(with_reducible assumption)|assumption)) (by have h_:(x4_1:Int) < ((x3_1.length:Int):Int):=of_decide_eq_true (by first|(with_reducible assumption)|assumption);first|exact h_|(have e_:=(zN HO_3.out).1;omega)|simpa using h_);obtain rfl:=k48_openM hM12;have HP12:=Kd.R_seg HX12.out (x4_1:Int) (of_decide_eq_true (by first|(with_reducible assumption)|assumption)) (by have h_:(x4_1:Int) < ((x3_1.length:Int):Int):=of_decide_eq_true (by first|(with_reducible assumption)|assumption);first|exact h_|(have e_:=(zN HO_3.out).1;omega)|simpa using h_) (seg:=[.int .i64 t125,.int .i64 t126]) (j:=0) hcl12 hcc12 (show 2 ≤ 2 from by decide) (x':=(⟨t125,t126⟩ : S48)) (k48_mkM _ _ _ (⟨t125,t126⟩ : S48) ) (fun _ hk=>hk);have hx12_0:=hcc12 0 _ rfl;(try simp only [show (k48).sz = 2 from rfl,Nat.mul_one,Nat.add_zero] at hx12_0);have hf12_0:=hfr12 0;(try simp only [show (k48).sz = 2 from rfl,Nat.mul_one,Nat.add_zero] at hf12_0);have hx12_1:=hcc12 1 _ rfl;(try simp only [show (k48).sz = 2 from rfl,Nat.mul_one,Nat.add_zero] at hx12_1);have hf12_1:=hfr12 1;(try simp only [show (k48).sz = 2 from rfl,Nat.mul_one,Nat.add_zero] at hf12_1);clear hcl12 hcc12 hfr12;(try clear hM12))|((with_reducible refine gate_store (t:=48) (p:=21) rfl ?_);refine store_event (t:=48) (p:=21) (v:=?vo_w13) (w1:=((w11.setCell ⟨go10,(x4_1:Int).toNat * 2,none⟩ (.int .i64 t125)).setCell ⟨go10,(x4_1:Int).toNat * 2 + 1,none⟩ (.int .i64 t126))) ?hg ?ho ?hn ?hr ?_;(case ho=>rfl);(case hg=>rfl);(case hn=>rfl);(case hr=>first|(go_simp;done)|(go_simp;rfl));intro w13 hw;have hg:w11.grownBy w13 (some go10):=(by rw [hw];exact HP12.2);have hp_:Kd.R k48 48 w13 w.heap.size (fun _=>True) (.slice (some ⟨go10,0,none⟩) x3_1.length co10) y127:=(by rw [hw,Ny127.out];exact HP12.1);clear HP12;have n0_:=zM (hp_);have n1_:=zM ((by rw [hw];exact below_set (below_set (HB.out) GB10.out) GB10.out:Below w.heap.size w w13));clear HO_3;clear HB;have HO_3:=n0_;have HB:=n1_;clear n0_ n1_;clear hg hw hp_))
        go_roundg k1
        case measure=>have:=HK1.out;omega
        case rel=>exact ⟨(y127),(wrap64 (x4_1 + 1)),(by first|rfl|(simp;done)|(simp [*];done)),H',⟨by have:=HK1.out;omega⟩,⟨by (with_reducible repeat (first|apply zA|apply zB|apply zC));exact HO_3.out⟩,⟨by repeat (first|(with_reducible first|exact HB.out|apply zD|apply zE|apply zF)|exact HB.out)⟩⟩
       ·rw [if_neg c9] at H
        exact absurd H (by simp)
      ·rw [if_neg c7] at H
       exact absurd H (by simp)
     ·rw [if_neg c6] at H
      have c6b0:decide (x4_1 < (l0.length:Int)) = false:=decide_eq_false c6
      clear c6;obtain rfl:=Option.some.inj H;go_wp2
      go_ret
      exact ⟨_,by first|rfl|(simp [errW_none,errW_some] <;> rfl)|(simp [*,errW_none,errW_some] <;> rfl),by (with_reducible repeat (first|apply zA|apply zB|apply zC));exact HO_3.out,by repeat (first|(with_reducible first|exact HB.out|apply zD|apply zE|apply zF)|exact HB.out)⟩
  ·rw [if_neg c3] at H
   exact absurd H (by simp)
 ·rw [if_neg c2] at H
  exact absurd H (by simp)



/-! ### laws_eqCell: function 60 -/
def laws_eqCell.f (a0_0:Int) (a0_1:Int) (a1_0:Int) (a1_1:Int):Option (Bool):=if a0_0 = a1_0 then (if a0_1 = a1_1 then (some true) else (some false)) else (some false)
set_option maxHeartbeats 8000000 in
set_option maxRecDepth 100000 in
theorem laws_eqCell.calls (a0_0:Int) (a0_1:Int) (a1_0:Int) (a1_1:Int) (r:Bool) (w:World) (h:laws_eqCell.f a0_0 a0_1 a1_0 a1_1 = some r) :
  Calls Try.prog 60 #[.agg #[.int .i64 a0_0,.int .i64 a0_1],.agg #[.int .i64 a1_0,.int .i64 a1_1]] w fun e w'=>e = .returned (.bool r) ∧ Below w.heap.size w w':=by
 have hu48:=Try.underlying48;have HB:=zM (Below.refl w.heap.size w);have H:(if a0_0 = a1_0 then (if a0_1 = a1_1 then (some true) else (some false)) else (some false)) = some r:=h
 clear h;by_cases c3:a0_0 = a1_0
 ·rw [if_pos c3] at H
  have c3b0:(a0_0 == a1_0) = true:=beq_iff_eq.mpr c3
  have c3b1:(a0_0 != a1_0) = false:=bne_eq_false_iff_eq.mpr c3
  clear c3;by_cases c4:a0_1 = a1_1
  ·rw [if_pos c4] at H
   have c4b0:(a0_1 == a1_1) = true:=beq_iff_eq.mpr c4
   have c4b1:(a0_1 != a1_1) = false:=bne_eq_false_iff_eq.mpr c4
   clear c4;obtain rfl:=Option.some.inj H;go_enter Try.func60,Try.ntmps60
   go_wp2_with (first|((with_reducible refine gate_dst (N:=2) rfl ?_);refine box_event ?hg (N:=2) ?hd (cs := #[.int .i64 a0_0,.int .i64 a0_1]) (t:=48) ?hr ?_;(case hd=>rfl);(case hg=>rfl);(case hr=>first|(go_simp;done)|(go_simp;rfl));intro gb148 hg w5 hbox hb;have n0_:=zM (zQ (by repeat (first|(with_reducible first|exact HB.out|apply zD|apply zE|apply zF)|exact HB.out)) hb);have n1_:=zM (hbox);have n2_:=zM ((by rw [hg];exact (zR (by repeat (first|(with_reducible first|exact HB.out|apply zD|apply zE|apply zF)|exact HB.out))):w.heap.size ≤ gb148));have n3_:=zM ((by rw [hg];exact (zR (by repeat (first|(with_reducible first|exact HB.out|apply zD|apply zE|apply zF)|exact HB.out))):w.heap.size ≤ gb148));clear HB;have HB:=n0_;have BK148:=n1_;have GW148:=n2_;have GE148:=n3_;clear n0_ n1_ n2_ n3_;clear hb hbox hg)|((with_reducible refine gate_dst (N:=3) rfl ?_);refine box_event ?hg (N:=3) ?hd (cs := #[.int .i64 a1_0,.int .i64 a1_1]) (t:=48) ?hr ?_;(case hd=>rfl);(case hg=>rfl);(case hr=>first|(go_simp;done)|(go_simp;rfl));intro gb149 hg w6 hbox hb;have n0_:=zM (blk_below (g:=gb148) (o := .cells #[.int .i64 a0_0,.int .i64 a0_1] 48 (0,0)) (by (with_reducible repeat (first|refine zJ ?_ _|refine zK ?_|refine zL ?_ _));exact BK148.out) hb);have n1_:=zM (zQ (by repeat (first|(with_reducible first|exact HB.out|apply zD|apply zE|apply zF|refine below_set ?_ GE148.out)|exact HB.out)) hb);have n2_:=zM (hbox);have n3_:=zM ((by rw [hg];exact (zR (by repeat (first|(with_reducible first|exact HB.out|apply zD|apply zE|apply zF|refine below_set ?_ GE148.out)|exact HB.out))):w.heap.size ≤ gb149));have n4_:=zM ((by rw [hg];exact (zR (by repeat (first|(with_reducible first|exact HB.out|apply zD|apply zE|apply zF|refine below_set ?_ GE148.out)|exact HB.out))):w.heap.size ≤ gb149));have n5_:=zM ((by rw [hg];exact Nat.ne_of_lt (blk_lt (g:=gb148) (o := .cells #[.int .i64 a0_0,.int .i64 a0_1] 48 (0,0)) (by (with_reducible repeat (first|refine zJ ?_ _|refine zK ?_|refine zL ?_ _));exact BK148.out)):gb148 ≠ gb149));have n6_:=zM ((by rw [hg];exact Nat.ne_of_gt (blk_lt (g:=gb148) (o := .cells #[.int .i64 a0_0,.int .i64 a0_1] 48 (0,0)) (by (with_reducible repeat (first|refine zJ ?_ _|refine zK ?_|refine zL ?_ _));exact BK148.out)):gb149 ≠ gb148));clear BK148;clear HB;have BK148:=n0_;have HB:=n1_;have BK149:=n2_;have GW149:=n3_;have GE149:=n4_;have NB148_149:=n5_;have NB149_148:=n6_;clear n0_ n1_ n2_ n3_ n4_ n5_ n6_;clear hb hbox hg;have hnb7:=NB148_149.out;have hnc7:=NB149_148.out;have hcz8_0:w6.cell? ⟨gb148,0,none⟩ = some (.int .i64 a0_0):=(blk_cell BK148.out 0).trans rfl;have hcz8_1:w6.cell? ⟨gb148,1,none⟩ = some (.int .i64 a0_1):=(blk_cell BK148.out 1).trans rfl;have hfz8_0:=blk_frozen BK148.out 0;have hfz8_1:=blk_frozen BK148.out 1;have hcz9_0:w6.cell? ⟨gb149,0,none⟩ = some (.int .i64 a1_0):=(blk_cell BK149.out 0).trans rfl;have hcz9_1:w6.cell? ⟨gb149,1,none⟩ = some (.int .i64 a1_1):=(blk_cell BK149.out 1).trans rfl;have hfz9_0:=blk_frozen BK149.out 0;have hfz9_1:=blk_frozen BK149.out 1))
   go_ret
   exact ⟨by first|rfl|(simp [errW_none,errW_some] <;> rfl)|(simp [*,errW_none,errW_some] <;> rfl),by repeat (first|(with_reducible first|exact HB.out|apply zD|apply zE|apply zF|refine below_set ?_ GE148.out|refine below_set ?_ GE149.out)|exact HB.out)⟩
  ·rw [if_neg c4] at H
   have c4b0:(a0_1 == a1_1) = false:=beq_eq_false_iff_ne.mpr c4
   have c4b1:(a0_1 != a1_1) = true:=bne_iff_ne.mpr c4
   obtain rfl:=Option.some.inj H;go_enter Try.func60,Try.ntmps60
   go_wp2_with (first|((with_reducible refine gate_dst (N:=2) rfl ?_);refine box_event ?hg (N:=2) ?hd (cs := #[.int .i64 a0_0,.int .i64 a0_1]) (t:=48) ?hr ?_;(case hd=>rfl);(case hg=>rfl);(case hr=>first|(go_simp;done)|(go_simp;rfl));intro gb148 hg w10 hbox hb;have n0_:=zM (zQ (by repeat (first|(with_reducible first|exact HB.out|apply zD|apply zE|apply zF)|exact HB.out)) hb);have n1_:=zM (hbox);have n2_:=zM ((by rw [hg];exact (zR (by repeat (first|(with_reducible first|exact HB.out|apply zD|apply zE|apply zF)|exact HB.out))):w.heap.size ≤ gb148));have n3_:=zM ((by rw [hg];exact (zR (by repeat (first|(with_reducible first|exact HB.out|apply zD|apply zE|apply zF)|exact HB.out))):w.heap.size ≤ gb148));clear HB;have HB:=n0_;have BK148:=n1_;have GW148:=n2_;have GE148:=n3_;clear n0_ n1_ n2_ n3_;clear hb hbox hg)|((with_reducible refine gate_dst (N:=3) rfl ?_);refine box_event ?hg (N:=3) ?hd (cs := #[.int .i64 a1_0,.int .i64 a1_1]) (t:=48) ?hr ?_;(case hd=>rfl);(case hg=>rfl);(case hr=>first|(go_simp;done)|(go_simp;rfl));intro gb149 hg w11 hbox hb;have n0_:=zM (blk_below (g:=gb148) (o := .cells #[.int .i64 a0_0,.int .i64 a0_1] 48 (0,0)) (by (with_reducible repeat (first|refine zJ ?_ _|refine zK ?_|refine zL ?_ _));exact BK148.out) hb);have n1_:=zM (zQ (by repeat (first|(with_reducible first|exact HB.out|apply zD|apply zE|apply zF|refine below_set ?_ GE148.out)|exact HB.out)) hb);have n2_:=zM (hbox);have n3_:=zM ((by rw [hg];exact (zR (by repeat (first|(with_reducible first|exact HB.out|apply zD|apply zE|apply zF|refine below_set ?_ GE148.out)|exact HB.out))):w.heap.size ≤ gb149));have n4_:=zM ((by rw [hg];exact (zR (by repeat (first|(with_reducible first|exact HB.out|apply zD|apply zE|apply zF|refine below_set ?_ GE148.out)|exact HB.out))):w.heap.size ≤ gb149));have n5_:=zM ((by rw [hg];exact Nat.ne_of_lt (blk_lt (g:=gb148) (o := .cells #[.int .i64 a0_0,.int .i64 a0_1] 48 (0,0)) (by (with_reducible repeat (first|refine zJ ?_ _|refine zK ?_|refine zL ?_ _));exact BK148.out)):gb148 ≠ gb149));have n6_:=zM ((by rw [hg];exact Nat.ne_of_gt (blk_lt (g:=gb148) (o := .cells #[.int .i64 a0_0,.int .i64 a0_1] 48 (0,0)) (by (with_reducible repeat (first|refine zJ ?_ _|refine zK ?_|refine zL ?_ _));exact BK148.out)):gb149 ≠ gb148));clear BK148;clear HB;have BK148:=n0_;have HB:=n1_;have BK149:=n2_;have GW149:=n3_;have GE149:=n4_;have NB148_149:=n5_;have NB149_148:=n6_;clear n0_ n1_ n2_ n3_ n4_ n5_ n6_;clear hb hbox hg;have hnb12:=NB148_149.out;have hnc12:=NB149_148.out;have hcz13_0:w11.cell? ⟨gb148,0,none⟩ = some (.int .i64 a0_0):=(blk_cell BK148.out 0).trans rfl;have hcz13_1:w11.cell? ⟨gb148,1,none⟩ = some (.int .i64 a0_1):=(blk_cell BK148.out 1).trans rfl;have hfz13_0:=blk_frozen BK148.out 0;have hfz13_1:=blk_frozen BK148.out 1;have hcz14_0:w11.cell? ⟨gb149,0,none⟩ = some (.int .i64 a1_0):=(blk_cell BK149.out 0).trans rfl;have hcz14_1:w11.cell? ⟨gb149,1,none⟩ = some (.int .i64 a1_1):=(blk_cell BK149.out 1).trans rfl;have hfz14_0:=blk_frozen BK149.out 0;have hfz14_1:=blk_frozen BK149.out 1))
   go_ret
   exact ⟨by first|rfl|(simp [errW_none,errW_some] <;> rfl)|(simp [*,errW_none,errW_some] <;> rfl),by repeat (first|(with_reducible first|exact HB.out|apply zD|apply zE|apply zF|refine below_set ?_ GE148.out|refine below_set ?_ GE149.out)|exact HB.out)⟩
 ·rw [if_neg c3] at H
  have c3b0:(a0_0 == a1_0) = false:=beq_eq_false_iff_ne.mpr c3
  have c3b1:(a0_0 != a1_0) = true:=bne_iff_ne.mpr c3
  obtain rfl:=Option.some.inj H;go_enter Try.func60,Try.ntmps60
  go_wp2_with (first|((with_reducible refine gate_dst (N:=2) rfl ?_);refine box_event ?hg (N:=2) ?hd (cs := #[.int .i64 a0_0,.int .i64 a0_1]) (t:=48) ?hr ?_;(case hd=>rfl);(case hg=>rfl);(case hr=>first|(go_simp;done)|(go_simp;rfl));intro gb148 hg w15 hbox hb;have n0_:=zM (zQ (by repeat (first|(with_reducible first|exact HB.out|apply zD|apply zE|apply zF)|exact HB.out)) hb);have n1_:=zM (hbox);have n2_:=zM ((by rw [hg];exact (zR (by repeat (first|(with_reducible first|exact HB.out|apply zD|apply zE|apply zF)|exact HB.out))):w.heap.size ≤ gb148));have n3_:=zM ((by rw [hg];exact (zR (by repeat (first|(with_reducible first|exact HB.out|apply zD|apply zE|apply zF)|exact HB.out))):w.heap.size ≤ gb148));clear HB;have HB:=n0_;have BK148:=n1_;have GW148:=n2_;have GE148:=n3_;clear n0_ n1_ n2_ n3_;clear hb hbox hg)|((with_reducible refine gate_dst (N:=3) rfl ?_);refine box_event ?hg (N:=3) ?hd (cs := #[.int .i64 a1_0,.int .i64 a1_1]) (t:=48) ?hr ?_;(case hd=>rfl);(case hg=>rfl);(case hr=>first|(go_simp;done)|(go_simp;rfl));intro gb149 hg w16 hbox hb;have n0_:=zM (blk_below (g:=gb148) (o := .cells #[.int .i64 a0_0,.int .i64 a0_1] 48 (0,0)) (by (with_reducible repeat (first|refine zJ ?_ _|refine zK ?_|refine zL ?_ _));exact BK148.out) hb);have n1_:=zM (zQ (by repeat (first|(with_reducible first|exact HB.out|apply zD|apply zE|apply zF|refine below_set ?_ GE148.out)|exact HB.out)) hb);have n2_:=zM (hbox);have n3_:=zM ((by rw [hg];exact (zR (by repeat (first|(with_reducible first|exact HB.out|apply zD|apply zE|apply zF|refine below_set ?_ GE148.out)|exact HB.out))):w.heap.size ≤ gb149));have n4_:=zM ((by rw [hg];exact (zR (by repeat (first|(with_reducible first|exact HB.out|apply zD|apply zE|apply zF|refine below_set ?_ GE148.out)|exact HB.out))):w.heap.size ≤ gb149));have n5_:=zM ((by rw [hg];exact Nat.ne_of_lt (blk_lt (g:=gb148) (o := .cells #[.int .i64 a0_0,.int .i64 a0_1] 48 (0,0)) (by (with_reducible repeat (first|refine zJ ?_ _|refine zK ?_|refine zL ?_ _));exact BK148.out)):gb148 ≠ gb149));have n6_:=zM ((by rw [hg];exact Nat.ne_of_gt (blk_lt (g:=gb148) (o := .cells #[.int .i64 a0_0,.int .i64 a0_1] 48 (0,0)) (by (with_reducible repeat (first|refine zJ ?_ _|refine zK ?_|refine zL ?_ _));exact BK148.out)):gb149 ≠ gb148));clear BK148;clear HB;have BK148:=n0_;have HB:=n1_;have BK149:=n2_;have GW149:=n3_;have GE149:=n4_;have NB148_149:=n5_;have NB149_148:=n6_;clear n0_ n1_ n2_ n3_ n4_ n5_ n6_;clear hb hbox hg;have hnb17:=NB148_149.out;have hnc17:=NB149_148.out;have hcz18_0:w16.cell? ⟨gb148,0,none⟩ = some (.int .i64 a0_0):=(blk_cell BK148.out 0).trans rfl;have hcz18_1:w16.cell? ⟨gb148,1,none⟩ = some (.int .i64 a0_1):=(blk_cell BK148.out 1).trans rfl;have hfz18_0:=blk_frozen BK148.out 0;have hfz18_1:=blk_frozen BK148.out 1;have hcz19_0:w16.cell? ⟨gb149,0,none⟩ = some (.int .i64 a1_0):=(blk_cell BK149.out 0).trans rfl;have hcz19_1:w16.cell? ⟨gb149,1,none⟩ = some (.int .i64 a1_1):=(blk_cell BK149.out 1).trans rfl;have hfz19_0:=blk_frozen BK149.out 0;have hfz19_1:=blk_frozen BK149.out 1))
  go_ret
  exact ⟨by first|rfl|(simp [errW_none,errW_some] <;> rfl)|(simp [*,errW_none,errW_some] <;> rfl),by repeat (first|(with_reducible first|exact HB.out|apply zD|apply zE|apply zF|refine below_set ?_ GE148.out|refine below_set ?_ GE149.out)|exact HB.out)⟩

end Go.Proofs.Ytbpccdbkaiigcaa.G
