/- Texts of the proof of FnFleets, joined in build order. -/
import Derived.Test.YtbpccdbkaiigcaaMgFnFleets2
import Derived.Test.YtbpccdbkaiigcaaMgFnFleets4
import Derived.Test.YtbpccdbkaiigcaaMgFnFleets1
import Derived.Test.YtbpccdbkaiigcaaMgFnFleets5
import Derived.Test.YtbpccdbkaiigcaaMgFnFleets3
import Derived.Deep.Slices
import Derived.ChangeArms
import Derived.WideShapes
import Derived.ChangeShapes
set_option maxHeartbeats 8000000
set_option maxRecDepth 100000
set_option linter.unusedVariables false
set_option linter.unusedSimpArgs false
namespace Go.Proofs.Ytbpccdbkaiigcaa.G
open Go.RowKit Go.Proofs.YtbpccdbkaiigcaaW.PrintWords Go.Proofs.YtbpccdbkaiigcaaW.PrintLast
def EvP {α : Type} (g : Nat → Option α) (P : α → Prop) : Prop := ∃ r,P r ∧ Ev g r
theorem EvP.now {α : Type} {P : α → Prop} (v : α) (h : P v) : EvP (fun _=>some v) P:=⟨v,h,Ev.now v⟩
theorem EvP.step {α : Type} {g f : Nat → Option α} {P : α → Prop} (h : ∀ k,g (k + 1) = f k) (k : EvP f P) : EvP g P:=by
 obtain ⟨r,p,e⟩:=k;exact ⟨r,p,Ev.step h e⟩
theorem EvP.bind {α β : Type} {g : Nat → Option α} {f : Nat → α → Option β} {P : α → Prop} {Q : β → Prop} (h : EvP g P) (k : ∀ a,P a → EvP (fun n=>f n a) Q) : EvP (fun n=>(g n).bind (f n)) Q:=by
 obtain ⟨a,p,e⟩:=h;obtain ⟨r,q,e2⟩:=k a p;exact ⟨r,q,Ev.bind e e2⟩
theorem EvP.ite {α : Type} {c : Prop} [Decidable c] {A B : Nat → Option α} {P : α → Prop} (h1 : c → EvP A P) (h2 : ¬ c → EvP B P) : EvP (fun k=>if c then A k else B k) P:=by
 by_cases h : c
 ·simpa only [if_pos h] using h1 h
 ·simpa only [if_neg h] using h2 h
def Cd (l : List Int) : Prop:=(l.length : Int) ≤ 65536 ∧ ∀ y ∈ l,0 ≤ y ∧ y ≤ 255
theorem cd_of {l : List Int} (h : (l.length : Int) ≤ 65536) (hw : ∀ y ∈ l,(Lit.int .u8 y).wf = true) : Cd l:=by
 refine ⟨h,fun y hy=>?_⟩;have e : (Lit.int .u8 y).wf = (decide (0 ≤ y) && decide (y ≤ 255)):=rfl;have:=hw y hy;rw [e] at this;simpa using this
theorem rd_memD (l : List Int) (i : Int) (h0 : 0 ≤ i) (h1 : i < (l.length : Int)) : rd l i ∈ l:=by
 unfold rd;rw [List.getD_eq_getElem?_getD,List.getElem?_eq_getElem (show i.toNat < l.length by omega)];exact List.getElem_mem _
theorem and255 (x : Int) : 0 ≤ Go.bits .and .u64 x 255 ∧ Go.bits .and .u64 x 255 ≤ 255:=by
 show 0 ≤ IntKind.u64.wrap (((BitVec.ofInt 64 x) &&& (BitVec.ofInt 64 255)).toNat : Int) ∧ IntKind.u64.wrap (((BitVec.ofInt 64 x) &&& (BitVec.ofInt 64 255)).toNat : Int) ≤ 255
 have h : ((BitVec.ofInt 64 x) &&& (BitVec.ofInt 64 255)).toNat ≤ 255:=by
  rw [BitVec.toNat_and];exact Nat.le_trans Nat.and_le_right (by decide)
 have e : IntKind.u64.wrap (((BitVec.ofInt 64 x) &&& (BitVec.ofInt 64 255)).toNat : Int) = (((BitVec.ofInt 64 x) &&& (BitVec.ofInt 64 255)).toNat : Int):=by
  generalize (((BitVec.ofInt 64 x) &&& (BitVec.ofInt 64 255)).toNat) = n at h ⊢;simp only [IntKind.wrap,IntKind.signed,IntKind.bits];simp;omega
 rw [e];omega
theorem next_ok {l : List Int} (hc : Cd l) (a s : Int) (h0 : 0 ≤ a) (h1 : a ≤ 1099511627776) : ∃ b s',spec_l1Cur_next.f l a s = some (b,a + 1,s') ∧ 0 ≤ b ∧ b ≤ 255:=by
 have hl:=hc.1;unfold spec_l1Cur_next.f;rw [wrap64_id (x:=a + 1) (by omega) (by omega)];by_cases h : a < (l.length : Int)
 ·have hm:=hc.2 _ (rd_memD l a h0 h)
  rw [if_pos h,if_pos h0,if_pos (by omega),wrap64_id (x:=rd l a) (by omega) (by omega)];exact ⟨_,_,rfl,hm.1,hm.2⟩
 ·rw [if_neg h,if_neg (by omega)]
  (refine ⟨_,_,rfl,?_⟩;generalize hX : Go.bits _ _ _ _ = X;have:=and255 (IntKind.u64.wrap (IntKind.u64.wrap (IntKind.u64.wrap (s * 6364136223846793005)) + 906906) / 1099511627776);have hb : 0 ≤ X ∧ X ≤ 255:=by rw [← hX];exact this);rw [wrap64_id (by omega) (by omega)];exact hb
theorem pick_ok {l : List Int} (hc : Cd l) (a s n : Int) (h0 : 0 ≤ a) (h1 : a ≤ 1000000) : ∃ b a' s',spec_l1Cur_pick.f l a s n = some (b,a',s') ∧ 0 ≤ b ∧ (b = 0 ∨ b < n) ∧ a ≤ a' ∧ a' ≤ a + 2:=by
 unfold spec_l1Cur_pick.f;by_cases g : n ≤ 1
 ·rw [if_pos g]
  exact ⟨_,_,_,rfl,by omega,by omega,by omega,by omega⟩
 ·obtain ⟨x,s1,e1,x0,x1⟩:=next_ok hc a s h0 (by omega)
  rw [if_neg g,e1];simp only [Option.bind_some];by_cases g2 : n > 200
  ·obtain ⟨y,s2,e2,y0,y1⟩:=next_ok hc (a + 1) s1 (by omega) (by omega)
   rw [if_pos g2,e2];simp only [Option.bind_some];rw [if_neg (by omega),wrap64_id (x:=x * 256) (by omega) (by omega),wrap64_id (x:=x * 256 + y) (by omega) (by omega)];refine ⟨_,_,_,rfl,Int.tmod_nonneg _ (by omega),.inr ?_,by omega,by omega⟩;exact Int.tmod_lt_of_pos _ (by omega)
  ·rw [if_neg g2,if_neg (by omega)]
   refine ⟨_,_,_,rfl,Int.tmod_nonneg _ (by omega),.inr ?_,by omega,by omega⟩;exact Int.tmod_lt_of_pos _ (by omega)
theorem EvP.pick {β : Type} {l : List Int} (hc : Cd l) {a s n : Int} {f : Nat → Int × Int × Int → Option β} {Q : β → Prop} (h0 : 0 ≤ a) (h1 : a ≤ 1000000)
  (k : ∀ b a' s',0 ≤ b → (b = 0 ∨ b < n) → a ≤ a' → a' ≤ a + 2 → EvP (fun k=>f k (b,a',s')) Q) : EvP (fun k=>(spec_l1Cur_pick.f l a s n).bind (f k)) Q:=by
 obtain ⟨b,a',s',e,h2,h3,h4,h5⟩:=pick_ok hc a s n h0 h1;rw [e];exact k b a' s' h2 h3 h4 h5
theorem EvP.one {β : Type} {l : List Int} (hc : Cd l) {a s n : Int} {f : Nat → Bool × Int × Int → Option β} {Q : β → Prop} (h0 : 0 ≤ a) (h1 : a ≤ 1000000)
  (k : ∀ b a' s',a ≤ a' → a' ≤ a + 2 → EvP (fun k=>f k (b,a',s')) Q) : EvP (fun k=>(spec_l1Cur_one.f l a s n).bind (f k)) Q:=by
 obtain ⟨b,a',s',e,h2,h3,h4,h5⟩:=pick_ok hc a s n h0 h1;unfold spec_l1Cur_one.f;rw [e];simp only [Option.bind_some];exact k _ a' s' h4 h5
theorem EvP.among {β : Type} {l : List Int} (hc : Cd l) {a s : Int} {xs : List Int} {f : Nat → Int × Int × Int → Option β} {Q : β → Prop} (h0 : 0 ≤ a) (h1 : a ≤ 1000000) (hx : 0 < (xs.length : Int))
  (k : ∀ b a' s',b ∈ xs → a ≤ a' → a' ≤ a + 2 → EvP (fun k=>f k (b,a',s')) Q) : EvP (fun k=>(spec_l1Cur_among.f l a s xs).bind (f k)) Q:=by
 obtain ⟨b,a',s',e,h2,h3,h4,h5⟩:=pick_ok hc a s (xs.length : Int) h0 h1;unfold spec_l1Cur_among.f;rw [e];simp only [Option.bind_some];rw [if_pos h2,if_pos (by omega)];exact k _ a' s' (rd_memD xs b h2 (by omega)) h4 h5
end Go.Proofs.Ytbpccdbkaiigcaa.G

namespace Go.Proofs.Ytbpccdbkaiigcaa.G
open Go.RowKit Go.Proofs.YtbpccdbkaiigcaaW.PrintWords Go.Proofs.YtbpccdbkaiigcaaW.PrintLast Go.Proofs.YtbpccdbkaiigcaaW.PrintMore
attribute [local go_sem] max2_int min2_int max_two min_two max_three min_three max_four min_four   -- for this text's walks alone

def spec_DrawSafePath.l0:Nat → List (List (S48)) → Int → List Int → Int → Int → Int → Int → List (S48) → Option (Int × Int × (List (S48)) × (List (List (S48))) × Int × Int × Int × Int)
 | 0,_,_,_,_,_,_,_,_=>none
 | k + 1,x8,x9,x0,x1,x2,x3,x4,x5=>if x9 > 0 then ((spec_l1Cur_path.f k x0 x1 x2 x3 x4 x5).bind fun bt6=>(if x8.length < 5864062014805 then (spec_DrawSafePath.l0 k (x8 ++ [bt6.1]) (wrap64 (x9 - 1)) x0 bt6.2.1 bt6.2.2 x3 x4 x5) else (none))) else ((spec_l1Cur_cell.f k x0 x1 x2 x3 x4 x5).bind fun bt7=>((spec_l1Cur_cell.f k x0 bt7.2.2.1 bt7.2.2.2 x3 x4 x5).bind fun bt8=>(some (x3,x4,x5,x8,bt7.1,bt7.2.1,bt8.1,bt8.2.1))))
def spec_DrawSafePath.f (k:Nat) (l0:List Int):Option (Int × Int × (List (S48)) × (List (List (S48))) × Int × Int × Int × Int):=(spec_l1Cur_floor.f k l0 0 0).bind fun bt0=>((spec_l1Cur_among.f l0 bt0.2.2.2.1 bt0.2.2.2.2 (([0,1,1,2,3,4]:List Int))).bind fun bt1=>(spec_DrawSafePath.l0 k (([]:List (List (S48)))) bt1.1 l0 bt1.2.1 bt1.2.2 bt0.1 bt0.2.1 bt0.2.2.1))
end Go.Proofs.Ytbpccdbkaiigcaa.G

/- What the draws of the vehicles' laws give: a floor, cells, paths, of small size. -/
namespace Go.Proofs.Ytbpccdbkaiigcaa.G
open Go.RowKit Go.Proofs.YtbpccdbkaiigcaaW.PrintWords Go.Proofs.YtbpccdbkaiigcaaW.PrintLast
theorem spec_nbx {w h : Int} {bl : List S48} (hf : FloorOk w h bl) (hb : (bl.length : Int) ≤ 1099511627776) {c : S48} (hin : (-9 ≤ c.f0 ∧ c.f0 ≤ 9) ∧ (-9 ≤ c.f1 ∧ c.f1 ≤ 9)) : Ev (fun k=>spec_l16Next.f k w h bl c.f0 c.f1) (nbOf w h bl c):=by
 unfold spec_l16Next.f;rw [wrap64_id (x:=c.f1 - 1) (by omega) (by omega),wrap64_id (x:=c.f0 - 1) (by omega) (by omega),wrap64_id (x:=c.f0 + 1) (by omega) (by omega),wrap64_id (x:=c.f1 + 1) (by omega) (by omega)];obtain ⟨L,hL⟩ : ∃ L : List S48,[(⟨c.f0,c.f1 - 1⟩ : S48),(⟨c.f0 - 1,c.f1⟩ : S48),(⟨c.f0,c.f1⟩ : S48),(⟨c.f0 + 1,c.f1⟩ : S48),(⟨c.f0,c.f1 + 1⟩ : S48)] = L:=⟨_,rfl⟩;have hl : L.length = 5:=by rw [← hL];rfl
 rw [hL]
 have step : ∀ (i : Int) (acc : List S48) (d : S48) (r : List S48),0 ≤ i → i < 5 → acc.length ≤ 10 → rd_T48 L i = d → Ev (fun k=>spec_l16Next.l0 k L (acc ++ sel w h bl d) (i + 1) w h bl) r → Ev (fun k=>spec_l16Next.l0 k L acc i w h bl) r:=by
  (intro i acc d r i0 i1 ha e hr;refine Ev.step (fun k=>by rw [spec_l16Next.l0]) ?_;have q6 : i < (L.length : Int):=by rw [hl];exact i1);simp only [if_pos q6,if_pos i0,e,wrap64_id (x:=i + 1) (by omega) (by omega)];refine Ev.bind (spec_free w h bl d hf.1 hf.2.1 hb) ?_;unfold sel at hr;by_cases hd : Free w h bl d
  ·rw [chk_pos hd] at hr ⊢
   simp only [if_true,if_pos (show acc.length < 8796093022208 by omega)];exact hr
  ·rw [chk_neg hd] at hr ⊢
   simp only [Bool.false_eq_true,if_false];rw [List.append_nil] at hr;exact hr
 have s1:=sel_len w h bl ⟨c.f0,c.f1 - 1⟩;have s2:=sel_len w h bl ⟨c.f0 - 1,c.f1⟩;have s3:=sel_len w h bl ⟨c.f0,c.f1⟩;have s4:=sel_len w h bl ⟨c.f0 + 1,c.f1⟩;refine step 0 [] ⟨c.f0,c.f1 - 1⟩ _ (by omega) (by omega) (by simp) (by subst hL;rfl) ?_;refine step 1 _ ⟨c.f0 - 1,c.f1⟩ _ (by omega) (by omega) (by simp;omega) (by subst hL;rfl) ?_;refine step 2 _ ⟨c.f0,c.f1⟩ _ (by omega) (by omega) (by simp;omega) (by subst hL;rfl) ?_;refine step 3 _ ⟨c.f0 + 1,c.f1⟩ _ (by omega) (by omega) (by simp;omega) (by subst hL;rfl) ?_;refine step 4 _ ⟨c.f0,c.f1 + 1⟩ _ (by omega) (by omega) (by simp;omega) (by subst hL;rfl) ?_;refine Ev.step (fun k=>by rw [spec_l16Next.l0]) ?_;simp only [if_neg (show ¬ ((4 : Int) + 1 < (L.length : Int)) by rw [hl];decide)];exact Ev.now _
theorem len_one (p : List S48) (c : S48) : ((p ++ [c]).length : Int) = (p.length : Int) + 1:=by rw [List.length_append,List.length_singleton];omega
theorem mx_one (x : Int) (h : x ≤ 7) : mx x 1 ≤ 7:=by unfold mx;split <;> omega
def SmF (w h : Int) (bl : List S48) : Prop:=(0 ≤ w ∧ w ≤ 7) ∧ (0 ≤ h ∧ h ≤ 7) ∧ (bl.length : Int) ≤ 60
def FloorQ (r : Int × Int × List S48 × Int × Int) : Prop:=SmF r.1 r.2.1 r.2.2.1 ∧ 0 ≤ r.2.2.2.1 ∧ r.2.2.2.1 ≤ 200
theorem floor_row {l : List Int} (w h y B A : Int) (hc : Cd l) (A1 : A ≤ 10000) (B1 : B ≤ 10000) (nx : ∀ (bl : List S48) (a s : Int),(bl.length : Int) ≤ B → 0 ≤ a → a ≤ A → EvP (fun k=>spec_l1Cur_floor.l0 k (wrap64 (y + 1)) l a s w h bl) FloorQ) :
  ∀ (d : Nat) (x a s : Int) (bl : List S48),0 ≤ x → x + d = w → w ≤ 10 → (bl.length : Int) + d ≤ B → 0 ≤ a → a + 2 * d ≤ A → EvP (fun k=>spec_l1Cur_floor.l1 k y x l a s w h bl) FloorQ
 | 0,x,a,s,bl,x0,hd,hw,hb,a0,a1=>by
  refine EvP.step (fun k=>by rw [spec_l1Cur_floor.l1]) ?_
  simp (disch:=omega) only [if_neg]
  exact nx bl a s (by omega) a0 (by omega)
 | d + 1,x,a,s,bl,x0,hd,hw,hb,a0,a1=>by
  refine EvP.step (fun k=>by rw [spec_l1Cur_floor.l1]) ?_
  simp (disch:=omega) only [if_pos]
  rw [wrap64_id (x:=x + 1) (by omega) (by omega)]
  refine EvP.one hc a0 (by omega) (fun b a' s' h0 h1=>?_)
  dsimp only
  refine EvP.ite (fun g=>?_) (fun g=>?_)
  ·exact floor_row w h y B A hc A1 B1 nx d (x + 1) a' s' _ (by omega) (by omega) hw (by rw [len_one];omega) (by omega) (by omega)
  ·exact floor_row w h y B A hc A1 B1 nx d (x + 1) a' s' bl (by omega) (by omega) hw (by omega) (by omega) (by omega)
theorem floor_end {l : List Int} (hc : Cd l) (w h a s : Int) (bl : List S48) (hw : 0 ≤ w ∧ w ≤ 7) (hh : 0 ≤ h ∧ h ≤ 7) (hb : (bl.length : Int) ≤ 50) (a0 : 0 ≤ a) (a1 : a ≤ 150) (y : Int) (hy : ¬ y < h) : EvP (fun k=>spec_l1Cur_floor.l0 k y l a s w h bl) FloorQ:=by
 (refine EvP.step (fun k=>by rw [spec_l1Cur_floor.l0]) ?_;simp only [if_neg hy];refine EvP.pick hc a0 (by omega) (fun b a' s' b0 b1 h0 h1=>?_);dsimp only;have m3 : ∀ x : Int,x ∈ ([0,7,6] : List Int) → 0 ≤ x ∧ x ≤ 7:=by intro x hx;simp only [List.mem_cons,List.not_mem_nil,or_false] at hx;omega);refine EvP.ite (fun g=>?_) (fun g=>?_)
 ·refine EvP.among hc (by omega) (by omega) (by decide) (fun v a2 s2 hv h2 h3=>?_)
  exact EvP.now _ ⟨⟨m3 v hv,hh,zq127⟩,zq127,zq127⟩
 ·refine EvP.ite (fun g=>?_) (fun g=>?_)
  ·refine EvP.among hc (by omega) (by omega) (by decide) (fun v a2 s2 hv h2 h3=>?_)
   exact EvP.now _ ⟨⟨hw,m3 v hv,zq127⟩,zq127,zq127⟩
  ·refine EvP.ite (fun g=>?_) (fun g=>?_)
   ·refine EvP.pick hc (by omega) (by omega) (fun v a2 s2 v0 v1 h2 h3=>?_)
    dsimp only;refine EvP.pick hc (by omega) (by omega) (fun u a3 s3 u0 u1 h4 h5=>?_);dsimp only;simp only [if_pos (show bl.length < 8796093022208 by omega)];exact EvP.now _ ⟨⟨hw,hh,by dsimp only;rw [len_one];omega⟩,zq127,zq127⟩
   ·exact EvP.now _ ⟨⟨hw,hh,zq127⟩,zq127,zq127⟩
theorem floor_all {l : List Int} (hc : Cd l) (w h : Int) (hw : 0 ≤ w ∧ w ≤ 5) (hh : 0 ≤ h ∧ h ≤ 7) : ∀ (d : Nat) (y a s : Int) (bl : List S48),0 ≤ y → y + d = h → (bl.length : Int) + 5 * d ≤ 50 → 0 ≤ a → a + 10 * d ≤ 150 → EvP (fun k=>spec_l1Cur_floor.l0 k y l a s w h bl) FloorQ
 | 0,y,a,s,bl,y0,hd,hb,a0,a1=>floor_end hc w h a s bl ⟨hw.1,by omega⟩ hh (by omega) a0 (by omega) y (by omega)
 | d + 1,y,a,s,bl,y0,hd,hb,a0,a1=>by
  refine EvP.step (fun k=>by rw [spec_l1Cur_floor.l0]) ?_
  simp (disch:=omega) only [if_pos]
  refine floor_row w h y (50 - 5 * d) (150 - 10 * d) hc (by omega) (by omega) (fun bl' a' s' hb' h0 h1=>?_) w.toNat 0 a s bl (by omega) (by omega) (by omega) (by omega) a0 (by omega)
  rw [wrap64_id (x:=y + 1) (by omega) (by omega)]
  exact floor_all hc w h hw hh d (y + 1) a' s' bl' (by omega) (by omega) (by omega) h0 (by omega)
theorem floor_ok {l : List Int} (hc : Cd l) : EvP (fun k=>spec_l1Cur_floor.f k l 0 0) FloorQ:=by
 unfold spec_l1Cur_floor.f;refine EvP.pick hc (by omega) (by omega) (fun b a s b0 b1 h0 h1=>?_);dsimp only;refine EvP.pick hc (by omega) (by omega) (fun c a' s' c0 c1 h2 h3=>?_);dsimp only;rw [wrap64_id (x:=2 + b) (by omega) (by omega),wrap64_id (x:=1 + c) (by omega) (by omega)];exact floor_all hc (2 + b) (1 + c) (by omega) (by omega) (1 + c).toNat 0 a' s' [] (by omega) (by omega) (by simp only [List.length_nil];omega) (by omega) (by omega)
def SmC (x y : Int) : Prop:=(-9 ≤ x ∧ x ≤ 9) ∧ (-9 ≤ y ∧ y ≤ 9)
def CellQ (A : Int) (r : Int × Int × Int × Int) : Prop:=SmC r.1 r.2.1 ∧ 0 ≤ r.2.2.1 ∧ r.2.2.1 ≤ A
theorem cell_end {l : List Int} (hc : Cd l) {w h : Int} {bl : List S48} (A n a s x y : Int) (hx : SmC x y) (a0 : 0 ≤ a) (a1 : a + 4 ≤ A) (A1 : A ≤ 10000) : EvP (fun k=>spec_l1Cur_cell.j1 k n false l a s w h bl x y) (CellQ A):=by
 refine EvP.step (fun k=>by rw [spec_l1Cur_cell.j1]) ?_;simp only [Bool.false_eq_true,if_false];refine EvP.one hc a0 (by omega) (fun b a' s' h0 h1=>?_);dsimp only;refine EvP.ite (fun g=>?_) (fun g=>?_)
 ·refine EvP.among hc (by omega) (by omega) (by decide) (fun v a2 s2 hv h2 h3=>?_)
  (have hv' : -9 ≤ v ∧ v ≤ 9:=by simp only [List.mem_cons,List.not_mem_nil,or_false] at hv;omega);exact EvP.now _ ⟨⟨hv',hx.2⟩,zq127,zq127⟩
 ·exact EvP.now _ ⟨hx,zq127,zq127⟩
theorem cell_loop {l : List Int} (hc : Cd l) {w h : Int} {bl : List S48} (hf : SmF w h bl) (A : Int) (A1 : A ≤ 10000) : ∀ (d : Nat) (n a s x y : Int),0 ≤ n → n + d = 3 → SmC x y → 0 ≤ a → a + 4 * d + 4 ≤ A → EvP (fun k=>spec_l1Cur_cell.l0 k n l a s w h bl x y) (CellQ A)
 | 0,n,a,s,x,y,n0,hd,hx,a0,a1=>by
  refine EvP.step (fun k=>by rw [spec_l1Cur_cell.l0]) ?_
  simp (disch:=omega) only [if_neg]
  exact cell_end hc A n a s x y hx a0 (by omega) A1
 | d + 1,n,a,s,x,y,n0,hd,hx,a0,a1=>by
  refine EvP.step (fun k=>by rw [spec_l1Cur_cell.l0]) ?_
  simp (disch:=omega) only [if_pos]
  refine EvP.bind ⟨_,rfl,spec_blocked w h bl ⟨x,y⟩ (by have:=hf.2.2;omega)⟩ (fun t ht=>?_)
  subst ht
  by_cases hb : HasC bl ⟨x,y⟩
  ·rw [chk_pos hb]
   refine EvP.step (fun k=>by rw [spec_l1Cur_cell.j1]) ?_
   simp only [if_true,spec_most_eq,Option.bind_some]
   have m1:=mx_one w hf.1.2
   have m2:=mx_one h hf.2.1.2
   refine EvP.pick hc a0 (by omega) (fun b a' s' b0 b1 h0 h1=>?_)
   dsimp only
   refine EvP.pick hc (by omega) (by omega) (fun c a2 s2 c0 c1 h2 h3=>?_)
   dsimp only
   rw [wrap64_id (x:=n + 1) (by omega) (by omega)]
   exact cell_loop hc hf A A1 d (n + 1) a2 s2 b c (by omega) (by omega) ⟨by omega,by omega⟩ (by omega) (by omega)
  ·rw [chk_neg hb]
   exact cell_end hc A n a s x y hx a0 (by omega) A1
theorem cell_ok {l : List Int} (hc : Cd l) {w h : Int} {bl : List S48} (hf : SmF w h bl) (A a s : Int) (a0 : 0 ≤ a) (a1 : a + 20 ≤ A) (A1 : A ≤ 10000) : EvP (fun k=>spec_l1Cur_cell.f k l a s w h bl) (CellQ A):=by
 unfold spec_l1Cur_cell.f;simp only [spec_most_eq,Option.bind_some];have m1:=mx_one w hf.1.2;have m2:=mx_one h hf.2.1.2;refine EvP.pick hc a0 (by omega) (fun b a' s' b0 b1 h0 h1=>?_);dsimp only;refine EvP.pick hc (by omega) (by omega) (fun c a2 s2 c0 c1 h2 h3=>?_);dsimp only;exact cell_loop hc hf A A1 3 0 a2 s2 b c (by omega) (by omega) ⟨by omega,by omega⟩ (by omega) (by omega)
def PathQ (A : Int) (r : List S48 × Int × Int) : Prop:=(r.1.length : Int) ≤ 20 ∧ 0 ≤ r.2.1 ∧ r.2.1 ≤ A
theorem path_end {l : List Int} (hc : Cd l) {w h : Int} {bl : List S48} (hf : SmF w h bl) (A a s : Int) (p : List S48) (hp : (p.length : Int) ≤ 19) (a0 : 0 ≤ a) (a1 : a + 22 ≤ A) (A1 : A ≤ 10000) : EvP (fun k=>spec_l1Cur_path.j2 k p l a s w h bl) (PathQ A):=by
 refine EvP.step (fun k=>by rw [spec_l1Cur_path.j2]) ?_;refine EvP.one hc a0 (by omega) (fun b a' s' h0 h1=>?_);dsimp only;refine EvP.ite (fun g=>?_) (fun g=>?_)
 ·refine EvP.bind (cell_ok hc hf A a' s' (by omega) (by omega) A1) (fun r hr=>?_)
  simp only [if_pos (show p.length < 8796093022208 by omega)];exact EvP.now _ ⟨by dsimp only;rw [len_one];omega,hr.2⟩
 ·exact EvP.now _ ⟨zq127,zq127,zq127⟩
theorem path_loop {l : List Int} (hc : Cd l) {w h : Int} {bl : List S48} (hf : SmF w h bl) (A : Int) (A1 : A ≤ 10000) : ∀ (d : Nat) (n a s x y : Int) (p : List S48),n = d → SmC x y → (p.length : Int) + d ≤ 19 → 0 ≤ a → a + 2 * d + 22 ≤ A → EvP (fun k=>spec_l1Cur_path.l0 k p n l a s w h bl x y) (PathQ A)
 | 0,n,a,s,x,y,p,hd,hx,hp,a0,a1=>by
  refine EvP.step (fun k=>by rw [spec_l1Cur_path.l0]) ?_
  simp (disch:=omega) only [if_neg]
  refine EvP.step (fun k=>by rw [spec_l1Cur_path.j1]) ?_
  simp only [Bool.false_eq_true,if_false]
  exact path_end hc hf A a s p (by omega) a0 (by omega) A1
 | d + 1,n,a,s,x,y,p,hd,hx,hp,a0,a1=>by
  have hb:=hf.2.2
  refine EvP.step (fun k=>by rw [spec_l1Cur_path.l0]) ?_
  simp (disch:=omega) only [if_pos]
  refine EvP.bind ⟨_,rfl,spec_floor w h bl (by omega)⟩ (fun t ht=>?_)
  subst ht
  by_cases hok : FloorOk w h bl
  ·rw [chk_pos hok]
   refine EvP.step (fun k=>by rw [spec_l1Cur_path.j1]) ?_
   simp only [if_true]
   refine EvP.bind ⟨_,rfl,spec_nbx hok (by omega) (c:=⟨x,y⟩) hx⟩ (fun t ht=>?_)
   subst ht
   refine EvP.ite (fun g=>path_end hc hf A a s p (by omega) a0 (by omega) A1) (fun g=>?_)
   refine EvP.pick hc a0 (by omega) (fun b a' s' b0 b1 h0 h1=>?_)
   dsimp only
   have hlt : b < ((nbOf w h bl ⟨x,y⟩).length : Int):=by omega
   simp only [if_pos b0,if_pos hlt,if_pos (show p.length < 8796093022208 by omega),wrap64_id (x:=n - 1) (show -9223372036854775808 ≤ n - 1 by omega) (show n - 1 ≤ 9223372036854775807 by omega)]
   have hm : rd_T48 (nbOf w h bl ⟨x,y⟩) b ∈ nbOf w h bl ⟨x,y⟩:=by
    unfold rd_T48
    rw [List.getD_eq_getElem?_getD,List.getElem?_eq_getElem (show b.toNat < (nbOf w h bl ⟨x,y⟩).length by omega)]
    exact List.getElem_mem _
   have hfr:=(nb_mem.1 hm).1
   have hin:=free_in hok hfr
   exact path_loop hc hf A A1 d (n - 1) a' s' _ _ _ (by omega) ⟨by omega,by omega⟩ (by rw [len_one];omega) (by omega) (by omega)
  ·rw [chk_neg hok]
   refine EvP.step (fun k=>by rw [spec_l1Cur_path.j1]) ?_
   simp only [Bool.false_eq_true,if_false]
   exact path_end hc hf A a s p (by omega) a0 (by omega) A1
theorem path_ok {l : List Int} (hc : Cd l) {w h : Int} {bl : List S48} (hf : SmF w h bl) (A a s : Int) (a0 : 0 ≤ a) (a1 : a + 100 ≤ A) (A1 : A ≤ 10000) : EvP (fun k=>spec_l1Cur_path.f k l a s w h bl) (PathQ A):=by
 unfold spec_l1Cur_path.f;refine EvP.bind (cell_ok hc hf (a + 20) a s a0 (by omega) (by omega)) (fun r hr=>?_);obtain ⟨x,y,a2,s2⟩:=r;obtain ⟨hx,h0,h1⟩:=hr;dsimp only at hx h0 h1 ⊢;refine EvP.pick hc h0 (by omega) (fun b a' s' b0 b1 h2 h3=>?_);dsimp only;exact path_loop hc hf A A1 b.toNat b a' s' x y _ (by omega) hx (by simp only [List.length_cons,List.length_nil];omega) (by omega) (by omega)
def FleetQ (r : Int × Int × List S48 × List S48 × List S48) : Prop:=(r.2.2.1.length : Int) ≤ 60 ∧ (r.2.2.2.1.length : Int) ≤ 20 ∧ (r.2.2.2.2.length : Int) ≤ 20
theorem fleet_loop {l : List Int} (hc : Cd l) {w h : Int} {bl : List S48} (hf : SmF w h bl) : ∀ (d : Nat) (n a s : Int) (p q : List S48),n = d → (p.length : Int) + d ≤ 4 → (q.length : Int) + d ≤ 4 → 0 ≤ a → a + 40 * d ≤ 900 → EvP (fun k=>spec_DrawPlanFleet.l0 k p q n l a s w h bl) FleetQ
 | 0,n,a,s,p,q,hd,hp,hq,a0,a1=>by
  refine EvP.step (fun k=>by rw [spec_DrawPlanFleet.l0]) ?_
  simp (disch:=omega) only [if_neg]
  refine EvP.one hc a0 (by omega) (fun b a' s' h0 h1=>?_)
  dsimp only
  refine EvP.ite (fun g=>?_) (fun g=>?_)
  ·refine EvP.bind (cell_ok hc hf (a' + 20) a' s' (by omega) (by omega) (by omega)) (fun r hr=>?_)
   simp only [if_pos (show q.length < 8796093022208 by omega)]
   exact EvP.now _ ⟨hf.2.2,zq127,by dsimp only;rw [len_one];omega⟩
  ·exact EvP.now _ ⟨hf.2.2,zq127,zq127⟩
 | d + 1,n,a,s,p,q,hd,hp,hq,a0,a1=>by
  refine EvP.step (fun k=>by rw [spec_DrawPlanFleet.l0]) ?_
  simp (disch:=omega) only [if_pos]
  refine EvP.bind (cell_ok hc hf (a + 20) a s a0 (by omega) (by omega)) (fun r hr=>?_)
  have h0:=hr.2.1
  have h1:=hr.2.2
  refine EvP.bind (cell_ok hc hf (a + 40) _ _ h0 (by omega) (by omega)) (fun r hr=>?_)
  have h2:=hr.2.1
  have h3:=hr.2.2
  simp only [if_pos (show q.length < 8796093022208 by omega),wrap64_id (x:=n - 1) (show -9223372036854775808 ≤ n - 1 by omega) (show n - 1 ≤ 9223372036854775807 by omega)]
  exact fleet_loop hc hf d (n - 1) _ _ _ _ (by omega) (by rw [len_one];omega) (by rw [len_one];omega) h2 (by omega)
theorem draw_fleet {l : List Int} (hc : Cd l) : EvP (fun k=>spec_DrawPlanFleet.f k l) FleetQ:=by
 unfold spec_DrawPlanFleet.f;refine EvP.bind (floor_ok hc) (fun r hr=>?_);obtain ⟨w,h,bl,a,s⟩:=r;obtain ⟨hf,h0,h1⟩:=hr;dsimp only at hf h0 h1 ⊢;refine EvP.among hc h0 (by omega) (by decide) (fun v a2 s2 hv h2 h3=>?_);have hv' : 0 ≤ v ∧ v ≤ 4:=by simp only [List.mem_cons,List.not_mem_nil,or_false] at hv;omega
 dsimp only;exact fleet_loop hc hf v.toNat v a2 s2 [] [] (by omega) (by simp only [List.length_nil];omega) (by simp only [List.length_nil];omega) (by omega) (by omega)
theorem draw_coll {l : List Int} (hc : Cd l) : EvP (fun k=>spec_DrawFirstCollision.f k l) FleetQ:=by
 unfold spec_DrawFirstCollision.f;refine EvP.bind (floor_ok hc) (fun r hr=>?_);obtain ⟨w,h,bl,a,s⟩:=r;obtain ⟨hf,h0,h1⟩:=hr;dsimp only at hf h0 h1 ⊢;refine EvP.bind (path_ok hc hf (a + 100) a s h0 (by omega) (by omega)) (fun r hr=>?_);obtain ⟨p,a2,s2⟩:=r;obtain ⟨h2,h3,h4⟩:=hr;dsimp only at h2 h3 h4 ⊢;refine EvP.bind (path_ok hc hf (a + 200) a2 s2 h3 (by omega) (by omega)) (fun r hr=>?_);exact EvP.now _ ⟨hf.2.2,h2,hr.1⟩
def WaitQ (r : Int × Int × List S48 × List S48) : Prop:=(r.2.2.1.length : Int) ≤ 60 ∧ (r.2.2.2.length : Int) ≤ 20
theorem draw_wait {l : List Int} (hc : Cd l) : EvP (fun k=>spec_DrawWaitMinutes.f k l) WaitQ:=by
 unfold spec_DrawWaitMinutes.f spec_DrawIsValidPath.f;refine EvP.bind (P:=WaitQ) ?_ (fun r hr=>EvP.now _ hr);refine EvP.bind (floor_ok hc) (fun r hr=>?_);obtain ⟨w,h,bl,a,s⟩:=r;obtain ⟨hf,h0,h1⟩:=hr;dsimp only at hf h0 h1 ⊢;refine EvP.bind (path_ok hc hf (a + 100) a s h0 (by omega) (by omega)) (fun r hr=>?_);exact EvP.now _ ⟨hf.2.2,hr.1⟩
end Go.Proofs.Ytbpccdbkaiigcaa.G

/- The walks of impl.ShortestPath. -/
namespace Go.Proofs.Ytbpccdbkaiigcaa.G
open Go.RowKit Go.Proofs.YtbpccdbkaiigcaaW.PrintWords Go.Proofs.YtbpccdbkaiigcaaW.PrintLast Go.Proofs.YtbpccdbkaiigcaaW.PrintMore
end Go.Proofs.Ytbpccdbkaiigcaa.G

/- The contract of impl.ShortestPath: the first shortest path. -/
namespace Go.Proofs.Ytbpccdbkaiigcaa.G
open Go.RowKit Go.Proofs.YtbpccdbkaiigcaaW.PrintWords Go.Proofs.YtbpccdbkaiigcaaW.PrintLast
noncomputable def impl_ShortestPath.f (a0_0 : Int) (a0_1 : Int) (l0_2 : List S48) (a1_0 : Int) (a1_1 : Int) (a2_0 : Int) (a2_1 : Int) : Option (List S48 × Bool):=chk ((l0_2.length : Int) ≤ 1099511627776) (some (shortR a0_0 a0_1 l0_2 ⟨a1_0,a1_1⟩ ⟨a2_0,a2_1⟩)) none
end Go.Proofs.Ytbpccdbkaiigcaa.G

namespace Go.Proofs.Ytbpccdbkaiigcaa.G
open Go.RowKit Go.Proofs.YtbpccdbkaiigcaaW.PrintWords Go.Proofs.YtbpccdbkaiigcaaW.PrintLast Go.Proofs.YtbpccdbkaiigcaaW.PrintMore
attribute [local go_sem] max2_int min2_int max_two min_two max_three min_three max_four min_four   -- for this text's walks alone

noncomputable def spec_ShortestPath.f (k:Nat) (a0_0:Int) (a0_1:Int) (l0_2:List (S48)) (a1_0:Int) (a1_1:Int) (a2_0:Int) (a2_1:Int):Option ((List (S48)) × Bool):=(spec_l16Asked.f k a0_0 a0_1 l0_2 a1_0 a1_1 a2_0 a2_1).bind fun t0=>(if t0 = true then ((spec_l16Safe.f a0_0 a0_1 l0_2 (([]:List (List (S48)))) a1_0 a1_1 a2_0 a2_1).bind fun bt1=>(some (bt1.1,bt1.2))) else (some ((([]:List (S48))),false)))


def laws_toCell.f (a0_0:Int) (a0_1:Int):Option (Int × Int):=some (a0_0,a0_1)
end Go.Proofs.Ytbpccdbkaiigcaa.G

/- What spec.ShortestPath answers. -/
namespace Go.Proofs.Ytbpccdbkaiigcaa.G
open Go.RowKit Go.Proofs.YtbpccdbkaiigcaaW.PrintWords Go.Proofs.YtbpccdbkaiigcaaW.PrintLast
theorem safeP_len {w h : Int} {bl : List S48} {os : List (List S48)} {a b : S48} {p : List S48} (hp : safeP w h bl os a b = some p) : 1 ≤ p.length ∧ p.length ≤ 25:=by
 unfold safeP at hp;by_cases hh : HitAt os a a 0
 ·rw [chk_pos hh] at hp;cases hp
 ·rw [chk_neg hh] at hp
  cases hf : firstN (EndS w h bl os a b) 25 0 with
  | none=>rw [hf] at hp;cases hp
  | some e =>
   rw [hf] at hp;have h1 : trace (nxS w h bl os a b e) a e = some p:=hp;have:=trace_len h1;have:=(firstN_some hf).2.2;omega
theorem safeR_len (w h : Int) (bl : List S48) (os : List (List S48)) (a b : S48) : (safeR w h bl os a b).1.length ≤ 25:=by
 cases hp : safeP w h bl os a b with
 | none=>rw [safeR_none hp];exact Nat.zero_le _
 | some p=>rw [safeR_some hp];exact (safeP_len hp).2
end Go.Proofs.Ytbpccdbkaiigcaa.G

namespace Go.Proofs.Ytbpccdbkaiigcaa.G
open Go.RowKit Go.Proofs.YtbpccdbkaiigcaaW.PrintWords Go.Proofs.YtbpccdbkaiigcaaW.PrintLast Go.Proofs.YtbpccdbkaiigcaaW.PrintMore
attribute [local go_sem] max2_int min2_int max_two min_two max_three min_three max_four min_four   -- for this text's walks alone

mutual
noncomputable def spec_SafePath.j0:Nat → List (List (S48)) → Bool → Int → Int → List (S48) → Int → Int → Int → Int → Option ((List (S48)) × Bool)
 | 0,_,_,_,_,_,_,_,_,_=>none
 | k + 1,x1,x20,x0,x2,x3,x4,x5,x6,x7=>if x20 = true then (some ((([]:List (S48))),false)) else (spec_SafePath.l0 k x1 0 x0 x2 x3 x4 x5 x6 x7)
noncomputable def spec_SafePath.l0:Nat → List (List (S48)) → Int → Int → Int → List (S48) → Int → Int → Int → Int → Option ((List (S48)) × Bool)
 | 0,_,_,_,_,_,_,_,_,_=>none
 | k + 1,x1,x10,x0,x2,x3,x4,x5,x6,x7=>if x10 < (x1.length:Int) then (if 0 ≤ x10 then ((spec_l16Path.f k x0 x2 x3 (rd_L6 x1 x10)).bind fun t1=>(if t1 = true then (spec_SafePath.l0 k x1 (wrap64 (x10 + 1)) x0 x2 x3 x4 x5 x6 x7) else (some ((([]:List (S48))),false)))) else (none)) else ((spec_l16Safe.f x0 x2 x3 x1 x4 x5 x6 x7).bind fun bt8=>(some (bt8.1,bt8.2)))
end
noncomputable def spec_SafePath.f (k:Nat) (a0_0:Int) (a0_1:Int) (l0_2:List (S48)) (l1:List (List (S48))) (a2_0:Int) (a2_1:Int) (a3_0:Int) (a3_1:Int):Option ((List (S48)) × Bool):=(spec_l16Asked.f k a0_0 a0_1 l0_2 a2_0 a2_1 a3_0 a3_1).bind fun t0=>(if t0 = true then (spec_SafePath.j0 k l1 (decide ((l1.length:Int) > 3)) a0_0 a0_1 l0_2 a2_0 a2_1 a3_0 a3_1) else (spec_SafePath.j0 k l1 true a0_0 a0_1 l0_2 a2_0 a2_1 a3_0 a3_1))
end Go.Proofs.Ytbpccdbkaiigcaa.G

/- What spec.SafePath and impl.SafePath answer: the same. -/
namespace Go.Proofs.Ytbpccdbkaiigcaa.G
open Go.RowKit Go.Proofs.YtbpccdbkaiigcaaW.PrintWords Go.Proofs.YtbpccdbkaiigcaaW.PrintLast
noncomputable def askR (w h : Int) (bl : List S48) (os : List (List S48)) (a b : S48) : List S48 × Bool:=chk (AskOk w h bl os a b) (safeR w h bl os a b) ([],false)
theorem askR_len (w h : Int) (bl : List S48) (os : List (List S48)) (a b : S48) : (askR w h bl os a b).1.length ≤ 25:=by
 unfold askR;by_cases hc : AskOk w h bl os a b
 ·rw [chk_pos hc];exact safeR_len _ _ _ _ _ _
 ·rw [chk_neg hc];exact Nat.zero_le _
theorem impl_safe (w h : Int) (bl : List S48) (os : List (List S48)) (hb : (bl.length : Int) ≤ 1099511627776) (a0 a1 b0 b1 : Int) : impl_SafePath.f w h bl os a0 a1 b0 b1 = some (askR w h bl os ⟨a0,a1⟩ ⟨b0,b1⟩):=by
 unfold impl_SafePath.f askR;rw [chk_pos hb]
theorem rd6_in (os : List (List S48)) (i : Int) (h0 : 0 ≤ i) (h1 : i < (os.length : Int)) : rd_L6 os i ∈ os:=by
 unfold rd_L6;rw [List.getD_eq_getElem?_getD,List.getElem?_eq_getElem (by omega)];exact List.getElem_mem _
end Go.Proofs.Ytbpccdbkaiigcaa.G

namespace Go.Proofs.Ytbpccdbkaiigcaa.G
open Go.RowKit Go.Proofs.YtbpccdbkaiigcaaW.PrintWords Go.Proofs.YtbpccdbkaiigcaaW.PrintLast
noncomputable def waitTo (p : List S48) : Nat → Int
 | 0=>0
 | d + 1=>waitTo p d + chk (0 < d ∧ eqc (rd_T48 p d) (rd_T48 p ((d : Int) - 1))) 1 0
theorem waitTo_succ (p : List S48) (d : Nat) : waitTo p (d + 1) = waitTo p d + chk (0 < d ∧ eqc (rd_T48 p d) (rd_T48 p ((d : Int) - 1))) 1 0:=rfl
theorem wait_bd (p : List S48) : ∀ d : Nat,0 ≤ waitTo p d ∧ waitTo p d ≤ d:=by
 intro d
 induction d with
 | zero=>simp [waitTo]
 | succ d ih =>
  rw [waitTo_succ];by_cases h : 0 < d ∧ eqc (rd_T48 p d) (rd_T48 p ((d : Int) - 1))
  ·rw [chk_pos h];omega
  ·rw [chk_neg h];omega
theorem wait_next (p : List S48) (i : Int) (h : 1 ≤ i) : waitTo p (i + 1).toNat = waitTo p i.toNat + chk (eqc (rd_T48 p i) (rd_T48 p (i - 1))) 1 0:=by
 rw [show (i + 1).toNat = i.toNat + 1 from by omega,waitTo_succ,show ((i.toNat : Nat) : Int) = i from by omega,chk_congr (show (0 < i.toNat ∧ eqc (rd_T48 p i) (rd_T48 p (i - 1))) ↔ eqc (rd_T48 p i) (rd_T48 p (i - 1)) from ⟨fun m=>m.2,fun m=>⟨by omega,m⟩⟩)]
noncomputable def waitR (w h : Int) (bl p : List S48) : Int × Bool:=chk (PathOk w h bl p) (waitTo p p.length,true) (0,false)
theorem impl_wait (w h : Int) (bl : List S48) (hb : (bl.length : Int) ≤ 1099511627776) (p : List S48) : Ev (fun k=>impl_WaitMinutes.f k w h bl p) (waitR w h bl p):=by
 unfold impl_WaitMinutes.f waitR;refine Ev.bind (impl_path w h bl hb p) ?_;refine Ev.ite (fun g=>?_) (fun g=>?_)
 ·have g:=chk_true.1 g
  have hl:=g.2.1;rw [chk_pos g];refine Ev.up (fun k (s : Int) i=>impl_WaitMinutes.l0 k p s i) (fun _ _=>(waitTo p p.length,true)) (fun s i=>1 ≤ i ∧ s = waitTo p i.toNat) (p.length : Int) ?_ ?_ 0 1 ⟨by omega,by simp [waitTo,chk]⟩ (by omega)
  ·rintro s ⟨_,rfl⟩
   refine Ev.step (fun k=>by rw [impl_WaitMinutes.l0]) ?_;simp only [Int.lt_irrefl,if_false,Int.toNat_natCast];exact Ev.now _
  ·rintro s i ⟨i0,rfl⟩ hlt ih
   have b:=wait_bd p i.toNat;refine Ev.step (fun k=>by rw [impl_WaitMinutes.l0]) ?_;simp (disch:=omega) only [if_pos,wrap64_id];refine Ev.ite (fun e=>?_) (fun e=>?_)
   ·exact ih _ ⟨by omega,by rw [wait_next p i i0,chk_pos ((eqc_bool _ _).1 e)]⟩
   ·exact ih _ ⟨by omega,by rw [wait_next p i i0,chk_neg (fun m=>e ((eqc_bool _ _).2 m))];omega⟩
 ·rw [chk_neg (fun m=>g (chk_true.2 m))];exact Ev.now _
theorem spec_wait (w h : Int) (bl : List S48) (hb : (bl.length : Int) ≤ 1099511627776) (p : List S48) (hp : (p.length : Int) ≤ 1099511627776) : Ev (fun k=>spec_WaitMinutes.f k w h bl p) (waitR w h bl p):=by
 have no : ¬ PathOk w h bl p → Ev (fun k=>spec_WaitMinutes.j0 k p true) (waitR w h bl p):=by
  intro hn;unfold waitR;rw [chk_neg hn];refine Ev.step (fun k=>by rw [spec_WaitMinutes.j0]) ?_;simp only [if_true];exact Ev.now _
 unfold spec_WaitMinutes.f;refine Ev.bind (spec_floor w h bl hb) ?_;refine Ev.ite (fun hf=>?_) (fun hf=>no (fun m=>hf (chk_true.2 m.1)));refine Ev.bind (spec_path (chk_true.1 hf) hb p hp) ?_;by_cases g : PathOk w h bl p
 ·rw [chk_pos g]
  refine Ev.step (fun k=>by rw [spec_WaitMinutes.j0]) ?_;simp only [Bool.not_true,Bool.false_eq_true,if_false];have hl:=g.2.1;unfold waitR;rw [chk_pos g];refine Ev.up (fun k (s : Int) i=>spec_WaitMinutes.l0 k p s i) (fun _ _=>(waitTo p p.length,true)) (fun s i=>1 ≤ i ∧ s = waitTo p i.toNat) (p.length : Int) ?_ ?_ 0 1 ⟨by omega,by simp [waitTo,chk]⟩ (by omega)
  ·rintro s ⟨_,rfl⟩
   refine Ev.step (fun k=>by rw [spec_WaitMinutes.l0]) ?_;simp only [Int.lt_irrefl,if_false,Int.toNat_natCast];exact Ev.now _
  ·rintro s i ⟨i0,rfl⟩ hlt ih
   have b:=wait_bd p i.toNat;refine Ev.step (fun k=>by rw [spec_WaitMinutes.l0]) ?_;simp (disch:=omega) only [if_pos,wrap64_id];refine Ev.ite (fun e=>?_) (fun e=>?_)
   ·exact ih _ ⟨by omega,by rw [wait_next p i i0,chk_pos ((eqc_bool _ _).1 e)]⟩
   ·exact ih _ ⟨by omega,by rw [wait_next p i i0,chk_neg (fun m=>e ((eqc_bool _ _).2 m))];omega⟩
 ·rw [chk_neg g]
  exact no g
end Go.Proofs.Ytbpccdbkaiigcaa.G

/- What is known of a safe path: it is a path, it begins and ends as asked, none of the others hinders it, and none is shorter than the shortest one. -/
namespace Go.Proofs.Ytbpccdbkaiigcaa.G
open Go.RowKit Go.Proofs.YtbpccdbkaiigcaaW.PrintWords Go.Proofs.YtbpccdbkaiigcaaW.PrintLast
section
variable {w h : Int} {bl : List S48} {os : List (List S48)} {a b : S48}
theorem safeP_told (ha : Free w h bl a) (hb : Free w h bl b) {p : List S48} (hp : safeP w h bl os a b = some p) : ∃ e : Nat,e ≤ 24 ∧ EndS w h bl os a b e ∧ (∀ s,s < e → ¬ EndS w h bl os a b s) ∧ PathI w h bl os a b e e p ∧ ¬ HitAt os a a 0:=by
 unfold safeP at hp;by_cases hh : HitAt os a a 0
 ·rw [chk_pos hh] at hp;cases hp
 ·rw [chk_neg hh] at hp
  cases hf : firstN (EndS w h bl os a b) 25 0 with
  | none=>rw [hf] at hp;cases hp
  | some e =>
   rw [hf] at hp;have h1 : trace (nxS w h bl os a b e) a e = some p:=hp;have h2:=firstN_some hf;obtain ⟨q,_,hq,hI⟩:=trace_both ha hb h2.1.1 e (Nat.le_refl _);rw [h1] at hq;obtain rfl:=Option.some.inj hq;exact ⟨e,by omega,h2.1,fun s hs=>firstN_least hf s (Nat.zero_le _) hs,hI,hh⟩
theorem safe_ok (hf : FloorOk w h bl) (ha : Free w h bl a) (hb : Free w h bl b) {p : List S48} (hp : safeP w h bl os a b = some p) : PathOk w h bl p ∧ rd_T48 p 0 = a ∧ rd_T48 p ((p.length : Int) - 1) = b:=by
 obtain ⟨e,he,_,_,hI,_⟩:=safeP_told ha hb hp;have hl:=hI.len;refine ⟨⟨hf,⟨by omega,by omega⟩,fun i h0 h1=>⟨?_,fun hi=>?_⟩⟩,hI.hd,?_⟩
 ·have:=(hI.on i.toNat (by omega)).1
  rw [show ((i.toNat : Nat) : Int) = i from by omega] at this;exact lev_free ha _ _ this
 ·have:=(hI.step (i.toNat - 1) (by omega)).1
  rw [show (((i.toNat - 1 : Nat)) : Int) = i - 1 from by omega,show (((i.toNat - 1 + 1 : Nat)) : Int) = i from by omega] at this;exact this
 ·have:=(hI.on e (Nat.le_refl _)).2
  rw [Nat.sub_self] at this;rw [show (p.length : Int) - 1 = (e : Int) from by omega];exact this
theorem cat_in {p : List S48} {i : Int} (h1 : i ≤ (p.length : Int) - 1) : cat p i = rd_T48 p i:=by
 unfold cat mn;rw [if_neg (by omega)]
theorem cat_out {p : List S48} {i : Int} (h1 : (p.length : Int) - 1 ≤ i) : cat p i = rd_T48 p ((p.length : Int) - 1):=by
 unfold cat mn;by_cases e : (p.length : Int) - 1 < i
 ·rw [if_pos e]
 ·rw [if_neg e];congr 1;omega
theorem safe_miss (hf : FloorOk w h bl) (ha : Free w h bl a) (hb : Free w h bl b) {p : List S48} (hp : safeP w h bl os a b = some p) {o : List S48} (ho : o ∈ os) (i : Int) (h0 : 0 ≤ i) (h1 : i ≤ 24) : ¬ Hit p o i:=by
 obtain ⟨e,he,hE,_,hI,h00⟩:=safeP_told ha hb hp;have hl:=hI.len;have hlast : rd_T48 p ((p.length : Int) - 1) = b:=(safe_ok hf ha hb hp).2.2;intro hh;unfold Hit at hh;rw [eqc_iff,eqc_iff,eqc_iff] at hh;by_cases e0 : i = 0
 ·subst e0
  rcases hh with hh|hh
  ·rw [cat_in (by omega),hI.hd] at hh
   exact h00 ⟨o,ho,Or.inl hh.symm⟩
  ·exact absurd hh.1 (by omega)
 ·by_cases e1 : i ≤ (e : Int)
  ·have:=(hI.step (i.toNat - 1) (by omega)).2
   rw [show (((i.toNat - 1 : Nat)) : Int) = i - 1 from by omega,show (((i.toNat - 1 + 1 : Nat)) : Int) = i from by omega] at this;rw [cat_in (p:=p) (i:=i) (by omega),cat_in (p:=p) (i:=i - 1) (by omega)] at hh;rcases hh with hh|hh
   ·exact this ⟨o,ho,Or.inl hh.symm⟩
   ·exact this ⟨o,ho,Or.inr ⟨by omega,hh.2.2.symm,hh.2.1.symm⟩⟩
  ·have hr:=hE.2 i.toNat (by omega) (by omega)
   rw [show ((i.toNat : Nat) : Int) = i from by omega,hitAt_same] at hr;rw [cat_out (p:=p) (i:=i) (by omega),cat_out (p:=p) (i:=i - 1) (by omega),hlast] at hh;rcases hh with hh|hh
   ·exact hr ⟨o,ho,hh.symm⟩
   ·exact hr ⟨o,ho,hh.2.2.symm⟩
theorem collF_none {p q : List S48} : ∀ {d : Nat} {i : Int},(∀ j : Int,i ≤ j → j < i + d → ¬ Hit p q j) → collF p q d i = -1
 | 0,i,_=>rfl
 | d + 1,i,hn=>by
  rw [collF_succ,chk_neg (hn i (by omega) (by omega))]
  exact collF_none (fun j h0 h1=>hn j (by omega) (by omega))
theorem safe_coll (hf : FloorOk w h bl) (ha : Free w h bl a) (hb : Free w h bl b) {p : List S48} (hp : safeP w h bl os a b = some p) {o : List S48} (ho : o ∈ os) (hok : PathOk w h bl o) : collR w h bl p o = (0,false,true):=by
 have hpo:=(safe_ok hf ha hb hp).1;unfold collR;have m:=mx_two (p.length : Int) (o.length : Int);have l1:=hpo.2.1;have l2:=hok.2.1;rw [chk_pos ⟨hpo,hok⟩,collF_none (fun j h0 h1=>safe_miss hf ha hb hp ho j h0 (by omega))];rfl
theorem hit_comm {p q : List S48} {i : Int} : Hit p q i ↔ Hit q p i:=by
 unfold Hit;rw [eqc_iff,eqc_iff,eqc_iff,eqc_iff,eqc_iff,eqc_iff];constructor
 ·rintro (x|⟨x,y,z⟩)
  ·exact Or.inl x.symm
  ·exact Or.inr ⟨x,z.symm,y.symm⟩
 ·rintro (x|⟨x,y,z⟩)
  ·exact Or.inl x.symm
  ·exact Or.inr ⟨x,z.symm,y.symm⟩
theorem collF_comm {p q : List S48} : ∀ (d : Nat) (i : Int),collF p q d i = collF q p d i
 | 0,i=>rfl
 | d + 1,i=>by rw [collF_succ,collF_succ,chk_congr hit_comm,collF_comm d (i + 1)]
theorem coll_comm (w h : Int) (bl p q : List S48) : collR w h bl p q = collR w h bl q p:=by
 unfold collR;have m : mx (p.length : Int) (q.length : Int) = mx (q.length : Int) (p.length : Int):=by unfold mx;split <;> split <;> omega
 rw [m,collF_comm,chk_congr and_comm]
theorem wait_less (p : List S48) : ∀ d : Nat,1 ≤ d → waitTo p d < d
 | 0,h=>by omega
 | 1,_=>by rw [waitTo_succ];unfold waitTo;rw [chk_neg (by omega)];omega
 | d + 2,_=>by
  have:=wait_less p (d + 1) (by omega)
  rw [waitTo_succ]
  by_cases hc : 0 < d + 1 ∧ eqc (rd_T48 p ((d + 1 : Nat) : Int)) (rd_T48 p (((d + 1 : Nat) : Int) - 1))
  ·rw [chk_pos hc];omega
  ·rw [chk_neg hc];omega
end
theorem safeR_true {w h : Int} {bl : List S48} {os : List (List S48)} {a b : S48} (hr : (safeR w h bl os a b).2 = true) : safeP w h bl os a b = some (safeR w h bl os a b).1:=by
 cases hp : safeP w h bl os a b with
 | none=>rw [safeR_none hp] at hr;cases hr
 | some p=>rw [safeR_some hp]
theorem askR_true {w h : Int} {bl : List S48} {os : List (List S48)} {a b : S48} (hr : (askR w h bl os a b).2 = true) : AskOk w h bl os a b ∧ safeP w h bl os a b = some (askR w h bl os a b).1:=by
 unfold askR at hr ⊢;by_cases hc : AskOk w h bl os a b
 ·rw [chk_pos hc] at hr ⊢
  exact ⟨hc,safeR_true hr⟩
 ·rw [chk_neg hc] at hr;cases hr
noncomputable def planTo (w h : Int) (bl a b : List S48) : Nat → Option (List (List S48))
 | 0=>some []
 | i + 1=>(planTo w h bl a b i).bind fun os=>if (askR w h bl os (rd_T48 a (i : Int)) (rd_T48 b (i : Int))).2 = true then some (os ++ [(askR w h bl os (rd_T48 a (i : Int)) (rd_T48 b (i : Int))).1]) else none
theorem planTo_succ (w h : Int) (bl a b : List S48) (i : Nat) : planTo w h bl a b (i + 1) = (planTo w h bl a b i).bind fun os=>if (askR w h bl os (rd_T48 a (i : Int)) (rd_T48 b (i : Int))).2 = true then some (os ++ [(askR w h bl os (rd_T48 a (i : Int)) (rd_T48 b (i : Int))).1]) else none:=rfl
def Apart (w h : Int) (bl : List S48) (os : List (List S48)) : Prop := ∀ i k : Nat,i < os.length → k < i → collR w h bl (rd_L6 os (i : Int)) (rd_L6 os (k : Int)) = (0,false,true)
theorem apart_nil (w h : Int) (bl : List S48) : Apart w h bl []:=fun i k hi=>absurd hi (Nat.not_lt_zero _)
theorem rd6_app_lt {os : List (List S48)} {p : List S48} {i : Nat} (hi : i < os.length) : rd_L6 (os ++ [p]) (i : Int) = rd_L6 os (i : Int):=by
 unfold rd_L6;rw [Int.toNat_natCast,List.getD_eq_getElem?_getD,List.getD_eq_getElem?_getD,List.getElem?_append_left hi]
theorem rd6_app_eq {os : List (List S48)} {p : List S48} {i : Nat} (hi : i = os.length) : rd_L6 (os ++ [p]) (i : Int) = p:=by
 unfold rd_L6;subst hi;rw [Int.toNat_natCast,List.getD_eq_getElem?_getD,List.getElem?_append_right (Nat.le_refl _),Nat.sub_self];rfl
theorem plan_ok {w h : Int} {bl a b : List S48} : ∀ {i : Nat} {os : List (List S48)},planTo w h bl a b i = some os → os.length = i ∧ (∀ p ∈ os,PathOk w h bl p ∧ p.length ≤ 25) ∧ Apart w h bl os ∧ ∀ j : Nat,j < i → Free w h bl (rd_T48 a (j : Int)) ∧ Free w h bl (rd_T48 b (j : Int))
 | 0,os,e=>by
  rw [planTo] at e
  obtain rfl:=Option.some.inj e
  exact ⟨rfl,(fun p hp=>by cases hp),apart_nil w h bl,fun j hj=>by omega⟩
 | i + 1,os,e=>by
  rw [planTo_succ] at e
  cases hq : planTo w h bl a b i with
  | none=>rw [hq] at e;cases e
  | some qs =>
   rw [hq] at e
   have e : (if (askR w h bl qs (rd_T48 a (i : Int)) (rd_T48 b (i : Int))).2 = true then some (qs ++ [(askR w h bl qs (rd_T48 a (i : Int)) (rd_T48 b (i : Int))).1]) else none) = some os:=e
   by_cases hr : (askR w h bl qs (rd_T48 a (i : Int)) (rd_T48 b (i : Int))).2 = true
   ·rw [if_pos hr] at e
    obtain rfl:=Option.some.inj e
    obtain ⟨h1,h2,h3,h4⟩:=plan_ok hq
    obtain ⟨hk,hs⟩:=askR_true hr
    have hp:=safe_ok hk.1 hk.2.2.1 hk.2.2.2.1 hs
    refine ⟨by rw [List.length_append,h1];rfl,fun p hp'=>?_,fun j k hj hk'=>?_,fun j hj=>?_⟩
    ·rcases List.mem_append.1 hp' with hp'|hp'
     ·exact h2 p hp'
     ·rw [List.mem_singleton] at hp'
      subst hp'
      exact ⟨hp.1,by have:=hp.1.2.1;omega⟩
    ·rw [List.length_append,List.length_singleton] at hj
     by_cases ej : j = qs.length
     ·rw [rd6_app_eq ej,rd6_app_lt (by omega)]
      have hin : rd_L6 qs (k : Int) ∈ qs:=rd6_in qs k (by omega) (by omega)
      exact safe_coll hk.1 hk.2.2.1 hk.2.2.2.1 hs hin (h2 _ hin).1
     ·rw [rd6_app_lt (by omega),rd6_app_lt (by omega)]
      exact h3 j k (by omega) hk'
    ·by_cases ej : j = i
     ·rw [ej];exact ⟨hk.2.2.1,hk.2.2.2.1⟩
     ·exact h4 j (by omega)
   ·rw [if_neg hr] at e;cases e
noncomputable def fleetR (w h : Int) (bl a b : List S48) : List (List S48) × Bool:=chk (FloorOk w h bl ∧ (a.length : Int) = (b.length : Int) ∧ (a.length : Int) ≤ 3) (match planTo w h bl a b a.length with|some os=>(os,true)|none=>([],false)) ([],false)
theorem fleet_ok (w h : Int) (bl a b : List S48) : (fleetR w h bl a b).1.length ≤ 3 ∧ (∀ p ∈ (fleetR w h bl a b).1,PathOk w h bl p ∧ p.length ≤ 25) ∧ Apart w h bl (fleetR w h bl a b).1:=by
 unfold fleetR;have no : ([] : List (List S48)).length ≤ 3 ∧ (∀ p ∈ ([] : List (List S48)),PathOk w h bl p ∧ p.length ≤ 25) ∧ Apart w h bl []:=⟨by simp,(fun p hp=>by cases hp),apart_nil w h bl⟩;by_cases hc : FloorOk w h bl ∧ (a.length : Int) = (b.length : Int) ∧ (a.length : Int) ≤ 3
 ·rw [chk_pos hc]
  cases hp : planTo w h bl a b a.length with
  | none=>exact no
  | some os =>
   have:=plan_ok hp;exact ⟨by have:=this.1;show os.length ≤ 3;omega,this.2.1,this.2.2.1⟩
 ·rw [chk_neg hc];exact no
end Go.Proofs.Ytbpccdbkaiigcaa.G

/- What spec.PlanFleet and impl.PlanFleet answer: the same. -/
namespace Go.Proofs.Ytbpccdbkaiigcaa.G
open Go.RowKit Go.Proofs.YtbpccdbkaiigcaaW.PrintWords Go.Proofs.YtbpccdbkaiigcaaW.PrintLast
section
variable {w h : Int} {bl a b : List S48}
theorem planTo_none {i : Nat} (hn : planTo w h bl a b i = none) : ∀ d : Nat,planTo w h bl a b (i + d) = none
 | 0=>hn
 | d + 1=>by rw [show i + (d + 1) = (i + d) + 1 from rfl,planTo_succ,planTo_none hn d];rfl
theorem planTo_yes {i : Nat} {os : List (List S48)} (e : planTo w h bl a b i = some os) (hr : (askR w h bl os (rd_T48 a (i : Int)) (rd_T48 b (i : Int))).2 = true) : planTo w h bl a b (i + 1) = some (os ++ [(askR w h bl os (rd_T48 a (i : Int)) (rd_T48 b (i : Int))).1]):=by
 rw [planTo_succ,e];exact if_pos hr
theorem planTo_no {i : Nat} {os : List (List S48)} (e : planTo w h bl a b i = some os) (hr : ¬ (askR w h bl os (rd_T48 a (i : Int)) (rd_T48 b (i : Int))).2 = true) : planTo w h bl a b (i + 1) = none:=by
 rw [planTo_succ,e];exact if_neg hr
theorem fleet_pos (hc : FloorOk w h bl ∧ (a.length : Int) = (b.length : Int) ∧ (a.length : Int) ≤ 3) {os : List (List S48)} (e : planTo w h bl a b a.length = some os) : fleetR w h bl a b = (os,true):=by
 unfold fleetR;rw [chk_pos hc,e]
theorem fleet_none (e : planTo w h bl a b a.length = none) : fleetR w h bl a b = ([],false):=by
 unfold fleetR;rw [e];unfold chk;split <;> rfl
theorem fleet_neg (hc : ¬ (FloorOk w h bl ∧ (a.length : Int) = (b.length : Int) ∧ (a.length : Int) ≤ 3)) : fleetR w h bl a b = ([],false):=by
 unfold fleetR;rw [chk_neg hc]
end
theorem impl_plan (w h : Int) (bl : List S48) (hb : (bl.length : Int) ≤ 1099511627776) (a b : List S48) : Ev (fun k=>impl_PlanFleet.f k w h bl a b) (fleetR w h bl a b):=by
 have no : ¬ (FloorOk w h bl ∧ (a.length : Int) = (b.length : Int) ∧ (a.length : Int) ≤ 3) → Ev (fun k=>impl_PlanFleet.j0 k a b true w h bl) (fleetR w h bl a b):=by
  intro hn;rw [fleet_neg hn];refine Ev.step (fun k=>by rw [impl_PlanFleet.j0]) ?_;simp only [if_true];exact Ev.now _
 unfold impl_PlanFleet.f;refine Ev.bind (impl_floor w h bl hb) ?_;by_cases hf : FloorOk w h bl
 ·rw [chk_pos hf]
  simp only [if_true];by_cases he : (a.length : Int) = (b.length : Int)
  ·simp only [if_pos he]
   by_cases h3 : (a.length : Int) > 3
   ·rw [decide_eq_true h3]
    exact no (fun x=>by have:=x.2.2;omega)
   ·rw [decide_eq_false h3]
    refine Ev.step (fun k=>by rw [impl_PlanFleet.j0]) ?_;simp only [Bool.false_eq_true,if_false];refine Ev.up (fun k (os : List (List S48)) i=>impl_PlanFleet.l0 k a b os (a.length : Int) i w h bl) (fun _ _=>fleetR w h bl a b) (fun os i=>0 ≤ i ∧ planTo w h bl a b i.toNat = some os) (a.length : Int) ?_ ?_ [] 0 ⟨Int.le_refl _,rfl⟩ (by omega)
    ·rintro os ⟨_,hp⟩
     rw [Int.toNat_natCast] at hp;refine Ev.step (fun k=>by rw [impl_PlanFleet.l0]) ?_;simp only [Int.lt_irrefl,if_false];rw [fleet_pos ⟨hf,he,by omega⟩ hp];exact Ev.now _
    ·rintro os i ⟨h0,hp⟩ hlt ih
     (have hpo:=plan_ok hp;have e9 : wrap64 (i + 1) = i + 1:=wrap64_id (by omega) (by omega);have hi : ((i.toNat : Nat) : Int) = i:=by omega);have hi1 : (i + 1).toNat = i.toNat + 1:=by omega
     refine Ev.step (fun k=>by rw [impl_PlanFleet.l0]) ?_;simp only [if_pos hlt,if_pos h0,if_pos (show i < (b.length : Int) by omega),e9,impl_safe w h bl os hb,Option.bind_some];refine Ev.ite (fun g=>?_) (fun g=>?_)
     ·simp only [if_pos (show os.length < 5864062014805 by have:=hpo.1;omega)]
      refine ih _ ⟨by omega,?_⟩;rw [hi1];have:=planTo_yes hp (by rw [hi];exact g);rw [hi] at this;exact this
     ·have:=planTo_no hp (by rw [hi];exact g)
      have:=planTo_none this (a.length - (i.toNat + 1));rw [show i.toNat + 1 + (a.length - (i.toNat + 1)) = a.length from by omega] at this;rw [fleet_none this];exact Ev.now _
  ·simp only [if_neg he]
   exact no (fun x=>he x.2.1)
 ·rw [chk_neg hf]
  simp only [Bool.false_eq_true,if_false];exact no (fun x=>hf x.1)
theorem spec_plan (w h : Int) (bl : List S48) (hb : (bl.length : Int) ≤ 1099511627776) (a b : List S48) : Ev (fun k=>spec_PlanFleet.f k w h bl a b) (fleetR w h bl a b):=by
 have no : ¬ (FloorOk w h bl ∧ (a.length : Int) = (b.length : Int) ∧ (a.length : Int) ≤ 3) → Ev (fun k=>spec_PlanFleet.j0 k a b [] true w h bl) (fleetR w h bl a b):=by
  intro hn;rw [fleet_neg hn];refine Ev.step (fun k=>by rw [spec_PlanFleet.j0]) ?_;simp only [if_true];exact Ev.now _
 unfold spec_PlanFleet.f;simp only [Option.bind_some];refine Ev.bind (spec_floor w h bl hb) ?_;by_cases hf : FloorOk w h bl
 ·rw [chk_pos hf]
  simp only [if_true];by_cases he : (a.length : Int) = (b.length : Int)
  ·simp only [if_pos he]
   by_cases h3 : (a.length : Int) > 3
   ·rw [decide_eq_true h3]
    exact no (fun x=>by have:=x.2.2;omega)
   ·rw [decide_eq_false h3]
    refine Ev.step (fun k=>by rw [spec_PlanFleet.j0]) ?_;simp only [Bool.false_eq_true,if_false];refine Ev.up (fun k (_ : Unit) i=>spec_PlanFleet.l0 k a b [] i w h bl) (fun _ _=>fleetR w h bl a b) (fun _ i=>0 ≤ i ∧ ∀ j : Int,0 ≤ j → j < i → Free w h bl (rd_T48 a j) ∧ Free w h bl (rd_T48 b j)) (a.length : Int) ?_ ?_ () 0 ⟨Int.le_refl _,fun j h0 h1=>by omega⟩ (by omega)
    ·rintro _ ⟨_,hfree⟩
     refine Ev.step (fun k=>by rw [spec_PlanFleet.l0]) ?_;simp only [Int.lt_irrefl,if_false];refine Ev.up (fun k (os : List (List S48)) i=>spec_PlanFleet.l1 k a b os i w h bl) (fun _ _=>fleetR w h bl a b) (fun os i=>0 ≤ i ∧ planTo w h bl a b i.toNat = some os) (a.length : Int) ?_ ?_ [] 0 ⟨Int.le_refl _,rfl⟩ (by omega)
     ·rintro os ⟨_,hp⟩
      rw [Int.toNat_natCast] at hp;refine Ev.step (fun k=>by rw [spec_PlanFleet.l1]) ?_;simp only [Int.lt_irrefl,if_false];rw [fleet_pos ⟨hf,he,by omega⟩ hp];exact Ev.now _
     ·rintro os i ⟨h0,hp⟩ hlt ih
      (have hpo:=plan_ok hp;have e9 : wrap64 (i + 1) = i + 1:=wrap64_id (by omega) (by omega);have hi : ((i.toNat : Nat) : Int) = i:=by omega);have hi1 : (i + 1).toNat = i.toNat + 1:=by omega
      have hfr:=hfree i h0 hlt;have hok : AskOk w h bl os (rd_T48 a i) (rd_T48 b i):=⟨hf,by have:=hpo.1;omega,hfr.1,hfr.2,fun p hp'=>(hpo.2.1 p hp').1⟩
      have hsf : spec_l16Safe.f w h bl os (rd_T48 a i).f0 (rd_T48 a i).f1 (rd_T48 b i).f0 (rd_T48 b i).f1 = some (askR w h bl os (rd_T48 a i) (rd_T48 b i)):=by
       unfold spec_l16Safe.f askR;rw [chk_pos (show SafeOk w h bl os ⟨(rd_T48 a i).f0,(rd_T48 a i).f1⟩ ⟨(rd_T48 b i).f0,(rd_T48 b i).f1⟩ from ⟨hf,hb,hfr.1,hfr.2,hok.len⟩),chk_pos hok]
      refine Ev.step (fun k=>by rw [spec_PlanFleet.l1]) ?_;simp only [if_pos hlt,if_pos h0,if_pos (show i < (b.length : Int) by omega),e9,hsf,Option.bind_some];refine Ev.ite (fun g=>?_) (fun g=>?_)
      ·simp only [if_pos (show os.length < 5864062014805 by have:=hpo.1;omega)]
       refine ih _ ⟨by omega,?_⟩;rw [hi1];have:=planTo_yes hp (by rw [hi];exact g);rw [hi] at this;exact this
      ·have:=planTo_no hp (by rw [hi];exact g)
       have:=planTo_none this (a.length - (i.toNat + 1));rw [show i.toNat + 1 + (a.length - (i.toNat + 1)) = a.length from by omega] at this;rw [fleet_none this];exact Ev.now _
    ·rintro _ i ⟨h0,hfree⟩ hlt ih
     have e9 : wrap64 (i + 1) = i + 1:=wrap64_id (by omega) (by omega);refine Ev.step (fun k=>by rw [spec_PlanFleet.l0]) ?_;simp only [if_pos hlt,if_pos h0,if_pos (show i < (b.length : Int) by omega),e9];refine Ev.bind (spec_asked w h bl hb (rd_T48 a i) (rd_T48 b i)) ?_;by_cases hc : FloorOk w h bl ∧ Free w h bl (rd_T48 a i) ∧ Free w h bl (rd_T48 b i)
     ·rw [chk_pos hc]
      simp only [if_true];refine ih () ⟨by omega,fun j j0 j1=>?_⟩;by_cases e : j = i
      ·rw [e];exact hc.2
      ·exact hfree j j0 (by omega)
     ·rw [chk_neg hc]
      simp only [Bool.false_eq_true,if_false]
      have hn : planTo w h bl a b a.length = none:=by
       cases hp : planTo w h bl a b a.length with
       | none=>rfl
       | some os =>
        have:=(plan_ok hp).2.2.2 i.toNat (by omega);rw [show ((i.toNat : Nat) : Int) = i from by omega] at this;exact absurd ⟨hf,this⟩ hc
      rw [fleet_none hn];exact Ev.now _
  ·simp only [if_neg he]
   exact no (fun x=>he x.2.1)
 ·rw [chk_neg hf]
  simp only [Bool.false_eq_true,if_false];exact no (fun x=>hf x.1)
end Go.Proofs.Ytbpccdbkaiigcaa.G

/- FnFleets: no two vehicles of a planned fleet collide, and collisions are mutual (for drawn bytes of at most 2^16; else the statement is true at once). -/
namespace Go.Proofs.Ytbpccdbkaiigcaa.Pure
open Go.RowKit Go.Proofs.Ytbpccdbkaiigcaa.G Go.Proofs.YtbpccdbkaiigcaaW.PrintWords Go.Proofs.YtbpccdbkaiigcaaW.PrintLast
theorem vPath_V (xs : List S48) (h : (xs.length : Int) ≤ 1048576) : Ev (fun k=>laws_vPath.f k xs xs) true:=by
 unfold laws_vPath.f;simp only [if_true];refine Ev.upc (fun k i=>laws_vPath.l0 k xs xs i) true (xs.length : Int) 0 ?_ ?_ 0 (by omega) (by omega)
 ·refine Ev.step (fun k=>by rw [laws_vPath.l0]) ?_
  simp only [Int.lt_irrefl,if_false];exact Ev.now _
 ·intro i h0 hlt hr
  refine Ev.step (fun k=>by rw [laws_vPath.l0]) ?_;simp (disch:=omega) only [wrap64_id,if_pos,beq_self_eq_true,Bool.not_true,Bool.or_self,Bool.false_eq_true,if_false];exact hr
theorem fleets4 {l : List Int} (hc : Cd l) : Ev (fun k=>laws_FnFleets.j4 k l false) true:=by
 refine Ev.step (fun k=>by rw [laws_FnFleets.j4]) ?_;simp only [Bool.false_eq_true,if_false];obtain ⟨⟨w,h,bl,p⟩,⟨h1,h2⟩,e⟩:=draw_wait hc;dsimp only at h1 h2;refine Ev.bind e ?_;dsimp only;refine Ev.bind (impl_wait w h bl (by omega) p) (Ev.bind (spec_wait w h bl (by omega) p (by omega)) ?_);simp only [if_true,beq_self_eq_true];unfold waitR;by_cases hp : PathOk w h bl p
 ·rw [chk_pos hp]
  simp only [if_true];have hl:=hp.2.1;have hw:=wait_less p p.length (by omega);rw [decide_eq_true hw];exact Ev.now _
 ·rw [chk_neg hp]
  simp only [Bool.false_eq_true,if_false];exact Ev.now _
theorem fleets1 {l : List Int} {w h : Int} {bl : List S48} {os : List (List S48)} (hb : (bl.length : Int) ≤ 1048576) (ho : (os.length : Int) ≤ 3) (ha : Apart w h bl os) {i : Int} (i0 : 0 ≤ i) (i1 : i < (os.length : Int)) (nx : Ev (fun k=>laws_FnFleets.l0 k l os os (i + 1) w h bl) true) :
  Ev (fun k=>laws_FnFleets.l1 k l os os i 0 w h bl) true:=by
 refine Ev.upc (fun k j=>laws_FnFleets.l1 k l os os i j w h bl) true i 0 ?_ ?_ 0 (by omega) (by omega)
 ·refine Ev.step (fun k=>by rw [laws_FnFleets.l1]) ?_
  simp only [Int.lt_irrefl,if_false,wrap64_id (x:=i + 1) (by omega) (by omega)];exact nx
 ·intro j j0 j1 hr
  refine Ev.step (fun k=>by rw [laws_FnFleets.l1]) ?_;simp (disch:=omega) only [if_pos,wrap64_id];have hcol:=ha i.toNat j.toNat (by omega) (by omega);rw [show ((i.toNat : Nat) : Int) = i from by omega,show ((j.toNat : Nat) : Int) = j from by omega] at hcol;refine Ev.bind (impl_first w h bl (by omega) (rd_L6 os i) (rd_L6 os j)) ?_;rw [hcol];simp only [if_true,Bool.false_eq_true,if_false];exact hr
theorem FnFleets : laws_FnFleets.Pure:=by
 intro l hw;refine Ev.rounds (g:=fun k=>laws_FnFleets.f k l) (r:=true) ?_;unfold laws_FnFleets.f laws_vBig.f;simp only [Option.bind_some];refine Ev.ite (fun _=>Ev.now _) (fun hbig=>?_);have hc : Cd l:=cd_of (by simpa using hbig) hw.2;obtain ⟨⟨w,h,bl,a,b⟩,⟨h1,h2,h3⟩,e⟩:=draw_fleet hc;dsimp only at h1 h2 h3;refine Ev.bind e ?_;dsimp only;refine Ev.bind (impl_plan w h bl (by omega) a b) (Ev.bind (spec_plan w h bl (by omega) a b) ?_);have hf:=fleet_ok w h bl a b;obtain ⟨⟨os,ok⟩,hR⟩ : ∃ R,fleetR w h bl a b = R:=⟨_,rfl⟩;rw [hR] at hf ⊢;obtain ⟨f1,f2,f3⟩:=hf;dsimp only at f1 f2 f3 ⊢;simp only [bne_self_eq_false,Bool.false_eq_true,if_false];refine Ev.step (fun k=>by rw [laws_FnFleets.j0]) ?_;simp only [Bool.false_eq_true,if_false];refine Ev.upc (fun k i=>laws_FnFleets.l0 k l os os i w h bl) true (os.length : Int) 0 ?_ ?_ 0 (by omega) (by omega)
 ·refine Ev.step (fun k=>by rw [laws_FnFleets.l0]) ?_
  simp only [Int.lt_irrefl,if_false];obtain ⟨⟨w,h,bl,p,q⟩,⟨c1,c2,c3⟩,e⟩:=draw_coll hc;dsimp only at c1 c2 c3;refine Ev.bind e ?_;dsimp only;refine Ev.bind (impl_first w h bl (by omega) p q) (Ev.bind (impl_first w h bl (by omega) q p) (Ev.bind (spec_first w h bl (by omega) p q (by omega) (by omega)) ?_));rw [coll_comm w h bl q p];simp only [if_true,bne_self_eq_false,Bool.false_eq_true,if_false];exact fleets4 hc
 ·intro i i0 i1 hr
  have hin:=rd6_in os i i0 i1;have hpo:=f2 _ hin;refine Ev.step (fun k=>by rw [laws_FnFleets.l0]) ?_;simp (disch:=omega) only [if_pos];refine Ev.bind (vPath_V (rd_L6 os i) (by omega)) ?_;simp only [if_true];refine Ev.bind (impl_path w h bl (by omega) (rd_L6 os i)) ?_;rw [chk_pos hpo.1];refine Ev.step (fun k=>by rw [laws_FnFleets.j2]) ?_;simp only [Bool.not_true,Bool.false_eq_true,if_false];exact fleets1 (by omega) (by omega) f3 i0 i1 hr
end Go.Proofs.Ytbpccdbkaiigcaa.Pure

namespace Go.Proofs.Ytbpccdbkaiigcaa.G
open Go.RowKit Go.ChangeShapes Go.WideShapes Go.Deep Go.Proofs.YtbpccdbkaiigcaaW.PrintWords Go.Proofs.YtbpccdbkaiigcaaW.PrintLast
def Opens {α : Type} (P : Program) (t : TypeId) (d : Kd α) (Wf : α → Prop) : Prop :=
 ∀ {H : Type} {enc : TypeId × Value → H} {W : World} {spare : Nat → Bool} {held : Bool} {fuel : Nat} {cs : List Value} {x : DataW H × List MemPlace},
  DataW.trod enc P W 0 spare held fuel t cs = some x → ∃ a,d.K W a cs ∧ Wf a
theorem opens_int {P : Program} {t : TypeId} {k : IntKind} (ht : P.underlying t = some (.int k)) : Opens P t (Kd.int k) (fun x=>(Lit.int k x).wf = true):=by
 intro H enc W spare held fuel cs x h;obtain ⟨n,rfl,_,hw⟩:=DataW.trod_int ht h;exact ⟨n,rfl,hw⟩
theorem opens_row {α : Type} {d : Kd α} {Wf : α → Prop} {W : World} (Q : Nat → List Value → Prop) (hq : ∀ i cs,Q i cs → ∃ a,d.K W a cs ∧ Wf a) (n : Nat) (h : ∀ i,i < n → ∃ cs,Q i cs) :
  ∃ xs : List α,xs.length = n ∧ (∀ y ∈ xs,Wf y) ∧ ∀ j p,xs[j]? = some p → ∃ cs,Q j cs ∧ d.K W p cs:=by
 induction n with
 | zero=>exact ⟨[],rfl,fun y hy=>by simp at hy,fun j p hp=>by simp at hp⟩
 | succ n ih =>
  obtain ⟨xs,hl,hw,hx⟩:=ih (fun i hi=>h i (by omega));obtain ⟨cs,hcs⟩:=h n (by omega);obtain ⟨a,ha,hwa⟩:=hq n cs hcs;refine ⟨xs ++ [a],by simp [hl],fun y hy=>?_,fun j p hp=>?_⟩
  ·rcases List.mem_append.1 hy with hy|hy
   ·exact hw y hy
   ·rw [List.mem_singleton.1 hy];exact hwa
  ·rcases Nat.lt_or_ge j xs.length with hj|hj
   ·rw [List.getElem?_append_left hj] at hp
    exact hx j p hp
   ·rw [List.getElem?_append_right hj] at hp
    have h0 : j - xs.length = 0:=by
     rcases Nat.eq_zero_or_pos (j - xs.length) with h0|h0
     ·exact h0
     ·rw [List.getElem?_eq_none (by simp;omega)] at hp;cases hp
    (rw [h0] at hp;simp at hp;subst hp;have : j = n:=by omega);subst this;exact ⟨cs,hcs,ha⟩
theorem opens_slice {α : Type} {P : Program} {t e : TypeId} {d : Kd α} {Wf : α → Prop} (ht : P.underlying t = some (.slice e)) (hC : P.cellsOf e = d.sz) (ho : Opens P e d Wf) :
  Opens P t (Kd.slice e d) (fun xs=>xs.length ≤ maxLen ∧ ∀ y ∈ xs,Wf y):=by
 intro H enc W spare held fuel cs x h;rcases open_slice ht h with ⟨rfl,_⟩|⟨a,len,cap,m,n,D,Pl,rfl,_,hl,hm,hmm,_,hi⟩
 ·exact ⟨[],⟨none,0,rfl,Nat.le_refl _,rfl,by simp,fun h=>by simp at h⟩,by simp [maxLen],fun y hy=>by simp at hy⟩
 ·have hml : len ≤ m:=by rw [hmm];split <;> omega
  obtain ⟨xs,hxl,hw,hx⟩:=opens_row (W:=W) (d:=d) (Wf:=Wf) (fun i cs'=>W.cells? 0 (a.add (i * P.cellsOf e)) (P.cellsOf e) = some cs' ∧ DataW.trod enc P W 0 spare held n e cs' = some (D i,Pl i))
   (fun i cs' hq=>ho hq.2) len (fun i hi'=>hi i (by omega))
  refine ⟨xs,⟨some a,cap,by rw [hxl],by omega,rfl,?_,fun _=>⟨a,rfl,fun j p hj=>?_⟩⟩,by omega,hw⟩
  ·simp only [maxLen] at hm
   omega
  ·obtain ⟨cs',⟨hc,_⟩,hK⟩:=hx j p hj
   obtain ⟨_,hcl,hat⟩:=World.cells?_some hc;refine ⟨cs',d.K_len hK,hK,fun i u hu=>?_⟩;have hil : i < cs'.length:=(List.getElem?_eq_some_iff.1 hu).1;have h1:=hat i (by omega);rw [hC] at h1;rw [← Go.Deep.add_add,h1,hu]
section
variable {α β γ δ : Type} {P : Program} {t : TypeId} {f0 f1 f2 f3 : Field} {d0 : Kd α} {d1 : Kd β} {d2 : Kd γ} {d3 : Kd δ} {W0 : α → Prop} {W1 : β → Prop} {W2 : γ → Prop} {W3 : δ → Prop}
end
theorem opens_arg {α : Type} {P : Program} {t e : TypeId} {d : Kd α} {Wf : List α → Prop} (ho : Opens P t (Kd.slice e d) Wf) {H : Type} {enc : TypeId × Value → H} {W : World} {spare : Nat → Bool} {held : Bool} {a : Option Addr} {len cap : Nat} {dd : DataW H} {p : List MemPlace}
  (h : DataW.Trod enc P W 0 spare held t (.slice a len cap) dd p) : ∃ l : List α,len = l.length ∧ l.length ≤ cap ∧ Kd.C d W a l.length l ∧ Wf l:=by
 obtain ⟨fuel,hf⟩:=h;obtain ⟨l,⟨A,c,he,hl,hC⟩,hw⟩:=ho hf;simp [Value.cells] at he;obtain ⟨rfl,rfl,rfl⟩:=he;exact ⟨l,rfl,hl,hC,hw⟩
end Go.Proofs.Ytbpccdbkaiigcaa.G
