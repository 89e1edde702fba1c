/- Texts of the proof of FnTides, joined in build order. -/
import Derived.Test.YtbglkkepfddecaaProg
import Derived.Below
import Derived.Deep.Draws
import Derived.Deep.AppendLies
import Derived.Maps.AppendAt
import Derived.OwnWalk
import Derived.Laws.BytesArg
import Derived.Laws.MakeOwn
import Derived.Laws.OwnMore
import Derived.Deep.OwnRows
import Derived.Tactics
import Derived.Lib.ConvBytes
import Derived.Laws.Slices
import Derived.WalkKit
import Derived.KernelRfl
import Derived.RowKit3
import Derived.Deep.LoopGhost
import Derived.Deep.QuietTactic
import Derived.BigQuiet
import Derived.WideLaws
import Derived.Deep.DeepCutAuto
import Derived.Deep.CutBlock
import Derived.Deep.RegionHeld3
import Derived.Laws.Rows
import Derived.Lib.AppendStr
import Derived.ArgAppend
import Derived.Laws.IdiomCopy
import Derived.OrdersHeld
import Derived.Laws.BitsLemmas
import Derived.RowKit
import Derived.Test.YtbglkkepfddecaaMgFnTides0
import Derived.IntWalk
-- Written by wip/tools/gen.py out of the translation (the kit's printer, one namespace a seat). Lean checks it.
namespace Go.Proofs.Ytbglkkepfddecaa.G
open Go.RowKit Go.Proofs.YtbglkkepfddecaaW.PrintWords Go.Proofs.YtbglkkepfddecaaW.PrintLast Go.Proofs.YtbglkkepfddecaaW.PrintMore
attribute [local go_sem] max2_int min2_int max_two min_two max_three min_three max_four min_four   -- for this text's walks alone
set_option linter.unusedVariables false
set_option linter.unusedSimpArgs false



def errW : Option Int → Value
 | none => .nilIface
 | some c => .iface 0 (.int .i64 c)
theorem errW_none : errW none = .nilIface:=rfl
theorem errW_some (c : Int) : errW (some c) = .iface 0 (.int .i64 c):=rfl

theorem info3 : (Try.prog.info? 3).map (fun i=>(i.zero,i.size,i.bytes)) = some (some (.int .i64 0),1,8):=by kernel_rfl
theorem info60 : (Try.prog.info? 60).map (fun i=>(i.zero,i.size,i.bytes)) = some (some (.agg #[(.int .i64 0),(.int .i64 0)]),2,16):=by kernel_rfl
-- the values' own types
/-! #### struct type 72 -/
structure S72 where
 f0 : Int
 f1 : Int
def z72 : S72:=⟨(0 : Int),(0 : Int)⟩
def k72 : Kd S72:=Kd.iso (Kd.pair (Kd.int .i64) (Kd.int .i64)) (fun x : S72=>(x.f0,x.f1))
theorem k72_open {w : World} {x : S72} {cs : List Value} (h : k72.K w x cs) : cs = [.int .i64 x.f0,.int .i64 x.f1]:=by
 obtain ⟨_,_,rfl,rfl,rfl⟩:=h
 exact rfl
def rd_T72 (xs : List S72) (i : Int) : S72:=xs.getD i.toNat z72
theorem at_T72 {w : World} {A : Option Addr} {n : Nat} {xs : List S72} (h : Kd.C k72 w A n xs) (i : Int) (h0 : 0 ≤ i) (h1 : i < n) : ∃ ad , A = some ad ∧ w.cell? (ad.add (i.toNat * 2)) = some (.int .i64 (rd_T72 xs i).f0) ∧ w.cell? ⟨(ad.add (i.toNat * 2)).block,(ad.add (i.toNat * 2)).off + 1,none⟩ = some (.int .i64 (rd_T72 xs i).f1):=by
 obtain ⟨ad,c,e,_,hK,hc0⟩:=Kd.C_get h z72 i h0 h1
 have hc : ∀ j u,c[j]? = some u → w.cell? (ad.add (i.toNat * 2 + j)) = some u:=hc0
 obtain rfl:=k72_open hK
 exact ⟨ad,e,hc 0 _ rfl,by rw [← add_field _ _ 1 (by omega)];exact hc 1 _ rfl⟩

/-! #### struct type 60 -/
structure S60 where
 f0 : Int
 f1 : Int
def z60 : S60:=⟨(0 : Int),(0 : Int)⟩
def k60 : Kd S60:=Kd.iso (Kd.pair (Kd.int .i64) (Kd.int .i64)) (fun x : S60=>(x.f0,x.f1))
theorem k60_open {w : World} {x : S60} {cs : List Value} (h : k60.K w x cs) : cs = [.int .i64 x.f0,.int .i64 x.f1]:=by
 obtain ⟨_,_,rfl,rfl,rfl⟩:=h
 exact rfl
theorem k60_openM {w : World} {base : Nat} {ok : Nat → Prop} {x : S60} {cs : List Value} (h : k60.M w base ok x cs) : cs = [.int .i64 x.f0,.int .i64 x.f1]:=by
 obtain ⟨_,_,rfl,rfl,rfl⟩:=h
 exact rfl
theorem k60_mkM (w : World) (base : Nat) (ok : Nat → Prop) (x : S60)  : k60.M w base ok x [.int .i64 x.f0,.int .i64 x.f1]:=⟨[.int .i64 x.f0],[.int .i64 x.f1],rfl,rfl,rfl⟩
def rd_T60 (xs : List S60) (i : Int) : S60:=xs.getD i.toNat z60
theorem at_T60 {w : World} {A : Option Addr} {n : Nat} {xs : List S60} (h : Kd.C k60 w A n xs) (i : Int) (h0 : 0 ≤ i) (h1 : i < n) : ∃ ad , A = some ad ∧ w.cell? (ad.add (i.toNat * 2)) = some (.int .i64 (rd_T60 xs i).f0) ∧ w.cell? ⟨(ad.add (i.toNat * 2)).block,(ad.add (i.toNat * 2)).off + 1,none⟩ = some (.int .i64 (rd_T60 xs i).f1):=by
 obtain ⟨ad,c,e,_,hK,hc0⟩:=Kd.C_get h z60 i h0 h1
 have hc : ∀ j u,c[j]? = some u → w.cell? (ad.add (i.toNat * 2 + j)) = some u:=hc0
 obtain rfl:=k60_open hK
 exact ⟨ad,e,hc 0 _ rfl,by rw [← add_field _ _ 1 (by omega)];exact hc 1 _ rfl⟩

def rd_L3 (xs : List (List S72)) (i : Int) : (List S72):=xs.getD i.toNat ([] : List S72)
/-! #### struct type 66 -/
structure S66 where
 f0 : Int
 f1 : Int
def z66 : S66:=⟨(0 : Int),(0 : Int)⟩
def k66 : Kd S66:=Kd.iso (Kd.pair (Kd.int .i64) (Kd.int .i64)) (fun x : S66=>(x.f0,x.f1))
def rd_T66 (xs : List S66) (i : Int) : S66:=xs.getD i.toNat z66
def rd_L7 (xs : List (List Int)) (i : Int) : (List Int):=xs.getD i.toNat ([] : List Int)
/-- What is known of such a value that came in. -/
def W72 (x : S72) : Prop:=(Lit.int .i64 x.f0).wf = true ∧ (Lit.int .i64 x.f1).wf = true
end Go.Proofs.Ytbglkkepfddecaa.G

namespace Go.Proofs.Ytbglkkepfddecaa.G
open Go.RowKit Go.Proofs.YtbglkkepfddecaaW.PrintWords Go.Proofs.YtbglkkepfddecaaW.PrintLast Go.Proofs.YtbglkkepfddecaaW.PrintMore
theorem zA {α : Type} {d : Kd α} {e : Nat} {w : World} {base : Nat} {ok : Nat → Prop} {v : Value} {xs : List α} (h : Kd.R d e w base ok v xs) (o : Obj) : Kd.R d e (w.alloc o) base ok v xs := Kd.R_alloc h o
theorem zB {α : Type} {d : Kd α} {e : Nat} {w : World} {base : Nat} {ok : Nat → Prop} {v : Value} {xs : List α} (h : Kd.R d e w base ok v xs) (m : Nat) : Kd.R d e (w.drewN m) base ok v xs := Kd.R_drewN h m
theorem zC {α : Type} {d : Kd α} {e : Nat} {w : World} {base : Nat} {ok : Nat → Prop} {v : Value} {xs : List α} (h : Kd.R d e w base ok v xs) : Kd.R d e w.drew base ok v xs := Kd.R_drew h
theorem zD {w W : World} (h : Below w.heap.size w W) (o : Obj) : Below w.heap.size w (W.alloc o) := below_alloc h o
theorem zE {B : Nat} {w W : World} (h : Below B w W) (n : Nat) : Below B w (W.drewN n) := pw_below_drewN h n
theorem zF {base : Nat} {w W : World} (h : Below base w W) : Below base w W.drew := below_drew1 h
theorem zG {α : Type} {d : Kd α} {w : World} {xs : List α} {A : Option Addr} {n : Nat} (h : Kd.C d w A n xs) (o : Obj) : Kd.C d (w.alloc o) A n xs := Kd.C_alloc h o
theorem zH {α : Type} {d : Kd α} {w : World} {xs : List α} {A : Option Addr} {n : Nat} (h : Kd.C d w A n xs) (m : Nat) : Kd.C d (w.drewN m) A n xs := Kd.C_drewN h m
theorem zI {α : Type} {d : Kd α} {w : World} {xs : List α} {A : Option Addr} {n : Nat} (h : Kd.C d w A n xs) : Kd.C d w.drew A n xs := Kd.C_drew h
theorem zJ {w : World} {g : Nat} {o : Obj} (h : w.heap[g]? = some o) (n : Nat) : (w.drewN n).heap[g]? = some o := blk_drewN h n
theorem zK {w : World} {g : Nat} {o : Obj} (h : w.heap[g]? = some o) : w.drew.heap[g]? = some o := blk_drew h
theorem zL {w : World} {g : Nat} {o : Obj} (h : w.heap[g]? = some o) (o' : Obj) : (w.alloc o').heap[g]? = some o := blk_alloc h o'
theorem zM {p : Prop} (h : p) : Aside0 p := ⟨h⟩
theorem zN {α : Type} {d : Kd α} {e : Nat} {w : World} {base : Nat} {ok : Nat → Prop} {xs : List α} {A : Option Addr} {n c : Nat} (h : Kd.R d e w base ok (.slice A n c) xs) : n = xs.length ∧ n ≤ c ∧ Kd.C d w A xs.length xs := Kd.R_reads' h
theorem zO {α : Type} {d : Kd α} {w w1 : World} {xs : List α} {A : Option Addr} {n : Nat} (h : Kd.C d w A n xs) (b : Below w.heap.size w w1) : Kd.C d w1 A n xs := Kd.C_below h b
theorem zP {α : Type} {d : Kd α} {e : Nat} {w w1 : World} {base : Nat} {ok : Nat → Prop} {v : Value} {xs : List α} (h : Kd.R d e w base ok v xs) (b : Below w.heap.size w w1) : Kd.R d e w1 base ok v xs := Kd.R_below h b
theorem zQ {w W w2 : World} (h : Below w.heap.size w W) (k : Below W.heap.size W w2) : Below w.heap.size w w2 := below_step h k
theorem zR {w W : World} (h : Below w.heap.size w W) : w.heap.size ≤ W.heap.size := below_size h
end Go.Proofs.Ytbglkkepfddecaa.G

namespace Go.Proofs.Ytbglkkepfddecaa.G
open Go.RowKit Go.Proofs.YtbglkkepfddecaaW.PrintWords Go.Proofs.YtbglkkepfddecaaW.PrintLast
set_option linter.unusedVariables false
set_option linter.unusedSimpArgs false
/-! Plain laws on printed functions: what holds from some number of rounds on, case by case and loop by loop. -/
theorem Ev.ite {α : Type} {c : Prop} [Decidable c] {A B : Nat → Option α} {r : α} (h1 : c → Ev A r) (h2 : ¬ c → Ev B r) : Ev (fun k=>if c then A k else B k) r:=by
  by_cases h : c
  · simpa only [if_pos h] using h1 h
  · simpa only [if_neg h] using h2 h
theorem wrap64_id {x : Int} (h1 : -9223372036854775808 ≤ x) (h2 : x ≤ 9223372036854775807) : wrap64 x = x:=IntWalk.wrap64_in x ⟨h1,h2⟩
/-- What holds of all indices from i up to, and without, n. -/
def All (P : Int → Prop) (i n : Int) : Prop := ∀ j,i ≤ j → j < n → P j
theorem All.end_ (P : Int → Prop) (n : Int) : All P n n:=fun j h1 h2=>by omega
theorem All.step {P : Int → Prop} {i n : Int} (h : i < n) : All P i n ↔ P i ∧ All P (i + 1) n:=by
  constructor
  · intro a
    exact ⟨a i (Int.le_refl _) h,fun j h1 h2=>a j (by omega) h2⟩
  · rintro ⟨p,a⟩ j h1 h2
    by_cases e : j = i
    · rw [e];exact p
    · exact a j (by omega) h2
/-- One of two values, by a statement. -/
noncomputable def chk {β : Type} (p : Prop) (a b : β) : β := @ite β p (Classical.propDecidable p) a b
theorem chk_pos {β : Type} {p : Prop} (h : p) (a b : β) : chk p a b = a:=by unfold chk;exact if_pos h
theorem chk_neg {β : Type} {p : Prop} (h : ¬ p) (a b : β) : chk p a b = b:=by unfold chk;exact if_neg h
theorem chk_congr {β : Type} {p q : Prop} (h : p ↔ q) (a b : β) : chk p a b = chk q a b:=by rw [propext h]
theorem chk_true {p : Prop} : chk p true false = true ↔ p:=by
  by_cases h : p
  · rw [chk_pos h];exact ⟨fun _=>h,fun _=>rfl⟩
  · rw [chk_neg h];exact ⟨(fun e=>by cases e),(fun e=>absurd e h)⟩
theorem chk_and {β : Type} {p q : Prop} (a b : β) : chk p (chk q a b) b = chk (p ∧ q) a b:=by
  by_cases h : p
  · rw [chk_pos h]
    exact chk_congr ⟨fun x=>⟨h,x⟩,fun x=>x.2⟩ _ _
  · rw [chk_neg h,chk_neg (fun x=>h x.1)]
/-- A loop that goes up, any state. -/
theorem Ev.up {σ β : Type} (g : Nat → σ → Int → Option β) (R : σ → Int → β) (I : σ → Int → Prop) (n : Int)
    (hend : ∀ s,I s n → Ev (fun k=>g k s n) (R s n))
    (hstep : ∀ s i,I s i → i < n → (∀ s',I s' (i + 1) → Ev (fun k=>g k s' (i + 1)) (R s' (i + 1))) → Ev (fun k=>g k s i) (R s i)) :
    ∀ s i,I s i → i ≤ n → Ev (fun k=>g k s i) (R s i):=by
  have main : ∀ (d : Nat) s i,I s i → i + d = n → Ev (fun k=>g k s i) (R s i):=by
    intro d
    induction d with
    | zero =>
      intro s i hI hd
      obtain rfl : i = n:=by omega
      exact hend s hI
    | succ d ih=>intro s i hI hd;exact hstep s i hI (by omega) (fun s' hI'=>ih s' (i + 1) hI' (by omega))
  intro s i hI hi
  exact main (n - i).toNat s i hI (by omega)
/-- A loop that tests each index. -/
theorem Ev.check {β : Type} (g : Nat → Int → Option β) (n : Int) (P : Int → Prop) (r0 r1 : β) (i0 : Int)
    (hend : Ev (fun k=>g k n) r0)
    (hstep : ∀ i,i0 ≤ i → i < n → ∀ r,Ev (fun k=>g k (i + 1)) r → Ev (fun k=>g k i) (chk (P i) r r1)) :
    ∀ i,i0 ≤ i → i ≤ n → Ev (fun k=>g k i) (chk (All P i n) r0 r1):=by
  intro i h0 hi
  refine Ev.up (fun k (_ : Unit) i=>g k i) (fun _ i=>chk (All P i n) r0 r1) (fun _ i=>i0 ≤ i) n (fun _ _=>?_) (fun _ i h0 hlt ih=>?_) () i h0 hi
  · rw [chk_pos (All.end_ P n)];exact hend
  · have:=hstep i h0 hlt _ (ih () (by omega))
    rw [chk_and,chk_congr (All.step hlt).symm] at this
    exact this
theorem Ev.upc {β : Type} (g : Nat → Int → Option β) (r : β) (n i0 : Int) (hend : Ev (fun k=>g k n) r) (hstep : ∀ i,i0 ≤ i → i < n → Ev (fun k=>g k (i + 1)) r → Ev (fun k=>g k i) r) :
    ∀ i,i0 ≤ i → i ≤ n → Ev (fun k=>g k i) r:=by
  intro i h0 hi
  exact Ev.up (fun k (_ : Unit) i=>g k i) (fun _ _=>r) (fun _ i=>i0 ≤ i) n (fun _ _=>hend) (fun _ i h0 hlt ih=>hstep i h0 hlt (ih () (by omega))) () i h0 hi
theorem getD_map {α β : Type} (f : α → β) (xs : List α) (j : Nat) (z : α) (z' : β) (h : j < xs.length) : (xs.map f).getD j z' = f (xs.getD j z):=by
  rw [List.getD_eq_getElem?_getD,List.getD_eq_getElem?_getD,List.getElem?_map,List.getElem?_eq_getElem h];rfl
/-- out grows by one element a round. -/
theorem Ev.build {α β γ : Type} (g : Nat → List β → Int → Option γ) (xs : List α) (f : α → β) (z : α) (r : γ) (hend : Ev (fun k=>g k (xs.map f) (xs.length : Int)) r)
    (hstep : ∀ out i,0 ≤ i → i < (xs.length : Int) → (out.length : Int) = i → ∀ r,Ev (fun k=>g k (out ++ [f (xs.getD i.toNat z)]) (i + 1)) r → Ev (fun k=>g k out i) r) : Ev (fun k=>g k [] 0) r:=by
  refine Ev.up g (fun _ _=>r) (fun out i=>0 ≤ i ∧ i ≤ (xs.length : Int) ∧ out = (xs.take i.toNat).map f) (xs.length : Int) ?_ ?_ [] 0 ⟨by omega,by omega,by simp⟩ (by omega)
  · rintro out ⟨_,_,rfl⟩
    have e : xs.take (xs.length : Int).toNat = xs:=by simp
    rw [e];exact hend
  · rintro out i ⟨h0,h1,rfl⟩ hlt ih
    refine hstep _ i h0 hlt (by simp;omega) _ (ih _ ⟨by omega,by omega,?_⟩)
    have e : (i + 1).toNat = i.toNat + 1:=by omega
    rw [e,List.take_succ_eq_append_getElem (show i.toNat < xs.length by omega),List.map_append,List.getD_eq_getElem?_getD,List.getElem?_eq_getElem (show i.toNat < xs.length by omega)]
    rfl
theorem mul_bd {x y A B : Int} (hA : 0 ≤ A) (hB : 0 ≤ B) (h1 : -A ≤ x) (h2 : x ≤ A) (h3 : -B ≤ y) (h4 : y ≤ B) : -(A * B) ≤ x * y ∧ x * y ≤ A * B:=by
  have hx : x.natAbs ≤ A.natAbs:=by omega
  have hy : y.natAbs ≤ B.natAbs:=by omega
  have h:=Nat.mul_le_mul hx hy
  rw [← Int.natAbs_mul,← Int.natAbs_mul] at h
  have hAB : 0 ≤ A * B:=Int.mul_nonneg hA hB
  omega

end Go.Proofs.Ytbglkkepfddecaa.G

-- Written by wip/tools/gen.py out of the translation (the kit's printer, one namespace a seat). Lean checks it.
namespace Go.Proofs.Ytbglkkepfddecaa.G
open Go.RowKit Go.Proofs.YtbglkkepfddecaaW.PrintWords Go.Proofs.YtbglkkepfddecaaW.PrintLast Go.Proofs.YtbglkkepfddecaaW.PrintMore
attribute [local go_sem] max2_int min2_int max_two min_two max_three min_three max_four min_four   -- for this text's walks alone
set_option linter.unusedVariables false
set_option linter.unusedSimpArgs false

/-! ### laws_rBig: function 43 -/
def laws_rBig.f (l0 : List Int) : Option (Bool):=some (decide ((l0.length : Int) > 65536))
set_option maxHeartbeats 8000000 in
set_option maxRecDepth 100000 in
theorem laws_rBig.calls (A0 : Option Addr) (c0 : Nat) (l0 : List Int) (r : Bool) (w : World) (hr0 : Kd.C (Kd.int .u8) w A0 l0.length l0) (hc0 : l0.length ≤ c0) (h : laws_rBig.f l0 = some r) :
  Calls Try.prog 43 #[.slice A0 l0.length c0] w fun e w'=>e = .returned (.bool r) ∧ Drawn0 w w':=by
 have HR0:=zM hr0
 have HC0:=zM hc0
 clear hr0 hc0
 have H : (some (decide ((l0.length : Int) > 65536))) = some r:=h
 clear h
 obtain rfl:=Option.some.inj H
 go_enter Try.func43,Try.ntmps43
 go_wp2
 go_ret
 exact ⟨by first|rfl|(simp;done)|(simp [*];done),by repeat (first|exact Drawn0.refl _|apply Drawn0.step)⟩

/-- A state of type 87 at block g of W; what its slices lead to came in by w0. -/
def IsS87 (w0 W : World) (g : Nat) (f0 : List Int) (f1 : Int) (f2 : Int) : Prop := ∃ A0 c0,W.heap[g]? = some (.cells #[.slice A0 f0.length c0,.int .i64 f1,.int .u64 f2] 87 (0,0)) ∧ w0.heap.size ≤ g ∧ Kd.C (Kd.int .u8) w0 A0 f0.length f0
theorem IsS87.grown {w0 W : World} {g : Nat} {f0 : List Int} {f1 : Int} {f2 : Int} {W1 : World} {row : Option Nat} (h : IsS87 w0 W g f0 f1 f2) (hw : W.grownBy W1 row) (hne : some g ≠ row) : IsS87 w0 W1 g f0 f1 f2:=by
 obtain ⟨A0,c0,hb,hg,hr0⟩:=h
 exact ⟨A0,c0,blk_grown hb hw hne,hg,hr0⟩
theorem IsS87.below {w0 W : World} {g : Nat} {f0 : List Int} {f1 : Int} {f2 : Int} {W1 : World} (h : IsS87 w0 W g f0 f1 f2) (hw : Below W.heap.size W W1) : IsS87 w0 W1 g f0 f1 f2:=h.grown (grown_of_below hw none) (by simp)
theorem IsS87.alloc {w0 W : World} {g : Nat} {f0 : List Int} {f1 : Int} {f2 : Int} (h : IsS87 w0 W g f0 f1 f2) (o : Obj) : IsS87 w0 (W.alloc o) g f0 f1 f2:=h.below (zD (Below.refl _ _) o)
theorem IsS87.drewN {w0 W : World} {g : Nat} {f0 : List Int} {f1 : Int} {f2 : Int} (h : IsS87 w0 W g f0 f1 f2) (m : Nat) : IsS87 w0 (W.drewN m) g f0 f1 f2:=h
theorem IsS87.drew {w0 W : World} {g : Nat} {f0 : List Int} {f1 : Int} {f2 : Int} (h : IsS87 w0 W g f0 f1 f2) : IsS87 w0 W.drew g f0 f1 f2:=h
theorem IsS87.apart {w0 W : World} {g : Nat} {f0 : List Int} {f1 : Int} {f2 : Int} {α : Type} {d : Kd α} {e : Nat} {base : Nat} {ok : Nat → Prop} {v : Value} {xs : List α} (h : IsS87 w0 W g f0 f1 f2) (ho : d.R e W base ok v xs) (ht : ∀ q,q ∈ e :: d.E → q ≠ 87) : d.R e W base (fun k=>ok k ∧ k ≠ g) v xs:=by
 obtain ⟨A0,c0,hb,hg,hr0⟩:=h
 exact Kd.R_types ho hb ht
theorem IsS87.own_ne {w0 W : World} {g : Nat} {f0 : List Int} {f1 : Int} {f2 : Int} {α : Type} {d : Kd α} {e : Nat} {base : Nat} {ok : Nat → Prop} {v : Value} {xs : List α} (h : IsS87 w0 W g f0 f1 f2) (ho : d.R e W base ok v xs) (ht : e ≠ 87) : some g ≠ v.ownBlock:=by
 obtain ⟨A0,c0,hb,hg,hr0⟩:=h
 exact Kd.R_ne ho hb ht
theorem IsS87.lt {w0 W : World} {g : Nat} {f0 : List Int} {f1 : Int} {f2 : Int} (h : IsS87 w0 W g f0 f1 f2) : g < W.heap.size:=by
 obtain ⟨A0,c0,hb,hg,hr0⟩:=h
 exact blk_lt hb
theorem IsS87.ge {w0 W : World} {g : Nat} {f0 : List Int} {f1 : Int} {f2 : Int} (h : IsS87 w0 W g f0 f1 f2) : w0.heap.size ≤ g:=by
 obtain ⟨A0,c0,hb,hg,hr0⟩:=h
 exact hg
theorem IsS87.far {w0 W : World} {g : Nat} {f0 : List Int} {f1 : Int} {f2 : Int} {p : Addr} (h : IsS87 w0 W g f0 f1 f2) (hne : g ≠ p.block) (u : Value) : IsS87 w0 (W.setCell p u) g f0 f1 f2:=by
 obtain ⟨A0,c0,hb,hg,hr0⟩:=h
 exact ⟨A0,c0,blk_far hb hne u,hg,hr0⟩
theorem cellS87_0 {W : World} {g : Nat} {A0 : Option Addr} {c0 : Nat} {f0 : List Int} {f1 : Int} {f2 : Int} (h : W.heap[g]? = some (.cells #[.slice A0 f0.length c0,.int .i64 f1,.int .u64 f2] 87 (0,0))) : W.cell? ⟨g,0,none⟩ = some (.slice A0 f0.length c0):=(blk_cell h 0).trans rfl
theorem cellS87_1 {W : World} {g : Nat} {A0 : Option Addr} {c0 : Nat} {f0 : List Int} {f1 : Int} {f2 : Int} (h : W.heap[g]? = some (.cells #[.slice A0 f0.length c0,.int .i64 f1,.int .u64 f2] 87 (0,0))) : W.cell? ⟨g,1,none⟩ = some (.int .i64 f1):=(blk_cell h 1).trans rfl
theorem IsS87.set_1 {w0 W : World} {g : Nat} {f0 : List Int} {f1 : Int} {f2 : Int} (h : IsS87 w0 W g f0 f1 f2) (x : Int) : IsS87 w0 (W.setCell ⟨g,1,none⟩ (.int .i64 x)) g f0 x f2:=by
 obtain ⟨A0,c0,hb,hg,hr0⟩:=h
 exact ⟨A0,c0,by simpa using blk_set hb 1 (.int .i64 x),hg,hr0⟩
theorem cellS87_2 {W : World} {g : Nat} {A0 : Option Addr} {c0 : Nat} {f0 : List Int} {f1 : Int} {f2 : Int} (h : W.heap[g]? = some (.cells #[.slice A0 f0.length c0,.int .i64 f1,.int .u64 f2] 87 (0,0))) : W.cell? ⟨g,2,none⟩ = some (.int .u64 f2):=(blk_cell h 2).trans rfl
theorem IsS87.set_2 {w0 W : World} {g : Nat} {f0 : List Int} {f1 : Int} {f2 : Int} (h : IsS87 w0 W g f0 f1 f2) (x : Int) : IsS87 w0 (W.setCell ⟨g,2,none⟩ (.int .u64 x)) g f0 f1 x:=by
 obtain ⟨A0,c0,hb,hg,hr0⟩:=h
 exact ⟨A0,c0,by simpa using blk_set hb 2 (.int .u64 x),hg,hr0⟩
/-! ### spec_l1Cur_next: function 75 -/
def spec_l1Cur_next.f (s0_0 : List Int) (s0_1 : Int) (s0_2 : Int) : Option (Int × Int × Int):=if s0_1 < (s0_0.length : Int) then (if 0 ≤ s0_1 then (if (wrap64 (s0_1 + 1)) ≤ (s0_0.length : Int) then (some (wrap64 (rd s0_0 s0_1),wrap64 (s0_1 + 1),IntKind.u64.wrap ((IntKind.u64.wrap ((IntKind.u64.wrap (s0_2 * 6364136223846793005)) + (IntKind.u64.wrap (wrap64 (rd s0_0 s0_1))))) + 906906))) else (some (wrap64 (Go.bits .and .u64 ((IntKind.u64.wrap ((IntKind.u64.wrap ((IntKind.u64.wrap (s0_2 * 6364136223846793005)) + (IntKind.u64.wrap (wrap64 (rd s0_0 s0_1))))) + 906906)) / 1099511627776) 255),wrap64 (s0_1 + 1),IntKind.u64.wrap ((IntKind.u64.wrap ((IntKind.u64.wrap (s0_2 * 6364136223846793005)) + (IntKind.u64.wrap (wrap64 (rd s0_0 s0_1))))) + 906906)))) else (none)) else (if (wrap64 (s0_1 + 1)) ≤ (s0_0.length : Int) then (some (0,wrap64 (s0_1 + 1),IntKind.u64.wrap ((IntKind.u64.wrap (IntKind.u64.wrap (s0_2 * 6364136223846793005))) + 906906))) else (some (wrap64 (Go.bits .and .u64 ((IntKind.u64.wrap ((IntKind.u64.wrap (IntKind.u64.wrap (s0_2 * 6364136223846793005))) + 906906)) / 1099511627776) 255),wrap64 (s0_1 + 1),IntKind.u64.wrap ((IntKind.u64.wrap (IntKind.u64.wrap (s0_2 * 6364136223846793005))) + 906906))))
set_option maxHeartbeats 8000000 in
set_option maxRecDepth 100000 in
theorem spec_l1Cur_next.calls (g : Nat) (s0_0 : List Int) (s0_1 : Int) (s0_2 : Int) (r1 : Int) (r2 : Int) (r3 : Int) (w0 w : World) (hI : IsS87 w0 w g s0_0 s0_1 s0_2) (hB : Below w0.heap.size w0 w) (h : spec_l1Cur_next.f s0_0 s0_1 s0_2 = some (r1,r2,r3)) :
  Calls Try.prog 75 #[.pointer (some ⟨g,0,none⟩)] w fun e w'=>e = .returned (.int .i64 r1) ∧ IsS87 w0 w' g s0_0 r2 r3 ∧ Below w0.heap.size w0 w' ∧ KeepBut w w' g none:=by
 have HI0:=zM hI
 have HK:=zM (KeepBut.refl w g none)
 have HL:=zM hB.size
 clear hI
 have HW0:=zM hB.size
 have HB:=zM hB
 clear hB
 have H : (if s0_1 < (s0_0.length : Int) then (if 0 ≤ s0_1 then (if (wrap64 (s0_1 + 1)) ≤ (s0_0.length : Int) then (some (wrap64 (rd s0_0 s0_1),wrap64 (s0_1 + 1),IntKind.u64.wrap ((IntKind.u64.wrap ((IntKind.u64.wrap (s0_2 * 6364136223846793005)) + (IntKind.u64.wrap (wrap64 (rd s0_0 s0_1))))) + 906906))) else (some (wrap64 (Go.bits .and .u64 ((IntKind.u64.wrap ((IntKind.u64.wrap ((IntKind.u64.wrap (s0_2 * 6364136223846793005)) + (IntKind.u64.wrap (wrap64 (rd s0_0 s0_1))))) + 906906)) / 1099511627776) 255),wrap64 (s0_1 + 1),IntKind.u64.wrap ((IntKind.u64.wrap ((IntKind.u64.wrap (s0_2 * 6364136223846793005)) + (IntKind.u64.wrap (wrap64 (rd s0_0 s0_1))))) + 906906)))) else (none)) else (if (wrap64 (s0_1 + 1)) ≤ (s0_0.length : Int) then (some (0,wrap64 (s0_1 + 1),IntKind.u64.wrap ((IntKind.u64.wrap (IntKind.u64.wrap (s0_2 * 6364136223846793005))) + 906906))) else (some (wrap64 (Go.bits .and .u64 ((IntKind.u64.wrap ((IntKind.u64.wrap (IntKind.u64.wrap (s0_2 * 6364136223846793005))) + 906906)) / 1099511627776) 255),wrap64 (s0_1 + 1),IntKind.u64.wrap ((IntKind.u64.wrap (IntKind.u64.wrap (s0_2 * 6364136223846793005))) + 906906))))) = some (r1,r2,r3):=h
 clear h
 by_cases c2 : s0_1 < (s0_0.length : Int)
 ·rw [if_pos c2] at H
  have c2b0 : decide (s0_1 < (s0_0.length : Int)) = true:=decide_eq_true c2
  clear c2
  by_cases c3 : 0 ≤ s0_1
  ·rw [if_pos c3] at H
   have c3b0 : decide (0 ≤ s0_1) = true:=decide_eq_true c3
   clear c3
   by_cases c4 : (wrap64 (s0_1 + 1)) ≤ (s0_0.length : Int)
   ·rw [if_pos c4] at H
    have c4b0 : decide ((wrap64 (s0_1 + 1)) ≤ (s0_0.length : Int)) = true:=decide_eq_true c4
    clear c4
    simp only [Option.some.injEq,Prod.mk.injEq] at H
    obtain ⟨rfl,rfl,rfl⟩:=H
    obtain ⟨ASz5_0,cSz5_0,HGz5,hgz5,HSz5_0⟩:=HI0.out
    have hcz5_0:=cellS87_0 HGz5
    have hcz5_1:=cellS87_1 HGz5
    have hcz5_2:=cellS87_2 HGz5
    have hfz5_1:=blk_frozen HGz5 1
    have hfz5_2:=blk_frozen HGz5 2
    clear HGz5 hgz5
    have p557 : 0 ≤ (s0_1 : Int):=of_decide_eq_true (by first|(with_reducible assumption)|assumption)
    have q557 : s0_1 < (s0_0.length : Int):=of_decide_eq_true (by first|(with_reducible assumption)|assumption)
    obtain ⟨ad557,e557,hx557_0⟩:=Kd.at_int HSz5_0 s0_1 p557 q557
    cases e557
    replace hx557_0:=pw_cell_below HB.out hx557_0
    replace p557:=eq_true p557
    replace q557:=eq_true q557
    go_enter Try.func75,Try.ntmps75
    go_wp2
    repeat (go_quiet (fail);try go_wp2)
    go_ret
    exact ⟨by first|rfl|(simp [errW_none,errW_some] <;> rfl)|(simp [*,errW_none,errW_some] <;> rfl),by repeat (first|(with_reducible first|exact HI0.out|apply IsS87.alloc|apply IsS87.drewN|apply IsS87.drew|apply IsS87.set_1|apply IsS87.set_2)|exact HI0.out),by repeat (first|(with_reducible first|exact HB.out|apply zD|apply zE|apply zF|refine below_set ?_ (IsS87.ge HI0.out))|exact HB.out),by repeat (first|(with_reducible first|exact HK.out|apply KeepBut.set_|apply keep_drewN|apply keep_drew|apply keep_alloc)|exact HK.out)⟩
   ·rw [if_neg c4] at H
    have c4b0 : decide ((wrap64 (s0_1 + 1)) ≤ (s0_0.length : Int)) = false:=decide_eq_false c4
    clear c4
    simp only [Option.some.injEq,Prod.mk.injEq] at H
    obtain ⟨rfl,rfl,rfl⟩:=H
    obtain ⟨ASz6_0,cSz6_0,HGz6,hgz6,HSz6_0⟩:=HI0.out
    have hcz6_0:=cellS87_0 HGz6
    have hcz6_1:=cellS87_1 HGz6
    have hcz6_2:=cellS87_2 HGz6
    have hfz6_1:=blk_frozen HGz6 1
    have hfz6_2:=blk_frozen HGz6 2
    clear HGz6 hgz6
    have p557 : 0 ≤ (s0_1 : Int):=of_decide_eq_true (by first|(with_reducible assumption)|assumption)
    have q557 : s0_1 < (s0_0.length : Int):=of_decide_eq_true (by first|(with_reducible assumption)|assumption)
    obtain ⟨ad557,e557,hx557_0⟩:=Kd.at_int HSz6_0 s0_1 p557 q557
    cases e557
    replace hx557_0:=pw_cell_below HB.out hx557_0
    replace p557:=eq_true p557
    replace q557:=eq_true q557
    go_enter Try.func75,Try.ntmps75
    go_wp2
    repeat (go_quiet (fail);try go_wp2)
    go_ret
    exact ⟨by first|rfl|(simp [errW_none,errW_some] <;> rfl)|(simp [*,errW_none,errW_some] <;> rfl),by repeat (first|(with_reducible first|exact HI0.out|apply IsS87.alloc|apply IsS87.drewN|apply IsS87.drew|apply IsS87.set_1|apply IsS87.set_2)|exact HI0.out),by repeat (first|(with_reducible first|exact HB.out|apply zD|apply zE|apply zF|refine below_set ?_ (IsS87.ge HI0.out))|exact HB.out),by repeat (first|(with_reducible first|exact HK.out|apply KeepBut.set_|apply keep_drewN|apply keep_drew|apply keep_alloc)|exact HK.out)⟩
  ·rw [if_neg c3] at H
   exact absurd H (by simp)
 ·rw [if_neg c2] at H
  have c2b0 : decide (s0_1 < (s0_0.length : Int)) = false:=decide_eq_false c2
  clear c2
  by_cases c7 : (wrap64 (s0_1 + 1)) ≤ (s0_0.length : Int)
  ·rw [if_pos c7] at H
   have c7b0 : decide ((wrap64 (s0_1 + 1)) ≤ (s0_0.length : Int)) = true:=decide_eq_true c7
   clear c7
   simp only [Option.some.injEq,Prod.mk.injEq] at H
   obtain ⟨rfl,rfl,rfl⟩:=H
   obtain ⟨ASz8_0,cSz8_0,HGz8,hgz8,HSz8_0⟩:=HI0.out
   have hcz8_0:=cellS87_0 HGz8
   have hcz8_1:=cellS87_1 HGz8
   have hcz8_2:=cellS87_2 HGz8
   have hfz8_1:=blk_frozen HGz8 1
   have hfz8_2:=blk_frozen HGz8 2
   clear HGz8 hgz8
   go_enter Try.func75,Try.ntmps75
   go_wp2
   repeat (go_quiet (fail);try go_wp2)
   go_ret
   exact ⟨by first|rfl|(simp [errW_none,errW_some] <;> rfl)|(simp [*,errW_none,errW_some] <;> rfl),by repeat (first|(with_reducible first|exact HI0.out|apply IsS87.alloc|apply IsS87.drewN|apply IsS87.drew|apply IsS87.set_1|apply IsS87.set_2)|exact HI0.out),by repeat (first|(with_reducible first|exact HB.out|apply zD|apply zE|apply zF|refine below_set ?_ (IsS87.ge HI0.out))|exact HB.out),by repeat (first|(with_reducible first|exact HK.out|apply KeepBut.set_|apply keep_drewN|apply keep_drew|apply keep_alloc)|exact HK.out)⟩
  ·rw [if_neg c7] at H
   have c7b0 : decide ((wrap64 (s0_1 + 1)) ≤ (s0_0.length : Int)) = false:=decide_eq_false c7
   clear c7
   simp only [Option.some.injEq,Prod.mk.injEq] at H
   obtain ⟨rfl,rfl,rfl⟩:=H
   obtain ⟨ASz9_0,cSz9_0,HGz9,hgz9,HSz9_0⟩:=HI0.out
   have hcz9_0:=cellS87_0 HGz9
   have hcz9_1:=cellS87_1 HGz9
   have hcz9_2:=cellS87_2 HGz9
   have hfz9_1:=blk_frozen HGz9 1
   have hfz9_2:=blk_frozen HGz9 2
   clear HGz9 hgz9
   go_enter Try.func75,Try.ntmps75
   go_wp2
   repeat (go_quiet (fail);try go_wp2)
   go_ret
   exact ⟨by first|rfl|(simp [errW_none,errW_some] <;> rfl)|(simp [*,errW_none,errW_some] <;> rfl),by repeat (first|(with_reducible first|exact HI0.out|apply IsS87.alloc|apply IsS87.drewN|apply IsS87.drew|apply IsS87.set_1|apply IsS87.set_2)|exact HI0.out),by repeat (first|(with_reducible first|exact HB.out|apply zD|apply zE|apply zF|refine below_set ?_ (IsS87.ge HI0.out))|exact HB.out),by repeat (first|(with_reducible first|exact HK.out|apply KeepBut.set_|apply keep_drewN|apply keep_drew|apply keep_alloc)|exact HK.out)⟩

end Go.Proofs.Ytbglkkepfddecaa.G

-- Written by wip/tools/gen.py out of the translation (the kit's printer, one namespace a seat). Lean checks it.
namespace Go.Proofs.Ytbglkkepfddecaa.G
open Go.RowKit Go.Proofs.YtbglkkepfddecaaW.PrintWords Go.Proofs.YtbglkkepfddecaaW.PrintLast Go.Proofs.YtbglkkepfddecaaW.PrintMore
attribute [local go_sem] max2_int min2_int max_two min_two max_three min_three max_four min_four   -- for this text's walks alone
set_option linter.unusedVariables false
set_option linter.unusedSimpArgs false

/-! ### spec_l1Cur_pick: function 72 -/
def spec_l1Cur_pick.f (s0_0 : List Int) (s0_1 : Int) (s0_2 : Int) (a1 : Int) : Option (Int × Int × Int):=if a1 ≤ 1 then (some (0,s0_1,s0_2)) else ((spec_l1Cur_next.f s0_0 s0_1 s0_2).bind fun bt558=>(if a1 > 200 then ((spec_l1Cur_next.f s0_0 bt558.2.1 bt558.2.2).bind fun bt561=>(if a1 = 0 then (none) else (some (Int.tmod (wrap64 ((wrap64 (bt558.1 * 256)) + bt561.1)) a1,bt561.2.1,bt561.2.2)))) else (if a1 = 0 then (none) else (some (Int.tmod bt558.1 a1,bt558.2.1,bt558.2.2)))))
set_option maxHeartbeats 8000000 in
set_option maxRecDepth 100000 in
theorem spec_l1Cur_pick.calls (g : Nat) (s0_0 : List Int) (s0_1 : Int) (s0_2 : Int) (a1 : Int) (r1 : Int) (r2 : Int) (r3 : Int) (w0 w : World) (hI : IsS87 w0 w g s0_0 s0_1 s0_2) (hB : Below w0.heap.size w0 w) (h : spec_l1Cur_pick.f s0_0 s0_1 s0_2 a1 = some (r1,r2,r3)) :
  Calls Try.prog 72 #[.pointer (some ⟨g,0,none⟩),.int .i64 a1] w fun e w'=>e = .returned (.int .i64 r1) ∧ IsS87 w0 w' g s0_0 r2 r3 ∧ Below w0.heap.size w0 w' ∧ KeepBut w w' g none:=by
 have HI0:=zM hI
 have HK:=zM (KeepBut.refl w g none)
 have HL:=zM hB.size
 clear hI
 have HW0:=zM hB.size
 have HB:=zM hB
 clear hB
 have H : (if a1 ≤ 1 then (some (0,s0_1,s0_2)) else ((spec_l1Cur_next.f s0_0 s0_1 s0_2).bind fun bt558=>(if a1 > 200 then ((spec_l1Cur_next.f s0_0 bt558.2.1 bt558.2.2).bind fun bt561=>(if a1 = 0 then (none) else (some (Int.tmod (wrap64 ((wrap64 (bt558.1 * 256)) + bt561.1)) a1,bt561.2.1,bt561.2.2)))) else (if a1 = 0 then (none) else (some (Int.tmod bt558.1 a1,bt558.2.1,bt558.2.2)))))) = some (r1,r2,r3):=h
 clear h
 by_cases c3 : a1 ≤ 1
 ·rw [if_pos c3] at H
  have c3b0 : decide (a1 ≤ 1) = true:=decide_eq_true c3
  clear c3
  simp only [Option.some.injEq,Prod.mk.injEq] at H
  obtain ⟨rfl,rfl,rfl⟩:=H
  go_enter Try.func72,Try.ntmps72
  go_wp2
  go_ret
  exact ⟨by first|rfl|(simp [errW_none,errW_some] <;> rfl)|(simp [*,errW_none,errW_some] <;> rfl),by repeat (first|(with_reducible first|exact HI0.out|apply IsS87.alloc|apply IsS87.drewN|apply IsS87.drew|apply IsS87.set_1|apply IsS87.set_2)|exact HI0.out),by repeat (first|(with_reducible first|exact HB.out|apply zD|apply zE|apply zF|refine below_set ?_ (IsS87.ge HI0.out))|exact HB.out),by repeat (first|(with_reducible first|exact HK.out|apply KeepBut.set_|apply keep_drewN|apply keep_drew|apply keep_alloc)|exact HK.out)⟩
 ·rw [if_neg c3] at H
  have c3b0 : decide (a1 ≤ 1) = false:=decide_eq_false c3
  clear c3
  replace H:=Option.bind_eq_some_iff.mp H
  obtain ⟨⟨t558,t559,t560⟩,A40,H⟩:=H
  replace H : (if a1 > 200 then ((spec_l1Cur_next.f s0_0 t559 t560).bind fun bt561=>(if a1 = 0 then (none) else (some (Int.tmod (wrap64 ((wrap64 (t558 * 256)) + bt561.1)) a1,bt561.2.1,bt561.2.2)))) else (if a1 = 0 then (none) else (some (Int.tmod t558 a1,t559,t560)))) = some (r1,r2,r3):=H
  have A4:=zM A40
  clear A40
  by_cases c5 : a1 > 200
  ·rw [if_pos c5] at H
   have c5b0 : decide (200 < a1) = true:=decide_eq_true c5
   clear c5
   replace H:=Option.bind_eq_some_iff.mp H
   obtain ⟨⟨t561,t562,t563⟩,A60,H⟩:=H
   replace H : (if a1 = 0 then (none) else (some (Int.tmod (wrap64 ((wrap64 (t558 * 256)) + t561)) a1,t562,t563))) = some (r1,r2,r3):=H
   have A6:=zM A60
   clear A60
   by_cases c7 : a1 = 0
   ·rw [if_pos c7] at H
    exact absurd H (by simp)
   ·rw [if_neg c7] at H
    have c7b0 : (a1 == 0) = false:=beq_eq_false_iff_ne.mpr c7
    have c7b1 : (a1 != 0) = true:=bne_iff_ne.mpr c7
    simp only [Option.some.injEq,Prod.mk.injEq] at H
    obtain ⟨rfl,rfl,rfl⟩:=H
    go_enter Try.func72,Try.ntmps72
    go_wp2_with (first|((with_reducible refine gate_callee (f:=75) rfl ?_);refine goesL_ (some 9) rfl rfl Try.func75 (by kernel_rfl) rfl #[.pointer (some ⟨g,0,none⟩)] rfl (by (try simp only [List.map_toArray,List.map_cons,List.map_nil]);first|done|rfl|(simp only [List.length_drop,List.length_take];rfl)) ?_;(with_reducible refine (spec_l1Cur_next.calls g s0_0 s0_1 s0_2 t558 t559 t560 w0 _ ?side1 ?side2 A4.out).mono ?_);(case side1=>repeat (first|(with_reducible first|exact HI0.out|apply IsS87.alloc|apply IsS87.drewN|apply IsS87.drew|apply IsS87.set_1|apply IsS87.set_2)|exact HI0.out));(case side2=>repeat (first|(with_reducible first|exact HB.out|apply zD|apply zE|apply zF|refine below_set ?_ (IsS87.ge HI0.out))|exact HB.out));rintro e w8 ⟨rfl,hi,hb,hk⟩;refine ⟨_,rfl,?_⟩;have n0_:=zM (KeepBut.trans (by repeat (first|(with_reducible first|exact HK.out|apply KeepBut.set_|apply keep_drewN|apply keep_drew|apply keep_alloc)|exact HK.out)) hk (.inl rfl));have n1_:=zM (hb);have n2_:=zM (hi);clear HK;clear HB;clear HI0;have HK:=n0_;have HB:=n1_;have HI0:=n2_;clear n0_ n1_ n2_;(try clear hb);(try clear hb2);(try clear hk);(try clear hi))|((with_reducible refine gate_callee (f:=75) rfl ?_);refine goesL_ (some 15) rfl rfl Try.func75 (by kernel_rfl) rfl #[.pointer (some ⟨g,0,none⟩)] rfl (by (try simp only [List.map_toArray,List.map_cons,List.map_nil]);first|done|rfl|(simp only [List.length_drop,List.length_take];rfl)) ?_;(with_reducible refine (spec_l1Cur_next.calls g s0_0 t559 t560 t561 t562 t563 w0 _ ?side1 ?side2 A6.out).mono ?_);(case side1=>repeat (first|(with_reducible first|exact HI0.out|apply IsS87.alloc|apply IsS87.drewN|apply IsS87.drew|apply IsS87.set_1|apply IsS87.set_2)|exact HI0.out));(case side2=>repeat (first|(with_reducible first|exact HB.out|apply zD|apply zE|apply zF|refine below_set ?_ (IsS87.ge HI0.out))|exact HB.out));rintro e w9 ⟨rfl,hi,hb,hk⟩;refine ⟨_,rfl,?_⟩;have n0_:=zM (KeepBut.trans (by repeat (first|(with_reducible first|exact HK.out|apply KeepBut.set_|apply keep_drewN|apply keep_drew|apply keep_alloc)|exact HK.out)) hk (.inl rfl));have n1_:=zM (hb);have n2_:=zM (hi);clear HK;clear HB;clear HI0;have HK:=n0_;have HB:=n1_;have HI0:=n2_;clear n0_ n1_ n2_;(try clear hb);(try clear hb2);(try clear hk);(try clear hi)))
    go_ret
    exact ⟨by first|rfl|(simp [errW_none,errW_some] <;> rfl)|(simp [*,errW_none,errW_some] <;> rfl),by repeat (first|(with_reducible first|exact HI0.out|apply IsS87.alloc|apply IsS87.drewN|apply IsS87.drew|apply IsS87.set_1|apply IsS87.set_2)|exact HI0.out),by repeat (first|(with_reducible first|exact HB.out|apply zD|apply zE|apply zF|refine below_set ?_ (IsS87.ge HI0.out))|exact HB.out),by repeat (first|(with_reducible first|exact HK.out|apply KeepBut.set_|apply keep_drewN|apply keep_drew|apply keep_alloc)|exact HK.out)⟩
  ·rw [if_neg c5] at H
   have c5b0 : decide (200 < a1) = false:=decide_eq_false c5
   clear c5
   by_cases c10 : a1 = 0
   ·rw [if_pos c10] at H
    exact absurd H (by simp)
   ·rw [if_neg c10] at H
    have c10b0 : (a1 == 0) = false:=beq_eq_false_iff_ne.mpr c10
    have c10b1 : (a1 != 0) = true:=bne_iff_ne.mpr c10
    simp only [Option.some.injEq,Prod.mk.injEq] at H
    obtain ⟨rfl,rfl,rfl⟩:=H
    go_enter Try.func72,Try.ntmps72
    go_wp2_with (first|((with_reducible refine gate_callee (f:=75) rfl ?_);refine goesL_ (some 9) rfl rfl Try.func75 (by kernel_rfl) rfl #[.pointer (some ⟨g,0,none⟩)] rfl (by (try simp only [List.map_toArray,List.map_cons,List.map_nil]);first|done|rfl|(simp only [List.length_drop,List.length_take];rfl)) ?_;(with_reducible refine (spec_l1Cur_next.calls g s0_0 s0_1 s0_2 t558 t559 t560 w0 _ ?side1 ?side2 A4.out).mono ?_);(case side1=>repeat (first|(with_reducible first|exact HI0.out|apply IsS87.alloc|apply IsS87.drewN|apply IsS87.drew|apply IsS87.set_1|apply IsS87.set_2)|exact HI0.out));(case side2=>repeat (first|(with_reducible first|exact HB.out|apply zD|apply zE|apply zF|refine below_set ?_ (IsS87.ge HI0.out))|exact HB.out));rintro e w11 ⟨rfl,hi,hb,hk⟩;refine ⟨_,rfl,?_⟩;have n0_:=zM (KeepBut.trans (by repeat (first|(with_reducible first|exact HK.out|apply KeepBut.set_|apply keep_drewN|apply keep_drew|apply keep_alloc)|exact HK.out)) hk (.inl rfl));have n1_:=zM (hb);have n2_:=zM (hi);clear HK;clear HB;clear HI0;have HK:=n0_;have HB:=n1_;have HI0:=n2_;clear n0_ n1_ n2_;(try clear hb);(try clear hb2);(try clear hk);(try clear hi)))
    go_ret
    exact ⟨by first|rfl|(simp [errW_none,errW_some] <;> rfl)|(simp [*,errW_none,errW_some] <;> rfl),by repeat (first|(with_reducible first|exact HI0.out|apply IsS87.alloc|apply IsS87.drewN|apply IsS87.drew|apply IsS87.set_1|apply IsS87.set_2)|exact HI0.out),by repeat (first|(with_reducible first|exact HB.out|apply zD|apply zE|apply zF|refine below_set ?_ (IsS87.ge HI0.out))|exact HB.out),by repeat (first|(with_reducible first|exact HK.out|apply KeepBut.set_|apply keep_drewN|apply keep_drew|apply keep_alloc)|exact HK.out)⟩

/-! ### spec_l1Cur_among: function 70 -/
def spec_l1Cur_among.f (s0_0 : List Int) (s0_1 : Int) (s0_2 : Int) (l1 : List Int) : Option (Int × Int × Int):=(spec_l1Cur_pick.f s0_0 s0_1 s0_2 (l1.length : Int)).bind fun bt564=>(if 0 ≤ bt564.1 then (if bt564.1 < (l1.length : Int) then (some (rd l1 bt564.1,bt564.2.1,bt564.2.2)) else (none)) else (none))
set_option maxHeartbeats 8000000 in
set_option maxRecDepth 100000 in
theorem spec_l1Cur_among.calls (g : Nat) (s0_0 : List Int) (s0_1 : Int) (s0_2 : Int) (A1 : Option Addr) (c1 : Nat) (l1 : List Int) (r1 : Int) (r2 : Int) (r3 : Int) (w0 w : World) (hI : IsS87 w0 w g s0_0 s0_1 s0_2) (hB : Below w0.heap.size w0 w) (hr1 : Kd.C (Kd.int .i64) w A1 l1.length l1) (hc1 : l1.length ≤ c1) (hf1 : ∀ ad,A1 = some ad → 0 < l1.length → ad.block ≠ g) (h : spec_l1Cur_among.f s0_0 s0_1 s0_2 l1 = some (r1,r2,r3)) :
  Calls Try.prog 70 #[.pointer (some ⟨g,0,none⟩),.slice A1 l1.length c1] w fun e w'=>e = .returned (.int .i64 r1) ∧ IsS87 w0 w' g s0_0 r2 r3 ∧ Below w0.heap.size w0 w' ∧ KeepBut w w' g none:=by
 have HR1:=zM hr1
 have HC1:=zM hc1
 clear hr1 hc1
 have HI0:=zM hI
 have HK:=zM (KeepBut.refl w g none)
 have HL:=zM hB.size
 clear hI
 have HW0:=zM hB.size
 have HB:=zM hB
 clear hB
 have H : ((spec_l1Cur_pick.f s0_0 s0_1 s0_2 (l1.length : Int)).bind fun bt564=>(if 0 ≤ bt564.1 then (if bt564.1 < (l1.length : Int) then (some (rd l1 bt564.1,bt564.2.1,bt564.2.2)) else (none)) else (none))) = some (r1,r2,r3):=h
 clear h
 replace H:=Option.bind_eq_some_iff.mp H
 obtain ⟨⟨t564,t565,t566⟩,A30,H⟩:=H
 replace H : (if 0 ≤ t564 then (if t564 < (l1.length : Int) then (some (rd l1 t564,t565,t566)) else (none)) else (none)) = some (r1,r2,r3):=H
 have A3:=zM A30
 clear A30
 by_cases c4 : 0 ≤ t564
 ·rw [if_pos c4] at H
  have c4b0 : decide (0 ≤ t564) = true:=decide_eq_true c4
  clear c4
  by_cases c5 : t564 < (l1.length : Int)
  ·rw [if_pos c5] at H
   have c5b0 : decide (t564 < (l1.length : Int)) = true:=decide_eq_true c5
   clear c5
   simp only [Option.some.injEq,Prod.mk.injEq] at H
   obtain ⟨rfl,rfl,rfl⟩:=H
   go_enter Try.func70,Try.ntmps70
   go_wp2_with (first|((with_reducible refine gate_callee (f:=72) rfl ?_);refine goesL_ (some 9) rfl rfl Try.func72 (by kernel_rfl) rfl #[.pointer (some ⟨g,0,none⟩),.int .i64 (l1.length : Int)] rfl (by (try simp only [List.map_toArray,List.map_cons,List.map_nil]);first|done|rfl|(simp only [List.length_drop,List.length_take];rfl)) ?_;(with_reducible refine (spec_l1Cur_pick.calls g s0_0 s0_1 s0_2 (l1.length : Int) t564 t565 t566 w0 _ ?side1 ?side2 A3.out).mono ?_);(case side1=>repeat (first|(with_reducible first|exact HI0.out|apply IsS87.alloc|apply IsS87.drewN|apply IsS87.drew|apply IsS87.set_1|apply IsS87.set_2)|exact HI0.out));(case side2=>repeat (first|(with_reducible first|exact HB.out|apply zD|apply zE|apply zF|refine below_set ?_ (IsS87.ge HI0.out))|exact HB.out));rintro e w6 ⟨rfl,hi,hb,hk⟩;refine ⟨_,rfl,?_⟩;have n0_:=zM (KeepBut.trans (by repeat (first|(with_reducible first|exact HK.out|apply KeepBut.set_|apply keep_drewN|apply keep_drew|apply keep_alloc)|exact HK.out)) hk (.inl rfl));have n1_:=zM (hb);have n2_:=zM (hi);clear HK;clear HB;clear HI0;have HK:=n0_;have HB:=n1_;have HI0:=n2_;clear n0_ n1_ n2_;(try clear hb);(try clear hb2);(try clear hk);(try clear hi);have p567 : 0 ≤ (t564 : Int):=of_decide_eq_true (by first|(with_reducible assumption)|assumption);have q567 : t564 < (l1.length : Int):=of_decide_eq_true (by first|(with_reducible assumption)|assumption);obtain ⟨ad567,e567,hx567_0⟩:=Kd.at_int HR1.out t564 p567 q567;cases e567;replace hx567_0:=keep_cell HK.out hx567_0 (by first|(rw [add_block];exact hf1 _ rfl (by omega))|exact hf1 _ rfl (by omega)|exact hf1 ad567 rfl (by omega));replace p567:=eq_true p567;replace q567:=eq_true q567))
   go_ret
   exact ⟨by first|rfl|(simp [errW_none,errW_some] <;> rfl)|(simp [*,errW_none,errW_some] <;> rfl),by repeat (first|(with_reducible first|exact HI0.out|apply IsS87.alloc|apply IsS87.drewN|apply IsS87.drew|apply IsS87.set_1|apply IsS87.set_2)|exact HI0.out),by repeat (first|(with_reducible first|exact HB.out|apply zD|apply zE|apply zF|refine below_set ?_ (IsS87.ge HI0.out))|exact HB.out),by repeat (first|(with_reducible first|exact HK.out|apply KeepBut.set_|apply keep_drewN|apply keep_drew|apply keep_alloc)|exact HK.out)⟩
  ·rw [if_neg c5] at H
   exact absurd H (by simp)
 ·rw [if_neg c4] at H
  exact absurd H (by simp)

/-! ### spec_l1Cur_one: function 71 -/
def spec_l1Cur_one.f (s0_0 : List Int) (s0_1 : Int) (s0_2 : Int) (a1 : Int) : Option (Bool × Int × Int):=(spec_l1Cur_pick.f s0_0 s0_1 s0_2 a1).bind fun bt568=>(some ((bt568.1 == 0),bt568.2.1,bt568.2.2))
set_option maxHeartbeats 8000000 in
set_option maxRecDepth 100000 in
theorem spec_l1Cur_one.calls (g : Nat) (s0_0 : List Int) (s0_1 : Int) (s0_2 : Int) (a1 : Int) (r1 : Bool) (r2 : Int) (r3 : Int) (w0 w : World) (hI : IsS87 w0 w g s0_0 s0_1 s0_2) (hB : Below w0.heap.size w0 w) (h : spec_l1Cur_one.f s0_0 s0_1 s0_2 a1 = some (r1,r2,r3)) :
  Calls Try.prog 71 #[.pointer (some ⟨g,0,none⟩),.int .i64 a1] w fun e w'=>e = .returned (.bool r1) ∧ IsS87 w0 w' g s0_0 r2 r3 ∧ Below w0.heap.size w0 w' ∧ KeepBut w w' g none:=by
 have HI0:=zM hI
 have HK:=zM (KeepBut.refl w g none)
 have HL:=zM hB.size
 clear hI
 have HW0:=zM hB.size
 have HB:=zM hB
 clear hB
 have H : ((spec_l1Cur_pick.f s0_0 s0_1 s0_2 a1).bind fun bt568=>(some ((bt568.1 == 0),bt568.2.1,bt568.2.2))) = some (r1,r2,r3):=h
 clear h
 replace H:=Option.bind_eq_some_iff.mp H
 obtain ⟨⟨t568,t569,t570⟩,A30,H⟩:=H
 replace H : (some ((t568 == 0),t569,t570)) = some (r1,r2,r3):=H
 have A3:=zM A30
 clear A30
 simp only [Option.some.injEq,Prod.mk.injEq] at H
 obtain ⟨rfl,rfl,rfl⟩:=H
 go_enter Try.func71,Try.ntmps71
 go_wp2_with (first|((with_reducible refine gate_callee (f:=72) rfl ?_);refine goesL_ (some 7) rfl rfl Try.func72 (by kernel_rfl) rfl #[.pointer (some ⟨g,0,none⟩),.int .i64 a1] rfl (by (try simp only [List.map_toArray,List.map_cons,List.map_nil]);first|done|rfl|(simp only [List.length_drop,List.length_take];rfl)) ?_;(with_reducible refine (spec_l1Cur_pick.calls g s0_0 s0_1 s0_2 a1 t568 t569 t570 w0 _ ?side1 ?side2 A3.out).mono ?_);(case side1=>repeat (first|(with_reducible first|exact HI0.out|apply IsS87.alloc|apply IsS87.drewN|apply IsS87.drew|apply IsS87.set_1|apply IsS87.set_2)|exact HI0.out));(case side2=>repeat (first|(with_reducible first|exact HB.out|apply zD|apply zE|apply zF|refine below_set ?_ (IsS87.ge HI0.out))|exact HB.out));rintro e w4 ⟨rfl,hi,hb,hk⟩;refine ⟨_,rfl,?_⟩;have n0_:=zM (KeepBut.trans (by repeat (first|(with_reducible first|exact HK.out|apply KeepBut.set_|apply keep_drewN|apply keep_drew|apply keep_alloc)|exact HK.out)) hk (.inl rfl));have n1_:=zM (hb);have n2_:=zM (hi);clear HK;clear HB;clear HI0;have HK:=n0_;have HB:=n1_;have HI0:=n2_;clear n0_ n1_ n2_;(try clear hb);(try clear hb2);(try clear hk);(try clear hi)))
 go_ret
 exact ⟨by first|rfl|(simp [errW_none,errW_some] <;> rfl)|(simp [*,errW_none,errW_some] <;> rfl),by repeat (first|(with_reducible first|exact HI0.out|apply IsS87.alloc|apply IsS87.drewN|apply IsS87.drew|apply IsS87.set_1|apply IsS87.set_2)|exact HI0.out),by repeat (first|(with_reducible first|exact HB.out|apply zD|apply zE|apply zF|refine below_set ?_ (IsS87.ge HI0.out))|exact HB.out),by repeat (first|(with_reducible first|exact HK.out|apply KeepBut.set_|apply keep_drewN|apply keep_drew|apply keep_alloc)|exact HK.out)⟩

end Go.Proofs.Ytbglkkepfddecaa.G

namespace Go.Proofs.Ytbglkkepfddecaa.G
open Go.RowKit Go.Proofs.YtbglkkepfddecaaW.PrintWords Go.Proofs.YtbglkkepfddecaaW.PrintLast
set_option linter.unusedVariables false
set_option linter.unusedSimpArgs false
/-- From some number of rounds on a value comes, and P holds of it. -/
def EvP {α : Type} (g : Nat → Option α) (P : α → Prop) : Prop := ∃ r,P r ∧ Ev g r
theorem EvP.now {α : Type} {P : α → Prop} (v : α) (h : P v) : EvP (fun _=>some v) P:=⟨v,h,Ev.now v⟩
theorem EvP.step {α : Type} {g f : Nat → Option α} {P : α → Prop} (h : ∀ k,g (k + 1) = f k) (k : EvP f P) : EvP g P:=by
  obtain ⟨r,p,e⟩:=k
  exact ⟨r,p,Ev.step h e⟩
theorem EvP.bind {α β : Type} {g : Nat → Option α} {f : Nat → α → Option β} {P : α → Prop} {Q : β → Prop} (h : EvP g P) (k : ∀ a,P a → EvP (fun n=>f n a) Q) : EvP (fun n=>(g n).bind (f n)) Q:=by
  obtain ⟨a,p,e⟩:=h
  obtain ⟨r,q,e2⟩:=k a p
  exact ⟨r,q,Ev.bind e e2⟩
theorem EvP.ite {α : Type} {c : Prop} [Decidable c] {A B : Nat → Option α} {P : α → Prop} (h1 : c → EvP A P) (h2 : ¬ c → EvP B P) : EvP (fun k=>if c then A k else B k) P:=by
  by_cases h : c
  · simpa only [if_pos h] using h1 h
  · simpa only [if_neg h] using h2 h
/-- The bytes that a case is drawn of. -/
def Cd (l : List Int) : Prop:=(l.length : Int) ≤ 65536 ∧ ∀ y ∈ l,0 ≤ y ∧ y ≤ 255
theorem cd_of {l : List Int} (h : (l.length : Int) ≤ 65536) (hw : ∀ y ∈ l,(Lit.int .u8 y).wf = true) : Cd l:=by
  refine ⟨h,fun y hy=>?_⟩
  have e : (Lit.int .u8 y).wf = (decide (0 ≤ y) && decide (y ≤ 255)):=rfl
  have:=hw y hy
  rw [e] at this
  simpa using this
theorem rd_mem (l : List Int) (i : Int) (h0 : 0 ≤ i) (h1 : i < (l.length : Int)) : rd l i ∈ l:=by
  unfold rd
  rw [List.getD_eq_getElem?_getD,List.getElem?_eq_getElem (show i.toNat < l.length by omega)]
  exact List.getElem_mem _
theorem and255 (x : Int) : 0 ≤ Go.bits .and .u64 x 255 ∧ Go.bits .and .u64 x 255 ≤ 255:=by
  show 0 ≤ IntKind.u64.wrap (((BitVec.ofInt 64 x) &&& (BitVec.ofInt 64 255)).toNat : Int) ∧ IntKind.u64.wrap (((BitVec.ofInt 64 x) &&& (BitVec.ofInt 64 255)).toNat : Int) ≤ 255
  have h : ((BitVec.ofInt 64 x) &&& (BitVec.ofInt 64 255)).toNat ≤ 255:=by
    rw [BitVec.toNat_and]
    exact Nat.le_trans Nat.and_le_right (by decide)
  have e : IntKind.u64.wrap (((BitVec.ofInt 64 x) &&& (BitVec.ofInt 64 255)).toNat : Int) = (((BitVec.ofInt 64 x) &&& (BitVec.ofInt 64 255)).toNat : Int):=by
    generalize (((BitVec.ofInt 64 x) &&& (BitVec.ofInt 64 255)).toNat) = n at h ⊢
    simp only [IntKind.wrap,IntKind.signed,IntKind.bits]
    simp
    omega
  rw [e]
  omega
theorem next_ok {l : List Int} (hc : Cd l) (a s : Int) (h0 : 0 ≤ a) (h1 : a ≤ 1099511627776) : ∃ b s',spec_l1Cur_next.f l a s = some (b,a + 1,s') ∧ 0 ≤ b ∧ b ≤ 255:=by
  have hl:=hc.1
  unfold spec_l1Cur_next.f
  rw [wrap64_id (x:=a + 1) (by omega) (by omega)]
  by_cases h : a < (l.length : Int)
  · have hm:=hc.2 _ (rd_mem l a h0 h)
    rw [if_pos h,if_pos h0,if_pos (by omega),wrap64_id (x:=rd l a) (by omega) (by omega)]
    exact ⟨_,_,rfl,hm.1,hm.2⟩
  · rw [if_neg h,if_neg (by omega)]
    refine ⟨_,_,rfl,?_⟩
    generalize hX : Go.bits _ _ _ _ = X
    have:=and255 (IntKind.u64.wrap (IntKind.u64.wrap (IntKind.u64.wrap (s * 6364136223846793005)) + 906906) / 1099511627776)
    have hb : 0 ≤ X ∧ X ≤ 255:=by rw [← hX];exact this
    rw [wrap64_id (by omega) (by omega)]
    exact hb
theorem pick_ok {l : List Int} (hc : Cd l) (a s n : Int) (h0 : 0 ≤ a) (h1 : a ≤ 1000000) : ∃ b a' s',spec_l1Cur_pick.f l a s n = some (b,a',s') ∧ 0 ≤ b ∧ (b = 0 ∨ b < n) ∧ a ≤ a' ∧ a' ≤ a + 2:=by
  unfold spec_l1Cur_pick.f
  by_cases g : n ≤ 1
  · rw [if_pos g]
    exact ⟨_,_,_,rfl,by omega,by omega,by omega,by omega⟩
  · obtain ⟨x,s1,e1,x0,x1⟩:=next_ok hc a s h0 (by omega)
    rw [if_neg g,e1]
    simp only [Option.bind_some]
    by_cases g2 : n > 200
    · obtain ⟨y,s2,e2,y0,y1⟩:=next_ok hc (a + 1) s1 (by omega) (by omega)
      rw [if_pos g2,e2]
      simp only [Option.bind_some]
      rw [if_neg (by omega),wrap64_id (x:=x * 256) (by omega) (by omega),wrap64_id (x:=x * 256 + y) (by omega) (by omega)]
      refine ⟨_,_,_,rfl,Int.tmod_nonneg _ (by omega),.inr ?_,by omega,by omega⟩
      exact Int.tmod_lt_of_pos _ (by omega)
    · rw [if_neg g2,if_neg (by omega)]
      refine ⟨_,_,_,rfl,Int.tmod_nonneg _ (by omega),.inr ?_,by omega,by omega⟩
      exact Int.tmod_lt_of_pos _ (by omega)
theorem EvP.pick {β : Type} {l : List Int} (hc : Cd l) {a s n : Int} {f : Nat → Int × Int × Int → Option β} {Q : β → Prop} (h0 : 0 ≤ a) (h1 : a ≤ 1000000)
    (k : ∀ b a' s',0 ≤ b → (b = 0 ∨ b < n) → a ≤ a' → a' ≤ a + 2 → EvP (fun k=>f k (b,a',s')) Q) : EvP (fun k=>(spec_l1Cur_pick.f l a s n).bind (f k)) Q:=by
  obtain ⟨b,a',s',e,h2,h3,h4,h5⟩:=pick_ok hc a s n h0 h1
  rw [e]
  exact k b a' s' h2 h3 h4 h5
theorem EvP.one {β : Type} {l : List Int} (hc : Cd l) {a s n : Int} {f : Nat → Bool × Int × Int → Option β} {Q : β → Prop} (h0 : 0 ≤ a) (h1 : a ≤ 1000000)
    (k : ∀ b a' s',a ≤ a' → a' ≤ a + 2 → EvP (fun k=>f k (b,a',s')) Q) : EvP (fun k=>(spec_l1Cur_one.f l a s n).bind (f k)) Q:=by
  obtain ⟨b,a',s',e,h2,h3,h4,h5⟩:=pick_ok hc a s n h0 h1
  unfold spec_l1Cur_one.f
  rw [e]
  simp only [Option.bind_some]
  exact k _ a' s' h4 h5
theorem EvP.among {β : Type} {l : List Int} (hc : Cd l) {a s : Int} {xs : List Int} {f : Nat → Int × Int × Int → Option β} {Q : β → Prop} (h0 : 0 ≤ a) (h1 : a ≤ 1000000) (hx : 0 < (xs.length : Int))
    (k : ∀ b a' s',b ∈ xs → a ≤ a' → a' ≤ a + 2 → EvP (fun k=>f k (b,a',s')) Q) : EvP (fun k=>(spec_l1Cur_among.f l a s xs).bind (f k)) Q:=by
  obtain ⟨b,a',s',e,h2,h3,h4,h5⟩:=pick_ok hc a s (xs.length : Int) h0 h1
  unfold spec_l1Cur_among.f
  rw [e]
  simp only [Option.bind_some]
  rw [if_pos h2,if_pos (by omega)]
  exact k _ a' s' (rd_mem xs b h2 (by omega)) h4 h5
end Go.Proofs.Ytbglkkepfddecaa.G

-- Written by wip/tools/gen.py out of the translation (the kit's printer, one namespace a seat). Lean checks it.
namespace Go.Proofs.Ytbglkkepfddecaa.G
open Go.RowKit Go.Proofs.YtbglkkepfddecaaW.PrintWords Go.Proofs.YtbglkkepfddecaaW.PrintLast Go.Proofs.YtbglkkepfddecaaW.PrintMore
attribute [local go_sem] max2_int min2_int max_two min_two max_three min_three max_four min_four   -- for this text's walks alone
set_option linter.unusedVariables false
set_option linter.unusedSimpArgs false

/-! ### spec_l1Cur_tides: function 69 -/
mutual
def spec_l1Cur_tides.l0 : Nat → List (S60) → Int → Bool → Int → List Int → Int → Int → Option ((List (S60)) × Int × Int)
 | 0,_,_,_,_,_,_,_=>none
 | k + 1,x3,x4,x5,x6,x1000,x1001,x1002=>if x6 > 0 then ((spec_l1Cur_among.f x1000 x1001 x1002 (([0,50,80,120] : List Int))).bind fun bt586=>(if x5 = true then ((spec_l1Cur_among.f x1000 bt586.2.1 bt586.2.2 (([200,310,450,2000] : List Int))).bind fun bt593=>(if x3.length < 8796093022208 then ((spec_l1Cur_among.f x1000 bt593.2.1 bt593.2.2 (([1,3,6,6,7] : List Int))).bind fun bt602=>(spec_l1Cur_tides.l0 k (x3 ++ [(⟨x4,bt593.1⟩ : S60)]) (wrap64 (x4 + bt602.1)) (!x5) (wrap64 (x6 - 1)) x1000 bt602.2.1 bt602.2.2)) else (none))) else (if x3.length < 8796093022208 then ((spec_l1Cur_among.f x1000 bt586.2.1 bt586.2.2 (([1,3,6,6,7] : List Int))).bind fun bt611=>(spec_l1Cur_tides.l0 k (x3 ++ [(⟨x4,bt586.1⟩ : S60)]) (wrap64 (x4 + bt611.1)) (!x5) (wrap64 (x6 - 1)) x1000 bt611.2.1 bt611.2.2)) else (none)))) else ((spec_l1Cur_pick.f x1000 x1001 x1002 (x3.length : Int)).bind fun bt614=>(if 0 ≤ bt614.1 then (if bt614.1 < (x3.length : Int) then ((spec_l1Cur_pick.f x1000 bt614.2.1 bt614.2.2 40).bind fun bt619=>(if bt619.1 = 0 then ((spec_l1Cur_among.f x1000 bt619.2.1 bt619.2.2 (([(-1),240,241,3] : List Int))).bind fun bt625=>(some ((x3.set (bt614.1 : Int).toNat (⟨bt625.1,(rd_T60 x3 bt614.1).f1⟩ : S60)),bt625.2.1,bt625.2.2))) else (if bt619.1 = 1 then ((spec_l1Cur_among.f x1000 bt619.2.1 bt619.2.2 (([(-1),2001,100] : List Int))).bind fun bt632=>(some ((x3.set (bt614.1 : Int).toNat (⟨(rd_T60 x3 bt614.1).f0,bt632.1⟩ : S60)),bt632.2.1,bt632.2.2))) else (if bt619.1 = 2 then (if 1 ≤ (x3.length : Int) then ((some (x3.take (1 : Int).toNat : List (S60))).bind fun y636=>(if bt614.1 < (y636.length : Int) then (some ((y636.set (bt614.1 : Int).toNat (⟨(rd_T60 x3 bt614.1).f0,(rd_T60 x3 bt614.1).f1⟩ : S60)),bt619.2.1,bt619.2.2)) else (some (y636,bt619.2.1,bt619.2.2)))) else (none)) else (if bt619.1 = 3 then (spec_l1Cur_tides.l1 k x3 bt614.1 x1000 bt619.2.1 bt619.2.2 ((rd_T60 x3 bt614.1).f0) ((rd_T60 x3 bt614.1).f1)) else (some ((x3.set (bt614.1 : Int).toNat (⟨(rd_T60 x3 bt614.1).f0,(rd_T60 x3 bt614.1).f1⟩ : S60)),bt619.2.1,bt619.2.2))))))) else (none)) else (none)))
def spec_l1Cur_tides.l1 : Nat → List (S60) → Int → List Int → Int → Int → Int → Int → Option ((List (S60)) × Int × Int)
 | 0,_,_,_,_,_,_,_=>none
 | k + 1,x3,x8,x1000,x1001,x1002,x619000,x619001=>(spec_l1Cur_pick.f x1000 x1001 x1002 2).bind fun bt640=>(if (x3.length : Int) < (wrap64 (20 + bt640.1)) then (if 0 ≤ (wrap64 ((x3.length : Int) - 1)) then (if (wrap64 ((x3.length : Int) - 1)) < (x3.length : Int) then (if x3.length < 8796093022208 then (spec_l1Cur_tides.l1 k (x3 ++ [(⟨wrap64 (((rd_T60 x3 (wrap64 ((x3.length : Int) - 1))).f0) + 2),150 + (100 * ((x3.length : Int) % 2))⟩ : S60)]) x8 x1000 bt640.2.1 bt640.2.2 x619000 x619001) else (none)) else (none)) else (none)) else (if x8 < (x3.length : Int) then (if 0 ≤ x8 then (some ((x3.set (x8 : Int).toNat (⟨x619000,x619001⟩ : S60)),bt640.2.1,bt640.2.2)) else (none)) else (some (x3,bt640.2.1,bt640.2.2))))
end
def spec_l1Cur_tides.f (k : Nat) (s0_0 : List Int) (s0_1 : Int) (s0_2 : Int) : Option ((List (S60)) × Int × Int):=(spec_l1Cur_pick.f s0_0 s0_1 s0_2 6).bind fun bt574=>((spec_l1Cur_one.f s0_0 bt574.2.1 bt574.2.2 2).bind fun bt577=>((spec_l1Cur_pick.f s0_0 bt577.2.1 bt577.2.2 5).bind fun bt580=>(spec_l1Cur_tides.l0 k (([] : List (S60))) bt574.1 bt577.1 (wrap64 (2 + bt580.1)) s0_0 bt580.2.1 bt580.2.2)))
set_option maxHeartbeats 8000000 in
set_option maxRecDepth 100000 in
theorem spec_l1Cur_tides.calls (k : Nat) (g : Nat) (s0_0 : List Int) (s0_1 : Int) (s0_2 : Int) (r1 : List (S60)) (r2 : Int) (r3 : Int) (w0 w : World) (hI : IsS87 w0 w g s0_0 s0_1 s0_2) (hB : Below w0.heap.size w0 w) (h : spec_l1Cur_tides.f k s0_0 s0_1 s0_2 = some (r1,r2,r3)) :
  Calls Try.prog 69 #[.pointer (some ⟨g,0,none⟩)] w fun e w' => ∃ v0_ : Value,e = .returned (v0_) ∧ Kd.R k60 60 w' w.heap.size (fun _=>True) v0_ r1 ∧ IsS87 w0 w' g s0_0 r2 r3 ∧ Below w0.heap.size w0 w' ∧ KeepBut w w' g none:=by
 have hu60:=Try.underlying60
 have HI0:=zM hI
 have HK:=zM (KeepBut.refl w g none)
 have HL:=zM hB.size
 clear hI
 have HW0:=zM hB.size
 have HB:=zM hB
 clear hB
 have H : ((spec_l1Cur_pick.f s0_0 s0_1 s0_2 6).bind fun bt574=>((spec_l1Cur_one.f s0_0 bt574.2.1 bt574.2.2 2).bind fun bt577=>((spec_l1Cur_pick.f s0_0 bt577.2.1 bt577.2.2 5).bind fun bt580=>(spec_l1Cur_tides.l0 k (([] : List (S60))) bt574.1 bt577.1 (wrap64 (2 + bt580.1)) s0_0 bt580.2.1 bt580.2.2)))) = some (r1,r2,r3):=h
 clear h
 obtain ⟨y571,hy571⟩ : ∃ y_ : List (S60),y_ = (([] : List (S60))):=⟨_,rfl⟩
 replace H : ((spec_l1Cur_pick.f s0_0 s0_1 s0_2 6).bind fun bt574=>((spec_l1Cur_one.f s0_0 bt574.2.1 bt574.2.2 2).bind fun bt577=>((spec_l1Cur_pick.f s0_0 bt577.2.1 bt577.2.2 5).bind fun bt580=>(spec_l1Cur_tides.l0 k y571 bt574.1 bt577.1 (wrap64 (2 + bt580.1)) s0_0 bt580.2.1 bt580.2.2)))) = some (r1,r2,r3):=by first|(rw [hy571];with_reducible exact H)|(have H2_:=(Option.bind_some _ _).symm.trans H;rw [hy571];with_reducible exact H2_)|(have H2_:=(Option.bind_some _ _).symm.trans H;with_reducible exact H2_)|with_reducible exact H|(rw [hy571];exact H)|exact H
 have Ny571:=zM hy571
 clear hy571
 replace H:=Option.bind_eq_some_iff.mp H
 obtain ⟨⟨t574,t575,t576⟩,A20,H⟩:=H
 replace H : ((spec_l1Cur_one.f s0_0 t575 t576 2).bind fun bt577=>((spec_l1Cur_pick.f s0_0 bt577.2.1 bt577.2.2 5).bind fun bt580=>(spec_l1Cur_tides.l0 k y571 t574 bt577.1 (wrap64 (2 + bt580.1)) s0_0 bt580.2.1 bt580.2.2))) = some (r1,r2,r3):=H
 have A2:=zM A20
 clear A20
 replace H:=Option.bind_eq_some_iff.mp H
 obtain ⟨⟨t577,t578,t579⟩,A30,H⟩:=H
 replace H : ((spec_l1Cur_pick.f s0_0 t578 t579 5).bind fun bt580=>(spec_l1Cur_tides.l0 k y571 t574 t577 (wrap64 (2 + bt580.1)) s0_0 bt580.2.1 bt580.2.2)) = some (r1,r2,r3):=H
 have A3:=zM A30
 clear A30
 replace H:=Option.bind_eq_some_iff.mp H
 obtain ⟨⟨t580,t581,t582⟩,A40,H⟩:=H
 replace H : (spec_l1Cur_tides.l0 k y571 t574 t577 (wrap64 (2 + t580)) s0_0 t581 t582) = some (r1,r2,r3):=H
 have A4:=zM A40
 clear A40
 have H':=zM H
 clear H
 go_enter Try.func69,Try.ntmps69
 go_wp2_with (first|((with_reducible refine gate_dst (N:=10) rfl ?_);refine Kd.R_lit k60 _ 60 ?hg (N:=10) ?hd (xs:=([] : List (S60))) (inner:=[]) (ok:=fun _=>True) (okp:=fun _=>True) ?hr ?hp (fun _ hk=>hk) trivial (Below.refl _ _) (Nat.le_refl _) (by simp) ?_;(case hd=>rfl);(case hg=>rfl);(case hr=>first|(go_simp;done)|(go_simp;rfl));(case hp=>exact (Reps.none _ _));intro v572 w5 ho6 hb hg_ hnew_;clear hg_ hnew_;(first|rw [← Ny571.out] at ho6|(simp only [Int.reduceToNat] at ho6;rw [← Ny571.out] at ho6));have n0_:=zM (Kd.R_lower ho6 (keep_size (w:=w) (g:=g) (row:=none) (by repeat (first|(with_reducible first|exact HK.out|apply KeepBut.set_|apply keep_drewN|apply keep_drew|apply keep_alloc)|exact HK.out))));have n1_:=zM (IsS87.below (by repeat (first|(with_reducible first|exact HI0.out|apply IsS87.alloc|apply IsS87.drewN|apply IsS87.drew|apply IsS87.set_1|apply IsS87.set_2)|exact HI0.out)) hb);have n2_:=zM (KeepBut.trans (by repeat (first|(with_reducible first|exact HK.out|apply KeepBut.set_|apply keep_drewN|apply keep_drew|apply keep_alloc)|exact HK.out)) (KeepBut.of_below hb g none) (.inl rfl));have n3_:=zM (zQ (by repeat (first|(with_reducible first|exact HB.out|apply zD|apply zE|apply zF|refine below_set ?_ (IsS87.ge HI0.out))|exact HB.out)) hb);clear HI0;clear HK;clear HB;have HO573:=n0_;have HI0:=n1_;have HK:=n2_;have HB:=n3_;clear n0_ n1_ n2_ n3_;clear hb ho6)|((with_reducible refine gate_callee (f:=72) rfl ?_);refine goesL_ (some 12) rfl rfl Try.func72 (by kernel_rfl) rfl #[.pointer (some ⟨g,0,none⟩),.int .i64 6] rfl (by (try simp only [List.map_toArray,List.map_cons,List.map_nil]);first|done|rfl|(simp only [List.length_drop,List.length_take];rfl)) ?_;(with_reducible refine (spec_l1Cur_pick.calls g s0_0 s0_1 s0_2 6 t574 t575 t576 w0 _ ?side1 ?side2 A2.out).mono ?_);(case side1=>repeat (first|(with_reducible first|exact HI0.out|apply IsS87.alloc|apply IsS87.drewN|apply IsS87.drew|apply IsS87.set_1|apply IsS87.set_2)|exact HI0.out));(case side2=>repeat (first|(with_reducible first|exact HB.out|apply zD|apply zE|apply zF|refine below_set ?_ (IsS87.ge HI0.out))|exact HB.out));rintro e w7 ⟨rfl,hi,hb,hk⟩;refine ⟨_,rfl,?_⟩;have n0_:=zM (Kd.R_mono (Kd.R_keep (IsS87.apart (show IsS87 w0 _ g s0_0 s0_1 s0_2 from by repeat (first|(with_reducible first|exact HI0.out|apply IsS87.alloc|apply IsS87.drewN|apply IsS87.drew|apply IsS87.set_1|apply IsS87.set_2)|exact HI0.out)) (by (with_reducible repeat (first|apply zA|apply zB|apply zC));exact HO573.out) (by decide)) hk (fun _ h=>h.2)) (fun _ h=>h.1));have n1_:=zM (KeepBut.trans (by repeat (first|(with_reducible first|exact HK.out|apply KeepBut.set_|apply keep_drewN|apply keep_drew|apply keep_alloc)|exact HK.out)) hk (.inl rfl));have n2_:=zM (hb);have n3_:=zM (hi);clear HO573;clear HK;clear HB;clear HI0;have HO573:=n0_;have HK:=n1_;have HB:=n2_;have HI0:=n3_;clear n0_ n1_ n2_ n3_;(try clear hb);(try clear hb2);(try clear hk);(try clear hi))|((with_reducible refine gate_callee (f:=71) rfl ?_);refine goesL_ (some 14) rfl rfl Try.func71 (by kernel_rfl) rfl #[.pointer (some ⟨g,0,none⟩),.int .i64 2] rfl (by (try simp only [List.map_toArray,List.map_cons,List.map_nil]);first|done|rfl|(simp only [List.length_drop,List.length_take];rfl)) ?_;(with_reducible refine (spec_l1Cur_one.calls g s0_0 t575 t576 2 t577 t578 t579 w0 _ ?side1 ?side2 A3.out).mono ?_);(case side1=>repeat (first|(with_reducible first|exact HI0.out|apply IsS87.alloc|apply IsS87.drewN|apply IsS87.drew|apply IsS87.set_1|apply IsS87.set_2)|exact HI0.out));(case side2=>repeat (first|(with_reducible first|exact HB.out|apply zD|apply zE|apply zF|refine below_set ?_ (IsS87.ge HI0.out))|exact HB.out));rintro e w8 ⟨rfl,hi,hb,hk⟩;refine ⟨_,rfl,?_⟩;have n0_:=zM (Kd.R_mono (Kd.R_keep (IsS87.apart (show IsS87 w0 _ g s0_0 t575 t576 from by repeat (first|(with_reducible first|exact HI0.out|apply IsS87.alloc|apply IsS87.drewN|apply IsS87.drew|apply IsS87.set_1|apply IsS87.set_2)|exact HI0.out)) (by (with_reducible repeat (first|apply zA|apply zB|apply zC));exact HO573.out) (by decide)) hk (fun _ h=>h.2)) (fun _ h=>h.1));have n1_:=zM (KeepBut.trans (by repeat (first|(with_reducible first|exact HK.out|apply KeepBut.set_|apply keep_drewN|apply keep_drew|apply keep_alloc)|exact HK.out)) hk (.inl rfl));have n2_:=zM (hb);have n3_:=zM (hi);clear HO573;clear HK;clear HB;clear HI0;have HO573:=n0_;have HK:=n1_;have HB:=n2_;have HI0:=n3_;clear n0_ n1_ n2_ n3_;(try clear hb);(try clear hb2);(try clear hk);(try clear hi))|((with_reducible refine gate_callee (f:=72) rfl ?_);refine goesL_ (some 16) rfl rfl Try.func72 (by kernel_rfl) rfl #[.pointer (some ⟨g,0,none⟩),.int .i64 5] rfl (by (try simp only [List.map_toArray,List.map_cons,List.map_nil]);first|done|rfl|(simp only [List.length_drop,List.length_take];rfl)) ?_;(with_reducible refine (spec_l1Cur_pick.calls g s0_0 t578 t579 5 t580 t581 t582 w0 _ ?side1 ?side2 A4.out).mono ?_);(case side1=>repeat (first|(with_reducible first|exact HI0.out|apply IsS87.alloc|apply IsS87.drewN|apply IsS87.drew|apply IsS87.set_1|apply IsS87.set_2)|exact HI0.out));(case side2=>repeat (first|(with_reducible first|exact HB.out|apply zD|apply zE|apply zF|refine below_set ?_ (IsS87.ge HI0.out))|exact HB.out));rintro e w9 ⟨rfl,hi,hb,hk⟩;refine ⟨_,rfl,?_⟩;have n0_:=zM (Kd.R_mono (Kd.R_keep (IsS87.apart (show IsS87 w0 _ g s0_0 t578 t579 from by repeat (first|(with_reducible first|exact HI0.out|apply IsS87.alloc|apply IsS87.drewN|apply IsS87.drew|apply IsS87.set_1|apply IsS87.set_2)|exact HI0.out)) (by (with_reducible repeat (first|apply zA|apply zB|apply zC));exact HO573.out) (by decide)) hk (fun _ h=>h.2)) (fun _ h=>h.1));have n1_:=zM (KeepBut.trans (by repeat (first|(with_reducible first|exact HK.out|apply KeepBut.set_|apply keep_drewN|apply keep_drew|apply keep_alloc)|exact HK.out)) hk (.inl rfl));have n2_:=zM (hb);have n3_:=zM (hi);clear HO573;clear HK;clear HB;clear HI0;have HO573:=n0_;have HK:=n1_;have HB:=n2_;have HI0:=n3_;clear n0_ n1_ n2_ n3_;(try clear hb);(try clear hb2);(try clear hk);(try clear hi)))
 go_loopg [3,4,5,6] k (fun kq v3 v4 v5 v6 w' => ∃ (x3_1 : List (S60)) (x4_1 : Int) (x5_1 : Bool) (x6_1 : Int) (x1001_1 : Int) (x1002_1 : Int),v4 = .int .i64 x4_1 ∧ v5 = .bool x5_1 ∧ v6 = .int .i64 x6_1 ∧ Aside0 (spec_l1Cur_tides.l0 kq x3_1 x4_1 x5_1 x6_1 s0_0 x1001_1 x1002_1 = some (r1,r2,r3)) ∧ Aside0 (kq ≤ k) ∧ Aside0 (Kd.R k60 60 w' w.heap.size (fun _=>True) v3 x3_1) ∧ Aside0 (IsS87 w0 w' g s0_0 x1001_1 x1002_1) ∧ Aside0 (KeepBut w w' g none) ∧ Aside0 (Below w0.heap.size w0 w'))
 case atStart=>exact ⟨(y571),(t574),(t577),(wrap64 (2 + t580)),(t581),(t582),(by first|rfl|(simp;done)|(simp [*];done)),(by first|rfl|(simp;done)|(simp [*];done)),(by first|rfl|(simp;done)|(simp [*];done)),H',⟨Nat.le_refl _⟩,⟨by (with_reducible repeat (first|apply zA|apply zB|apply zC));exact HO573.out⟩,⟨by repeat (first|(with_reducible first|exact HI0.out|apply IsS87.alloc|apply IsS87.drewN|apply IsS87.drew|apply IsS87.set_1|apply IsS87.set_2)|exact HI0.out)⟩,⟨by repeat (first|(with_reducible first|exact HK.out|apply KeepBut.set_|apply keep_drewN|apply keep_drew|apply keep_alloc)|exact HK.out)⟩,⟨by repeat (first|(with_reducible first|exact HB.out|apply zD|apply zE|apply zF|refine below_set ?_ (IsS87.ge HI0.out))|exact HB.out)⟩⟩
 case round =>
  clear H'
  try clear p2
  try clear c6
  try clear p6
  try clear c7
  obtain ⟨x3_1,x4_1,x5_1,x6_1,x1001_1,x1002_1,rfl,rfl,rfl,HA,HK1,HO_3,HI0,HK,HB⟩:=hrel
  cases gk with
  | zero=>exact absurd HA.out (by simp [spec_l1Cur_tides.l0])
  | succ k1 =>
   have H:=HA.out
   clear HA
   simp only [spec_l1Cur_tides.l0] at H
   by_cases c10 : x6_1 > 0
   ·rw [if_pos c10] at H
    have c10b0 : decide (0 < x6_1) = true:=decide_eq_true c10
    clear c10
    obtain ⟨y583,hy583⟩ : ∃ y_ : List Int,y_ = (([0,50,80,120] : List Int)):=⟨_,rfl⟩
    replace H : ((spec_l1Cur_among.f s0_0 x1001_1 x1002_1 y583).bind fun bt586=>(if x5_1 = true then ((spec_l1Cur_among.f s0_0 bt586.2.1 bt586.2.2 (([200,310,450,2000] : List Int))).bind fun bt593=>(if x3_1.length < 8796093022208 then ((spec_l1Cur_among.f s0_0 bt593.2.1 bt593.2.2 (([1,3,6,6,7] : List Int))).bind fun bt602=>(spec_l1Cur_tides.l0 k1 (x3_1 ++ [(⟨x4_1,bt593.1⟩ : S60)]) (wrap64 (x4_1 + bt602.1)) (!x5_1) (wrap64 (x6_1 - 1)) s0_0 bt602.2.1 bt602.2.2)) else (none))) else (if x3_1.length < 8796093022208 then ((spec_l1Cur_among.f s0_0 bt586.2.1 bt586.2.2 (([1,3,6,6,7] : List Int))).bind fun bt611=>(spec_l1Cur_tides.l0 k1 (x3_1 ++ [(⟨x4_1,bt586.1⟩ : S60)]) (wrap64 (x4_1 + bt611.1)) (!x5_1) (wrap64 (x6_1 - 1)) s0_0 bt611.2.1 bt611.2.2)) else (none)))) = some (r1,r2,r3):=by first|(rw [hy583];with_reducible exact H)|(have H2_:=(Option.bind_some _ _).symm.trans H;rw [hy583];with_reducible exact H2_)|(have H2_:=(Option.bind_some _ _).symm.trans H;with_reducible exact H2_)|with_reducible exact H|(rw [hy583];exact H)|exact H
    have Ny583:=zM hy583
    clear hy583
    replace H:=Option.bind_eq_some_iff.mp H
    obtain ⟨⟨t586,t587,t588⟩,A110,H⟩:=H
    replace H : (if x5_1 = true then ((spec_l1Cur_among.f s0_0 t587 t588 (([200,310,450,2000] : List Int))).bind fun bt593=>(if x3_1.length < 8796093022208 then ((spec_l1Cur_among.f s0_0 bt593.2.1 bt593.2.2 (([1,3,6,6,7] : List Int))).bind fun bt602=>(spec_l1Cur_tides.l0 k1 (x3_1 ++ [(⟨x4_1,bt593.1⟩ : S60)]) (wrap64 (x4_1 + bt602.1)) (!x5_1) (wrap64 (x6_1 - 1)) s0_0 bt602.2.1 bt602.2.2)) else (none))) else (if x3_1.length < 8796093022208 then ((spec_l1Cur_among.f s0_0 t587 t588 (([1,3,6,6,7] : List Int))).bind fun bt611=>(spec_l1Cur_tides.l0 k1 (x3_1 ++ [(⟨x4_1,t586⟩ : S60)]) (wrap64 (x4_1 + bt611.1)) (!x5_1) (wrap64 (x6_1 - 1)) s0_0 bt611.2.1 bt611.2.2)) else (none))) = some (r1,r2,r3):=H
    have A11:=zM A110
    clear A110
    by_cases c12 : x5_1 = true
    ·subst c12
     have H1 : ((spec_l1Cur_among.f s0_0 t587 t588 (([200,310,450,2000] : List Int))).bind fun bt593=>(if x3_1.length < 8796093022208 then ((spec_l1Cur_among.f s0_0 bt593.2.1 bt593.2.2 (([1,3,6,6,7] : List Int))).bind fun bt602=>(spec_l1Cur_tides.l0 k1 (x3_1 ++ [(⟨x4_1,bt593.1⟩ : S60)]) (wrap64 (x4_1 + bt602.1)) (!true) (wrap64 (x6_1 - 1)) s0_0 bt602.2.1 bt602.2.2)) else (none))) = some (r1,r2,r3):=by rw [if_pos rfl] at H;exact H
     clear H
     have H:=H1
     clear H1
     obtain ⟨y590,hy590⟩ : ∃ y_ : List Int,y_ = (([200,310,450,2000] : List Int)):=⟨_,rfl⟩
     replace H : ((spec_l1Cur_among.f s0_0 t587 t588 y590).bind fun bt593=>(if x3_1.length < 8796093022208 then ((spec_l1Cur_among.f s0_0 bt593.2.1 bt593.2.2 (([1,3,6,6,7] : List Int))).bind fun bt602=>(spec_l1Cur_tides.l0 k1 (x3_1 ++ [(⟨x4_1,bt593.1⟩ : S60)]) (wrap64 (x4_1 + bt602.1)) (!true) (wrap64 (x6_1 - 1)) s0_0 bt602.2.1 bt602.2.2)) else (none))) = some (r1,r2,r3):=by first|(rw [hy590];with_reducible exact H)|(have H2_:=(Option.bind_some _ _).symm.trans H;rw [hy590];with_reducible exact H2_)|(have H2_:=(Option.bind_some _ _).symm.trans H;with_reducible exact H2_)|with_reducible exact H|(rw [hy590];exact H)|exact H
     have Ny590:=zM hy590
     clear hy590
     replace H:=Option.bind_eq_some_iff.mp H
     obtain ⟨⟨t593,t594,t595⟩,A130,H⟩:=H
     replace H : (if x3_1.length < 8796093022208 then ((spec_l1Cur_among.f s0_0 t594 t595 (([1,3,6,6,7] : List Int))).bind fun bt602=>(spec_l1Cur_tides.l0 k1 (x3_1 ++ [(⟨x4_1,t593⟩ : S60)]) (wrap64 (x4_1 + bt602.1)) (!true) (wrap64 (x6_1 - 1)) s0_0 bt602.2.1 bt602.2.2)) else (none)) = some (r1,r2,r3):=H
     have A13:=zM A130
     clear A130
     by_cases c14 : x3_1.length < 8796093022208
     ·rw [if_pos c14] at H
      have LMc14:=zM c14
      clear c14
      obtain ⟨y596,hy596⟩ : ∃ y_ : List (S60),y_ = (x3_1 ++ [(⟨x4_1,t593⟩ : S60)]):=⟨_,rfl⟩
      replace H : ((spec_l1Cur_among.f s0_0 t594 t595 (([1,3,6,6,7] : List Int))).bind fun bt602=>(spec_l1Cur_tides.l0 k1 y596 (wrap64 (x4_1 + bt602.1)) (!true) (wrap64 (x6_1 - 1)) s0_0 bt602.2.1 bt602.2.2)) = some (r1,r2,r3):=by first|(rw [hy596];with_reducible exact H)|(have H2_:=(Option.bind_some _ _).symm.trans H;rw [hy596];with_reducible exact H2_)|(have H2_:=(Option.bind_some _ _).symm.trans H;with_reducible exact H2_)|with_reducible exact H|(rw [hy596];exact H)|exact H
      have Ny596:=zM hy596
      clear hy596
      obtain ⟨y599,hy599⟩ : ∃ y_ : List Int,y_ = (([1,3,6,6,7] : List Int)):=⟨_,rfl⟩
      replace H : ((spec_l1Cur_among.f s0_0 t594 t595 y599).bind fun bt602=>(spec_l1Cur_tides.l0 k1 y596 (wrap64 (x4_1 + bt602.1)) (!true) (wrap64 (x6_1 - 1)) s0_0 bt602.2.1 bt602.2.2)) = some (r1,r2,r3):=by first|(rw [hy599];with_reducible exact H)|(have H2_:=(Option.bind_some _ _).symm.trans H;rw [hy599];with_reducible exact H2_)|(have H2_:=(Option.bind_some _ _).symm.trans H;with_reducible exact H2_)|with_reducible exact H|(rw [hy599];exact H)|exact H
      have Ny599:=zM hy599
      clear hy599
      replace H:=Option.bind_eq_some_iff.mp H
      obtain ⟨⟨t602,t603,t604⟩,A150,H⟩:=H
      replace H : (spec_l1Cur_tides.l0 k1 y596 (wrap64 (x4_1 + t602)) (!true) (wrap64 (x6_1 - 1)) s0_0 t603 t604) = some (r1,r2,r3):=H
      have A15:=zM A150
      clear A150
      have H':=zM H
      clear H
      go_wp2_with (first|((with_reducible refine gate_dst (N:=24) rfl ?_);refine Kd.R_lit (Kd.int .i64) _ 3 ?hg (N:=24) ?hd (xs:=([0,50,80,120] : List Int)) (inner:=[.int .i64 0,.int .i64 50,.int .i64 80,.int .i64 120]) (ok:=fun _=>True) (okp:=fun _=>True) ?hr ?hp (fun _ hk=>hk) trivial (Below.refl _ _) (Nat.le_refl _) (by simp) ?_;(case hd=>rfl);(case hg=>rfl);(case hr=>first|(go_simp;done)|(go_simp;rfl));(case hp=>exact (Reps.one (show Kd.M (Kd.int .i64) _ _ _ 0 [.int .i64 0] from rfl) (Reps.one (show Kd.M (Kd.int .i64) _ _ _ 50 [.int .i64 50] from rfl) (Reps.one (show Kd.M (Kd.int .i64) _ _ _ 80 [.int .i64 80] from rfl) (Reps.one (show Kd.M (Kd.int .i64) _ _ _ 120 [.int .i64 120] from rfl) (Reps.none _ _))))));intro v584 w16 ho17 hb hg_ hnew_;clear hg_ hnew_;(first|rw [← Ny583.out] at ho17|(simp only [Int.reduceToNat] at ho17;rw [← Ny583.out] at ho17));have n0_:=zM (zP (by (with_reducible repeat (first|apply zA|apply zB|apply zC));exact HO_3.out) hb);have n1_:=zM (Kd.R_lower ho17 (keep_size (w:=w) (g:=g) (row:=none) (by repeat (first|(with_reducible first|exact HK.out|apply KeepBut.set_|apply keep_drewN|apply keep_drew|apply keep_alloc)|exact HK.out))));have n2_:=zM (IsS87.below (by repeat (first|(with_reducible first|exact HI0.out|apply IsS87.alloc|apply IsS87.drewN|apply IsS87.drew|apply IsS87.set_1|apply IsS87.set_2)|exact HI0.out)) hb);have n3_:=zM (KeepBut.trans (by repeat (first|(with_reducible first|exact HK.out|apply KeepBut.set_|apply keep_drewN|apply keep_drew|apply keep_alloc)|exact HK.out)) (KeepBut.of_below hb g none) (.inl rfl));have n4_:=zM (zQ (by repeat (first|(with_reducible first|exact HB.out|apply zD|apply zE|apply zF|refine below_set ?_ (IsS87.ge HI0.out))|exact HB.out)) hb);clear HO_3;clear HI0;clear HK;clear HB;have HO_3:=n0_;have HO585:=n1_;have HI0:=n2_;have HK:=n3_;have HB:=n4_;clear n0_ n1_ n2_ n3_ n4_;clear hb ho17;obtain ⟨Ao18,co18,eo18⟩:=Kd.R_slice HO585.out;subst eo18)|((with_reducible refine gate_callee (f:=70) rfl ?_);refine goesL_ (some 25) rfl rfl Try.func70 (by kernel_rfl) rfl #[.pointer (some ⟨g,0,none⟩),.slice Ao18 y583.length co18] rfl (by (try simp only [List.map_toArray,List.map_cons,List.map_nil]);first|done|rfl|(simp only [List.length_drop,List.length_take];rfl)) ?_;(with_reducible refine (spec_l1Cur_among.calls g s0_0 x1001_1 x1002_1 _ _ y583 t586 t587 t588 w0 _ ?side1 ?side2 ?side3 ?side4 ?side5 A11.out).mono ?_);(case side1=>repeat (first|(with_reducible first|exact HI0.out|apply IsS87.alloc|apply IsS87.drewN|apply IsS87.drew|apply IsS87.set_1|apply IsS87.set_2)|exact HI0.out));(case side2=>repeat (first|(with_reducible first|exact HB.out|apply zD|apply zE|apply zF|refine below_set ?_ (IsS87.ge HI0.out))|exact HB.out));(case side3=>repeat (first|exact (zN HO585.out).2.2|(with_reducible refine zG ?_ _)|(with_reducible refine zH ?_ _)|(with_reducible refine zI ?_)));(case side4=>exact (zN HO585.out).2.1);(case side5=>exact far_slice (IsS87.own_ne HI0.out HO585.out (by decide)));rintro e w19 ⟨rfl,hi,hb,hk⟩;refine ⟨_,rfl,?_⟩;have n0_:=zM (Kd.R_mono (Kd.R_keep (IsS87.apart (show IsS87 w0 _ g s0_0 x1001_1 x1002_1 from by repeat (first|(with_reducible first|exact HI0.out|apply IsS87.alloc|apply IsS87.drewN|apply IsS87.drew|apply IsS87.set_1|apply IsS87.set_2)|exact HI0.out)) (by (with_reducible repeat (first|apply zA|apply zB|apply zC));exact HO_3.out) (by decide)) hk (fun _ h=>h.2)) (fun _ h=>h.1));have n1_:=zM (Kd.R_mono (Kd.R_keep (IsS87.apart (show IsS87 w0 _ g s0_0 x1001_1 x1002_1 from by repeat (first|(with_reducible first|exact HI0.out|apply IsS87.alloc|apply IsS87.drewN|apply IsS87.drew|apply IsS87.set_1|apply IsS87.set_2)|exact HI0.out)) (by (with_reducible repeat (first|apply zA|apply zB|apply zC));exact HO585.out) (by decide)) hk (fun _ h=>h.2)) (fun _ h=>h.1));have n2_:=zM (KeepBut.trans (by repeat (first|(with_reducible first|exact HK.out|apply KeepBut.set_|apply keep_drewN|apply keep_drew|apply keep_alloc)|exact HK.out)) hk (.inl rfl));have n3_:=zM (hb);have n4_:=zM (hi);clear HO_3;clear HO585;clear HK;clear HB;clear HI0;have HO_3:=n0_;have HO585:=n1_;have HK:=n2_;have HB:=n3_;have HI0:=n4_;clear n0_ n1_ n2_ n3_ n4_;(try clear hb);(try clear hb2);(try clear hk);(try clear hi))|((with_reducible refine gate_dst (N:=7) rfl ?_);refine box_event ?hg (N:=7) ?hd (cs := #[.int .i64 0,.int .i64 0]) (t:=60) ?hr ?_;(case hd=>rfl);(case hg=>rfl);(case hr=>first|(go_simp;done)|(go_simp;rfl));intro gb589 hg w20 hbox hb;have n0_:=zM (zP (Kd.R_elderB (by (with_reducible repeat (first|apply zA|apply zB|apply zC));exact HO_3.out) gb589 (Nat.le_of_eq hg.symm)) hb);have n1_:=zM (zP (by (with_reducible repeat (first|apply zA|apply zB|apply zC));exact HO585.out) hb);have n2_:=zM (IsS87.below (by repeat (first|(with_reducible first|exact HI0.out|apply IsS87.alloc|apply IsS87.drewN|apply IsS87.drew|apply IsS87.set_1|apply IsS87.set_2)|exact HI0.out)) hb);have n3_:=zM (KeepBut.trans (by repeat (first|(with_reducible first|exact HK.out|apply KeepBut.set_|apply keep_drewN|apply keep_drew|apply keep_alloc)|exact HK.out)) (KeepBut.of_below hb g none) (.inl rfl));have n4_:=zM (zQ (by repeat (first|(with_reducible first|exact HB.out|apply zD|apply zE|apply zF|refine below_set ?_ (IsS87.ge HI0.out))|exact HB.out)) hb);have n5_:=zM (hbox);have n6_:=zM ((by rw [hg];exact (keep_size (w:=w) (g:=g) (row:=none) (by repeat (first|(with_reducible first|exact HK.out|apply KeepBut.set_|apply keep_drewN|apply keep_drew|apply keep_alloc)|exact HK.out))) : w.heap.size ≤ gb589));have n7_:=zM ((Nat.le_trans HW0.out (by rw [hg];exact (keep_size (w:=w) (g:=g) (row:=none) (by repeat (first|(with_reducible first|exact HK.out|apply KeepBut.set_|apply keep_drewN|apply keep_drew|apply keep_alloc)|exact HK.out))) : w.heap.size ≤ gb589) : w0.heap.size ≤ gb589));have n8_:=zM ((by rw [hg];exact Nat.ne_of_lt (IsS87.lt (show IsS87 w0 _ g s0_0 t587 t588 from by repeat (first|(with_reducible first|exact HI0.out|apply IsS87.alloc|apply IsS87.drewN|apply IsS87.drew|apply IsS87.set_1|apply IsS87.set_2)|exact HI0.out))) : g ≠ gb589));have n9_:=zM ((by rw [hg];exact Nat.ne_of_gt (IsS87.lt (show IsS87 w0 _ g s0_0 t587 t588 from by repeat (first|(with_reducible first|exact HI0.out|apply IsS87.alloc|apply IsS87.drewN|apply IsS87.drew|apply IsS87.set_1|apply IsS87.set_2)|exact HI0.out))) : gb589 ≠ g));clear HO_3;clear HO585;clear HI0;clear HK;clear HB;have HO_3:=n0_;have HO585:=n1_;have HI0:=n2_;have HK:=n3_;have HB:=n4_;have BK589:=n5_;have GW589:=n6_;have GE589:=n7_;have NB0_589:=n8_;have NB589_0:=n9_;clear n0_ n1_ n2_ n3_ n4_ n5_ n6_ n7_ n8_ n9_;clear hb hbox hg;have hnb21:=NB589_0.out;have hnc21:=NB0_589.out;have hcz22_0 : w20.cell? ⟨gb589,0,none⟩ = some (.int .i64 0):=(blk_cell BK589.out 0).trans rfl;have hcz22_1 : w20.cell? ⟨gb589,1,none⟩ = some (.int .i64 0):=(blk_cell BK589.out 1).trans rfl;have hfz22_0:=blk_frozen BK589.out 0;have hfz22_1:=blk_frozen BK589.out 1)|((with_reducible refine gate_dst (N:=29) rfl ?_);refine Kd.R_lit (Kd.int .i64) _ 3 ?hg (N:=29) ?hd (xs:=([200,310,450,2000] : List Int)) (inner:=[.int .i64 200,.int .i64 310,.int .i64 450,.int .i64 2000]) (ok:=fun _=>True) (okp:=fun _=>True) ?hr ?hp (fun _ hk=>hk) trivial (Below.refl _ _) (Nat.le_refl _) (by simp) ?_;(case hd=>rfl);(case hg=>rfl);(case hr=>first|(go_simp;done)|(go_simp;rfl));(case hp=>exact (Reps.one (show Kd.M (Kd.int .i64) _ _ _ 200 [.int .i64 200] from rfl) (Reps.one (show Kd.M (Kd.int .i64) _ _ _ 310 [.int .i64 310] from rfl) (Reps.one (show Kd.M (Kd.int .i64) _ _ _ 450 [.int .i64 450] from rfl) (Reps.one (show Kd.M (Kd.int .i64) _ _ _ 2000 [.int .i64 2000] from rfl) (Reps.none _ _))))));intro v591 w23 ho24 hb hg_ hnew_;clear hg_ hnew_;(first|rw [← Ny590.out] at ho24|(simp only [Int.reduceToNat] at ho24;rw [← Ny590.out] at ho24));have n0_:=zM (zP (by (with_reducible repeat (first|apply zA|apply zB|apply zC));exact (Kd.R_mono (Kd.R_far (p:=⟨gb589,1,none⟩) (Kd.R_far (p:=⟨gb589,0,none⟩) (Kd.R_mono HO_3.out (fun k_ hk=>(⟨hk,hk.2⟩ : _ ∧ k_ ≠ gb589))) (fun _ hk=>hk.2) (.int .i64 x4_1)) (fun _ hk=>hk.2) (.int .i64 t586)) (fun _ h_=>h_.1))) hb);have n1_:=zM (Kd.R_elder' (by (with_reducible repeat (first|apply zA|apply zB|apply zC));exact (Kd.R_mono (Kd.R_far (p:=⟨gb589,1,none⟩) (Kd.R_far (p:=⟨gb589,0,none⟩) (Kd.R_types HO585.out BK589.out (by decide)) (fun _ hk=>hk.2) (.int .i64 x4_1)) (fun _ hk=>hk.2) (.int .i64 t586)) (fun _ h_=>h_.1))) (Kd.R_base ho24) hb);have n2_:=zM (Kd.R_lower (Kd.R_new' ho24 (Kd.R_lt (by (with_reducible repeat (first|apply zA|apply zB|apply zC));exact (Kd.R_mono (Kd.R_far (p:=⟨gb589,1,none⟩) (Kd.R_far (p:=⟨gb589,0,none⟩) (Kd.R_types HO585.out BK589.out (by decide)) (fun _ hk=>hk.2) (.int .i64 x4_1)) (fun _ hk=>hk.2) (.int .i64 t586)) (fun _ h_=>h_.1))))) (keep_size (w:=w) (g:=g) (row:=none) (by repeat (first|(with_reducible first|exact HK.out|apply KeepBut.set_|apply keep_drewN|apply keep_drew|apply keep_alloc|refine keep_far ?_ GW589.out _)|exact HK.out))));have n3_:=zM (IsS87.below (show IsS87 w0 ((w20.setCell ⟨gb589,0,none⟩ (.int .i64 x4_1)).setCell ⟨gb589,1,none⟩ (.int .i64 t586)) g s0_0 t587 t588 from by repeat (first|(with_reducible first|exact HI0.out|apply IsS87.alloc|apply IsS87.drewN|apply IsS87.drew|apply IsS87.set_1|apply IsS87.set_2|apply IsS87.far (hne:=NB0_589.out))|exact HI0.out)) hb);have n4_:=zM (blk_below (g:=gb589) (o := .cells #[.int .i64 x4_1,.int .i64 t586] 60 (0,0)) (by (with_reducible repeat (first|refine zJ ?_ _|refine zK ?_|refine zL ?_ _));refine blk_put (cs := #[.int .i64 x4_1,.int .i64 0]) ?_ 1 _ rfl;(with_reducible repeat (first|refine zJ ?_ _|refine zK ?_|refine zL ?_ _));refine blk_put (cs := #[.int .i64 0,.int .i64 0]) ?_ 0 _ rfl;(with_reducible repeat (first|refine zJ ?_ _|refine zK ?_|refine zL ?_ _));exact BK589.out) hb);have n5_:=zM (KeepBut.trans (by repeat (first|(with_reducible first|exact HK.out|apply KeepBut.set_|apply keep_drewN|apply keep_drew|apply keep_alloc|refine keep_far ?_ GW589.out _)|exact HK.out)) (KeepBut.of_below hb g none) (.inl rfl));have n6_:=zM (zQ (by repeat (first|(with_reducible first|exact HB.out|apply zD|apply zE|apply zF|refine below_set ?_ (IsS87.ge HI0.out)|refine below_set ?_ GE589.out)|exact HB.out)) hb);clear HO_3;clear HO585;clear HI0;clear BK589;clear HK;clear HB;have HO_3:=n0_;have HO585:=n1_;have HO592:=n2_;have HI0:=n3_;have BK589:=n4_;have HK:=n5_;have HB:=n6_;clear n0_ n1_ n2_ n3_ n4_ n5_ n6_;clear hb ho24;obtain ⟨Ao25,co25,eo25⟩:=Kd.R_slice HO592.out;subst eo25)|((with_reducible refine gate_callee (f:=70) rfl ?_);refine goesL_ (some 30) rfl rfl Try.func70 (by kernel_rfl) rfl #[.pointer (some ⟨g,0,none⟩),.slice Ao25 y590.length co25] rfl (by (try simp only [List.map_toArray,List.map_cons,List.map_nil]);first|done|rfl|(simp only [List.length_drop,List.length_take];rfl)) ?_;(with_reducible refine (spec_l1Cur_among.calls g s0_0 t587 t588 _ _ y590 t593 t594 t595 w0 _ ?side1 ?side2 ?side3 ?side4 ?side5 A13.out).mono ?_);(case side1=>repeat (first|(with_reducible first|exact HI0.out|apply IsS87.alloc|apply IsS87.drewN|apply IsS87.drew|apply IsS87.set_1|apply IsS87.set_2|apply IsS87.far (hne:=NB0_589.out))|exact HI0.out));(case side2=>repeat (first|(with_reducible first|exact HB.out|apply zD|apply zE|apply zF|refine below_set ?_ (IsS87.ge HI0.out)|refine below_set ?_ GE589.out)|exact HB.out));(case side3=>repeat (first|exact (zN HO592.out).2.2|(with_reducible refine zG ?_ _)|(with_reducible refine zH ?_ _)|(with_reducible refine zI ?_)));(case side4=>exact (zN HO592.out).2.1);(case side5=>exact far_slice (IsS87.own_ne HI0.out HO592.out (by decide)));rintro e w26 ⟨rfl,hi,hb,hk⟩;refine ⟨_,rfl,?_⟩;have n0_:=zM (Kd.R_mono (Kd.R_keep (IsS87.apart (show IsS87 w0 _ g s0_0 t587 t588 from by repeat (first|(with_reducible first|exact HI0.out|apply IsS87.alloc|apply IsS87.drewN|apply IsS87.drew|apply IsS87.set_1|apply IsS87.set_2|apply IsS87.far (hne:=NB0_589.out))|exact HI0.out)) (by (with_reducible repeat (first|apply zA|apply zB|apply zC));exact HO_3.out) (by decide)) hk (fun _ h=>h.2)) (fun _ h=>h.1));have n1_:=zM (Kd.R_mono (Kd.R_keep (IsS87.apart (show IsS87 w0 _ g s0_0 t587 t588 from by repeat (first|(with_reducible first|exact HI0.out|apply IsS87.alloc|apply IsS87.drewN|apply IsS87.drew|apply IsS87.set_1|apply IsS87.set_2|apply IsS87.far (hne:=NB0_589.out))|exact HI0.out)) (by (with_reducible repeat (first|apply zA|apply zB|apply zC));exact HO585.out) (by decide)) hk (fun _ h=>h.2)) (fun _ h=>h.1));have n2_:=zM (KeepBut.blk hk (g':=gb589) (o := .cells #[.int .i64 x4_1,.int .i64 t586] 60 (0,0)) (by (with_reducible repeat (first|refine zJ ?_ _|refine zK ?_|refine zL ?_ _));exact BK589.out) NB589_0.out (by simp));have n3_:=zM (Kd.R_mono (Kd.R_keep (IsS87.apart (show IsS87 w0 _ g s0_0 t587 t588 from by repeat (first|(with_reducible first|exact HI0.out|apply IsS87.alloc|apply IsS87.drewN|apply IsS87.drew|apply IsS87.set_1|apply IsS87.set_2|apply IsS87.far (hne:=NB0_589.out))|exact HI0.out)) (by (with_reducible repeat (first|apply zA|apply zB|apply zC));exact HO592.out) (by decide)) hk (fun _ h=>h.2)) (fun _ h=>h.1));have n4_:=zM (KeepBut.trans (by repeat (first|(with_reducible first|exact HK.out|apply KeepBut.set_|apply keep_drewN|apply keep_drew|apply keep_alloc|refine keep_far ?_ GW589.out _)|exact HK.out)) hk (.inl rfl));have n5_:=zM (hb);have n6_:=zM (hi);clear HO_3;clear HO585;clear BK589;clear HO592;clear HK;clear HB;clear HI0;have HO_3:=n0_;have HO585:=n1_;have BK589:=n2_;have HO592:=n3_;have HK:=n4_;have HB:=n5_;have HI0:=n6_;clear n0_ n1_ n2_ n3_ n4_ n5_ n6_;(try clear hb);(try clear hb2);(try clear hk);(try clear hi);have hcz27_0 : w26.cell? ⟨gb589,0,none⟩ = some (.int .i64 x4_1):=(blk_cell BK589.out 0).trans rfl;have hcz27_1 : w26.cell? ⟨gb589,1,none⟩ = some (.int .i64 t586):=(blk_cell BK589.out 1).trans rfl;have hfz27_0:=blk_frozen BK589.out 0;have hfz27_1:=blk_frozen BK589.out 1)|((with_reducible refine gate_builtin (b := .append) (xs := #[.tmp 32,.tmp 34]) rfl ?_);at_builtin;refine Kd.R_append k60 w.heap.size rfl (.tmp 32) (.tmp 34) 25 60 (.agg #[(.int .i64 0),(.int .i64 0)]) 16 rfl Try.underlying25 info60 rfl (by decide) (by omega) u3 x3_1 (⟨x4_1,t593⟩ : S60) [.int .i64 x4_1,.int .i64 t593] (fun k_=>k_ ≠ gb589) (fun _=>False) rfl (by first|(go_simp;done)|(go_simp;rfl)) ?aP (fun _ hk=>hk.elim) ?aF ?aO (Below.refl _ _) ?aS ?aL ?_;(case aP=>exact k60_mkM _ _ _ (⟨x4_1,t593⟩ : S60));(case aF=>exact (fun k_ hk=>Kd.freshB (g:=gb589) (o := .cells #[.int .i64 x4_1,.int .i64 t593] 60 (0,0)) (by (with_reducible repeat (first|refine zJ ?_ _|refine zK ?_|refine zL ?_ _));refine blk_put (cs := #[.int .i64 x4_1,.int .i64 t586]) ?_ 1 _ rfl;(with_reducible repeat (first|refine zJ ?_ _|refine zK ?_|refine zL ?_ _));exact BK589.out) k_ hk));(case aO=>exact (by (with_reducible repeat (first|apply zA|apply zB|apply zC));exact Kd.R_mono (Kd.R_far (p:=⟨gb589,1,none⟩) (Kd.R_mono HO_3.out (fun k_ hk=>(⟨hk,hk.2⟩ : _ ∧ k_ ≠ gb589))) (fun _ hk=>hk.2) (.int .i64 t593)) (fun _ hk=>hk.1.2)));(case aS=>exact (keep_size (w:=w) (g:=g) (row:=none) (by repeat (first|(with_reducible first|exact HK.out|apply KeepBut.set_|apply keep_drewN|apply keep_drew|apply keep_alloc|refine keep_far ?_ GW589.out _)|exact HK.out))));(case aL=>have:=LMc14.out;omega);intro v597 w28 ho hb hg hat;rw [← Ny596.out] at ho;have n0_:=zM (IsS87.grown (by repeat (first|(with_reducible first|exact HI0.out|apply IsS87.alloc|apply IsS87.drewN|apply IsS87.drew|apply IsS87.set_1|apply IsS87.set_2|apply IsS87.far (hne:=NB0_589.out))|exact HI0.out)) hg (IsS87.own_ne HI0.out HO_3.out (by decide)));have n1_:=zM (Kd.R_over' (by (with_reducible repeat (first|apply zA|apply zB|apply zC));exact (Kd.R_mono (Kd.R_far (p:=⟨gb589,1,none⟩) (Kd.R_types HO585.out BK589.out (by decide)) (fun _ hk=>hk.2) (.int .i64 t593)) (fun _ h_=>h_.1))) (Kd.R_typed (by (with_reducible repeat (first|apply zA|apply zB|apply zC));exact (Kd.R_mono (Kd.R_far (p:=⟨gb589,1,none⟩) (Kd.R_mono HO_3.out (fun k_ hk=>(⟨hk,hk.2⟩ : _ ∧ k_ ≠ gb589))) (fun _ hk=>hk.2) (.int .i64 t593)) (fun _ h_=>h_.1)))) (by decide) hg);have n2_:=zM (blk_grown (g:=gb589) (o := .cells #[.int .i64 x4_1,.int .i64 t593] 60 (0,0)) (by (with_reducible repeat (first|refine zJ ?_ _|refine zK ?_|refine zL ?_ _));refine blk_put (cs := #[.int .i64 x4_1,.int .i64 t586]) ?_ 1 _ rfl;(with_reducible repeat (first|refine zJ ?_ _|refine zK ?_|refine zL ?_ _));exact BK589.out) hg (Kd.R_away HO_3.out (fun _ hk=>hk.2)));have n3_:=zM (Kd.R_over' (by (with_reducible repeat (first|apply zA|apply zB|apply zC));exact (Kd.R_mono (Kd.R_far (p:=⟨gb589,1,none⟩) (Kd.R_types HO592.out BK589.out (by decide)) (fun _ hk=>hk.2) (.int .i64 t593)) (fun _ h_=>h_.1))) (Kd.R_typed (by (with_reducible repeat (first|apply zA|apply zB|apply zC));exact (Kd.R_mono (Kd.R_far (p:=⟨gb589,1,none⟩) (Kd.R_mono HO_3.out (fun k_ hk=>(⟨hk,hk.2⟩ : _ ∧ k_ ≠ gb589))) (fun _ hk=>hk.2) (.int .i64 t593)) (fun _ h_=>h_.1)))) (by decide) hg);have n4_:=zM (below_weaken (by repeat (first|(with_reducible first|exact HB.out|apply zD|apply zE|apply zF|refine below_set ?_ (IsS87.ge HI0.out)|refine below_set ?_ GE589.out)|exact HB.out)) HL.out hb);have n5_:=zM (KeepBut.trans (by repeat (first|(with_reducible first|exact HK.out|apply KeepBut.set_|apply keep_drewN|apply keep_drew|apply keep_alloc|refine keep_far ?_ GW589.out _)|exact HK.out)) (KeepBut.of_grown hg g) (Kd.R_base2 HO_3.out));have n6_:=zM (ho);clear HI0;clear HO585;clear BK589;clear HO592;clear HB;clear HK;clear HO_3;have HI0:=n0_;have HO585:=n1_;have BK589:=n2_;have HO592:=n3_;have HB:=n4_;have HK:=n5_;have HO598:=n6_;clear n0_ n1_ n2_ n3_ n4_ n5_ n6_;clear ho hb hg hat)|((with_reducible refine gate_dst (N:=40) rfl ?_);refine Kd.R_lit (Kd.int .i64) _ 3 ?hg (N:=40) ?hd (xs:=([1,3,6,6,7] : List Int)) (inner:=[.int .i64 1,.int .i64 3,.int .i64 6,.int .i64 6,.int .i64 7]) (ok:=fun _=>True) (okp:=fun _=>True) ?hr ?hp (fun _ hk=>hk) trivial (Below.refl _ _) (Nat.le_refl _) (by simp) ?_;(case hd=>rfl);(case hg=>rfl);(case hr=>first|(go_simp;done)|(go_simp;rfl));(case hp=>exact (Reps.one (show Kd.M (Kd.int .i64) _ _ _ 1 [.int .i64 1] from rfl) (Reps.one (show Kd.M (Kd.int .i64) _ _ _ 3 [.int .i64 3] from rfl) (Reps.one (show Kd.M (Kd.int .i64) _ _ _ 6 [.int .i64 6] from rfl) (Reps.one (show Kd.M (Kd.int .i64) _ _ _ 6 [.int .i64 6] from rfl) (Reps.one (show Kd.M (Kd.int .i64) _ _ _ 7 [.int .i64 7] from rfl) (Reps.none _ _)))))));intro v600 w29 ho30 hb hg_ hnew_;clear hg_ hnew_;(first|rw [← Ny599.out] at ho30|(simp only [Int.reduceToNat] at ho30;rw [← Ny599.out] at ho30));have n0_:=zM (Kd.R_elder' (by (with_reducible repeat (first|apply zA|apply zB|apply zC));exact HO585.out) (Kd.R_base ho30) hb);have n1_:=zM (Kd.R_elder' (by (with_reducible repeat (first|apply zA|apply zB|apply zC));exact HO592.out) (Kd.R_base ho30) hb);have n2_:=zM (zP (by (with_reducible repeat (first|apply zA|apply zB|apply zC));exact HO598.out) hb);have n3_:=zM (Kd.R_lower (Kd.R_new' (Kd.R_new' ho30 (Kd.R_lt (by (with_reducible repeat (first|apply zA|apply zB|apply zC));exact HO585.out))) (Kd.R_lt (by (with_reducible repeat (first|apply zA|apply zB|apply zC));exact HO592.out))) (keep_size (w:=w) (g:=g) (row:=none) (by repeat (first|(with_reducible first|exact HK.out|apply KeepBut.set_|apply keep_drewN|apply keep_drew|apply keep_alloc|refine keep_far ?_ GW589.out _)|exact HK.out))));have n4_:=zM (IsS87.below (by repeat (first|(with_reducible first|exact HI0.out|apply IsS87.alloc|apply IsS87.drewN|apply IsS87.drew|apply IsS87.set_1|apply IsS87.set_2|apply IsS87.far (hne:=NB0_589.out))|exact HI0.out)) hb);have n5_:=zM (blk_below (g:=gb589) (o := .cells #[.int .i64 x4_1,.int .i64 t593] 60 (0,0)) (by (with_reducible repeat (first|refine zJ ?_ _|refine zK ?_|refine zL ?_ _));exact BK589.out) hb);have n6_:=zM (KeepBut.trans (by repeat (first|(with_reducible first|exact HK.out|apply KeepBut.set_|apply keep_drewN|apply keep_drew|apply keep_alloc|refine keep_far ?_ GW589.out _)|exact HK.out)) (KeepBut.of_below hb g none) (.inl rfl));have n7_:=zM (zQ (by repeat (first|(with_reducible first|exact HB.out|apply zD|apply zE|apply zF|refine below_set ?_ (IsS87.ge HI0.out)|refine below_set ?_ GE589.out)|exact HB.out)) hb);clear HO585;clear HO592;clear HO598;clear HI0;clear BK589;clear HK;clear HB;have HO585:=n0_;have HO592:=n1_;have HO598:=n2_;have HO601:=n3_;have HI0:=n4_;have BK589:=n5_;have HK:=n6_;have HB:=n7_;clear n0_ n1_ n2_ n3_ n4_ n5_ n6_ n7_;clear hb ho30;obtain ⟨Ao31,co31,eo31⟩:=Kd.R_slice HO601.out;subst eo31)|((with_reducible refine gate_callee (f:=70) rfl ?_);refine goesL_ (some 41) rfl rfl Try.func70 (by kernel_rfl) rfl #[.pointer (some ⟨g,0,none⟩),.slice Ao31 y599.length co31] rfl (by (try simp only [List.map_toArray,List.map_cons,List.map_nil]);first|done|rfl|(simp only [List.length_drop,List.length_take];rfl)) ?_;(with_reducible refine (spec_l1Cur_among.calls g s0_0 t594 t595 _ _ y599 t602 t603 t604 w0 _ ?side1 ?side2 ?side3 ?side4 ?side5 A15.out).mono ?_);(case side1=>repeat (first|(with_reducible first|exact HI0.out|apply IsS87.alloc|apply IsS87.drewN|apply IsS87.drew|apply IsS87.set_1|apply IsS87.set_2|apply IsS87.far (hne:=NB0_589.out))|exact HI0.out));(case side2=>repeat (first|(with_reducible first|exact HB.out|apply zD|apply zE|apply zF|refine below_set ?_ (IsS87.ge HI0.out)|refine below_set ?_ GE589.out)|exact HB.out));(case side3=>repeat (first|exact (zN HO601.out).2.2|(with_reducible refine zG ?_ _)|(with_reducible refine zH ?_ _)|(with_reducible refine zI ?_)));(case side4=>exact (zN HO601.out).2.1);(case side5=>exact far_slice (IsS87.own_ne HI0.out HO601.out (by decide)));rintro e w32 ⟨rfl,hi,hb,hk⟩;refine ⟨_,rfl,?_⟩;have n0_:=zM (Kd.R_mono (Kd.R_keep (IsS87.apart (show IsS87 w0 _ g s0_0 t594 t595 from by repeat (first|(with_reducible first|exact HI0.out|apply IsS87.alloc|apply IsS87.drewN|apply IsS87.drew|apply IsS87.set_1|apply IsS87.set_2|apply IsS87.far (hne:=NB0_589.out))|exact HI0.out)) (by (with_reducible repeat (first|apply zA|apply zB|apply zC));exact HO585.out) (by decide)) hk (fun _ h=>h.2)) (fun _ h=>h.1));have n1_:=zM (KeepBut.blk hk (g':=gb589) (o := .cells #[.int .i64 x4_1,.int .i64 t593] 60 (0,0)) (by (with_reducible repeat (first|refine zJ ?_ _|refine zK ?_|refine zL ?_ _));exact BK589.out) NB589_0.out (by simp));have n2_:=zM (Kd.R_mono (Kd.R_keep (IsS87.apart (show IsS87 w0 _ g s0_0 t594 t595 from by repeat (first|(with_reducible first|exact HI0.out|apply IsS87.alloc|apply IsS87.drewN|apply IsS87.drew|apply IsS87.set_1|apply IsS87.set_2|apply IsS87.far (hne:=NB0_589.out))|exact HI0.out)) (by (with_reducible repeat (first|apply zA|apply zB|apply zC));exact HO592.out) (by decide)) hk (fun _ h=>h.2)) (fun _ h=>h.1));have n3_:=zM (Kd.R_mono (Kd.R_keep (IsS87.apart (show IsS87 w0 _ g s0_0 t594 t595 from by repeat (first|(with_reducible first|exact HI0.out|apply IsS87.alloc|apply IsS87.drewN|apply IsS87.drew|apply IsS87.set_1|apply IsS87.set_2|apply IsS87.far (hne:=NB0_589.out))|exact HI0.out)) (by (with_reducible repeat (first|apply zA|apply zB|apply zC));exact HO598.out) (by decide)) hk (fun _ h=>h.2)) (fun _ h=>h.1));have n4_:=zM (Kd.R_mono (Kd.R_keep (IsS87.apart (show IsS87 w0 _ g s0_0 t594 t595 from by repeat (first|(with_reducible first|exact HI0.out|apply IsS87.alloc|apply IsS87.drewN|apply IsS87.drew|apply IsS87.set_1|apply IsS87.set_2|apply IsS87.far (hne:=NB0_589.out))|exact HI0.out)) (by (with_reducible repeat (first|apply zA|apply zB|apply zC));exact HO601.out) (by decide)) hk (fun _ h=>h.2)) (fun _ h=>h.1));have n5_:=zM (KeepBut.trans (by repeat (first|(with_reducible first|exact HK.out|apply KeepBut.set_|apply keep_drewN|apply keep_drew|apply keep_alloc|refine keep_far ?_ GW589.out _)|exact HK.out)) hk (.inl rfl));have n6_:=zM (hb);have n7_:=zM (hi);clear HO585;clear BK589;clear HO592;clear HO598;clear HO601;clear HK;clear HB;clear HI0;have HO585:=n0_;have BK589:=n1_;have HO592:=n2_;have HO598:=n3_;have HO601:=n4_;have HK:=n5_;have HB:=n6_;have HI0:=n7_;clear n0_ n1_ n2_ n3_ n4_ n5_ n6_ n7_;(try clear hb);(try clear hb2);(try clear hk);(try clear hi)))
      go_roundg k1
      case measure=>have:=HK1.out;omega
      case rel=>exact ⟨(y596),(wrap64 (x4_1 + t602)),(!true),(wrap64 (x6_1 - 1)),(t603),(t604),(by first|rfl|(simp;done)|(simp [*];done)),(by first|rfl|(simp;done)|(simp [*];done)),(by first|rfl|(simp;done)|(simp [*];done)),H',⟨by have:=HK1.out;omega⟩,⟨by (with_reducible repeat (first|apply zA|apply zB|apply zC));exact Kd.R_mono HO598.out (fun _ hk=>trivial)⟩,⟨by repeat (first|(with_reducible first|exact HI0.out|apply IsS87.alloc|apply IsS87.drewN|apply IsS87.drew|apply IsS87.set_1|apply IsS87.set_2|apply IsS87.far (hne:=NB0_589.out))|exact HI0.out)⟩,⟨by repeat (first|(with_reducible first|exact HK.out|apply KeepBut.set_|apply keep_drewN|apply keep_drew|apply keep_alloc|refine keep_far ?_ GW589.out _)|exact HK.out)⟩,⟨by repeat (first|(with_reducible first|exact HB.out|apply zD|apply zE|apply zF|refine below_set ?_ (IsS87.ge HI0.out)|refine below_set ?_ GE589.out)|exact HB.out)⟩⟩
     ·rw [if_neg c14] at H
      exact absurd H (by simp)
    ·replace c12:=Bool.eq_false_iff.mpr c12
     subst c12
     have H1 : (if x3_1.length < 8796093022208 then ((spec_l1Cur_among.f s0_0 t587 t588 (([1,3,6,6,7] : List Int))).bind fun bt611=>(spec_l1Cur_tides.l0 k1 (x3_1 ++ [(⟨x4_1,t586⟩ : S60)]) (wrap64 (x4_1 + bt611.1)) (!false) (wrap64 (x6_1 - 1)) s0_0 bt611.2.1 bt611.2.2)) else (none)) = some (r1,r2,r3):=by rw [if_neg (show ¬ (false = true) by decide)] at H;exact H
     clear H
     have H:=H1
     clear H1
     by_cases c33 : x3_1.length < 8796093022208
     ·rw [if_pos c33] at H
      have LMc33:=zM c33
      clear c33
      obtain ⟨y605,hy605⟩ : ∃ y_ : List (S60),y_ = (x3_1 ++ [(⟨x4_1,t586⟩ : S60)]):=⟨_,rfl⟩
      replace H : ((spec_l1Cur_among.f s0_0 t587 t588 (([1,3,6,6,7] : List Int))).bind fun bt611=>(spec_l1Cur_tides.l0 k1 y605 (wrap64 (x4_1 + bt611.1)) (!false) (wrap64 (x6_1 - 1)) s0_0 bt611.2.1 bt611.2.2)) = some (r1,r2,r3):=by first|(rw [hy605];with_reducible exact H)|(have H2_:=(Option.bind_some _ _).symm.trans H;rw [hy605];with_reducible exact H2_)|(have H2_:=(Option.bind_some _ _).symm.trans H;with_reducible exact H2_)|with_reducible exact H|(rw [hy605];exact H)|exact H
      have Ny605:=zM hy605
      clear hy605
      obtain ⟨y608,hy608⟩ : ∃ y_ : List Int,y_ = (([1,3,6,6,7] : List Int)):=⟨_,rfl⟩
      replace H : ((spec_l1Cur_among.f s0_0 t587 t588 y608).bind fun bt611=>(spec_l1Cur_tides.l0 k1 y605 (wrap64 (x4_1 + bt611.1)) (!false) (wrap64 (x6_1 - 1)) s0_0 bt611.2.1 bt611.2.2)) = some (r1,r2,r3):=by first|(rw [hy608];with_reducible exact H)|(have H2_:=(Option.bind_some _ _).symm.trans H;rw [hy608];with_reducible exact H2_)|(have H2_:=(Option.bind_some _ _).symm.trans H;with_reducible exact H2_)|with_reducible exact H|(rw [hy608];exact H)|exact H
      have Ny608:=zM hy608
      clear hy608
      replace H:=Option.bind_eq_some_iff.mp H
      obtain ⟨⟨t611,t612,t613⟩,A340,H⟩:=H
      replace H : (spec_l1Cur_tides.l0 k1 y605 (wrap64 (x4_1 + t611)) (!false) (wrap64 (x6_1 - 1)) s0_0 t612 t613) = some (r1,r2,r3):=H
      have A34:=zM A340
      clear A340
      have H':=zM H
      clear H
      go_wp2_with (first|((with_reducible refine gate_dst (N:=24) rfl ?_);refine Kd.R_lit (Kd.int .i64) _ 3 ?hg (N:=24) ?hd (xs:=([0,50,80,120] : List Int)) (inner:=[.int .i64 0,.int .i64 50,.int .i64 80,.int .i64 120]) (ok:=fun _=>True) (okp:=fun _=>True) ?hr ?hp (fun _ hk=>hk) trivial (Below.refl _ _) (Nat.le_refl _) (by simp) ?_;(case hd=>rfl);(case hg=>rfl);(case hr=>first|(go_simp;done)|(go_simp;rfl));(case hp=>exact (Reps.one (show Kd.M (Kd.int .i64) _ _ _ 0 [.int .i64 0] from rfl) (Reps.one (show Kd.M (Kd.int .i64) _ _ _ 50 [.int .i64 50] from rfl) (Reps.one (show Kd.M (Kd.int .i64) _ _ _ 80 [.int .i64 80] from rfl) (Reps.one (show Kd.M (Kd.int .i64) _ _ _ 120 [.int .i64 120] from rfl) (Reps.none _ _))))));intro v584 w35 ho36 hb hg_ hnew_;clear hg_ hnew_;(first|rw [← Ny583.out] at ho36|(simp only [Int.reduceToNat] at ho36;rw [← Ny583.out] at ho36));have n0_:=zM (zP (by (with_reducible repeat (first|apply zA|apply zB|apply zC));exact HO_3.out) hb);have n1_:=zM (Kd.R_lower ho36 (keep_size (w:=w) (g:=g) (row:=none) (by repeat (first|(with_reducible first|exact HK.out|apply KeepBut.set_|apply keep_drewN|apply keep_drew|apply keep_alloc)|exact HK.out))));have n2_:=zM (IsS87.below (by repeat (first|(with_reducible first|exact HI0.out|apply IsS87.alloc|apply IsS87.drewN|apply IsS87.drew|apply IsS87.set_1|apply IsS87.set_2)|exact HI0.out)) hb);have n3_:=zM (KeepBut.trans (by repeat (first|(with_reducible first|exact HK.out|apply KeepBut.set_|apply keep_drewN|apply keep_drew|apply keep_alloc)|exact HK.out)) (KeepBut.of_below hb g none) (.inl rfl));have n4_:=zM (zQ (by repeat (first|(with_reducible first|exact HB.out|apply zD|apply zE|apply zF|refine below_set ?_ (IsS87.ge HI0.out))|exact HB.out)) hb);clear HO_3;clear HI0;clear HK;clear HB;have HO_3:=n0_;have HO585:=n1_;have HI0:=n2_;have HK:=n3_;have HB:=n4_;clear n0_ n1_ n2_ n3_ n4_;clear hb ho36;obtain ⟨Ao37,co37,eo37⟩:=Kd.R_slice HO585.out;subst eo37)|((with_reducible refine gate_callee (f:=70) rfl ?_);refine goesL_ (some 25) rfl rfl Try.func70 (by kernel_rfl) rfl #[.pointer (some ⟨g,0,none⟩),.slice Ao37 y583.length co37] rfl (by (try simp only [List.map_toArray,List.map_cons,List.map_nil]);first|done|rfl|(simp only [List.length_drop,List.length_take];rfl)) ?_;(with_reducible refine (spec_l1Cur_among.calls g s0_0 x1001_1 x1002_1 _ _ y583 t586 t587 t588 w0 _ ?side1 ?side2 ?side3 ?side4 ?side5 A11.out).mono ?_);(case side1=>repeat (first|(with_reducible first|exact HI0.out|apply IsS87.alloc|apply IsS87.drewN|apply IsS87.drew|apply IsS87.set_1|apply IsS87.set_2)|exact HI0.out));(case side2=>repeat (first|(with_reducible first|exact HB.out|apply zD|apply zE|apply zF|refine below_set ?_ (IsS87.ge HI0.out))|exact HB.out));(case side3=>repeat (first|exact (zN HO585.out).2.2|(with_reducible refine zG ?_ _)|(with_reducible refine zH ?_ _)|(with_reducible refine zI ?_)));(case side4=>exact (zN HO585.out).2.1);(case side5=>exact far_slice (IsS87.own_ne HI0.out HO585.out (by decide)));rintro e w38 ⟨rfl,hi,hb,hk⟩;refine ⟨_,rfl,?_⟩;have n0_:=zM (Kd.R_mono (Kd.R_keep (IsS87.apart (show IsS87 w0 _ g s0_0 x1001_1 x1002_1 from by repeat (first|(with_reducible first|exact HI0.out|apply IsS87.alloc|apply IsS87.drewN|apply IsS87.drew|apply IsS87.set_1|apply IsS87.set_2)|exact HI0.out)) (by (with_reducible repeat (first|apply zA|apply zB|apply zC));exact HO_3.out) (by decide)) hk (fun _ h=>h.2)) (fun _ h=>h.1));have n1_:=zM (Kd.R_mono (Kd.R_keep (IsS87.apart (show IsS87 w0 _ g s0_0 x1001_1 x1002_1 from by repeat (first|(with_reducible first|exact HI0.out|apply IsS87.alloc|apply IsS87.drewN|apply IsS87.drew|apply IsS87.set_1|apply IsS87.set_2)|exact HI0.out)) (by (with_reducible repeat (first|apply zA|apply zB|apply zC));exact HO585.out) (by decide)) hk (fun _ h=>h.2)) (fun _ h=>h.1));have n2_:=zM (KeepBut.trans (by repeat (first|(with_reducible first|exact HK.out|apply KeepBut.set_|apply keep_drewN|apply keep_drew|apply keep_alloc)|exact HK.out)) hk (.inl rfl));have n3_:=zM (hb);have n4_:=zM (hi);clear HO_3;clear HO585;clear HK;clear HB;clear HI0;have HO_3:=n0_;have HO585:=n1_;have HK:=n2_;have HB:=n3_;have HI0:=n4_;clear n0_ n1_ n2_ n3_ n4_;(try clear hb);(try clear hb2);(try clear hk);(try clear hi))|((with_reducible refine gate_dst (N:=7) rfl ?_);refine box_event ?hg (N:=7) ?hd (cs := #[.int .i64 0,.int .i64 0]) (t:=60) ?hr ?_;(case hd=>rfl);(case hg=>rfl);(case hr=>first|(go_simp;done)|(go_simp;rfl));intro gb589 hg w39 hbox hb;have n0_:=zM (zP (Kd.R_elderB (by (with_reducible repeat (first|apply zA|apply zB|apply zC));exact HO_3.out) gb589 (Nat.le_of_eq hg.symm)) hb);have n1_:=zM (zP (by (with_reducible repeat (first|apply zA|apply zB|apply zC));exact HO585.out) hb);have n2_:=zM (IsS87.below (by repeat (first|(with_reducible first|exact HI0.out|apply IsS87.alloc|apply IsS87.drewN|apply IsS87.drew|apply IsS87.set_1|apply IsS87.set_2)|exact HI0.out)) hb);have n3_:=zM (KeepBut.trans (by repeat (first|(with_reducible first|exact HK.out|apply KeepBut.set_|apply keep_drewN|apply keep_drew|apply keep_alloc)|exact HK.out)) (KeepBut.of_below hb g none) (.inl rfl));have n4_:=zM (zQ (by repeat (first|(with_reducible first|exact HB.out|apply zD|apply zE|apply zF|refine below_set ?_ (IsS87.ge HI0.out))|exact HB.out)) hb);have n5_:=zM (hbox);have n6_:=zM ((by rw [hg];exact (keep_size (w:=w) (g:=g) (row:=none) (by repeat (first|(with_reducible first|exact HK.out|apply KeepBut.set_|apply keep_drewN|apply keep_drew|apply keep_alloc)|exact HK.out))) : w.heap.size ≤ gb589));have n7_:=zM ((Nat.le_trans HW0.out (by rw [hg];exact (keep_size (w:=w) (g:=g) (row:=none) (by repeat (first|(with_reducible first|exact HK.out|apply KeepBut.set_|apply keep_drewN|apply keep_drew|apply keep_alloc)|exact HK.out))) : w.heap.size ≤ gb589) : w0.heap.size ≤ gb589));have n8_:=zM ((by rw [hg];exact Nat.ne_of_lt (IsS87.lt (show IsS87 w0 _ g s0_0 t587 t588 from by repeat (first|(with_reducible first|exact HI0.out|apply IsS87.alloc|apply IsS87.drewN|apply IsS87.drew|apply IsS87.set_1|apply IsS87.set_2)|exact HI0.out))) : g ≠ gb589));have n9_:=zM ((by rw [hg];exact Nat.ne_of_gt (IsS87.lt (show IsS87 w0 _ g s0_0 t587 t588 from by repeat (first|(with_reducible first|exact HI0.out|apply IsS87.alloc|apply IsS87.drewN|apply IsS87.drew|apply IsS87.set_1|apply IsS87.set_2)|exact HI0.out))) : gb589 ≠ g));clear HO_3;clear HO585;clear HI0;clear HK;clear HB;have HO_3:=n0_;have HO585:=n1_;have HI0:=n2_;have HK:=n3_;have HB:=n4_;have BK589:=n5_;have GW589:=n6_;have GE589:=n7_;have NB0_589:=n8_;have NB589_0:=n9_;clear n0_ n1_ n2_ n3_ n4_ n5_ n6_ n7_ n8_ n9_;clear hb hbox hg;have hnb40:=NB589_0.out;have hnc40:=NB0_589.out;have hcz41_0 : w39.cell? ⟨gb589,0,none⟩ = some (.int .i64 0):=(blk_cell BK589.out 0).trans rfl;have hcz41_1 : w39.cell? ⟨gb589,1,none⟩ = some (.int .i64 0):=(blk_cell BK589.out 1).trans rfl;have hfz41_0:=blk_frozen BK589.out 0;have hfz41_1:=blk_frozen BK589.out 1)|((with_reducible refine gate_builtin (b := .append) (xs := #[.tmp 32,.tmp 34]) rfl ?_);at_builtin;refine Kd.R_append k60 w.heap.size rfl (.tmp 32) (.tmp 34) 25 60 (.agg #[(.int .i64 0),(.int .i64 0)]) 16 rfl Try.underlying25 info60 rfl (by decide) (by omega) u3 x3_1 (⟨x4_1,t586⟩ : S60) [.int .i64 x4_1,.int .i64 t586] (fun k_=>k_ ≠ gb589) (fun _=>False) rfl (by first|(go_simp;done)|(go_simp;rfl)) ?aP (fun _ hk=>hk.elim) ?aF ?aO (Below.refl _ _) ?aS ?aL ?_;(case aP=>exact k60_mkM _ _ _ (⟨x4_1,t586⟩ : S60));(case aF=>exact (fun k_ hk=>Kd.freshB (g:=gb589) (o := .cells #[.int .i64 x4_1,.int .i64 t586] 60 (0,0)) (by (with_reducible repeat (first|refine zJ ?_ _|refine zK ?_|refine zL ?_ _));refine blk_put (cs := #[.int .i64 x4_1,.int .i64 0]) ?_ 1 _ rfl;(with_reducible repeat (first|refine zJ ?_ _|refine zK ?_|refine zL ?_ _));refine blk_put (cs := #[.int .i64 0,.int .i64 0]) ?_ 0 _ rfl;(with_reducible repeat (first|refine zJ ?_ _|refine zK ?_|refine zL ?_ _));exact BK589.out) k_ hk));(case aO=>exact (by (with_reducible repeat (first|apply zA|apply zB|apply zC));exact Kd.R_mono (Kd.R_far (p:=⟨gb589,1,none⟩) (Kd.R_far (p:=⟨gb589,0,none⟩) (Kd.R_mono HO_3.out (fun k_ hk=>(⟨hk,hk.2⟩ : _ ∧ k_ ≠ gb589))) (fun _ hk=>hk.2) (.int .i64 x4_1)) (fun _ hk=>hk.2) (.int .i64 t586)) (fun _ hk=>hk.1.2)));(case aS=>exact (keep_size (w:=w) (g:=g) (row:=none) (by repeat (first|(with_reducible first|exact HK.out|apply KeepBut.set_|apply keep_drewN|apply keep_drew|apply keep_alloc|refine keep_far ?_ GW589.out _)|exact HK.out))));(case aL=>have:=LMc33.out;omega);intro v606 w42 ho hb hg hat;rw [← Ny605.out] at ho;have n0_:=zM (IsS87.grown (by repeat (first|(with_reducible first|exact HI0.out|apply IsS87.alloc|apply IsS87.drewN|apply IsS87.drew|apply IsS87.set_1|apply IsS87.set_2|apply IsS87.far (hne:=NB0_589.out))|exact HI0.out)) hg (IsS87.own_ne HI0.out HO_3.out (by decide)));have n1_:=zM (Kd.R_over' (by (with_reducible repeat (first|apply zA|apply zB|apply zC));exact (Kd.R_mono (Kd.R_far (p:=⟨gb589,1,none⟩) (Kd.R_far (p:=⟨gb589,0,none⟩) (Kd.R_types HO585.out BK589.out (by decide)) (fun _ hk=>hk.2) (.int .i64 x4_1)) (fun _ hk=>hk.2) (.int .i64 t586)) (fun _ h_=>h_.1))) (Kd.R_typed (by (with_reducible repeat (first|apply zA|apply zB|apply zC));exact (Kd.R_mono (Kd.R_far (p:=⟨gb589,1,none⟩) (Kd.R_far (p:=⟨gb589,0,none⟩) (Kd.R_mono HO_3.out (fun k_ hk=>(⟨hk,hk.2⟩ : _ ∧ k_ ≠ gb589))) (fun _ hk=>hk.2) (.int .i64 x4_1)) (fun _ hk=>hk.2) (.int .i64 t586)) (fun _ h_=>h_.1)))) (by decide) hg);have n2_:=zM (blk_grown (g:=gb589) (o := .cells #[.int .i64 x4_1,.int .i64 t586] 60 (0,0)) (by (with_reducible repeat (first|refine zJ ?_ _|refine zK ?_|refine zL ?_ _));refine blk_put (cs := #[.int .i64 x4_1,.int .i64 0]) ?_ 1 _ rfl;(with_reducible repeat (first|refine zJ ?_ _|refine zK ?_|refine zL ?_ _));refine blk_put (cs := #[.int .i64 0,.int .i64 0]) ?_ 0 _ rfl;(with_reducible repeat (first|refine zJ ?_ _|refine zK ?_|refine zL ?_ _));exact BK589.out) hg (Kd.R_away HO_3.out (fun _ hk=>hk.2)));have n3_:=zM (below_weaken (by repeat (first|(with_reducible first|exact HB.out|apply zD|apply zE|apply zF|refine below_set ?_ (IsS87.ge HI0.out)|refine below_set ?_ GE589.out)|exact HB.out)) HL.out hb);have n4_:=zM (KeepBut.trans (by repeat (first|(with_reducible first|exact HK.out|apply KeepBut.set_|apply keep_drewN|apply keep_drew|apply keep_alloc|refine keep_far ?_ GW589.out _)|exact HK.out)) (KeepBut.of_grown hg g) (Kd.R_base2 HO_3.out));have n5_:=zM (ho);clear HI0;clear HO585;clear BK589;clear HB;clear HK;clear HO_3;have HI0:=n0_;have HO585:=n1_;have BK589:=n2_;have HB:=n3_;have HK:=n4_;have HO607:=n5_;clear n0_ n1_ n2_ n3_ n4_ n5_;clear ho hb hg hat)|((with_reducible refine gate_dst (N:=40) rfl ?_);refine Kd.R_lit (Kd.int .i64) _ 3 ?hg (N:=40) ?hd (xs:=([1,3,6,6,7] : List Int)) (inner:=[.int .i64 1,.int .i64 3,.int .i64 6,.int .i64 6,.int .i64 7]) (ok:=fun _=>True) (okp:=fun _=>True) ?hr ?hp (fun _ hk=>hk) trivial (Below.refl _ _) (Nat.le_refl _) (by simp) ?_;(case hd=>rfl);(case hg=>rfl);(case hr=>first|(go_simp;done)|(go_simp;rfl));(case hp=>exact (Reps.one (show Kd.M (Kd.int .i64) _ _ _ 1 [.int .i64 1] from rfl) (Reps.one (show Kd.M (Kd.int .i64) _ _ _ 3 [.int .i64 3] from rfl) (Reps.one (show Kd.M (Kd.int .i64) _ _ _ 6 [.int .i64 6] from rfl) (Reps.one (show Kd.M (Kd.int .i64) _ _ _ 6 [.int .i64 6] from rfl) (Reps.one (show Kd.M (Kd.int .i64) _ _ _ 7 [.int .i64 7] from rfl) (Reps.none _ _)))))));intro v609 w43 ho44 hb hg_ hnew_;clear hg_ hnew_;(first|rw [← Ny608.out] at ho44|(simp only [Int.reduceToNat] at ho44;rw [← Ny608.out] at ho44));have n0_:=zM (Kd.R_elder' (by (with_reducible repeat (first|apply zA|apply zB|apply zC));exact HO585.out) (Kd.R_base ho44) hb);have n1_:=zM (zP (by (with_reducible repeat (first|apply zA|apply zB|apply zC));exact HO607.out) hb);have n2_:=zM (Kd.R_lower (Kd.R_new' ho44 (Kd.R_lt (by (with_reducible repeat (first|apply zA|apply zB|apply zC));exact HO585.out))) (keep_size (w:=w) (g:=g) (row:=none) (by repeat (first|(with_reducible first|exact HK.out|apply KeepBut.set_|apply keep_drewN|apply keep_drew|apply keep_alloc|refine keep_far ?_ GW589.out _)|exact HK.out))));have n3_:=zM (IsS87.below (by repeat (first|(with_reducible first|exact HI0.out|apply IsS87.alloc|apply IsS87.drewN|apply IsS87.drew|apply IsS87.set_1|apply IsS87.set_2|apply IsS87.far (hne:=NB0_589.out))|exact HI0.out)) hb);have n4_:=zM (blk_below (g:=gb589) (o := .cells #[.int .i64 x4_1,.int .i64 t586] 60 (0,0)) (by (with_reducible repeat (first|refine zJ ?_ _|refine zK ?_|refine zL ?_ _));exact BK589.out) hb);have n5_:=zM (KeepBut.trans (by repeat (first|(with_reducible first|exact HK.out|apply KeepBut.set_|apply keep_drewN|apply keep_drew|apply keep_alloc|refine keep_far ?_ GW589.out _)|exact HK.out)) (KeepBut.of_below hb g none) (.inl rfl));have n6_:=zM (zQ (by repeat (first|(with_reducible first|exact HB.out|apply zD|apply zE|apply zF|refine below_set ?_ (IsS87.ge HI0.out)|refine below_set ?_ GE589.out)|exact HB.out)) hb);clear HO585;clear HO607;clear HI0;clear BK589;clear HK;clear HB;have HO585:=n0_;have HO607:=n1_;have HO610:=n2_;have HI0:=n3_;have BK589:=n4_;have HK:=n5_;have HB:=n6_;clear n0_ n1_ n2_ n3_ n4_ n5_ n6_;clear hb ho44;obtain ⟨Ao45,co45,eo45⟩:=Kd.R_slice HO610.out;subst eo45)|((with_reducible refine gate_callee (f:=70) rfl ?_);refine goesL_ (some 41) rfl rfl Try.func70 (by kernel_rfl) rfl #[.pointer (some ⟨g,0,none⟩),.slice Ao45 y608.length co45] rfl (by (try simp only [List.map_toArray,List.map_cons,List.map_nil]);first|done|rfl|(simp only [List.length_drop,List.length_take];rfl)) ?_;(with_reducible refine (spec_l1Cur_among.calls g s0_0 t587 t588 _ _ y608 t611 t612 t613 w0 _ ?side1 ?side2 ?side3 ?side4 ?side5 A34.out).mono ?_);(case side1=>repeat (first|(with_reducible first|exact HI0.out|apply IsS87.alloc|apply IsS87.drewN|apply IsS87.drew|apply IsS87.set_1|apply IsS87.set_2|apply IsS87.far (hne:=NB0_589.out))|exact HI0.out));(case side2=>repeat (first|(with_reducible first|exact HB.out|apply zD|apply zE|apply zF|refine below_set ?_ (IsS87.ge HI0.out)|refine below_set ?_ GE589.out)|exact HB.out));(case side3=>repeat (first|exact (zN HO610.out).2.2|(with_reducible refine zG ?_ _)|(with_reducible refine zH ?_ _)|(with_reducible refine zI ?_)));(case side4=>exact (zN HO610.out).2.1);(case side5=>exact far_slice (IsS87.own_ne HI0.out HO610.out (by decide)));rintro e w46 ⟨rfl,hi,hb,hk⟩;refine ⟨_,rfl,?_⟩;have n0_:=zM (Kd.R_mono (Kd.R_keep (IsS87.apart (show IsS87 w0 _ g s0_0 t587 t588 from by repeat (first|(with_reducible first|exact HI0.out|apply IsS87.alloc|apply IsS87.drewN|apply IsS87.drew|apply IsS87.set_1|apply IsS87.set_2|apply IsS87.far (hne:=NB0_589.out))|exact HI0.out)) (by (with_reducible repeat (first|apply zA|apply zB|apply zC));exact HO585.out) (by decide)) hk (fun _ h=>h.2)) (fun _ h=>h.1));have n1_:=zM (KeepBut.blk hk (g':=gb589) (o := .cells #[.int .i64 x4_1,.int .i64 t586] 60 (0,0)) (by (with_reducible repeat (first|refine zJ ?_ _|refine zK ?_|refine zL ?_ _));exact BK589.out) NB589_0.out (by simp));have n2_:=zM (Kd.R_mono (Kd.R_keep (IsS87.apart (show IsS87 w0 _ g s0_0 t587 t588 from by repeat (first|(with_reducible first|exact HI0.out|apply IsS87.alloc|apply IsS87.drewN|apply IsS87.drew|apply IsS87.set_1|apply IsS87.set_2|apply IsS87.far (hne:=NB0_589.out))|exact HI0.out)) (by (with_reducible repeat (first|apply zA|apply zB|apply zC));exact HO607.out) (by decide)) hk (fun _ h=>h.2)) (fun _ h=>h.1));have n3_:=zM (Kd.R_mono (Kd.R_keep (IsS87.apart (show IsS87 w0 _ g s0_0 t587 t588 from by repeat (first|(with_reducible first|exact HI0.out|apply IsS87.alloc|apply IsS87.drewN|apply IsS87.drew|apply IsS87.set_1|apply IsS87.set_2|apply IsS87.far (hne:=NB0_589.out))|exact HI0.out)) (by (with_reducible repeat (first|apply zA|apply zB|apply zC));exact HO610.out) (by decide)) hk (fun _ h=>h.2)) (fun _ h=>h.1));have n4_:=zM (KeepBut.trans (by repeat (first|(with_reducible first|exact HK.out|apply KeepBut.set_|apply keep_drewN|apply keep_drew|apply keep_alloc|refine keep_far ?_ GW589.out _)|exact HK.out)) hk (.inl rfl));have n5_:=zM (hb);have n6_:=zM (hi);clear HO585;clear BK589;clear HO607;clear HO610;clear HK;clear HB;clear HI0;have HO585:=n0_;have BK589:=n1_;have HO607:=n2_;have HO610:=n3_;have HK:=n4_;have HB:=n5_;have HI0:=n6_;clear n0_ n1_ n2_ n3_ n4_ n5_ n6_;(try clear hb);(try clear hb2);(try clear hk);(try clear hi)))
      go_roundg k1
      case measure=>have:=HK1.out;omega
      case rel=>exact ⟨(y605),(wrap64 (x4_1 + t611)),(!false),(wrap64 (x6_1 - 1)),(t612),(t613),(by first|rfl|(simp;done)|(simp [*];done)),(by first|rfl|(simp;done)|(simp [*];done)),(by first|rfl|(simp;done)|(simp [*];done)),H',⟨by have:=HK1.out;omega⟩,⟨by (with_reducible repeat (first|apply zA|apply zB|apply zC));exact Kd.R_mono HO607.out (fun _ hk=>trivial)⟩,⟨by repeat (first|(with_reducible first|exact HI0.out|apply IsS87.alloc|apply IsS87.drewN|apply IsS87.drew|apply IsS87.set_1|apply IsS87.set_2|apply IsS87.far (hne:=NB0_589.out))|exact HI0.out)⟩,⟨by repeat (first|(with_reducible first|exact HK.out|apply KeepBut.set_|apply keep_drewN|apply keep_drew|apply keep_alloc|refine keep_far ?_ GW589.out _)|exact HK.out)⟩,⟨by repeat (first|(with_reducible first|exact HB.out|apply zD|apply zE|apply zF|refine below_set ?_ (IsS87.ge HI0.out)|refine below_set ?_ GE589.out)|exact HB.out)⟩⟩
     ·rw [if_neg c33] at H
      exact absurd H (by simp)
   ·rw [if_neg c10] at H
    have c10b0 : decide (0 < x6_1) = false:=decide_eq_false c10
    clear c10
    replace H:=Option.bind_eq_some_iff.mp H
    obtain ⟨⟨t614,t615,t616⟩,A470,H⟩:=H
    replace H : (if 0 ≤ t614 then (if t614 < (x3_1.length : Int) then ((spec_l1Cur_pick.f s0_0 t615 t616 40).bind fun bt619=>(if bt619.1 = 0 then ((spec_l1Cur_among.f s0_0 bt619.2.1 bt619.2.2 (([(-1),240,241,3] : List Int))).bind fun bt625=>(some ((x3_1.set (t614 : Int).toNat (⟨bt625.1,(rd_T60 x3_1 t614).f1⟩ : S60)),bt625.2.1,bt625.2.2))) else (if bt619.1 = 1 then ((spec_l1Cur_among.f s0_0 bt619.2.1 bt619.2.2 (([(-1),2001,100] : List Int))).bind fun bt632=>(some ((x3_1.set (t614 : Int).toNat (⟨(rd_T60 x3_1 t614).f0,bt632.1⟩ : S60)),bt632.2.1,bt632.2.2))) else (if bt619.1 = 2 then (if 1 ≤ (x3_1.length : Int) then ((some (x3_1.take (1 : Int).toNat : List (S60))).bind fun y636=>(if t614 < (y636.length : Int) then (some ((y636.set (t614 : Int).toNat (⟨(rd_T60 x3_1 t614).f0,(rd_T60 x3_1 t614).f1⟩ : S60)),bt619.2.1,bt619.2.2)) else (some (y636,bt619.2.1,bt619.2.2)))) else (none)) else (if bt619.1 = 3 then (spec_l1Cur_tides.l1 k1 x3_1 t614 s0_0 bt619.2.1 bt619.2.2 ((rd_T60 x3_1 t614).f0) ((rd_T60 x3_1 t614).f1)) else (some ((x3_1.set (t614 : Int).toNat (⟨(rd_T60 x3_1 t614).f0,(rd_T60 x3_1 t614).f1⟩ : S60)),bt619.2.1,bt619.2.2))))))) else (none)) else (none)) = some (r1,r2,r3):=H
    have A47:=zM A470
    clear A470
    by_cases c48 : 0 ≤ t614
    ·rw [if_pos c48] at H
     have c48b0 : decide (0 ≤ t614) = true:=decide_eq_true c48
     clear c48
     by_cases c49 : t614 < (x3_1.length : Int)
     ·rw [if_pos c49] at H
      have c49b0 : decide (t614 < (x3_1.length : Int)) = true:=decide_eq_true c49
      clear c49
      replace H:=Option.bind_eq_some_iff.mp H
      obtain ⟨⟨t619,t620,t621⟩,A500,H⟩:=H
      replace H : (if t619 = 0 then ((spec_l1Cur_among.f s0_0 t620 t621 (([(-1),240,241,3] : List Int))).bind fun bt625=>(some ((x3_1.set (t614 : Int).toNat (⟨bt625.1,(rd_T60 x3_1 t614).f1⟩ : S60)),bt625.2.1,bt625.2.2))) else (if t619 = 1 then ((spec_l1Cur_among.f s0_0 t620 t621 (([(-1),2001,100] : List Int))).bind fun bt632=>(some ((x3_1.set (t614 : Int).toNat (⟨(rd_T60 x3_1 t614).f0,bt632.1⟩ : S60)),bt632.2.1,bt632.2.2))) else (if t619 = 2 then (if 1 ≤ (x3_1.length : Int) then ((some (x3_1.take (1 : Int).toNat : List (S60))).bind fun y636=>(if t614 < (y636.length : Int) then (some ((y636.set (t614 : Int).toNat (⟨(rd_T60 x3_1 t614).f0,(rd_T60 x3_1 t614).f1⟩ : S60)),t620,t621)) else (some (y636,t620,t621)))) else (none)) else (if t619 = 3 then (spec_l1Cur_tides.l1 k1 x3_1 t614 s0_0 t620 t621 ((rd_T60 x3_1 t614).f0) ((rd_T60 x3_1 t614).f1)) else (some ((x3_1.set (t614 : Int).toNat (⟨(rd_T60 x3_1 t614).f0,(rd_T60 x3_1 t614).f1⟩ : S60)),t620,t621)))))) = some (r1,r2,r3):=H
      have A50:=zM A500
      clear A500
      by_cases c51 : t619 = 0
      ·rw [if_pos c51] at H
       have c51b0 : (t619 == 0) = true:=beq_iff_eq.mpr c51
       have c51b1 : (t619 != 0) = false:=bne_eq_false_iff_eq.mpr c51
       clear c51
       obtain ⟨y622,hy622⟩ : ∃ y_ : List Int,y_ = (([(-1),240,241,3] : List Int)):=⟨_,rfl⟩
       replace H : ((spec_l1Cur_among.f s0_0 t620 t621 y622).bind fun bt625=>(some ((x3_1.set (t614 : Int).toNat (⟨bt625.1,(rd_T60 x3_1 t614).f1⟩ : S60)),bt625.2.1,bt625.2.2))) = some (r1,r2,r3):=by first|(rw [hy622];with_reducible exact H)|(have H2_:=(Option.bind_some _ _).symm.trans H;rw [hy622];with_reducible exact H2_)|(have H2_:=(Option.bind_some _ _).symm.trans H;with_reducible exact H2_)|with_reducible exact H|(rw [hy622];exact H)|exact H
       have Ny622:=zM hy622
       clear hy622
       replace H:=Option.bind_eq_some_iff.mp H
       obtain ⟨⟨t625,t626,t627⟩,A520,H⟩:=H
       replace H : (some ((x3_1.set (t614 : Int).toNat (⟨t625,(rd_T60 x3_1 t614).f1⟩ : S60)),t626,t627)) = some (r1,r2,r3):=H
       have A52:=zM A520
       clear A520
       obtain ⟨y628,hy628⟩ : ∃ y_ : List (S60),y_ = (x3_1.set (t614 : Int).toNat (⟨t625,(rd_T60 x3_1 t614).f1⟩ : S60)):=⟨_,rfl⟩
       replace H : (some (y628,t626,t627)) = some (r1,r2,r3):=by first|(rw [hy628];with_reducible exact H)|(have H2_:=(Option.bind_some _ _).symm.trans H;rw [hy628];with_reducible exact H2_)|(have H2_:=(Option.bind_some _ _).symm.trans H;with_reducible exact H2_)|with_reducible exact H|(rw [hy628];exact H)|exact H
       have Ny628:=zM hy628
       clear hy628
       simp only [Option.some.injEq,Prod.mk.injEq] at H
       obtain ⟨rfl,rfl,rfl⟩:=H
       obtain ⟨Ao54,co54,eo54⟩:=Kd.R_slice HO_3.out
       subst eo54
       go_wp2_with (first|((with_reducible refine gate_callee (f:=72) rfl ?_);refine goesL_ (some 46) rfl rfl Try.func72 (by kernel_rfl) rfl #[.pointer (some ⟨g,0,none⟩),.int .i64 (x3_1.length : Int)] rfl (by (try simp only [List.map_toArray,List.map_cons,List.map_nil]);first|done|rfl|(simp only [List.length_drop,List.length_take];rfl)) ?_;(with_reducible refine (spec_l1Cur_pick.calls g s0_0 x1001_1 x1002_1 (x3_1.length : Int) t614 t615 t616 w0 _ ?side1 ?side2 A47.out).mono ?_);(case side1=>repeat (first|(with_reducible first|exact HI0.out|apply IsS87.alloc|apply IsS87.drewN|apply IsS87.drew|apply IsS87.set_1|apply IsS87.set_2)|exact HI0.out));(case side2=>repeat (first|(with_reducible first|exact HB.out|apply zD|apply zE|apply zF|refine below_set ?_ (IsS87.ge HI0.out))|exact HB.out));rintro e w55 ⟨rfl,hi,hb,hk⟩;refine ⟨_,rfl,?_⟩;have n0_:=zM (Kd.R_mono (Kd.R_keep (IsS87.apart (show IsS87 w0 _ g s0_0 x1001_1 x1002_1 from by repeat (first|(with_reducible first|exact HI0.out|apply IsS87.alloc|apply IsS87.drewN|apply IsS87.drew|apply IsS87.set_1|apply IsS87.set_2)|exact HI0.out)) (by (with_reducible repeat (first|apply zA|apply zB|apply zC));exact HO_3.out) (by decide)) hk (fun _ h=>h.2)) (fun _ h=>h.1));have n1_:=zM (KeepBut.trans (by repeat (first|(with_reducible first|exact HK.out|apply KeepBut.set_|apply keep_drewN|apply keep_drew|apply keep_alloc)|exact HK.out)) hk (.inl rfl));have n2_:=zM (hb);have n3_:=zM (hi);clear HO_3;clear HK;clear HB;clear HI0;have HO_3:=n0_;have HK:=n1_;have HB:=n2_;have HI0:=n3_;clear n0_ n1_ n2_ n3_;(try clear hb);(try clear hb2);(try clear hk);(try clear hi);have p617 : 0 ≤ (t614 : Int):=of_decide_eq_true (by first|(with_reducible assumption)|assumption);have q617 : t614 < (x3_1.length : Int):=of_decide_eq_true (by first|(with_reducible assumption)|assumption);obtain ⟨ad617,e617,hx617_0,hx617_1⟩:=at_T60 (zN HO_3.out).2.2 t614 p617 q617;cases e617;replace p617:=eq_true p617;replace q617:=eq_true q617)|((with_reducible refine gate_dst (N:=9) rfl ?_);refine box_event ?hg (N:=9) ?hd (cs := #[.int .i64 0,.int .i64 0]) (t:=60) ?hr ?_;(case hd=>rfl);(case hg=>rfl);(case hr=>first|(go_simp;done)|(go_simp;rfl));intro gb618 hg w56 hbox hb;have n0_:=zM (zP (Kd.R_elderB (by (with_reducible repeat (first|apply zA|apply zB|apply zC));exact HO_3.out) gb618 (Nat.le_of_eq hg.symm)) hb);have n1_:=zM (IsS87.below (by repeat (first|(with_reducible first|exact HI0.out|apply IsS87.alloc|apply IsS87.drewN|apply IsS87.drew|apply IsS87.set_1|apply IsS87.set_2)|exact HI0.out)) hb);have n2_:=zM (KeepBut.trans (by repeat (first|(with_reducible first|exact HK.out|apply KeepBut.set_|apply keep_drewN|apply keep_drew|apply keep_alloc)|exact HK.out)) (KeepBut.of_below hb g none) (.inl rfl));have n3_:=zM (zQ (by repeat (first|(with_reducible first|exact HB.out|apply zD|apply zE|apply zF|refine below_set ?_ (IsS87.ge HI0.out))|exact HB.out)) hb);have n4_:=zM (hbox);have n5_:=zM ((by rw [hg];exact (keep_size (w:=w) (g:=g) (row:=none) (by repeat (first|(with_reducible first|exact HK.out|apply KeepBut.set_|apply keep_drewN|apply keep_drew|apply keep_alloc)|exact HK.out))) : w.heap.size ≤ gb618));have n6_:=zM ((Nat.le_trans HW0.out (by rw [hg];exact (keep_size (w:=w) (g:=g) (row:=none) (by repeat (first|(with_reducible first|exact HK.out|apply KeepBut.set_|apply keep_drewN|apply keep_drew|apply keep_alloc)|exact HK.out))) : w.heap.size ≤ gb618) : w0.heap.size ≤ gb618));have n7_:=zM ((by rw [hg];exact Nat.ne_of_lt (IsS87.lt (show IsS87 w0 _ g s0_0 t615 t616 from by repeat (first|(with_reducible first|exact HI0.out|apply IsS87.alloc|apply IsS87.drewN|apply IsS87.drew|apply IsS87.set_1|apply IsS87.set_2)|exact HI0.out))) : g ≠ gb618));have n8_:=zM ((by rw [hg];exact Nat.ne_of_gt (IsS87.lt (show IsS87 w0 _ g s0_0 t615 t616 from by repeat (first|(with_reducible first|exact HI0.out|apply IsS87.alloc|apply IsS87.drewN|apply IsS87.drew|apply IsS87.set_1|apply IsS87.set_2)|exact HI0.out))) : gb618 ≠ g));clear HO_3;clear HI0;clear HK;clear HB;have HO_3:=n0_;have HI0:=n1_;have HK:=n2_;have HB:=n3_;have BK618:=n4_;have GW618:=n5_;have GE618:=n6_;have NB0_618:=n7_;have NB618_0:=n8_;clear n0_ n1_ n2_ n3_ n4_ n5_ n6_ n7_ n8_;clear hb hbox hg;have hnb57:=NB618_0.out;have hnc57:=NB0_618.out;have hcz58_0 : w56.cell? ⟨gb618,0,none⟩ = some (.int .i64 0):=(blk_cell BK618.out 0).trans rfl;have hcz58_1 : w56.cell? ⟨gb618,1,none⟩ = some (.int .i64 0):=(blk_cell BK618.out 1).trans rfl;have hfz58_0:=blk_frozen BK618.out 0;have hfz58_1:=blk_frozen BK618.out 1)|((with_reducible refine gate_callee (f:=72) rfl ?_);refine goesL_ (some 52) rfl rfl Try.func72 (by kernel_rfl) rfl #[.pointer (some ⟨g,0,none⟩),.int .i64 40] rfl (by (try simp only [List.map_toArray,List.map_cons,List.map_nil]);first|done|rfl|(simp only [List.length_drop,List.length_take];rfl)) ?_;(with_reducible refine (spec_l1Cur_pick.calls g s0_0 t615 t616 40 t619 t620 t621 w0 _ ?side1 ?side2 A50.out).mono ?_);(case side1=>repeat (first|(with_reducible first|exact HI0.out|apply IsS87.alloc|apply IsS87.drewN|apply IsS87.drew|apply IsS87.set_1|apply IsS87.set_2|apply IsS87.far (hne:=NB0_618.out))|exact HI0.out));(case side2=>repeat (first|(with_reducible first|exact HB.out|apply zD|apply zE|apply zF|refine below_set ?_ (IsS87.ge HI0.out)|refine below_set ?_ GE618.out)|exact HB.out));rintro e w59 ⟨rfl,hi,hb,hk⟩;refine ⟨_,rfl,?_⟩;have n0_:=zM (Kd.R_mono (Kd.R_keep (IsS87.apart (show IsS87 w0 _ g s0_0 t615 t616 from by repeat (first|(with_reducible first|exact HI0.out|apply IsS87.alloc|apply IsS87.drewN|apply IsS87.drew|apply IsS87.set_1|apply IsS87.set_2|apply IsS87.far (hne:=NB0_618.out))|exact HI0.out)) (by (with_reducible repeat (first|apply zA|apply zB|apply zC));exact (Kd.R_mono (Kd.R_far (p:=⟨gb618,1,none⟩) (Kd.R_far (p:=⟨gb618,0,none⟩) (Kd.R_mono HO_3.out (fun k_ hk=>(⟨hk,hk.2⟩ : _ ∧ k_ ≠ gb618))) (fun _ hk=>hk.2) (.int .i64 ((rd_T60 x3_1 t614).f0))) (fun _ hk=>hk.2) (.int .i64 ((rd_T60 x3_1 t614).f1))) (fun _ h_=>h_.1))) (by decide)) hk (fun _ h=>h.2)) (fun _ h=>h.1));have n1_:=zM (KeepBut.blk hk (g':=gb618) (o := .cells #[.int .i64 ((rd_T60 x3_1 t614).f0),.int .i64 ((rd_T60 x3_1 t614).f1)] 60 (0,0)) (by (with_reducible repeat (first|refine zJ ?_ _|refine zK ?_|refine zL ?_ _));refine blk_put (cs := #[.int .i64 ((rd_T60 x3_1 t614).f0),.int .i64 0]) ?_ 1 _ rfl;(with_reducible repeat (first|refine zJ ?_ _|refine zK ?_|refine zL ?_ _));refine blk_put (cs := #[.int .i64 0,.int .i64 0]) ?_ 0 _ rfl;(with_reducible repeat (first|refine zJ ?_ _|refine zK ?_|refine zL ?_ _));exact BK618.out) NB618_0.out (by simp));have n2_:=zM (KeepBut.trans (by repeat (first|(with_reducible first|exact HK.out|apply KeepBut.set_|apply keep_drewN|apply keep_drew|apply keep_alloc|refine keep_far ?_ GW618.out _)|exact HK.out)) hk (.inl rfl));have n3_:=zM (hb);have n4_:=zM (hi);clear HO_3;clear BK618;clear HK;clear HB;clear HI0;have HO_3:=n0_;have BK618:=n1_;have HK:=n2_;have HB:=n3_;have HI0:=n4_;clear n0_ n1_ n2_ n3_ n4_;(try clear hb);(try clear hb2);(try clear hk);(try clear hi))|((with_reducible refine gate_dst (N:=56) rfl ?_);refine Kd.R_lit (Kd.int .i64) _ 3 ?hg (N:=56) ?hd (xs:=([(-1),240,241,3] : List Int)) (inner:=[.int .i64 (-1),.int .i64 240,.int .i64 241,.int .i64 3]) (ok:=fun _=>True) (okp:=fun _=>True) ?hr ?hp (fun _ hk=>hk) trivial (Below.refl _ _) (Nat.le_refl _) (by simp) ?_;(case hd=>rfl);(case hg=>rfl);(case hr=>first|(go_simp;done)|(go_simp;rfl));(case hp=>exact (Reps.one (show Kd.M (Kd.int .i64) _ _ _ (-1) [.int .i64 (-1)] from rfl) (Reps.one (show Kd.M (Kd.int .i64) _ _ _ 240 [.int .i64 240] from rfl) (Reps.one (show Kd.M (Kd.int .i64) _ _ _ 241 [.int .i64 241] from rfl) (Reps.one (show Kd.M (Kd.int .i64) _ _ _ 3 [.int .i64 3] from rfl) (Reps.none _ _))))));intro v623 w60 ho61 hb hg_ hnew_;clear hg_ hnew_;(first|rw [← Ny622.out] at ho61|(simp only [Int.reduceToNat] at ho61;rw [← Ny622.out] at ho61));have n0_:=zM (zP (by (with_reducible repeat (first|apply zA|apply zB|apply zC));exact HO_3.out) hb);have n1_:=zM (Kd.R_lower ho61 (keep_size (w:=w) (g:=g) (row:=none) (by repeat (first|(with_reducible first|exact HK.out|apply KeepBut.set_|apply keep_drewN|apply keep_drew|apply keep_alloc|refine keep_far ?_ GW618.out _)|exact HK.out))));have n2_:=zM (IsS87.below (by repeat (first|(with_reducible first|exact HI0.out|apply IsS87.alloc|apply IsS87.drewN|apply IsS87.drew|apply IsS87.set_1|apply IsS87.set_2|apply IsS87.far (hne:=NB0_618.out))|exact HI0.out)) hb);have n3_:=zM (blk_below (g:=gb618) (o := .cells #[.int .i64 ((rd_T60 x3_1 t614).f0),.int .i64 ((rd_T60 x3_1 t614).f1)] 60 (0,0)) (by (with_reducible repeat (first|refine zJ ?_ _|refine zK ?_|refine zL ?_ _));exact BK618.out) hb);have n4_:=zM (KeepBut.trans (by repeat (first|(with_reducible first|exact HK.out|apply KeepBut.set_|apply keep_drewN|apply keep_drew|apply keep_alloc|refine keep_far ?_ GW618.out _)|exact HK.out)) (KeepBut.of_below hb g none) (.inl rfl));have n5_:=zM (zQ (by repeat (first|(with_reducible first|exact HB.out|apply zD|apply zE|apply zF|refine below_set ?_ (IsS87.ge HI0.out)|refine below_set ?_ GE618.out)|exact HB.out)) hb);clear HO_3;clear HI0;clear BK618;clear HK;clear HB;have HO_3:=n0_;have HO624:=n1_;have HI0:=n2_;have BK618:=n3_;have HK:=n4_;have HB:=n5_;clear n0_ n1_ n2_ n3_ n4_ n5_;clear hb ho61;obtain ⟨Ao62,co62,eo62⟩:=Kd.R_slice HO624.out;subst eo62)|((with_reducible refine gate_callee (f:=70) rfl ?_);refine goesL_ (some 57) rfl rfl Try.func70 (by kernel_rfl) rfl #[.pointer (some ⟨g,0,none⟩),.slice Ao62 y622.length co62] rfl (by (try simp only [List.map_toArray,List.map_cons,List.map_nil]);first|done|rfl|(simp only [List.length_drop,List.length_take];rfl)) ?_;(with_reducible refine (spec_l1Cur_among.calls g s0_0 t620 t621 _ _ y622 t625 t626 t627 w0 _ ?side1 ?side2 ?side3 ?side4 ?side5 A52.out).mono ?_);(case side1=>repeat (first|(with_reducible first|exact HI0.out|apply IsS87.alloc|apply IsS87.drewN|apply IsS87.drew|apply IsS87.set_1|apply IsS87.set_2|apply IsS87.far (hne:=NB0_618.out))|exact HI0.out));(case side2=>repeat (first|(with_reducible first|exact HB.out|apply zD|apply zE|apply zF|refine below_set ?_ (IsS87.ge HI0.out)|refine below_set ?_ GE618.out)|exact HB.out));(case side3=>repeat (first|exact (zN HO624.out).2.2|(with_reducible refine zG ?_ _)|(with_reducible refine zH ?_ _)|(with_reducible refine zI ?_)));(case side4=>exact (zN HO624.out).2.1);(case side5=>exact far_slice (IsS87.own_ne HI0.out HO624.out (by decide)));rintro e w63 ⟨rfl,hi,hb,hk⟩;refine ⟨_,rfl,?_⟩;have n0_:=zM (Kd.R_mono (Kd.R_keep (IsS87.apart (show IsS87 w0 _ g s0_0 t620 t621 from by repeat (first|(with_reducible first|exact HI0.out|apply IsS87.alloc|apply IsS87.drewN|apply IsS87.drew|apply IsS87.set_1|apply IsS87.set_2|apply IsS87.far (hne:=NB0_618.out))|exact HI0.out)) (by (with_reducible repeat (first|apply zA|apply zB|apply zC));exact HO_3.out) (by decide)) hk (fun _ h=>h.2)) (fun _ h=>h.1));have n1_:=zM (KeepBut.blk hk (g':=gb618) (o := .cells #[.int .i64 ((rd_T60 x3_1 t614).f0),.int .i64 ((rd_T60 x3_1 t614).f1)] 60 (0,0)) (by (with_reducible repeat (first|refine zJ ?_ _|refine zK ?_|refine zL ?_ _));exact BK618.out) NB618_0.out (by simp));have n2_:=zM (Kd.R_mono (Kd.R_keep (IsS87.apart (show IsS87 w0 _ g s0_0 t620 t621 from by repeat (first|(with_reducible first|exact HI0.out|apply IsS87.alloc|apply IsS87.drewN|apply IsS87.drew|apply IsS87.set_1|apply IsS87.set_2|apply IsS87.far (hne:=NB0_618.out))|exact HI0.out)) (by (with_reducible repeat (first|apply zA|apply zB|apply zC));exact HO624.out) (by decide)) hk (fun _ h=>h.2)) (fun _ h=>h.1));have n3_:=zM (KeepBut.trans (by repeat (first|(with_reducible first|exact HK.out|apply KeepBut.set_|apply keep_drewN|apply keep_drew|apply keep_alloc|refine keep_far ?_ GW618.out _)|exact HK.out)) hk (.inl rfl));have n4_:=zM (hb);have n5_:=zM (hi);clear HO_3;clear BK618;clear HO624;clear HK;clear HB;clear HI0;have HO_3:=n0_;have BK618:=n1_;have HO624:=n2_;have HK:=n3_;have HB:=n4_;have HI0:=n5_;clear n0_ n1_ n2_ n3_ n4_ n5_;(try clear hb);(try clear hb2);(try clear hk);(try clear hi);have hcz64_0 : w63.cell? ⟨gb618,0,none⟩ = some (.int .i64 ((rd_T60 x3_1 t614).f0)):=(blk_cell BK618.out 0).trans rfl;have hcz64_1 : w63.cell? ⟨gb618,1,none⟩ = some (.int .i64 ((rd_T60 x3_1 t614).f1)):=(blk_cell BK618.out 1).trans rfl;have hfz64_0:=blk_frozen BK618.out 0;have hfz64_1:=blk_frozen BK618.out 1)|((with_reducible refine gate_store (t:=3) (p:=58) rfl ?_);refine store_event (t:=3) (p:=58) (v:=?vo_w65) (w1:=(w63.setCell ⟨gb618,0,none⟩ (.int .i64 t625))) ?hg ?ho ?hn ?hr ?_;(case ho=>rfl);(case hg=>rfl);(case hn=>rfl);(case hr=>first|(go_simp;done)|(go_simp;rfl));intro w65 hw;have n0_ : Aside0 (Kd.R k60 60 w65 w.heap.size (fun k_=>k_ ≠ gb618) (.slice (some ad617) x3_1.length co54) x3_1):=⟨(by rw [hw];exact (by (with_reducible repeat (first|apply zA|apply zB|apply zC));exact Kd.R_mono (Kd.R_far (p:=⟨gb618,0,none⟩) (Kd.R_mono HO_3.out (fun k_ hk=>(⟨hk,hk.2⟩ : _ ∧ k_ ≠ gb618))) (fun _ hk=>hk.2) (.int .i64 t625)) (fun _ hk=>hk.1.2)))⟩;have n1_ : Aside0 (Kd.R (Kd.int .i64) 3 w65 w.heap.size (fun _=>True) (.slice Ao62 y622.length co62) y622):=⟨(by rw [hw];exact (by (with_reducible repeat (first|apply zA|apply zB|apply zC));exact Kd.R_mono (Kd.R_far (p:=⟨gb618,0,none⟩) (Kd.R_types HO624.out BK618.out (by decide)) (fun _ hk=>hk.2) (.int .i64 t625)) (fun _ hk=>trivial)))⟩;have n2_ : Aside0 (w65.heap[gb618]? = some (.cells #[.int .i64 t625,.int .i64 ((rd_T60 x3_1 t614).f1)] 60 (0,0))):=⟨(by rw [hw];exact (by (with_reducible repeat (first|refine zJ ?_ _|refine zK ?_|refine zL ?_ _));refine blk_put (cs := #[.int .i64 ((rd_T60 x3_1 t614).f0),.int .i64 ((rd_T60 x3_1 t614).f1)]) ?_ 0 _ rfl;(with_reducible repeat (first|refine zJ ?_ _|refine zK ?_|refine zL ?_ _));exact BK618.out))⟩;have n3_ : Aside0 (IsS87 w0 w65 g s0_0 t626 t627):=⟨(by rw [hw];exact (by repeat (first|(with_reducible first|exact HI0.out|apply IsS87.alloc|apply IsS87.drewN|apply IsS87.drew|apply IsS87.set_1|apply IsS87.set_2|apply IsS87.far (hne:=NB0_618.out))|exact HI0.out)))⟩;have n4_ : Aside0 (KeepBut w w65 g none):=⟨(by rw [hw];exact (by repeat (first|(with_reducible first|exact HK.out|apply KeepBut.set_|apply keep_drewN|apply keep_drew|apply keep_alloc|refine keep_far ?_ GW618.out _)|exact HK.out)))⟩;have n5_ : Aside0 (Below w0.heap.size w0 w65):=⟨(by rw [hw];exact (by repeat (first|(with_reducible first|exact HB.out|apply zD|apply zE|apply zF|refine below_set ?_ (IsS87.ge HI0.out)|refine below_set ?_ GE618.out)|exact HB.out)))⟩;clear hw;clear HO_3;clear HO624;clear BK618;clear HI0;clear HK;clear HB;have HO_3:=n0_;have HO624:=n1_;have BK618:=n2_;have HI0:=n3_;have HK:=n4_;have HB:=n5_;clear n0_ n1_ n2_ n3_ n4_ n5_;have hcz66_0 : w65.cell? ⟨gb618,0,none⟩ = some (.int .i64 t625):=(blk_cell BK618.out 0).trans rfl;have hcz66_1 : w65.cell? ⟨gb618,1,none⟩ = some (.int .i64 ((rd_T60 x3_1 t614).f1)):=(blk_cell BK618.out 1).trans rfl;have hfz66_0:=blk_frozen BK618.out 0;have hfz66_1:=blk_frozen BK618.out 1;have p53 : 0 ≤ (t614 : Int):=of_decide_eq_true (by first|(with_reducible assumption)|assumption);have q53 : (t614 : Int) < ((x3_1.length : Int) : Int):=of_decide_eq_true (by first|(with_reducible assumption)|assumption);obtain ⟨go53,co53,eo53,gb53,gl53,cl53,HG53⟩:=Kd.R_form HO_3.out (by omega);(first|cases eo53|(injection eo53 with ea_ en_ ec_;(first|subst ea_|(injection ea_ with ea_;subst ea_));subst ec_;clear en_));have GB53:=zM gb53;have GG53:=zM HG53;clear gb53 gl53 HG53;(first|simp only [add_plain] at hx617_0|skip);(first|simp only [add_plain] at hx617_1|skip);obtain ⟨ce53,hcl53,hM53,hcc53,hfr53⟩:=Kd.R_elem HO_3.out z60 (t614 : Int) p53 q53;obtain rfl:=k60_openM hM53;have hx53_0 : w65.cell? ⟨go53,(t614 : Int).toNat * 2,none⟩ = some (.int .i64 ((rd_T60 x3_1 t614).f0)):=hcc53 0 _ rfl;have hx53_1 : w65.cell? ⟨go53,(t614 : Int).toNat * 2 + 1,none⟩ = some (.int .i64 ((rd_T60 x3_1 t614).f1)):=hcc53 1 _ rfl;have hf53_0 : w65.frozen? ⟨go53,(t614 : Int).toNat * 2,none⟩ = false:=hfr53 0;have hf53_1 : w65.frozen? ⟨go53,(t614 : Int).toNat * 2 + 1,none⟩ = false:=hfr53 1;clear hcl53 hcc53 hfr53;(try clear hM53);replace p53:=eq_true p53;replace q53:=eq_true q53;have HX67:=zM (show Kd.R k60 60 w65 w.heap.size (fun k_=>k_ ≠ gb618) (.slice (some ⟨go53,0,none⟩) x3_1.length co54) x3_1 from (by (with_reducible repeat (first|apply zA|apply zB|apply zC));exact HO_3.out));obtain ⟨ce67,hcl67,hM67,hcc67,hfr67⟩:=Kd.R_elem HX67.out z60 (t614 : Int) (of_decide_eq_true (by first|(with_reducible assumption)|assumption)) (by have h_ : (t614 : Int) < ((x3_1.length : Int) : Int):=of_decide_eq_true (by first|(with_reducible assumption)|assumption);first|exact h_|(have e_:=(zN HO_3.out).1;omega)|simpa using h_);obtain rfl:=k60_openM hM67;have HP67:=Kd.R_seg HX67.out (t614 : Int) (of_decide_eq_true (by first|(with_reducible assumption)|assumption)) (by have h_ : (t614 : Int) < ((x3_1.length : Int) : Int):=of_decide_eq_true (by first|(with_reducible assumption)|assumption);first|exact h_|(have e_:=(zN HO_3.out).1;omega)|simpa using h_) (seg:=[.int .i64 t625,.int .i64 ((rd_T60 x3_1 t614).f1)]) (j:=0) hcl67 hcc67 (show 2 ≤ 2 from by decide) (x':=(⟨t625,(rd_T60 x3_1 t614).f1⟩ : S60)) (k60_mkM _ _ _ (⟨t625,(rd_T60 x3_1 t614).f1⟩ : S60) ) (fun _ hk=>hk);have hx67_0:=hcc67 0 _ rfl;(try simp only [show (k60).sz = 2 from rfl,Nat.mul_one,Nat.add_zero] at hx67_0);have hf67_0:=hfr67 0;(try simp only [show (k60).sz = 2 from rfl,Nat.mul_one,Nat.add_zero] at hf67_0);have hx67_1:=hcc67 1 _ rfl;(try simp only [show (k60).sz = 2 from rfl,Nat.mul_one,Nat.add_zero] at hx67_1);have hf67_1:=hfr67 1;(try simp only [show (k60).sz = 2 from rfl,Nat.mul_one,Nat.add_zero] at hf67_1);clear hcl67 hcc67 hfr67;(try clear hM67))|((with_reducible refine gate_store (t:=60) (p:=101) rfl ?_);refine store_event (t:=60) (p:=101) (v:=?vo_w68) (w1:=((w65.setCell ⟨go53,(t614 : Int).toNat * 2,none⟩ (.int .i64 t625)).setCell ⟨go53,(t614 : Int).toNat * 2 + 1,none⟩ (.int .i64 ((rd_T60 x3_1 t614).f1)))) ?hg ?ho ?hn ?hr ?_;(case ho=>rfl);(case hg=>rfl);(case hn=>rfl);(case hr=>first|(go_simp;done)|(go_simp;rfl));intro w68 hw;have hg : w65.grownBy w68 (some go53):=(by rw [hw];exact HP67.2);have hp_ : Kd.R k60 60 w68 w.heap.size (fun k_=>k_ ≠ gb618) (.slice (some ⟨go53,0,none⟩) x3_1.length co54) y628:=(by rw [hw,Ny628.out];exact HP67.1);clear HP67;have n0_:=zM (hp_);have n1_:=zM (IsS87.grown (by repeat (first|(with_reducible first|exact HI0.out|apply IsS87.alloc|apply IsS87.drewN|apply IsS87.drew|apply IsS87.set_1|apply IsS87.set_2|apply IsS87.far (hne:=NB0_618.out))|exact HI0.out)) hg (IsS87.own_ne HI0.out HO_3.out (by decide)));have n2_:=zM (blk_grown (g:=gb618) (o := .cells #[.int .i64 t625,.int .i64 ((rd_T60 x3_1 t614).f1)] 60 (0,0)) (by (with_reducible repeat (first|refine zJ ?_ _|refine zK ?_|refine zL ?_ _));exact BK618.out) hg (Kd.R_away HO_3.out (fun _ hk=>hk)));have n3_:=zM (Kd.R_over' (v:=(.slice (some ⟨go53,0,none⟩) x3_1.length co54)) (by (with_reducible repeat (first|apply zA|apply zB|apply zC));exact HO624.out) (Kd.R_typed HO_3.out) (by decide) hg);have n4_:=zM ((by rw [hw];exact below_set (below_set (HB.out) (Nat.le_trans HL.out GB53.out)) (Nat.le_trans HL.out GB53.out) : Below w0.heap.size w0 w68));have n5_:=zM (KeepBut.trans (by repeat (first|(with_reducible first|exact HK.out|apply KeepBut.set_|apply keep_drewN|apply keep_drew|apply keep_alloc|refine keep_far ?_ GW618.out _)|exact HK.out)) (KeepBut.of_grown hg g) (Kd.R_base2 HO_3.out));clear HO_3;clear HI0;clear BK618;clear HO624;clear HB;clear HK;have HO_3:=n0_;have HI0:=n1_;have BK618:=n2_;have HO624:=n3_;have HB:=n4_;have HK:=n5_;clear n0_ n1_ n2_ n3_ n4_ n5_;clear hg hw hp_))
       go_ret
       exact ⟨_,by first|rfl|(simp [errW_none,errW_some] <;> rfl)|(simp [*,errW_none,errW_some] <;> rfl),by (with_reducible repeat (first|apply zA|apply zB|apply zC));exact Kd.R_mono HO_3.out (fun _ hk=>trivial),by repeat (first|(with_reducible first|exact HI0.out|apply IsS87.alloc|apply IsS87.drewN|apply IsS87.drew|apply IsS87.set_1|apply IsS87.set_2|apply IsS87.far (hne:=NB0_618.out))|exact HI0.out),by repeat (first|(with_reducible first|exact HB.out|apply zD|apply zE|apply zF|refine below_set ?_ (IsS87.ge HI0.out)|refine below_set ?_ GE618.out)|exact HB.out),by repeat (first|(with_reducible first|exact HK.out|apply KeepBut.set_|apply keep_drewN|apply keep_drew|apply keep_alloc|refine keep_far ?_ GW618.out _)|exact HK.out)⟩
      ·rw [if_neg c51] at H
       have c51b0 : (t619 == 0) = false:=beq_eq_false_iff_ne.mpr c51
       have c51b1 : (t619 != 0) = true:=bne_iff_ne.mpr c51
       by_cases c69 : t619 = 1
       ·rw [if_pos c69] at H
        have c69b0 : (t619 == 1) = true:=beq_iff_eq.mpr c69
        have c69b1 : (t619 != 1) = false:=bne_eq_false_iff_eq.mpr c69
        clear c69
        obtain ⟨y629,hy629⟩ : ∃ y_ : List Int,y_ = (([(-1),2001,100] : List Int)):=⟨_,rfl⟩
        replace H : ((spec_l1Cur_among.f s0_0 t620 t621 y629).bind fun bt632=>(some ((x3_1.set (t614 : Int).toNat (⟨(rd_T60 x3_1 t614).f0,bt632.1⟩ : S60)),bt632.2.1,bt632.2.2))) = some (r1,r2,r3):=by first|(rw [hy629];with_reducible exact H)|(have H2_:=(Option.bind_some _ _).symm.trans H;rw [hy629];with_reducible exact H2_)|(have H2_:=(Option.bind_some _ _).symm.trans H;with_reducible exact H2_)|with_reducible exact H|(rw [hy629];exact H)|exact H
        have Ny629:=zM hy629
        clear hy629
        replace H:=Option.bind_eq_some_iff.mp H
        obtain ⟨⟨t632,t633,t634⟩,A700,H⟩:=H
        replace H : (some ((x3_1.set (t614 : Int).toNat (⟨(rd_T60 x3_1 t614).f0,t632⟩ : S60)),t633,t634)) = some (r1,r2,r3):=H
        have A70:=zM A700
        clear A700
        obtain ⟨y635,hy635⟩ : ∃ y_ : List (S60),y_ = (x3_1.set (t614 : Int).toNat (⟨(rd_T60 x3_1 t614).f0,t632⟩ : S60)):=⟨_,rfl⟩
        replace H : (some (y635,t633,t634)) = some (r1,r2,r3):=by first|(rw [hy635];with_reducible exact H)|(have H2_:=(Option.bind_some _ _).symm.trans H;rw [hy635];with_reducible exact H2_)|(have H2_:=(Option.bind_some _ _).symm.trans H;with_reducible exact H2_)|with_reducible exact H|(rw [hy635];exact H)|exact H
        have Ny635:=zM hy635
        clear hy635
        simp only [Option.some.injEq,Prod.mk.injEq] at H
        obtain ⟨rfl,rfl,rfl⟩:=H
        obtain ⟨Ao72,co72,eo72⟩:=Kd.R_slice HO_3.out
        subst eo72
        go_wp2_with (first|((with_reducible refine gate_callee (f:=72) rfl ?_);refine goesL_ (some 46) rfl rfl Try.func72 (by kernel_rfl) rfl #[.pointer (some ⟨g,0,none⟩),.int .i64 (x3_1.length : Int)] rfl (by (try simp only [List.map_toArray,List.map_cons,List.map_nil]);first|done|rfl|(simp only [List.length_drop,List.length_take];rfl)) ?_;(with_reducible refine (spec_l1Cur_pick.calls g s0_0 x1001_1 x1002_1 (x3_1.length : Int) t614 t615 t616 w0 _ ?side1 ?side2 A47.out).mono ?_);(case side1=>repeat (first|(with_reducible first|exact HI0.out|apply IsS87.alloc|apply IsS87.drewN|apply IsS87.drew|apply IsS87.set_1|apply IsS87.set_2)|exact HI0.out));(case side2=>repeat (first|(with_reducible first|exact HB.out|apply zD|apply zE|apply zF|refine below_set ?_ (IsS87.ge HI0.out))|exact HB.out));rintro e w73 ⟨rfl,hi,hb,hk⟩;refine ⟨_,rfl,?_⟩;have n0_:=zM (Kd.R_mono (Kd.R_keep (IsS87.apart (show IsS87 w0 _ g s0_0 x1001_1 x1002_1 from by repeat (first|(with_reducible first|exact HI0.out|apply IsS87.alloc|apply IsS87.drewN|apply IsS87.drew|apply IsS87.set_1|apply IsS87.set_2)|exact HI0.out)) (by (with_reducible repeat (first|apply zA|apply zB|apply zC));exact HO_3.out) (by decide)) hk (fun _ h=>h.2)) (fun _ h=>h.1));have n1_:=zM (KeepBut.trans (by repeat (first|(with_reducible first|exact HK.out|apply KeepBut.set_|apply keep_drewN|apply keep_drew|apply keep_alloc)|exact HK.out)) hk (.inl rfl));have n2_:=zM (hb);have n3_:=zM (hi);clear HO_3;clear HK;clear HB;clear HI0;have HO_3:=n0_;have HK:=n1_;have HB:=n2_;have HI0:=n3_;clear n0_ n1_ n2_ n3_;(try clear hb);(try clear hb2);(try clear hk);(try clear hi);have p617 : 0 ≤ (t614 : Int):=of_decide_eq_true (by first|(with_reducible assumption)|assumption);have q617 : t614 < (x3_1.length : Int):=of_decide_eq_true (by first|(with_reducible assumption)|assumption);obtain ⟨ad617,e617,hx617_0,hx617_1⟩:=at_T60 (zN HO_3.out).2.2 t614 p617 q617;cases e617;replace p617:=eq_true p617;replace q617:=eq_true q617)|((with_reducible refine gate_dst (N:=9) rfl ?_);refine box_event ?hg (N:=9) ?hd (cs := #[.int .i64 0,.int .i64 0]) (t:=60) ?hr ?_;(case hd=>rfl);(case hg=>rfl);(case hr=>first|(go_simp;done)|(go_simp;rfl));intro gb618 hg w74 hbox hb;have n0_:=zM (zP (Kd.R_elderB (by (with_reducible repeat (first|apply zA|apply zB|apply zC));exact HO_3.out) gb618 (Nat.le_of_eq hg.symm)) hb);have n1_:=zM (IsS87.below (by repeat (first|(with_reducible first|exact HI0.out|apply IsS87.alloc|apply IsS87.drewN|apply IsS87.drew|apply IsS87.set_1|apply IsS87.set_2)|exact HI0.out)) hb);have n2_:=zM (KeepBut.trans (by repeat (first|(with_reducible first|exact HK.out|apply KeepBut.set_|apply keep_drewN|apply keep_drew|apply keep_alloc)|exact HK.out)) (KeepBut.of_below hb g none) (.inl rfl));have n3_:=zM (zQ (by repeat (first|(with_reducible first|exact HB.out|apply zD|apply zE|apply zF|refine below_set ?_ (IsS87.ge HI0.out))|exact HB.out)) hb);have n4_:=zM (hbox);have n5_:=zM ((by rw [hg];exact (keep_size (w:=w) (g:=g) (row:=none) (by repeat (first|(with_reducible first|exact HK.out|apply KeepBut.set_|apply keep_drewN|apply keep_drew|apply keep_alloc)|exact HK.out))) : w.heap.size ≤ gb618));have n6_:=zM ((Nat.le_trans HW0.out (by rw [hg];exact (keep_size (w:=w) (g:=g) (row:=none) (by repeat (first|(with_reducible first|exact HK.out|apply KeepBut.set_|apply keep_drewN|apply keep_drew|apply keep_alloc)|exact HK.out))) : w.heap.size ≤ gb618) : w0.heap.size ≤ gb618));have n7_:=zM ((by rw [hg];exact Nat.ne_of_lt (IsS87.lt (show IsS87 w0 _ g s0_0 t615 t616 from by repeat (first|(with_reducible first|exact HI0.out|apply IsS87.alloc|apply IsS87.drewN|apply IsS87.drew|apply IsS87.set_1|apply IsS87.set_2)|exact HI0.out))) : g ≠ gb618));have n8_:=zM ((by rw [hg];exact Nat.ne_of_gt (IsS87.lt (show IsS87 w0 _ g s0_0 t615 t616 from by repeat (first|(with_reducible first|exact HI0.out|apply IsS87.alloc|apply IsS87.drewN|apply IsS87.drew|apply IsS87.set_1|apply IsS87.set_2)|exact HI0.out))) : gb618 ≠ g));clear HO_3;clear HI0;clear HK;clear HB;have HO_3:=n0_;have HI0:=n1_;have HK:=n2_;have HB:=n3_;have BK618:=n4_;have GW618:=n5_;have GE618:=n6_;have NB0_618:=n7_;have NB618_0:=n8_;clear n0_ n1_ n2_ n3_ n4_ n5_ n6_ n7_ n8_;clear hb hbox hg;have hnb75:=NB618_0.out;have hnc75:=NB0_618.out;have hcz76_0 : w74.cell? ⟨gb618,0,none⟩ = some (.int .i64 0):=(blk_cell BK618.out 0).trans rfl;have hcz76_1 : w74.cell? ⟨gb618,1,none⟩ = some (.int .i64 0):=(blk_cell BK618.out 1).trans rfl;have hfz76_0:=blk_frozen BK618.out 0;have hfz76_1:=blk_frozen BK618.out 1)|((with_reducible refine gate_callee (f:=72) rfl ?_);refine goesL_ (some 52) rfl rfl Try.func72 (by kernel_rfl) rfl #[.pointer (some ⟨g,0,none⟩),.int .i64 40] rfl (by (try simp only [List.map_toArray,List.map_cons,List.map_nil]);first|done|rfl|(simp only [List.length_drop,List.length_take];rfl)) ?_;(with_reducible refine (spec_l1Cur_pick.calls g s0_0 t615 t616 40 t619 t620 t621 w0 _ ?side1 ?side2 A50.out).mono ?_);(case side1=>repeat (first|(with_reducible first|exact HI0.out|apply IsS87.alloc|apply IsS87.drewN|apply IsS87.drew|apply IsS87.set_1|apply IsS87.set_2|apply IsS87.far (hne:=NB0_618.out))|exact HI0.out));(case side2=>repeat (first|(with_reducible first|exact HB.out|apply zD|apply zE|apply zF|refine below_set ?_ (IsS87.ge HI0.out)|refine below_set ?_ GE618.out)|exact HB.out));rintro e w77 ⟨rfl,hi,hb,hk⟩;refine ⟨_,rfl,?_⟩;have n0_:=zM (Kd.R_mono (Kd.R_keep (IsS87.apart (show IsS87 w0 _ g s0_0 t615 t616 from by repeat (first|(with_reducible first|exact HI0.out|apply IsS87.alloc|apply IsS87.drewN|apply IsS87.drew|apply IsS87.set_1|apply IsS87.set_2|apply IsS87.far (hne:=NB0_618.out))|exact HI0.out)) (by (with_reducible repeat (first|apply zA|apply zB|apply zC));exact (Kd.R_mono (Kd.R_far (p:=⟨gb618,1,none⟩) (Kd.R_far (p:=⟨gb618,0,none⟩) (Kd.R_mono HO_3.out (fun k_ hk=>(⟨hk,hk.2⟩ : _ ∧ k_ ≠ gb618))) (fun _ hk=>hk.2) (.int .i64 ((rd_T60 x3_1 t614).f0))) (fun _ hk=>hk.2) (.int .i64 ((rd_T60 x3_1 t614).f1))) (fun _ h_=>h_.1))) (by decide)) hk (fun _ h=>h.2)) (fun _ h=>h.1));have n1_:=zM (KeepBut.blk hk (g':=gb618) (o := .cells #[.int .i64 ((rd_T60 x3_1 t614).f0),.int .i64 ((rd_T60 x3_1 t614).f1)] 60 (0,0)) (by (with_reducible repeat (first|refine zJ ?_ _|refine zK ?_|refine zL ?_ _));refine blk_put (cs := #[.int .i64 ((rd_T60 x3_1 t614).f0),.int .i64 0]) ?_ 1 _ rfl;(with_reducible repeat (first|refine zJ ?_ _|refine zK ?_|refine zL ?_ _));refine blk_put (cs := #[.int .i64 0,.int .i64 0]) ?_ 0 _ rfl;(with_reducible repeat (first|refine zJ ?_ _|refine zK ?_|refine zL ?_ _));exact BK618.out) NB618_0.out (by simp));have n2_:=zM (KeepBut.trans (by repeat (first|(with_reducible first|exact HK.out|apply KeepBut.set_|apply keep_drewN|apply keep_drew|apply keep_alloc|refine keep_far ?_ GW618.out _)|exact HK.out)) hk (.inl rfl));have n3_:=zM (hb);have n4_:=zM (hi);clear HO_3;clear BK618;clear HK;clear HB;clear HI0;have HO_3:=n0_;have BK618:=n1_;have HK:=n2_;have HB:=n3_;have HI0:=n4_;clear n0_ n1_ n2_ n3_ n4_;(try clear hb);(try clear hb2);(try clear hk);(try clear hi))|((with_reducible refine gate_dst (N:=62) rfl ?_);refine Kd.R_lit (Kd.int .i64) _ 3 ?hg (N:=62) ?hd (xs:=([(-1),2001,100] : List Int)) (inner:=[.int .i64 (-1),.int .i64 2001,.int .i64 100]) (ok:=fun _=>True) (okp:=fun _=>True) ?hr ?hp (fun _ hk=>hk) trivial (Below.refl _ _) (Nat.le_refl _) (by simp) ?_;(case hd=>rfl);(case hg=>rfl);(case hr=>first|(go_simp;done)|(go_simp;rfl));(case hp=>exact (Reps.one (show Kd.M (Kd.int .i64) _ _ _ (-1) [.int .i64 (-1)] from rfl) (Reps.one (show Kd.M (Kd.int .i64) _ _ _ 2001 [.int .i64 2001] from rfl) (Reps.one (show Kd.M (Kd.int .i64) _ _ _ 100 [.int .i64 100] from rfl) (Reps.none _ _)))));intro v630 w78 ho79 hb hg_ hnew_;clear hg_ hnew_;(first|rw [← Ny629.out] at ho79|(simp only [Int.reduceToNat] at ho79;rw [← Ny629.out] at ho79));have n0_:=zM (zP (by (with_reducible repeat (first|apply zA|apply zB|apply zC));exact HO_3.out) hb);have n1_:=zM (Kd.R_lower ho79 (keep_size (w:=w) (g:=g) (row:=none) (by repeat (first|(with_reducible first|exact HK.out|apply KeepBut.set_|apply keep_drewN|apply keep_drew|apply keep_alloc|refine keep_far ?_ GW618.out _)|exact HK.out))));have n2_:=zM (IsS87.below (by repeat (first|(with_reducible first|exact HI0.out|apply IsS87.alloc|apply IsS87.drewN|apply IsS87.drew|apply IsS87.set_1|apply IsS87.set_2|apply IsS87.far (hne:=NB0_618.out))|exact HI0.out)) hb);have n3_:=zM (blk_below (g:=gb618) (o := .cells #[.int .i64 ((rd_T60 x3_1 t614).f0),.int .i64 ((rd_T60 x3_1 t614).f1)] 60 (0,0)) (by (with_reducible repeat (first|refine zJ ?_ _|refine zK ?_|refine zL ?_ _));exact BK618.out) hb);have n4_:=zM (KeepBut.trans (by repeat (first|(with_reducible first|exact HK.out|apply KeepBut.set_|apply keep_drewN|apply keep_drew|apply keep_alloc|refine keep_far ?_ GW618.out _)|exact HK.out)) (KeepBut.of_below hb g none) (.inl rfl));have n5_:=zM (zQ (by repeat (first|(with_reducible first|exact HB.out|apply zD|apply zE|apply zF|refine below_set ?_ (IsS87.ge HI0.out)|refine below_set ?_ GE618.out)|exact HB.out)) hb);clear HO_3;clear HI0;clear BK618;clear HK;clear HB;have HO_3:=n0_;have HO631:=n1_;have HI0:=n2_;have BK618:=n3_;have HK:=n4_;have HB:=n5_;clear n0_ n1_ n2_ n3_ n4_ n5_;clear hb ho79;obtain ⟨Ao80,co80,eo80⟩:=Kd.R_slice HO631.out;subst eo80)|((with_reducible refine gate_callee (f:=70) rfl ?_);refine goesL_ (some 63) rfl rfl Try.func70 (by kernel_rfl) rfl #[.pointer (some ⟨g,0,none⟩),.slice Ao80 y629.length co80] rfl (by (try simp only [List.map_toArray,List.map_cons,List.map_nil]);first|done|rfl|(simp only [List.length_drop,List.length_take];rfl)) ?_;(with_reducible refine (spec_l1Cur_among.calls g s0_0 t620 t621 _ _ y629 t632 t633 t634 w0 _ ?side1 ?side2 ?side3 ?side4 ?side5 A70.out).mono ?_);(case side1=>repeat (first|(with_reducible first|exact HI0.out|apply IsS87.alloc|apply IsS87.drewN|apply IsS87.drew|apply IsS87.set_1|apply IsS87.set_2|apply IsS87.far (hne:=NB0_618.out))|exact HI0.out));(case side2=>repeat (first|(with_reducible first|exact HB.out|apply zD|apply zE|apply zF|refine below_set ?_ (IsS87.ge HI0.out)|refine below_set ?_ GE618.out)|exact HB.out));(case side3=>repeat (first|exact (zN HO631.out).2.2|(with_reducible refine zG ?_ _)|(with_reducible refine zH ?_ _)|(with_reducible refine zI ?_)));(case side4=>exact (zN HO631.out).2.1);(case side5=>exact far_slice (IsS87.own_ne HI0.out HO631.out (by decide)));rintro e w81 ⟨rfl,hi,hb,hk⟩;refine ⟨_,rfl,?_⟩;have n0_:=zM (Kd.R_mono (Kd.R_keep (IsS87.apart (show IsS87 w0 _ g s0_0 t620 t621 from by repeat (first|(with_reducible first|exact HI0.out|apply IsS87.alloc|apply IsS87.drewN|apply IsS87.drew|apply IsS87.set_1|apply IsS87.set_2|apply IsS87.far (hne:=NB0_618.out))|exact HI0.out)) (by (with_reducible repeat (first|apply zA|apply zB|apply zC));exact HO_3.out) (by decide)) hk (fun _ h=>h.2)) (fun _ h=>h.1));have n1_:=zM (KeepBut.blk hk (g':=gb618) (o := .cells #[.int .i64 ((rd_T60 x3_1 t614).f0),.int .i64 ((rd_T60 x3_1 t614).f1)] 60 (0,0)) (by (with_reducible repeat (first|refine zJ ?_ _|refine zK ?_|refine zL ?_ _));exact BK618.out) NB618_0.out (by simp));have n2_:=zM (Kd.R_mono (Kd.R_keep (IsS87.apart (show IsS87 w0 _ g s0_0 t620 t621 from by repeat (first|(with_reducible first|exact HI0.out|apply IsS87.alloc|apply IsS87.drewN|apply IsS87.drew|apply IsS87.set_1|apply IsS87.set_2|apply IsS87.far (hne:=NB0_618.out))|exact HI0.out)) (by (with_reducible repeat (first|apply zA|apply zB|apply zC));exact HO631.out) (by decide)) hk (fun _ h=>h.2)) (fun _ h=>h.1));have n3_:=zM (KeepBut.trans (by repeat (first|(with_reducible first|exact HK.out|apply KeepBut.set_|apply keep_drewN|apply keep_drew|apply keep_alloc|refine keep_far ?_ GW618.out _)|exact HK.out)) hk (.inl rfl));have n4_:=zM (hb);have n5_:=zM (hi);clear HO_3;clear BK618;clear HO631;clear HK;clear HB;clear HI0;have HO_3:=n0_;have BK618:=n1_;have HO631:=n2_;have HK:=n3_;have HB:=n4_;have HI0:=n5_;clear n0_ n1_ n2_ n3_ n4_ n5_;(try clear hb);(try clear hb2);(try clear hk);(try clear hi);have hcz82_0 : w81.cell? ⟨gb618,0,none⟩ = some (.int .i64 ((rd_T60 x3_1 t614).f0)):=(blk_cell BK618.out 0).trans rfl;have hcz82_1 : w81.cell? ⟨gb618,1,none⟩ = some (.int .i64 ((rd_T60 x3_1 t614).f1)):=(blk_cell BK618.out 1).trans rfl;have hfz82_0:=blk_frozen BK618.out 0;have hfz82_1:=blk_frozen BK618.out 1)|((with_reducible refine gate_store (t:=3) (p:=64) rfl ?_);refine store_event (t:=3) (p:=64) (v:=?vo_w83) (w1:=(w81.setCell ⟨gb618,1,none⟩ (.int .i64 t632))) ?hg ?ho ?hn ?hr ?_;(case ho=>rfl);(case hg=>rfl);(case hn=>rfl);(case hr=>first|(go_simp;done)|(go_simp;rfl));intro w83 hw;have n0_ : Aside0 (Kd.R k60 60 w83 w.heap.size (fun k_=>k_ ≠ gb618) (.slice (some ad617) x3_1.length co72) x3_1):=⟨(by rw [hw];exact (by (with_reducible repeat (first|apply zA|apply zB|apply zC));exact Kd.R_mono (Kd.R_far (p:=⟨gb618,1,none⟩) (Kd.R_mono HO_3.out (fun k_ hk=>(⟨hk,hk.2⟩ : _ ∧ k_ ≠ gb618))) (fun _ hk=>hk.2) (.int .i64 t632)) (fun _ hk=>hk.1.2)))⟩;have n1_ : Aside0 (Kd.R (Kd.int .i64) 3 w83 w.heap.size (fun _=>True) (.slice Ao80 y629.length co80) y629):=⟨(by rw [hw];exact (by (with_reducible repeat (first|apply zA|apply zB|apply zC));exact Kd.R_mono (Kd.R_far (p:=⟨gb618,1,none⟩) (Kd.R_types HO631.out BK618.out (by decide)) (fun _ hk=>hk.2) (.int .i64 t632)) (fun _ hk=>trivial)))⟩;have n2_ : Aside0 (w83.heap[gb618]? = some (.cells #[.int .i64 ((rd_T60 x3_1 t614).f0),.int .i64 t632] 60 (0,0))):=⟨(by rw [hw];exact (by (with_reducible repeat (first|refine zJ ?_ _|refine zK ?_|refine zL ?_ _));refine blk_put (cs := #[.int .i64 ((rd_T60 x3_1 t614).f0),.int .i64 ((rd_T60 x3_1 t614).f1)]) ?_ 1 _ rfl;(with_reducible repeat (first|refine zJ ?_ _|refine zK ?_|refine zL ?_ _));exact BK618.out))⟩;have n3_ : Aside0 (IsS87 w0 w83 g s0_0 t633 t634):=⟨(by rw [hw];exact (by repeat (first|(with_reducible first|exact HI0.out|apply IsS87.alloc|apply IsS87.drewN|apply IsS87.drew|apply IsS87.set_1|apply IsS87.set_2|apply IsS87.far (hne:=NB0_618.out))|exact HI0.out)))⟩;have n4_ : Aside0 (KeepBut w w83 g none):=⟨(by rw [hw];exact (by repeat (first|(with_reducible first|exact HK.out|apply KeepBut.set_|apply keep_drewN|apply keep_drew|apply keep_alloc|refine keep_far ?_ GW618.out _)|exact HK.out)))⟩;have n5_ : Aside0 (Below w0.heap.size w0 w83):=⟨(by rw [hw];exact (by repeat (first|(with_reducible first|exact HB.out|apply zD|apply zE|apply zF|refine below_set ?_ (IsS87.ge HI0.out)|refine below_set ?_ GE618.out)|exact HB.out)))⟩;clear hw;clear HO_3;clear HO631;clear BK618;clear HI0;clear HK;clear HB;have HO_3:=n0_;have HO631:=n1_;have BK618:=n2_;have HI0:=n3_;have HK:=n4_;have HB:=n5_;clear n0_ n1_ n2_ n3_ n4_ n5_;have hcz84_0 : w83.cell? ⟨gb618,0,none⟩ = some (.int .i64 ((rd_T60 x3_1 t614).f0)):=(blk_cell BK618.out 0).trans rfl;have hcz84_1 : w83.cell? ⟨gb618,1,none⟩ = some (.int .i64 t632):=(blk_cell BK618.out 1).trans rfl;have hfz84_0:=blk_frozen BK618.out 0;have hfz84_1:=blk_frozen BK618.out 1;have p71 : 0 ≤ (t614 : Int):=of_decide_eq_true (by first|(with_reducible assumption)|assumption);have q71 : (t614 : Int) < ((x3_1.length : Int) : Int):=of_decide_eq_true (by first|(with_reducible assumption)|assumption);obtain ⟨go71,co71,eo71,gb71,gl71,cl71,HG71⟩:=Kd.R_form HO_3.out (by omega);(first|cases eo71|(injection eo71 with ea_ en_ ec_;(first|subst ea_|(injection ea_ with ea_;subst ea_));subst ec_;clear en_));have GB71:=zM gb71;have GG71:=zM HG71;clear gb71 gl71 HG71;(first|simp only [add_plain] at hx617_0|skip);(first|simp only [add_plain] at hx617_1|skip);obtain ⟨ce71,hcl71,hM71,hcc71,hfr71⟩:=Kd.R_elem HO_3.out z60 (t614 : Int) p71 q71;obtain rfl:=k60_openM hM71;have hx71_0 : w83.cell? ⟨go71,(t614 : Int).toNat * 2,none⟩ = some (.int .i64 ((rd_T60 x3_1 t614).f0)):=hcc71 0 _ rfl;have hx71_1 : w83.cell? ⟨go71,(t614 : Int).toNat * 2 + 1,none⟩ = some (.int .i64 ((rd_T60 x3_1 t614).f1)):=hcc71 1 _ rfl;have hf71_0 : w83.frozen? ⟨go71,(t614 : Int).toNat * 2,none⟩ = false:=hfr71 0;have hf71_1 : w83.frozen? ⟨go71,(t614 : Int).toNat * 2 + 1,none⟩ = false:=hfr71 1;clear hcl71 hcc71 hfr71;(try clear hM71);replace p71:=eq_true p71;replace q71:=eq_true q71;have HX85:=zM (show Kd.R k60 60 w83 w.heap.size (fun k_=>k_ ≠ gb618) (.slice (some ⟨go71,0,none⟩) x3_1.length co72) x3_1 from (by (with_reducible repeat (first|apply zA|apply zB|apply zC));exact HO_3.out));obtain ⟨ce85,hcl85,hM85,hcc85,hfr85⟩:=Kd.R_elem HX85.out z60 (t614 : Int) (of_decide_eq_true (by first|(with_reducible assumption)|assumption)) (by have h_ : (t614 : Int) < ((x3_1.length : Int) : Int):=of_decide_eq_true (by first|(with_reducible assumption)|assumption);first|exact h_|(have e_:=(zN HO_3.out).1;omega)|simpa using h_);obtain rfl:=k60_openM hM85;have HP85:=Kd.R_seg HX85.out (t614 : Int) (of_decide_eq_true (by first|(with_reducible assumption)|assumption)) (by have h_ : (t614 : Int) < ((x3_1.length : Int) : Int):=of_decide_eq_true (by first|(with_reducible assumption)|assumption);first|exact h_|(have e_:=(zN HO_3.out).1;omega)|simpa using h_) (seg:=[.int .i64 ((rd_T60 x3_1 t614).f0),.int .i64 t632]) (j:=0) hcl85 hcc85 (show 2 ≤ 2 from by decide) (x':=(⟨(rd_T60 x3_1 t614).f0,t632⟩ : S60)) (k60_mkM _ _ _ (⟨(rd_T60 x3_1 t614).f0,t632⟩ : S60) ) (fun _ hk=>hk);have hx85_0:=hcc85 0 _ rfl;(try simp only [show (k60).sz = 2 from rfl,Nat.mul_one,Nat.add_zero] at hx85_0);have hf85_0:=hfr85 0;(try simp only [show (k60).sz = 2 from rfl,Nat.mul_one,Nat.add_zero] at hf85_0);have hx85_1:=hcc85 1 _ rfl;(try simp only [show (k60).sz = 2 from rfl,Nat.mul_one,Nat.add_zero] at hx85_1);have hf85_1:=hfr85 1;(try simp only [show (k60).sz = 2 from rfl,Nat.mul_one,Nat.add_zero] at hf85_1);clear hcl85 hcc85 hfr85;(try clear hM85))|((with_reducible refine gate_store (t:=60) (p:=101) rfl ?_);refine store_event (t:=60) (p:=101) (v:=?vo_w86) (w1:=((w83.setCell ⟨go71,(t614 : Int).toNat * 2,none⟩ (.int .i64 ((rd_T60 x3_1 t614).f0))).setCell ⟨go71,(t614 : Int).toNat * 2 + 1,none⟩ (.int .i64 t632))) ?hg ?ho ?hn ?hr ?_;(case ho=>rfl);(case hg=>rfl);(case hn=>rfl);(case hr=>first|(go_simp;done)|(go_simp;rfl));intro w86 hw;have hg : w83.grownBy w86 (some go71):=(by rw [hw];exact HP85.2);have hp_ : Kd.R k60 60 w86 w.heap.size (fun k_=>k_ ≠ gb618) (.slice (some ⟨go71,0,none⟩) x3_1.length co72) y635:=(by rw [hw,Ny635.out];exact HP85.1);clear HP85;have n0_:=zM (hp_);have n1_:=zM (IsS87.grown (by repeat (first|(with_reducible first|exact HI0.out|apply IsS87.alloc|apply IsS87.drewN|apply IsS87.drew|apply IsS87.set_1|apply IsS87.set_2|apply IsS87.far (hne:=NB0_618.out))|exact HI0.out)) hg (IsS87.own_ne HI0.out HO_3.out (by decide)));have n2_:=zM (blk_grown (g:=gb618) (o := .cells #[.int .i64 ((rd_T60 x3_1 t614).f0),.int .i64 t632] 60 (0,0)) (by (with_reducible repeat (first|refine zJ ?_ _|refine zK ?_|refine zL ?_ _));exact BK618.out) hg (Kd.R_away HO_3.out (fun _ hk=>hk)));have n3_:=zM (Kd.R_over' (v:=(.slice (some ⟨go71,0,none⟩) x3_1.length co72)) (by (with_reducible repeat (first|apply zA|apply zB|apply zC));exact HO631.out) (Kd.R_typed HO_3.out) (by decide) hg);have n4_:=zM ((by rw [hw];exact below_set (below_set (HB.out) (Nat.le_trans HL.out GB71.out)) (Nat.le_trans HL.out GB71.out) : Below w0.heap.size w0 w86));have n5_:=zM (KeepBut.trans (by repeat (first|(with_reducible first|exact HK.out|apply KeepBut.set_|apply keep_drewN|apply keep_drew|apply keep_alloc|refine keep_far ?_ GW618.out _)|exact HK.out)) (KeepBut.of_grown hg g) (Kd.R_base2 HO_3.out));clear HO_3;clear HI0;clear BK618;clear HO631;clear HB;clear HK;have HO_3:=n0_;have HI0:=n1_;have BK618:=n2_;have HO631:=n3_;have HB:=n4_;have HK:=n5_;clear n0_ n1_ n2_ n3_ n4_ n5_;clear hg hw hp_))
        go_ret
        exact ⟨_,by first|rfl|(simp [errW_none,errW_some] <;> rfl)|(simp [*,errW_none,errW_some] <;> rfl),by (with_reducible repeat (first|apply zA|apply zB|apply zC));exact Kd.R_mono HO_3.out (fun _ hk=>trivial),by repeat (first|(with_reducible first|exact HI0.out|apply IsS87.alloc|apply IsS87.drewN|apply IsS87.drew|apply IsS87.set_1|apply IsS87.set_2|apply IsS87.far (hne:=NB0_618.out))|exact HI0.out),by repeat (first|(with_reducible first|exact HB.out|apply zD|apply zE|apply zF|refine below_set ?_ (IsS87.ge HI0.out)|refine below_set ?_ GE618.out)|exact HB.out),by repeat (first|(with_reducible first|exact HK.out|apply KeepBut.set_|apply keep_drewN|apply keep_drew|apply keep_alloc|refine keep_far ?_ GW618.out _)|exact HK.out)⟩
       ·rw [if_neg c69] at H
        have c69b0 : (t619 == 1) = false:=beq_eq_false_iff_ne.mpr c69
        have c69b1 : (t619 != 1) = true:=bne_iff_ne.mpr c69
        by_cases c87 : t619 = 2
        ·rw [if_pos c87] at H
         have c87b0 : (t619 == 2) = true:=beq_iff_eq.mpr c87
         have c87b1 : (t619 != 2) = false:=bne_eq_false_iff_eq.mpr c87
         clear c87
         by_cases c88 : 1 ≤ (x3_1.length : Int)
         ·rw [if_pos c88] at H
          have c88b0:=eq_true c88
          have c88b1 : decide (1 ≤ (x3_1.length : Int)) = true:=decide_eq_true c88
          clear c88
          obtain ⟨y636,hy636⟩ : ∃ y_ : List (S60),y_ = (x3_1.take (1 : Int).toNat):=⟨_,rfl⟩
          replace H : (if t614 < (y636.length : Int) then (some ((y636.set (t614 : Int).toNat (⟨(rd_T60 x3_1 t614).f0,(rd_T60 x3_1 t614).f1⟩ : S60)),t620,t621)) else (some (y636,t620,t621))) = some (r1,r2,r3):=by first|(rw [hy636];with_reducible exact H)|(have H2_:=(Option.bind_some _ _).symm.trans H;rw [hy636];with_reducible exact H2_)|(have H2_:=(Option.bind_some _ _).symm.trans H;with_reducible exact H2_)|with_reducible exact H|(rw [hy636];exact H)|exact H
          have Ny636:=zM hy636
          clear hy636
          by_cases c89 : t614 < (y636.length : Int)
          ·rw [if_pos c89] at H
           have c89b0 : decide (t614 < (y636.length : Int)) = true:=decide_eq_true c89
           clear c89
           obtain ⟨y639,hy639⟩ : ∃ y_ : List (S60),y_ = (y636.set (t614 : Int).toNat (⟨(rd_T60 x3_1 t614).f0,(rd_T60 x3_1 t614).f1⟩ : S60)):=⟨_,rfl⟩
           replace H : (some (y639,t620,t621)) = some (r1,r2,r3):=by first|(rw [hy639];with_reducible exact H)|(have H2_:=(Option.bind_some _ _).symm.trans H;rw [hy639];with_reducible exact H2_)|(have H2_:=(Option.bind_some _ _).symm.trans H;with_reducible exact H2_)|with_reducible exact H|(rw [hy639];exact H)|exact H
           have Ny639:=zM hy639
           clear hy639
           simp only [Option.some.injEq,Prod.mk.injEq] at H
           obtain ⟨rfl,rfl,rfl⟩:=H
           obtain ⟨Ao91,co91,eo91⟩:=Kd.R_slice HO_3.out
           subst eo91
           go_wp2_with (first|((with_reducible refine gate_callee (f:=72) rfl ?_);refine goesL_ (some 46) rfl rfl Try.func72 (by kernel_rfl) rfl #[.pointer (some ⟨g,0,none⟩),.int .i64 (x3_1.length : Int)] rfl (by (try simp only [List.map_toArray,List.map_cons,List.map_nil]);first|done|rfl|(simp only [List.length_drop,List.length_take];rfl)) ?_;(with_reducible refine (spec_l1Cur_pick.calls g s0_0 x1001_1 x1002_1 (x3_1.length : Int) t614 t615 t616 w0 _ ?side1 ?side2 A47.out).mono ?_);(case side1=>repeat (first|(with_reducible first|exact HI0.out|apply IsS87.alloc|apply IsS87.drewN|apply IsS87.drew|apply IsS87.set_1|apply IsS87.set_2)|exact HI0.out));(case side2=>repeat (first|(with_reducible first|exact HB.out|apply zD|apply zE|apply zF|refine below_set ?_ (IsS87.ge HI0.out))|exact HB.out));rintro e w92 ⟨rfl,hi,hb,hk⟩;refine ⟨_,rfl,?_⟩;have n0_:=zM (Kd.R_mono (Kd.R_keep (IsS87.apart (show IsS87 w0 _ g s0_0 x1001_1 x1002_1 from by repeat (first|(with_reducible first|exact HI0.out|apply IsS87.alloc|apply IsS87.drewN|apply IsS87.drew|apply IsS87.set_1|apply IsS87.set_2)|exact HI0.out)) (by (with_reducible repeat (first|apply zA|apply zB|apply zC));exact HO_3.out) (by decide)) hk (fun _ h=>h.2)) (fun _ h=>h.1));have n1_:=zM (KeepBut.trans (by repeat (first|(with_reducible first|exact HK.out|apply KeepBut.set_|apply keep_drewN|apply keep_drew|apply keep_alloc)|exact HK.out)) hk (.inl rfl));have n2_:=zM (hb);have n3_:=zM (hi);clear HO_3;clear HK;clear HB;clear HI0;have HO_3:=n0_;have HK:=n1_;have HB:=n2_;have HI0:=n3_;clear n0_ n1_ n2_ n3_;(try clear hb);(try clear hb2);(try clear hk);(try clear hi);have p617 : 0 ≤ (t614 : Int):=of_decide_eq_true (by first|(with_reducible assumption)|assumption);have q617 : t614 < (x3_1.length : Int):=of_decide_eq_true (by first|(with_reducible assumption)|assumption);obtain ⟨ad617,e617,hx617_0,hx617_1⟩:=at_T60 (zN HO_3.out).2.2 t614 p617 q617;cases e617;replace p617:=eq_true p617;replace q617:=eq_true q617)|((with_reducible refine gate_dst (N:=9) rfl ?_);refine box_event ?hg (N:=9) ?hd (cs := #[.int .i64 0,.int .i64 0]) (t:=60) ?hr ?_;(case hd=>rfl);(case hg=>rfl);(case hr=>first|(go_simp;done)|(go_simp;rfl));intro gb618 hg w93 hbox hb;have n0_:=zM (zP (Kd.R_elderB (by (with_reducible repeat (first|apply zA|apply zB|apply zC));exact HO_3.out) gb618 (Nat.le_of_eq hg.symm)) hb);have n1_:=zM (IsS87.below (by repeat (first|(with_reducible first|exact HI0.out|apply IsS87.alloc|apply IsS87.drewN|apply IsS87.drew|apply IsS87.set_1|apply IsS87.set_2)|exact HI0.out)) hb);have n2_:=zM (KeepBut.trans (by repeat (first|(with_reducible first|exact HK.out|apply KeepBut.set_|apply keep_drewN|apply keep_drew|apply keep_alloc)|exact HK.out)) (KeepBut.of_below hb g none) (.inl rfl));have n3_:=zM (zQ (by repeat (first|(with_reducible first|exact HB.out|apply zD|apply zE|apply zF|refine below_set ?_ (IsS87.ge HI0.out))|exact HB.out)) hb);have n4_:=zM (hbox);have n5_:=zM ((by rw [hg];exact (keep_size (w:=w) (g:=g) (row:=none) (by repeat (first|(with_reducible first|exact HK.out|apply KeepBut.set_|apply keep_drewN|apply keep_drew|apply keep_alloc)|exact HK.out))) : w.heap.size ≤ gb618));have n6_:=zM ((Nat.le_trans HW0.out (by rw [hg];exact (keep_size (w:=w) (g:=g) (row:=none) (by repeat (first|(with_reducible first|exact HK.out|apply KeepBut.set_|apply keep_drewN|apply keep_drew|apply keep_alloc)|exact HK.out))) : w.heap.size ≤ gb618) : w0.heap.size ≤ gb618));have n7_:=zM ((by rw [hg];exact Nat.ne_of_lt (IsS87.lt (show IsS87 w0 _ g s0_0 t615 t616 from by repeat (first|(with_reducible first|exact HI0.out|apply IsS87.alloc|apply IsS87.drewN|apply IsS87.drew|apply IsS87.set_1|apply IsS87.set_2)|exact HI0.out))) : g ≠ gb618));have n8_:=zM ((by rw [hg];exact Nat.ne_of_gt (IsS87.lt (show IsS87 w0 _ g s0_0 t615 t616 from by repeat (first|(with_reducible first|exact HI0.out|apply IsS87.alloc|apply IsS87.drewN|apply IsS87.drew|apply IsS87.set_1|apply IsS87.set_2)|exact HI0.out))) : gb618 ≠ g));clear HO_3;clear HI0;clear HK;clear HB;have HO_3:=n0_;have HI0:=n1_;have HK:=n2_;have HB:=n3_;have BK618:=n4_;have GW618:=n5_;have GE618:=n6_;have NB0_618:=n7_;have NB618_0:=n8_;clear n0_ n1_ n2_ n3_ n4_ n5_ n6_ n7_ n8_;clear hb hbox hg;have hnb94:=NB618_0.out;have hnc94:=NB0_618.out;have hcz95_0 : w93.cell? ⟨gb618,0,none⟩ = some (.int .i64 0):=(blk_cell BK618.out 0).trans rfl;have hcz95_1 : w93.cell? ⟨gb618,1,none⟩ = some (.int .i64 0):=(blk_cell BK618.out 1).trans rfl;have hfz95_0:=blk_frozen BK618.out 0;have hfz95_1:=blk_frozen BK618.out 1)|((with_reducible refine gate_callee (f:=72) rfl ?_);refine goesL_ (some 52) rfl rfl Try.func72 (by kernel_rfl) rfl #[.pointer (some ⟨g,0,none⟩),.int .i64 40] rfl (by (try simp only [List.map_toArray,List.map_cons,List.map_nil]);first|done|rfl|(simp only [List.length_drop,List.length_take];rfl)) ?_;(with_reducible refine (spec_l1Cur_pick.calls g s0_0 t615 t616 40 t619 t620 t621 w0 _ ?side1 ?side2 A50.out).mono ?_);(case side1=>repeat (first|(with_reducible first|exact HI0.out|apply IsS87.alloc|apply IsS87.drewN|apply IsS87.drew|apply IsS87.set_1|apply IsS87.set_2|apply IsS87.far (hne:=NB0_618.out))|exact HI0.out));(case side2=>repeat (first|(with_reducible first|exact HB.out|apply zD|apply zE|apply zF|refine below_set ?_ (IsS87.ge HI0.out)|refine below_set ?_ GE618.out)|exact HB.out));rintro e w96 ⟨rfl,hi,hb,hk⟩;refine ⟨_,rfl,?_⟩;have n0_:=zM (Kd.R_mono (Kd.R_keep (IsS87.apart (show IsS87 w0 _ g s0_0 t615 t616 from by repeat (first|(with_reducible first|exact HI0.out|apply IsS87.alloc|apply IsS87.drewN|apply IsS87.drew|apply IsS87.set_1|apply IsS87.set_2|apply IsS87.far (hne:=NB0_618.out))|exact HI0.out)) (by (with_reducible repeat (first|apply zA|apply zB|apply zC));exact (Kd.R_mono (Kd.R_far (p:=⟨gb618,1,none⟩) (Kd.R_far (p:=⟨gb618,0,none⟩) (Kd.R_mono HO_3.out (fun k_ hk=>(⟨hk,hk.2⟩ : _ ∧ k_ ≠ gb618))) (fun _ hk=>hk.2) (.int .i64 ((rd_T60 x3_1 t614).f0))) (fun _ hk=>hk.2) (.int .i64 ((rd_T60 x3_1 t614).f1))) (fun _ h_=>h_.1))) (by decide)) hk (fun _ h=>h.2)) (fun _ h=>h.1));have n1_:=zM (KeepBut.blk hk (g':=gb618) (o := .cells #[.int .i64 ((rd_T60 x3_1 t614).f0),.int .i64 ((rd_T60 x3_1 t614).f1)] 60 (0,0)) (by (with_reducible repeat (first|refine zJ ?_ _|refine zK ?_|refine zL ?_ _));refine blk_put (cs := #[.int .i64 ((rd_T60 x3_1 t614).f0),.int .i64 0]) ?_ 1 _ rfl;(with_reducible repeat (first|refine zJ ?_ _|refine zK ?_|refine zL ?_ _));refine blk_put (cs := #[.int .i64 0,.int .i64 0]) ?_ 0 _ rfl;(with_reducible repeat (first|refine zJ ?_ _|refine zK ?_|refine zL ?_ _));exact BK618.out) NB618_0.out (by simp));have n2_:=zM (KeepBut.trans (by repeat (first|(with_reducible first|exact HK.out|apply KeepBut.set_|apply keep_drewN|apply keep_drew|apply keep_alloc|refine keep_far ?_ GW618.out _)|exact HK.out)) hk (.inl rfl));have n3_:=zM (hb);have n4_:=zM (hi);clear HO_3;clear BK618;clear HK;clear HB;clear HI0;have HO_3:=n0_;have BK618:=n1_;have HK:=n2_;have HB:=n3_;have HI0:=n4_;clear n0_ n1_ n2_ n3_ n4_;(try clear hb);(try clear hb2);(try clear hk);(try clear hi);have q97 : (1 : Int) ≤ ((x3_1.length : Int) : Int):=of_decide_eq_true (by first|(with_reducible assumption)|assumption);obtain ⟨i097,hi097,_,hsz97,_⟩:=info_parts info60;have hcut97:=cut_to (P:=Try.prog) 25 60 .i64 Try.underlying25 hi097 (some ad617) x3_1.length co91 1 (by omega) q97 (zN HO_3.out).2.1;have hr97:=Kd.R_take (m:=(1 : Int).toNat) HO_3.out (by omega);have hy97 : y636.length = (1 : Int).toNat:=(by rw [Ny636.out,List.length_take];omega);rw [← Ny636.out] at hr97;rw [← hy97] at hr97 hcut97;clear hy97 hi097 hsz97 HO_3;have HO638:=zM hr97;clear hr97;replace q97:=eq_true q97;have hcz98_0 : w96.cell? ⟨gb618,0,none⟩ = some (.int .i64 ((rd_T60 x3_1 t614).f0)):=(blk_cell BK618.out 0).trans rfl;have hcz98_1 : w96.cell? ⟨gb618,1,none⟩ = some (.int .i64 ((rd_T60 x3_1 t614).f1)):=(blk_cell BK618.out 1).trans rfl;have hfz98_0:=blk_frozen BK618.out 0;have hfz98_1:=blk_frozen BK618.out 1;have p90 : 0 ≤ (t614 : Int):=of_decide_eq_true (by first|(with_reducible assumption)|assumption);have q90 : (t614 : Int) < ((y636.length : Int) : Int):=of_decide_eq_true (by first|(with_reducible assumption)|assumption);obtain ⟨go90,co90,eo90,gb90,gl90,cl90,HG90⟩:=Kd.R_form HO638.out (by omega);(first|cases eo90|(injection eo90 with ea_ en_ ec_;(first|subst ea_|(injection ea_ with ea_;subst ea_));subst ec_;clear en_));have GB90:=zM gb90;have GG90:=zM HG90;clear gb90 gl90 HG90;(first|simp only [add_plain] at hx617_0|skip);(first|simp only [add_plain] at hx617_1|skip);obtain ⟨ce90,hcl90,hM90,hcc90,hfr90⟩:=Kd.R_elem HO638.out z60 (t614 : Int) p90 q90;obtain rfl:=k60_openM hM90;have hx90_0 : w96.cell? ⟨go90,(t614 : Int).toNat * 2,none⟩ = some (.int .i64 ((rd_T60 y636 t614).f0)):=hcc90 0 _ rfl;have hx90_1 : w96.cell? ⟨go90,(t614 : Int).toNat * 2 + 1,none⟩ = some (.int .i64 ((rd_T60 y636 t614).f1)):=hcc90 1 _ rfl;have hf90_0 : w96.frozen? ⟨go90,(t614 : Int).toNat * 2,none⟩ = false:=hfr90 0;have hf90_1 : w96.frozen? ⟨go90,(t614 : Int).toNat * 2 + 1,none⟩ = false:=hfr90 1;clear hcl90 hcc90 hfr90;(try clear hM90);replace p90:=eq_true p90;replace q90:=eq_true q90;have n_:=zM (Kd.R_mono (ok':=(fun k_=>k_ ≠ gb618)) HO638.out (fun k_ hk=>hk.2));clear HO638;have HO638:=n_;clear n_;have HX99:=zM (show Kd.R k60 60 w96 w.heap.size (fun k_=>k_ ≠ gb618) (.slice (some ⟨go90,0,none⟩) y636.length co91) y636 from (by (with_reducible repeat (first|apply zA|apply zB|apply zC));exact HO638.out));obtain ⟨ce99,hcl99,hM99,hcc99,hfr99⟩:=Kd.R_elem HX99.out z60 (t614 : Int) (of_decide_eq_true (by first|(with_reducible assumption)|assumption)) (by have h_ : (t614 : Int) < ((y636.length : Int) : Int):=of_decide_eq_true (by first|(with_reducible assumption)|assumption);first|exact h_|(have e_:=(zN HO638.out).1;omega)|simpa using h_);obtain rfl:=k60_openM hM99;have HP99:=Kd.R_seg HX99.out (t614 : Int) (of_decide_eq_true (by first|(with_reducible assumption)|assumption)) (by have h_ : (t614 : Int) < ((y636.length : Int) : Int):=of_decide_eq_true (by first|(with_reducible assumption)|assumption);first|exact h_|(have e_:=(zN HO638.out).1;omega)|simpa using h_) (seg:=[.int .i64 ((rd_T60 x3_1 t614).f0),.int .i64 ((rd_T60 x3_1 t614).f1)]) (j:=0) hcl99 hcc99 (show 2 ≤ 2 from by decide) (x':=(⟨(rd_T60 x3_1 t614).f0,(rd_T60 x3_1 t614).f1⟩ : S60)) (k60_mkM _ _ _ (⟨(rd_T60 x3_1 t614).f0,(rd_T60 x3_1 t614).f1⟩ : S60) ) (fun _ hk=>hk);have hx99_0:=hcc99 0 _ rfl;(try simp only [show (k60).sz = 2 from rfl,Nat.mul_one,Nat.add_zero] at hx99_0);have hf99_0:=hfr99 0;(try simp only [show (k60).sz = 2 from rfl,Nat.mul_one,Nat.add_zero] at hf99_0);have hx99_1:=hcc99 1 _ rfl;(try simp only [show (k60).sz = 2 from rfl,Nat.mul_one,Nat.add_zero] at hx99_1);have hf99_1:=hfr99 1;(try simp only [show (k60).sz = 2 from rfl,Nat.mul_one,Nat.add_zero] at hf99_1);clear hcl99 hcc99 hfr99;(try clear hM99))|((with_reducible refine gate_store (t:=60) (p:=101) rfl ?_);refine store_event (t:=60) (p:=101) (v:=?vo_w100) (w1:=((w96.setCell ⟨go90,(t614 : Int).toNat * 2,none⟩ (.int .i64 ((rd_T60 x3_1 t614).f0))).setCell ⟨go90,(t614 : Int).toNat * 2 + 1,none⟩ (.int .i64 ((rd_T60 x3_1 t614).f1)))) ?hg ?ho ?hn ?hr ?_;(case ho=>rfl);(case hg=>rfl);(case hn=>rfl);(case hr=>first|(go_simp;done)|(go_simp;rfl));intro w100 hw;have hg : w96.grownBy w100 (some go90):=(by rw [hw];exact HP99.2);have hp_ : Kd.R k60 60 w100 w.heap.size (fun k_=>k_ ≠ gb618) (.slice (some ⟨go90,0,none⟩) y636.length co91) y639:=(by rw [hw,Ny639.out];exact HP99.1);clear HP99;have n0_:=zM (hp_);have n1_:=zM (IsS87.grown (by repeat (first|(with_reducible first|exact HI0.out|apply IsS87.alloc|apply IsS87.drewN|apply IsS87.drew|apply IsS87.set_1|apply IsS87.set_2|apply IsS87.far (hne:=NB0_618.out))|exact HI0.out)) hg (IsS87.own_ne HI0.out HO638.out (by decide)));have n2_:=zM (blk_grown (g:=gb618) (o := .cells #[.int .i64 ((rd_T60 x3_1 t614).f0),.int .i64 ((rd_T60 x3_1 t614).f1)] 60 (0,0)) (by (with_reducible repeat (first|refine zJ ?_ _|refine zK ?_|refine zL ?_ _));exact BK618.out) hg (Kd.R_away HO638.out (fun _ hk=>hk)));have n3_:=zM ((by rw [hw];exact below_set (below_set (HB.out) (Nat.le_trans HL.out GB90.out)) (Nat.le_trans HL.out GB90.out) : Below w0.heap.size w0 w100));have n4_:=zM (KeepBut.trans (by repeat (first|(with_reducible first|exact HK.out|apply KeepBut.set_|apply keep_drewN|apply keep_drew|apply keep_alloc|refine keep_far ?_ GW618.out _)|exact HK.out)) (KeepBut.of_grown hg g) (Kd.R_base2 HO638.out));clear HO638;clear HI0;clear BK618;clear HB;clear HK;have HO638:=n0_;have HI0:=n1_;have BK618:=n2_;have HB:=n3_;have HK:=n4_;clear n0_ n1_ n2_ n3_ n4_;clear hg hw hp_))
           go_ret
           exact ⟨_,by first|rfl|(simp [errW_none,errW_some] <;> rfl)|(simp [*,errW_none,errW_some] <;> rfl),by (with_reducible repeat (first|apply zA|apply zB|apply zC));exact Kd.R_mono HO638.out (fun _ hk=>trivial),by repeat (first|(with_reducible first|exact HI0.out|apply IsS87.alloc|apply IsS87.drewN|apply IsS87.drew|apply IsS87.set_1|apply IsS87.set_2|apply IsS87.far (hne:=NB0_618.out))|exact HI0.out),by repeat (first|(with_reducible first|exact HB.out|apply zD|apply zE|apply zF|refine below_set ?_ (IsS87.ge HI0.out)|refine below_set ?_ GE618.out)|exact HB.out),by repeat (first|(with_reducible first|exact HK.out|apply KeepBut.set_|apply keep_drewN|apply keep_drew|apply keep_alloc|refine keep_far ?_ GW618.out _)|exact HK.out)⟩
          ·rw [if_neg c89] at H
           have c89b0 : decide (t614 < (y636.length : Int)) = false:=decide_eq_false c89
           clear c89
           simp only [Option.some.injEq,Prod.mk.injEq] at H
           obtain ⟨rfl,rfl,rfl⟩:=H
           obtain ⟨Ao101,co101,eo101⟩:=Kd.R_slice HO_3.out
           subst eo101
           go_wp2_with (first|((with_reducible refine gate_callee (f:=72) rfl ?_);refine goesL_ (some 46) rfl rfl Try.func72 (by kernel_rfl) rfl #[.pointer (some ⟨g,0,none⟩),.int .i64 (x3_1.length : Int)] rfl (by (try simp only [List.map_toArray,List.map_cons,List.map_nil]);first|done|rfl|(simp only [List.length_drop,List.length_take];rfl)) ?_;(with_reducible refine (spec_l1Cur_pick.calls g s0_0 x1001_1 x1002_1 (x3_1.length : Int) t614 t615 t616 w0 _ ?side1 ?side2 A47.out).mono ?_);(case side1=>repeat (first|(with_reducible first|exact HI0.out|apply IsS87.alloc|apply IsS87.drewN|apply IsS87.drew|apply IsS87.set_1|apply IsS87.set_2)|exact HI0.out));(case side2=>repeat (first|(with_reducible first|exact HB.out|apply zD|apply zE|apply zF|refine below_set ?_ (IsS87.ge HI0.out))|exact HB.out));rintro e w102 ⟨rfl,hi,hb,hk⟩;refine ⟨_,rfl,?_⟩;have n0_:=zM (Kd.R_mono (Kd.R_keep (IsS87.apart (show IsS87 w0 _ g s0_0 x1001_1 x1002_1 from by repeat (first|(with_reducible first|exact HI0.out|apply IsS87.alloc|apply IsS87.drewN|apply IsS87.drew|apply IsS87.set_1|apply IsS87.set_2)|exact HI0.out)) (by (with_reducible repeat (first|apply zA|apply zB|apply zC));exact HO_3.out) (by decide)) hk (fun _ h=>h.2)) (fun _ h=>h.1));have n1_:=zM (KeepBut.trans (by repeat (first|(with_reducible first|exact HK.out|apply KeepBut.set_|apply keep_drewN|apply keep_drew|apply keep_alloc)|exact HK.out)) hk (.inl rfl));have n2_:=zM (hb);have n3_:=zM (hi);clear HO_3;clear HK;clear HB;clear HI0;have HO_3:=n0_;have HK:=n1_;have HB:=n2_;have HI0:=n3_;clear n0_ n1_ n2_ n3_;(try clear hb);(try clear hb2);(try clear hk);(try clear hi);have p617 : 0 ≤ (t614 : Int):=of_decide_eq_true (by first|(with_reducible assumption)|assumption);have q617 : t614 < (x3_1.length : Int):=of_decide_eq_true (by first|(with_reducible assumption)|assumption);obtain ⟨ad617,e617,hx617_0,hx617_1⟩:=at_T60 (zN HO_3.out).2.2 t614 p617 q617;cases e617;replace p617:=eq_true p617;replace q617:=eq_true q617)|((with_reducible refine gate_dst (N:=9) rfl ?_);refine box_event ?hg (N:=9) ?hd (cs := #[.int .i64 0,.int .i64 0]) (t:=60) ?hr ?_;(case hd=>rfl);(case hg=>rfl);(case hr=>first|(go_simp;done)|(go_simp;rfl));intro gb618 hg w103 hbox hb;have n0_:=zM (zP (Kd.R_elderB (by (with_reducible repeat (first|apply zA|apply zB|apply zC));exact HO_3.out) gb618 (Nat.le_of_eq hg.symm)) hb);have n1_:=zM (IsS87.below (by repeat (first|(with_reducible first|exact HI0.out|apply IsS87.alloc|apply IsS87.drewN|apply IsS87.drew|apply IsS87.set_1|apply IsS87.set_2)|exact HI0.out)) hb);have n2_:=zM (KeepBut.trans (by repeat (first|(with_reducible first|exact HK.out|apply KeepBut.set_|apply keep_drewN|apply keep_drew|apply keep_alloc)|exact HK.out)) (KeepBut.of_below hb g none) (.inl rfl));have n3_:=zM (zQ (by repeat (first|(with_reducible first|exact HB.out|apply zD|apply zE|apply zF|refine below_set ?_ (IsS87.ge HI0.out))|exact HB.out)) hb);have n4_:=zM (hbox);have n5_:=zM ((by rw [hg];exact (keep_size (w:=w) (g:=g) (row:=none) (by repeat (first|(with_reducible first|exact HK.out|apply KeepBut.set_|apply keep_drewN|apply keep_drew|apply keep_alloc)|exact HK.out))) : w.heap.size ≤ gb618));have n6_:=zM ((Nat.le_trans HW0.out (by rw [hg];exact (keep_size (w:=w) (g:=g) (row:=none) (by repeat (first|(with_reducible first|exact HK.out|apply KeepBut.set_|apply keep_drewN|apply keep_drew|apply keep_alloc)|exact HK.out))) : w.heap.size ≤ gb618) : w0.heap.size ≤ gb618));have n7_:=zM ((by rw [hg];exact Nat.ne_of_lt (IsS87.lt (show IsS87 w0 _ g s0_0 t615 t616 from by repeat (first|(with_reducible first|exact HI0.out|apply IsS87.alloc|apply IsS87.drewN|apply IsS87.drew|apply IsS87.set_1|apply IsS87.set_2)|exact HI0.out))) : g ≠ gb618));have n8_:=zM ((by rw [hg];exact Nat.ne_of_gt (IsS87.lt (show IsS87 w0 _ g s0_0 t615 t616 from by repeat (first|(with_reducible first|exact HI0.out|apply IsS87.alloc|apply IsS87.drewN|apply IsS87.drew|apply IsS87.set_1|apply IsS87.set_2)|exact HI0.out))) : gb618 ≠ g));clear HO_3;clear HI0;clear HK;clear HB;have HO_3:=n0_;have HI0:=n1_;have HK:=n2_;have HB:=n3_;have BK618:=n4_;have GW618:=n5_;have GE618:=n6_;have NB0_618:=n7_;have NB618_0:=n8_;clear n0_ n1_ n2_ n3_ n4_ n5_ n6_ n7_ n8_;clear hb hbox hg;have hnb104:=NB618_0.out;have hnc104:=NB0_618.out;have hcz105_0 : w103.cell? ⟨gb618,0,none⟩ = some (.int .i64 0):=(blk_cell BK618.out 0).trans rfl;have hcz105_1 : w103.cell? ⟨gb618,1,none⟩ = some (.int .i64 0):=(blk_cell BK618.out 1).trans rfl;have hfz105_0:=blk_frozen BK618.out 0;have hfz105_1:=blk_frozen BK618.out 1)|((with_reducible refine gate_callee (f:=72) rfl ?_);refine goesL_ (some 52) rfl rfl Try.func72 (by kernel_rfl) rfl #[.pointer (some ⟨g,0,none⟩),.int .i64 40] rfl (by (try simp only [List.map_toArray,List.map_cons,List.map_nil]);first|done|rfl|(simp only [List.length_drop,List.length_take];rfl)) ?_;(with_reducible refine (spec_l1Cur_pick.calls g s0_0 t615 t616 40 t619 t620 t621 w0 _ ?side1 ?side2 A50.out).mono ?_);(case side1=>repeat (first|(with_reducible first|exact HI0.out|apply IsS87.alloc|apply IsS87.drewN|apply IsS87.drew|apply IsS87.set_1|apply IsS87.set_2|apply IsS87.far (hne:=NB0_618.out))|exact HI0.out));(case side2=>repeat (first|(with_reducible first|exact HB.out|apply zD|apply zE|apply zF|refine below_set ?_ (IsS87.ge HI0.out)|refine below_set ?_ GE618.out)|exact HB.out));rintro e w106 ⟨rfl,hi,hb,hk⟩;refine ⟨_,rfl,?_⟩;have n0_:=zM (Kd.R_mono (Kd.R_keep (IsS87.apart (show IsS87 w0 _ g s0_0 t615 t616 from by repeat (first|(with_reducible first|exact HI0.out|apply IsS87.alloc|apply IsS87.drewN|apply IsS87.drew|apply IsS87.set_1|apply IsS87.set_2|apply IsS87.far (hne:=NB0_618.out))|exact HI0.out)) (by (with_reducible repeat (first|apply zA|apply zB|apply zC));exact (Kd.R_mono (Kd.R_far (p:=⟨gb618,1,none⟩) (Kd.R_far (p:=⟨gb618,0,none⟩) (Kd.R_mono HO_3.out (fun k_ hk=>(⟨hk,hk.2⟩ : _ ∧ k_ ≠ gb618))) (fun _ hk=>hk.2) (.int .i64 ((rd_T60 x3_1 t614).f0))) (fun _ hk=>hk.2) (.int .i64 ((rd_T60 x3_1 t614).f1))) (fun _ h_=>h_.1))) (by decide)) hk (fun _ h=>h.2)) (fun _ h=>h.1));have n1_:=zM (KeepBut.blk hk (g':=gb618) (o := .cells #[.int .i64 ((rd_T60 x3_1 t614).f0),.int .i64 ((rd_T60 x3_1 t614).f1)] 60 (0,0)) (by (with_reducible repeat (first|refine zJ ?_ _|refine zK ?_|refine zL ?_ _));refine blk_put (cs := #[.int .i64 ((rd_T60 x3_1 t614).f0),.int .i64 0]) ?_ 1 _ rfl;(with_reducible repeat (first|refine zJ ?_ _|refine zK ?_|refine zL ?_ _));refine blk_put (cs := #[.int .i64 0,.int .i64 0]) ?_ 0 _ rfl;(with_reducible repeat (first|refine zJ ?_ _|refine zK ?_|refine zL ?_ _));exact BK618.out) NB618_0.out (by simp));have n2_:=zM (KeepBut.trans (by repeat (first|(with_reducible first|exact HK.out|apply KeepBut.set_|apply keep_drewN|apply keep_drew|apply keep_alloc|refine keep_far ?_ GW618.out _)|exact HK.out)) hk (.inl rfl));have n3_:=zM (hb);have n4_:=zM (hi);clear HO_3;clear BK618;clear HK;clear HB;clear HI0;have HO_3:=n0_;have BK618:=n1_;have HK:=n2_;have HB:=n3_;have HI0:=n4_;clear n0_ n1_ n2_ n3_ n4_;(try clear hb);(try clear hb2);(try clear hk);(try clear hi);have q107 : (1 : Int) ≤ ((x3_1.length : Int) : Int):=of_decide_eq_true (by first|(with_reducible assumption)|assumption);obtain ⟨i0107,hi0107,_,hsz107,_⟩:=info_parts info60;have hcut107:=cut_to (P:=Try.prog) 25 60 .i64 Try.underlying25 hi0107 (some ad617) x3_1.length co101 1 (by omega) q107 (zN HO_3.out).2.1;have hr107:=Kd.R_take (m:=(1 : Int).toNat) HO_3.out (by omega);have hy107 : y636.length = (1 : Int).toNat:=(by rw [Ny636.out,List.length_take];omega);rw [← Ny636.out] at hr107;rw [← hy107] at hr107 hcut107;clear hy107 hi0107 hsz107 HO_3;have HO638:=zM hr107;clear hr107;replace q107:=eq_true q107))
           go_ret
           exact ⟨_,by first|rfl|(simp [errW_none,errW_some] <;> rfl)|(simp [*,errW_none,errW_some] <;> rfl),by (with_reducible repeat (first|apply zA|apply zB|apply zC));exact Kd.R_mono HO638.out (fun _ hk=>trivial),by repeat (first|(with_reducible first|exact HI0.out|apply IsS87.alloc|apply IsS87.drewN|apply IsS87.drew|apply IsS87.set_1|apply IsS87.set_2|apply IsS87.far (hne:=NB0_618.out))|exact HI0.out),by repeat (first|(with_reducible first|exact HB.out|apply zD|apply zE|apply zF|refine below_set ?_ (IsS87.ge HI0.out)|refine below_set ?_ GE618.out)|exact HB.out),by repeat (first|(with_reducible first|exact HK.out|apply KeepBut.set_|apply keep_drewN|apply keep_drew|apply keep_alloc|refine keep_far ?_ GW618.out _)|exact HK.out)⟩
         ·rw [if_neg c88] at H
          exact absurd H (by simp)
        ·rw [if_neg c87] at H
         have c87b0 : (t619 == 2) = false:=beq_eq_false_iff_ne.mpr c87
         have c87b1 : (t619 != 2) = true:=bne_iff_ne.mpr c87
         by_cases c108 : t619 = 3
         ·rw [if_pos c108] at H
          have c108b0 : (t619 == 3) = true:=beq_iff_eq.mpr c108
          have c108b1 : (t619 != 3) = false:=bne_eq_false_iff_eq.mpr c108
          clear c108
          have H':=zM H
          clear H
          obtain ⟨Ao109,co109,eo109⟩:=Kd.R_slice HO_3.out
          subst eo109
          go_wp2_with (first|((with_reducible refine gate_callee (f:=72) rfl ?_);refine goesL_ (some 46) rfl rfl Try.func72 (by kernel_rfl) rfl #[.pointer (some ⟨g,0,none⟩),.int .i64 (x3_1.length : Int)] rfl (by (try simp only [List.map_toArray,List.map_cons,List.map_nil]);first|done|rfl|(simp only [List.length_drop,List.length_take];rfl)) ?_;(with_reducible refine (spec_l1Cur_pick.calls g s0_0 x1001_1 x1002_1 (x3_1.length : Int) t614 t615 t616 w0 _ ?side1 ?side2 A47.out).mono ?_);(case side1=>repeat (first|(with_reducible first|exact HI0.out|apply IsS87.alloc|apply IsS87.drewN|apply IsS87.drew|apply IsS87.set_1|apply IsS87.set_2)|exact HI0.out));(case side2=>repeat (first|(with_reducible first|exact HB.out|apply zD|apply zE|apply zF|refine below_set ?_ (IsS87.ge HI0.out))|exact HB.out));rintro e w110 ⟨rfl,hi,hb,hk⟩;refine ⟨_,rfl,?_⟩;have n0_:=zM (Kd.R_mono (Kd.R_keep (IsS87.apart (show IsS87 w0 _ g s0_0 x1001_1 x1002_1 from by repeat (first|(with_reducible first|exact HI0.out|apply IsS87.alloc|apply IsS87.drewN|apply IsS87.drew|apply IsS87.set_1|apply IsS87.set_2)|exact HI0.out)) (by (with_reducible repeat (first|apply zA|apply zB|apply zC));exact HO_3.out) (by decide)) hk (fun _ h=>h.2)) (fun _ h=>h.1));have n1_:=zM (KeepBut.trans (by repeat (first|(with_reducible first|exact HK.out|apply KeepBut.set_|apply keep_drewN|apply keep_drew|apply keep_alloc)|exact HK.out)) hk (.inl rfl));have n2_:=zM (hb);have n3_:=zM (hi);clear HO_3;clear HK;clear HB;clear HI0;have HO_3:=n0_;have HK:=n1_;have HB:=n2_;have HI0:=n3_;clear n0_ n1_ n2_ n3_;(try clear hb);(try clear hb2);(try clear hk);(try clear hi);have p617 : 0 ≤ (t614 : Int):=of_decide_eq_true (by first|(with_reducible assumption)|assumption);have q617 : t614 < (x3_1.length : Int):=of_decide_eq_true (by first|(with_reducible assumption)|assumption);obtain ⟨ad617,e617,hx617_0,hx617_1⟩:=at_T60 (zN HO_3.out).2.2 t614 p617 q617;cases e617;replace p617:=eq_true p617;replace q617:=eq_true q617)|((with_reducible refine gate_dst (N:=9) rfl ?_);refine box_event ?hg (N:=9) ?hd (cs := #[.int .i64 0,.int .i64 0]) (t:=60) ?hr ?_;(case hd=>rfl);(case hg=>rfl);(case hr=>first|(go_simp;done)|(go_simp;rfl));intro gb618 hg w111 hbox hb;have n0_:=zM (zP (Kd.R_elderB (by (with_reducible repeat (first|apply zA|apply zB|apply zC));exact HO_3.out) gb618 (Nat.le_of_eq hg.symm)) hb);have n1_:=zM (IsS87.below (by repeat (first|(with_reducible first|exact HI0.out|apply IsS87.alloc|apply IsS87.drewN|apply IsS87.drew|apply IsS87.set_1|apply IsS87.set_2)|exact HI0.out)) hb);have n2_:=zM (KeepBut.trans (by repeat (first|(with_reducible first|exact HK.out|apply KeepBut.set_|apply keep_drewN|apply keep_drew|apply keep_alloc)|exact HK.out)) (KeepBut.of_below hb g none) (.inl rfl));have n3_:=zM (zQ (by repeat (first|(with_reducible first|exact HB.out|apply zD|apply zE|apply zF|refine below_set ?_ (IsS87.ge HI0.out))|exact HB.out)) hb);have n4_:=zM (hbox);have n5_:=zM ((by rw [hg];exact (keep_size (w:=w) (g:=g) (row:=none) (by repeat (first|(with_reducible first|exact HK.out|apply KeepBut.set_|apply keep_drewN|apply keep_drew|apply keep_alloc)|exact HK.out))) : w.heap.size ≤ gb618));have n6_:=zM ((Nat.le_trans HW0.out (by rw [hg];exact (keep_size (w:=w) (g:=g) (row:=none) (by repeat (first|(with_reducible first|exact HK.out|apply KeepBut.set_|apply keep_drewN|apply keep_drew|apply keep_alloc)|exact HK.out))) : w.heap.size ≤ gb618) : w0.heap.size ≤ gb618));have n7_:=zM ((by rw [hg];exact Nat.ne_of_lt (IsS87.lt (show IsS87 w0 _ g s0_0 t615 t616 from by repeat (first|(with_reducible first|exact HI0.out|apply IsS87.alloc|apply IsS87.drewN|apply IsS87.drew|apply IsS87.set_1|apply IsS87.set_2)|exact HI0.out))) : g ≠ gb618));have n8_:=zM ((by rw [hg];exact Nat.ne_of_gt (IsS87.lt (show IsS87 w0 _ g s0_0 t615 t616 from by repeat (first|(with_reducible first|exact HI0.out|apply IsS87.alloc|apply IsS87.drewN|apply IsS87.drew|apply IsS87.set_1|apply IsS87.set_2)|exact HI0.out))) : gb618 ≠ g));clear HO_3;clear HI0;clear HK;clear HB;have HO_3:=n0_;have HI0:=n1_;have HK:=n2_;have HB:=n3_;have BK618:=n4_;have GW618:=n5_;have GE618:=n6_;have NB0_618:=n7_;have NB618_0:=n8_;clear n0_ n1_ n2_ n3_ n4_ n5_ n6_ n7_ n8_;clear hb hbox hg;have hnb112:=NB618_0.out;have hnc112:=NB0_618.out;have hcz113_0 : w111.cell? ⟨gb618,0,none⟩ = some (.int .i64 0):=(blk_cell BK618.out 0).trans rfl;have hcz113_1 : w111.cell? ⟨gb618,1,none⟩ = some (.int .i64 0):=(blk_cell BK618.out 1).trans rfl;have hfz113_0:=blk_frozen BK618.out 0;have hfz113_1:=blk_frozen BK618.out 1)|((with_reducible refine gate_callee (f:=72) rfl ?_);refine goesL_ (some 52) rfl rfl Try.func72 (by kernel_rfl) rfl #[.pointer (some ⟨g,0,none⟩),.int .i64 40] rfl (by (try simp only [List.map_toArray,List.map_cons,List.map_nil]);first|done|rfl|(simp only [List.length_drop,List.length_take];rfl)) ?_;(with_reducible refine (spec_l1Cur_pick.calls g s0_0 t615 t616 40 t619 t620 t621 w0 _ ?side1 ?side2 A50.out).mono ?_);(case side1=>repeat (first|(with_reducible first|exact HI0.out|apply IsS87.alloc|apply IsS87.drewN|apply IsS87.drew|apply IsS87.set_1|apply IsS87.set_2|apply IsS87.far (hne:=NB0_618.out))|exact HI0.out));(case side2=>repeat (first|(with_reducible first|exact HB.out|apply zD|apply zE|apply zF|refine below_set ?_ (IsS87.ge HI0.out)|refine below_set ?_ GE618.out)|exact HB.out));rintro e w114 ⟨rfl,hi,hb,hk⟩;refine ⟨_,rfl,?_⟩;have n0_:=zM (Kd.R_mono (Kd.R_keep (IsS87.apart (show IsS87 w0 _ g s0_0 t615 t616 from by repeat (first|(with_reducible first|exact HI0.out|apply IsS87.alloc|apply IsS87.drewN|apply IsS87.drew|apply IsS87.set_1|apply IsS87.set_2|apply IsS87.far (hne:=NB0_618.out))|exact HI0.out)) (by (with_reducible repeat (first|apply zA|apply zB|apply zC));exact (Kd.R_mono (Kd.R_far (p:=⟨gb618,1,none⟩) (Kd.R_far (p:=⟨gb618,0,none⟩) (Kd.R_mono HO_3.out (fun k_ hk=>(⟨hk,hk.2⟩ : _ ∧ k_ ≠ gb618))) (fun _ hk=>hk.2) (.int .i64 ((rd_T60 x3_1 t614).f0))) (fun _ hk=>hk.2) (.int .i64 ((rd_T60 x3_1 t614).f1))) (fun _ h_=>h_.1))) (by decide)) hk (fun _ h=>h.2)) (fun _ h=>h.1));have n1_:=zM (KeepBut.blk hk (g':=gb618) (o := .cells #[.int .i64 ((rd_T60 x3_1 t614).f0),.int .i64 ((rd_T60 x3_1 t614).f1)] 60 (0,0)) (by (with_reducible repeat (first|refine zJ ?_ _|refine zK ?_|refine zL ?_ _));refine blk_put (cs := #[.int .i64 ((rd_T60 x3_1 t614).f0),.int .i64 0]) ?_ 1 _ rfl;(with_reducible repeat (first|refine zJ ?_ _|refine zK ?_|refine zL ?_ _));refine blk_put (cs := #[.int .i64 0,.int .i64 0]) ?_ 0 _ rfl;(with_reducible repeat (first|refine zJ ?_ _|refine zK ?_|refine zL ?_ _));exact BK618.out) NB618_0.out (by simp));have n2_:=zM (KeepBut.trans (by repeat (first|(with_reducible first|exact HK.out|apply KeepBut.set_|apply keep_drewN|apply keep_drew|apply keep_alloc|refine keep_far ?_ GW618.out _)|exact HK.out)) hk (.inl rfl));have n3_:=zM (hb);have n4_:=zM (hi);clear HO_3;clear BK618;clear HK;clear HB;clear HI0;have HO_3:=n0_;have BK618:=n1_;have HK:=n2_;have HB:=n3_;have HI0:=n4_;clear n0_ n1_ n2_ n3_ n4_;(try clear hb);(try clear hb2);(try clear hk);(try clear hi)))
          go_loopg [3] k1 (fun kq v3 w' => ∃ (x3_2 : List (S60)) (x1001_2 : Int) (x1002_2 : Int),Aside0 (spec_l1Cur_tides.l1 kq x3_2 t614 s0_0 x1001_2 x1002_2 ((rd_T60 x3_1 t614).f0) ((rd_T60 x3_1 t614).f1) = some (r1,r2,r3)) ∧ Aside0 (kq ≤ k1) ∧ Aside0 (Kd.R k60 60 w' w.heap.size (fun k_=>k_ ≠ gb618) v3 x3_2) ∧ Aside0 (w'.heap[gb618]? = some (.cells #[.int .i64 ((rd_T60 x3_1 t614).f0),.int .i64 ((rd_T60 x3_1 t614).f1)] 60 (0,0))) ∧ Aside0 (IsS87 w0 w' g s0_0 x1001_2 x1002_2) ∧ Aside0 (KeepBut w w' g none) ∧ Aside0 (Below w0.heap.size w0 w'))
          case atStart=>exact ⟨(x3_1),(t620),(t621),H',⟨Nat.le_refl _⟩,⟨by (with_reducible repeat (first|apply zA|apply zB|apply zC));exact Kd.R_mono HO_3.out (fun _ hk=>hk.2)⟩,⟨by (with_reducible repeat (first|refine zJ ?_ _|refine zK ?_|refine zL ?_ _));exact BK618.out⟩,⟨by repeat (first|(with_reducible first|exact HI0.out|apply IsS87.alloc|apply IsS87.drewN|apply IsS87.drew|apply IsS87.set_1|apply IsS87.set_2|apply IsS87.far (hne:=NB0_618.out))|exact HI0.out)⟩,⟨by repeat (first|(with_reducible first|exact HK.out|apply KeepBut.set_|apply keep_drewN|apply keep_drew|apply keep_alloc|refine keep_far ?_ GW618.out _)|exact HK.out)⟩,⟨by repeat (first|(with_reducible first|exact HB.out|apply zD|apply zE|apply zF|refine below_set ?_ (IsS87.ge HI0.out)|refine below_set ?_ GE618.out)|exact HB.out)⟩⟩
          case round =>
           clear H'
           try clear c1
           try clear q1
           try clear c2
           try clear p2
           try clear c3
           try clear c4
           try clear c5
           try clear p5
           try clear q5
           try clear hx5
           try clear hf5
           try clear c6
           try clear p6
           try clear q6
           try clear hx6
           try clear hf6
           try clear c7
           try clear p7
           try clear q7
           try clear hx7
           try clear hf7
           try clear c8
           try clear hx8
           try clear hf8
           try clear c9
           try clear p9
           try clear q9
           try clear hx9
           try clear hf9
           try clear c10
           try clear c10b0
           try clear q10
           try clear c11
           try clear c12
           try clear c14
           try clear c21
           try clear c33
           try clear c40
           try clear c48
           try clear c48b0
           try clear c49
           try clear c49b0
           try clear c51
           try clear c51b0
           try clear c51b1
           try clear c53
           try clear p53
           try clear q53
           try clear hx53
           try clear hf53
           try clear c57
           try clear p61
           try clear q61
           try clear hx61
           try clear p64
           try clear c67
           try clear hx67
           try clear hf67
           try clear c69
           try clear c69b0
           try clear c69b1
           try clear c70
           try clear c71
           try clear p71
           try clear q71
           try clear hx71
           try clear hf71
           try clear c72
           try clear c75
           try clear c85
           try clear hx85
           try clear hf85
           try clear c87
           try clear c87b0
           try clear c87b1
           try clear c88
           try clear c88b0
           try clear c88b1
           try clear c89
           try clear c89b0
           try clear c90
           try clear p90
           try clear q90
           try clear hx90
           try clear hf90
           try clear c94
           try clear q97
           try clear c99
           try clear hx99
           try clear hf99
           try clear c104
           try clear q107
           try clear c108
           try clear c108b0
           try clear c108b1
           try clear c112
           try clear hcz105_0
           try clear hcz105_1
           try clear hcz113_0
           try clear hcz113_1
           try clear hcz22_0
           try clear hcz22_1
           try clear hcz27_0
           try clear hcz27_1
           try clear hcz41_0
           try clear hcz41_1
           try clear hcz58_0
           try clear hcz58_1
           try clear hcz64_0
           try clear hcz64_1
           try clear hcz66_0
           try clear hcz66_1
           try clear hcz76_0
           try clear hcz76_1
           try clear hcz82_0
           try clear hcz82_1
           try clear hcz84_0
           try clear hcz84_1
           try clear hcz95_0
           try clear hcz95_1
           try clear hcz98_0
           try clear hcz98_1
           try clear hfz105_0
           try clear hfz105_1
           try clear hfz113_0
           try clear hfz113_1
           try clear hfz22_0
           try clear hfz22_1
           try clear hfz27_0
           try clear hfz27_1
           try clear hfz41_0
           try clear hfz41_1
           try clear hfz58_0
           try clear hfz58_1
           try clear hfz64_0
           try clear hfz64_1
           try clear hfz66_0
           try clear hfz66_1
           try clear hfz76_0
           try clear hfz76_1
           try clear hfz82_0
           try clear hfz82_1
           try clear hfz84_0
           try clear hfz84_1
           try clear hfz95_0
           try clear hfz95_1
           try clear hfz98_0
           try clear hfz98_1
           try clear hx53_0
           try clear hx53_1
           try clear hx617_0
           try clear hx617_1
           try clear hx67_0
           try clear hx67_1
           try clear hx71_0
           try clear hx71_1
           try clear hx85_0
           try clear hx85_1
           try clear hx90_0
           try clear hx90_1
           try clear hx99_0
           try clear hx99_1
           try clear p2
           try clear p53
           try clear p6
           try clear p617
           try clear p71
           try clear p90
           try clear q107
           try clear q53
           try clear q617
           try clear q71
           try clear q90
           try clear q97
           obtain ⟨x3_2,x1001_2,x1002_2,HA,HK2,HO_3,BK618,HI0,HK,HB⟩:=hrel
           cases gk with
           | zero=>exact absurd HA.out (by simp [spec_l1Cur_tides.l1])
           | succ k2 =>
            have H:=HA.out
            clear HA
            simp only [spec_l1Cur_tides.l1] at H
            replace H:=Option.bind_eq_some_iff.mp H
            obtain ⟨⟨t640,t641,t642⟩,A1150,H⟩:=H
            replace H : (if (x3_2.length : Int) < (wrap64 (20 + t640)) then (if 0 ≤ (wrap64 ((x3_2.length : Int) - 1)) then (if (wrap64 ((x3_2.length : Int) - 1)) < (x3_2.length : Int) then (if x3_2.length < 8796093022208 then (spec_l1Cur_tides.l1 k2 (x3_2 ++ [(⟨wrap64 (((rd_T60 x3_2 (wrap64 ((x3_2.length : Int) - 1))).f0) + 2),150 + (100 * ((x3_2.length : Int) % 2))⟩ : S60)]) t614 s0_0 t641 t642 ((rd_T60 x3_1 t614).f0) ((rd_T60 x3_1 t614).f1)) else (none)) else (none)) else (none)) else (if t614 < (x3_2.length : Int) then (if 0 ≤ t614 then (some ((x3_2.set (t614 : Int).toNat (⟨((rd_T60 x3_1 t614).f0),((rd_T60 x3_1 t614).f1)⟩ : S60)),t641,t642)) else (none)) else (some (x3_2,t641,t642)))) = some (r1,r2,r3):=H
            have A115:=zM A1150
            clear A1150
            by_cases c116 : (x3_2.length : Int) < (wrap64 (20 + t640))
            ·rw [if_pos c116] at H
             have c116b0 : decide ((x3_2.length : Int) < (wrap64 (20 + t640))) = true:=decide_eq_true c116
             clear c116
             obtain ⟨ji117,hji117⟩ : ∃ j_ : Int,(wrap64 ((x3_2.length : Int) - 1)) = j_:=⟨_,rfl⟩
             replace H : (if 0 ≤ (ji117) then (if (ji117) < (x3_2.length : Int) then (if x3_2.length < 8796093022208 then (spec_l1Cur_tides.l1 k2 (x3_2 ++ [(⟨wrap64 (((rd_T60 x3_2 (ji117)).f0) + 2),150 + (100 * ((x3_2.length : Int) % 2))⟩ : S60)]) t614 s0_0 t641 t642 ((rd_T60 x3_1 t614).f0) ((rd_T60 x3_1 t614).f1)) else (none)) else (none)) else (none)) = some (r1,r2,r3):=by first|(rw [hji117] at H;exact H)|(simp only [hji117] at H ⊢;exact H)
             (try rw [hji117] at A115)
             have hji117w : (IntKind.i64.wrap ((x3_2.length : Int) - 1)) = ji117:=(i64_w _).trans hji117
             by_cases c118 : 0 ≤ (ji117)
             ·rw [if_pos c118] at H
              have c118b0 : decide (0 ≤ (ji117)) = true:=decide_eq_true c118
              clear c118
              by_cases c119 : (ji117) < (x3_2.length : Int)
              ·rw [if_pos c119] at H
               have c119b0 : decide ((ji117) < (x3_2.length : Int)) = true:=decide_eq_true c119
               clear c119
               by_cases c120 : x3_2.length < 8796093022208
               ·rw [if_pos c120] at H
                have LMc120:=zM c120
                clear c120
                obtain ⟨y644,hy644⟩ : ∃ y_ : List (S60),y_ = (x3_2 ++ [(⟨wrap64 (((rd_T60 x3_2 (ji117)).f0) + 2),150 + (100 * ((x3_2.length : Int) % 2))⟩ : S60)]):=⟨_,rfl⟩
                replace H : (spec_l1Cur_tides.l1 k2 y644 t614 s0_0 t641 t642 ((rd_T60 x3_1 t614).f0) ((rd_T60 x3_1 t614).f1)) = some (r1,r2,r3):=by first|(rw [hy644];with_reducible exact H)|(have H2_:=(Option.bind_some _ _).symm.trans H;rw [hy644];with_reducible exact H2_)|(have H2_:=(Option.bind_some _ _).symm.trans H;with_reducible exact H2_)|with_reducible exact H|(rw [hy644];exact H)|exact H
                have Ny644:=zM hy644
                clear hy644
                have H':=zM H
                clear H
                obtain ⟨Ao121,co121,eo121⟩:=Kd.R_slice HO_3.out
                subst eo121
                go_wp2_with (first|((with_reducible refine gate_callee (f:=72) rfl ?_);refine goesL_ (some 74) rfl rfl Try.func72 (by kernel_rfl) rfl #[.pointer (some ⟨g,0,none⟩),.int .i64 2] rfl (by (try simp only [List.map_toArray,List.map_cons,List.map_nil]);first|done|rfl|(simp only [List.length_drop,List.length_take];rfl)) ?_;(with_reducible refine (spec_l1Cur_pick.calls g s0_0 x1001_2 x1002_2 2 t640 t641 t642 w0 _ ?side1 ?side2 A115.out).mono ?_);(case side1=>repeat (first|(with_reducible first|exact HI0.out|apply IsS87.alloc|apply IsS87.drewN|apply IsS87.drew|apply IsS87.set_1|apply IsS87.set_2|apply IsS87.far (hne:=NB0_618.out))|exact HI0.out));(case side2=>repeat (first|(with_reducible first|exact HB.out|apply zD|apply zE|apply zF|refine below_set ?_ (IsS87.ge HI0.out)|refine below_set ?_ GE618.out)|exact HB.out));rintro e w122 ⟨rfl,hi,hb,hk⟩;refine ⟨_,rfl,?_⟩;have n0_:=zM (Kd.R_mono (Kd.R_keep (IsS87.apart (show IsS87 w0 _ g s0_0 x1001_2 x1002_2 from by repeat (first|(with_reducible first|exact HI0.out|apply IsS87.alloc|apply IsS87.drewN|apply IsS87.drew|apply IsS87.set_1|apply IsS87.set_2|apply IsS87.far (hne:=NB0_618.out))|exact HI0.out)) (by (with_reducible repeat (first|apply zA|apply zB|apply zC));exact HO_3.out) (by decide)) hk (fun _ h=>h.2)) (fun _ h=>h.1));have n1_:=zM (KeepBut.blk hk (g':=gb618) (o := .cells #[.int .i64 ((rd_T60 x3_1 t614).f0),.int .i64 ((rd_T60 x3_1 t614).f1)] 60 (0,0)) (by (with_reducible repeat (first|refine zJ ?_ _|refine zK ?_|refine zL ?_ _));exact BK618.out) NB618_0.out (by simp));have n2_:=zM (KeepBut.trans (by repeat (first|(with_reducible first|exact HK.out|apply KeepBut.set_|apply keep_drewN|apply keep_drew|apply keep_alloc|refine keep_far ?_ GW618.out _)|exact HK.out)) hk (.inl rfl));have n3_:=zM (hb);have n4_:=zM (hi);clear HO_3;clear BK618;clear HK;clear HB;clear HI0;have HO_3:=n0_;have BK618:=n1_;have HK:=n2_;have HB:=n3_;have HI0:=n4_;clear n0_ n1_ n2_ n3_ n4_;(try clear hb);(try clear hb2);(try clear hk);(try clear hi);have p643 : 0 ≤ ((ji117) : Int):=of_decide_eq_true (by first|(with_reducible assumption)|assumption);have q643 : (ji117) < (x3_2.length : Int):=of_decide_eq_true (by first|(with_reducible assumption)|assumption);obtain ⟨ad643,e643,hx643_0,hx643_1⟩:=at_T60 (zN HO_3.out).2.2 (ji117) p643 q643;cases e643;replace p643:=eq_true p643;replace q643:=eq_true q643)|((with_reducible refine gate_builtin (b := .append) (xs := #[.tmp 77,.tmp 92]) rfl ?_);at_builtin;refine Kd.R_append k60 w.heap.size rfl (.tmp 77) (.tmp 92) 25 60 (.agg #[(.int .i64 0),(.int .i64 0)]) 16 rfl Try.underlying25 info60 rfl (by decide) (by omega) (.slice (some ad643) x3_2.length co121) x3_2 (⟨wrap64 (((rd_T60 x3_2 (ji117)).f0) + 2),150 + (100 * ((x3_2.length : Int) % 2))⟩ : S60) [.int .i64 (wrap64 (((rd_T60 x3_2 (ji117)).f0) + 2)),.int .i64 (150 + (100 * ((x3_2.length : Int) % 2)))] (fun k_=>k_ ≠ gb618) (fun _=>False) rfl rfl ?aP (fun _ hk=>hk.elim) ?aF ?aO (Below.refl _ _) ?aS ?aL ?_;(case aP=>exact k60_mkM _ _ _ (⟨wrap64 (((rd_T60 x3_2 (ji117)).f0) + 2),150 + (100 * ((x3_2.length : Int) % 2))⟩ : S60));(case aF=>exact (fun k_ hk=>Kd.freshB (g:=gb618) (o := .cells #[.int .i64 ((rd_T60 x3_1 t614).f0),.int .i64 ((rd_T60 x3_1 t614).f1)] 60 (0,0)) (by (with_reducible repeat (first|refine zJ ?_ _|refine zK ?_|refine zL ?_ _));exact BK618.out) k_ hk));(case aO=>exact (by (with_reducible repeat (first|apply zA|apply zB|apply zC));exact HO_3.out));(case aS=>exact (keep_size (w:=w) (g:=g) (row:=none) (by repeat (first|(with_reducible first|exact HK.out|apply KeepBut.set_|apply keep_drewN|apply keep_drew|apply keep_alloc|refine keep_far ?_ GW618.out _)|exact HK.out))));(case aL=>have:=LMc120.out;omega);intro v645 w123 ho hb hg hat;rw [← Ny644.out] at ho;have n0_:=zM (blk_grown (g:=gb618) (o := .cells #[.int .i64 ((rd_T60 x3_1 t614).f0),.int .i64 ((rd_T60 x3_1 t614).f1)] 60 (0,0)) (by (with_reducible repeat (first|refine zJ ?_ _|refine zK ?_|refine zL ?_ _));exact BK618.out) hg (Kd.R_away HO_3.out (fun _ hk=>hk)));have n1_:=zM (IsS87.grown (by repeat (first|(with_reducible first|exact HI0.out|apply IsS87.alloc|apply IsS87.drewN|apply IsS87.drew|apply IsS87.set_1|apply IsS87.set_2|apply IsS87.far (hne:=NB0_618.out))|exact HI0.out)) hg (IsS87.own_ne HI0.out HO_3.out (by decide)));have n2_:=zM (below_weaken (by repeat (first|(with_reducible first|exact HB.out|apply zD|apply zE|apply zF|refine below_set ?_ (IsS87.ge HI0.out)|refine below_set ?_ GE618.out)|exact HB.out)) HL.out hb);have n3_:=zM (KeepBut.trans (by repeat (first|(with_reducible first|exact HK.out|apply KeepBut.set_|apply keep_drewN|apply keep_drew|apply keep_alloc|refine keep_far ?_ GW618.out _)|exact HK.out)) (KeepBut.of_grown hg g) (Kd.R_base2 HO_3.out));have n4_:=zM (ho);clear BK618;clear HI0;clear HB;clear HK;clear HO_3;have BK618:=n0_;have HI0:=n1_;have HB:=n2_;have HK:=n3_;have HO646:=n4_;clear n0_ n1_ n2_ n3_ n4_;clear ho hb hg hat))
                go_roundg k2
                case measure=>have:=HK1.out;have:=HK2.out;omega
                case rel=>exact ⟨(y644),(t641),(t642),H',⟨by have:=HK1.out;have:=HK2.out;omega⟩,⟨by (with_reducible repeat (first|apply zA|apply zB|apply zC));exact HO646.out⟩,⟨by (with_reducible repeat (first|refine zJ ?_ _|refine zK ?_|refine zL ?_ _));exact BK618.out⟩,⟨by repeat (first|(with_reducible first|exact HI0.out|apply IsS87.alloc|apply IsS87.drewN|apply IsS87.drew|apply IsS87.set_1|apply IsS87.set_2|apply IsS87.far (hne:=NB0_618.out))|exact HI0.out)⟩,⟨by repeat (first|(with_reducible first|exact HK.out|apply KeepBut.set_|apply keep_drewN|apply keep_drew|apply keep_alloc|refine keep_far ?_ GW618.out _)|exact HK.out)⟩,⟨by repeat (first|(with_reducible first|exact HB.out|apply zD|apply zE|apply zF|refine below_set ?_ (IsS87.ge HI0.out)|refine below_set ?_ GE618.out)|exact HB.out)⟩⟩
               ·rw [if_neg c120] at H
                exact absurd H (by simp)
              ·rw [if_neg c119] at H
               exact absurd H (by simp)
             ·rw [if_neg c118] at H
              exact absurd H (by simp)
            ·rw [if_neg c116] at H
             have c116b0 : decide ((x3_2.length : Int) < (wrap64 (20 + t640))) = false:=decide_eq_false c116
             clear c116
             by_cases c124 : t614 < (x3_2.length : Int)
             ·rw [if_pos c124] at H
              have c124b0 : decide (t614 < (x3_2.length : Int)) = true:=decide_eq_true c124
              clear c124
              by_cases c125 : 0 ≤ t614
              ·rw [if_pos c125] at H
               have c125b0 : decide (0 ≤ t614) = true:=decide_eq_true c125
               clear c125
               obtain ⟨y647,hy647⟩ : ∃ y_ : List (S60),y_ = (x3_2.set (t614 : Int).toNat (⟨((rd_T60 x3_1 t614).f0),((rd_T60 x3_1 t614).f1)⟩ : S60)):=⟨_,rfl⟩
               replace H : (some (y647,t641,t642)) = some (r1,r2,r3):=by first|(rw [hy647];with_reducible exact H)|(have H2_:=(Option.bind_some _ _).symm.trans H;rw [hy647];with_reducible exact H2_)|(have H2_:=(Option.bind_some _ _).symm.trans H;with_reducible exact H2_)|with_reducible exact H|(rw [hy647];exact H)|exact H
               have Ny647:=zM hy647
               clear hy647
               simp only [Option.some.injEq,Prod.mk.injEq] at H
               obtain ⟨rfl,rfl,rfl⟩:=H
               obtain ⟨Ao127,co127,eo127⟩:=Kd.R_slice HO_3.out
               subst eo127
               go_wp2_with (first|((with_reducible refine gate_callee (f:=72) rfl ?_);refine goesL_ (some 74) rfl rfl Try.func72 (by kernel_rfl) rfl #[.pointer (some ⟨g,0,none⟩),.int .i64 2] rfl (by (try simp only [List.map_toArray,List.map_cons,List.map_nil]);first|done|rfl|(simp only [List.length_drop,List.length_take];rfl)) ?_;(with_reducible refine (spec_l1Cur_pick.calls g s0_0 x1001_2 x1002_2 2 t640 t641 t642 w0 _ ?side1 ?side2 A115.out).mono ?_);(case side1=>repeat (first|(with_reducible first|exact HI0.out|apply IsS87.alloc|apply IsS87.drewN|apply IsS87.drew|apply IsS87.set_1|apply IsS87.set_2|apply IsS87.far (hne:=NB0_618.out))|exact HI0.out));(case side2=>repeat (first|(with_reducible first|exact HB.out|apply zD|apply zE|apply zF|refine below_set ?_ (IsS87.ge HI0.out)|refine below_set ?_ GE618.out)|exact HB.out));rintro e w128 ⟨rfl,hi,hb,hk⟩;refine ⟨_,rfl,?_⟩;have n0_:=zM (Kd.R_mono (Kd.R_keep (IsS87.apart (show IsS87 w0 _ g s0_0 x1001_2 x1002_2 from by repeat (first|(with_reducible first|exact HI0.out|apply IsS87.alloc|apply IsS87.drewN|apply IsS87.drew|apply IsS87.set_1|apply IsS87.set_2|apply IsS87.far (hne:=NB0_618.out))|exact HI0.out)) (by (with_reducible repeat (first|apply zA|apply zB|apply zC));exact HO_3.out) (by decide)) hk (fun _ h=>h.2)) (fun _ h=>h.1));have n1_:=zM (KeepBut.blk hk (g':=gb618) (o := .cells #[.int .i64 ((rd_T60 x3_1 t614).f0),.int .i64 ((rd_T60 x3_1 t614).f1)] 60 (0,0)) (by (with_reducible repeat (first|refine zJ ?_ _|refine zK ?_|refine zL ?_ _));exact BK618.out) NB618_0.out (by simp));have n2_:=zM (KeepBut.trans (by repeat (first|(with_reducible first|exact HK.out|apply KeepBut.set_|apply keep_drewN|apply keep_drew|apply keep_alloc|refine keep_far ?_ GW618.out _)|exact HK.out)) hk (.inl rfl));have n3_:=zM (hb);have n4_:=zM (hi);clear HO_3;clear BK618;clear HK;clear HB;clear HI0;have HO_3:=n0_;have BK618:=n1_;have HK:=n2_;have HB:=n3_;have HI0:=n4_;clear n0_ n1_ n2_ n3_ n4_;(try clear hb);(try clear hb2);(try clear hk);(try clear hi);have hnb129:=NB618_0.out;have hnc129:=NB0_618.out;have hcz130_0 : w128.cell? ⟨gb618,0,none⟩ = some (.int .i64 ((rd_T60 x3_1 t614).f0)):=(blk_cell BK618.out 0).trans rfl;have hcz130_1 : w128.cell? ⟨gb618,1,none⟩ = some (.int .i64 ((rd_T60 x3_1 t614).f1)):=(blk_cell BK618.out 1).trans rfl;have hfz130_0:=blk_frozen BK618.out 0;have hfz130_1:=blk_frozen BK618.out 1;have p126 : 0 ≤ (t614 : Int):=of_decide_eq_true (by first|(with_reducible assumption)|assumption);have q126 : (t614 : Int) < ((x3_2.length : Int) : Int):=of_decide_eq_true (by first|(with_reducible assumption)|assumption);obtain ⟨go126,co126,eo126,gb126,gl126,cl126,HG126⟩:=Kd.R_form HO_3.out (by omega);(first|cases eo126|(injection eo126 with ea_ en_ ec_;(first|subst ea_|(injection ea_ with ea_;subst ea_));subst ec_;clear en_));have GB126:=zM gb126;have GG126:=zM HG126;clear gb126 gl126 HG126;obtain ⟨ce126,hcl126,hM126,hcc126,hfr126⟩:=Kd.R_elem HO_3.out z60 (t614 : Int) p126 q126;obtain rfl:=k60_openM hM126;have hx126_0 : w128.cell? ⟨go126,(t614 : Int).toNat * 2,none⟩ = some (.int .i64 ((rd_T60 x3_2 t614).f0)):=hcc126 0 _ rfl;have hx126_1 : w128.cell? ⟨go126,(t614 : Int).toNat * 2 + 1,none⟩ = some (.int .i64 ((rd_T60 x3_2 t614).f1)):=hcc126 1 _ rfl;have hf126_0 : w128.frozen? ⟨go126,(t614 : Int).toNat * 2,none⟩ = false:=hfr126 0;have hf126_1 : w128.frozen? ⟨go126,(t614 : Int).toNat * 2 + 1,none⟩ = false:=hfr126 1;clear hcl126 hcc126 hfr126;(try clear hM126);replace p126:=eq_true p126;replace q126:=eq_true q126;have HX131:=zM (show Kd.R k60 60 w128 w.heap.size (fun k_=>k_ ≠ gb618) (.slice (some ⟨go126,0,none⟩) x3_2.length co127) x3_2 from (by (with_reducible repeat (first|apply zA|apply zB|apply zC));exact HO_3.out));obtain ⟨ce131,hcl131,hM131,hcc131,hfr131⟩:=Kd.R_elem HX131.out z60 (t614 : Int) (of_decide_eq_true (by first|(with_reducible assumption)|assumption)) (by have h_ : (t614 : Int) < ((x3_2.length : Int) : Int):=of_decide_eq_true (by first|(with_reducible assumption)|assumption);first|exact h_|(have e_:=(zN HO_3.out).1;omega)|simpa using h_);obtain rfl:=k60_openM hM131;have HP131:=Kd.R_seg HX131.out (t614 : Int) (of_decide_eq_true (by first|(with_reducible assumption)|assumption)) (by have h_ : (t614 : Int) < ((x3_2.length : Int) : Int):=of_decide_eq_true (by first|(with_reducible assumption)|assumption);first|exact h_|(have e_:=(zN HO_3.out).1;omega)|simpa using h_) (seg:=[.int .i64 ((rd_T60 x3_1 t614).f0),.int .i64 ((rd_T60 x3_1 t614).f1)]) (j:=0) hcl131 hcc131 (show 2 ≤ 2 from by decide) (x':=(⟨((rd_T60 x3_1 t614).f0),((rd_T60 x3_1 t614).f1)⟩ : S60)) (k60_mkM _ _ _ (⟨((rd_T60 x3_1 t614).f0),((rd_T60 x3_1 t614).f1)⟩ : S60) ) (fun _ hk=>hk);have hx131_0:=hcc131 0 _ rfl;(try simp only [show (k60).sz = 2 from rfl,Nat.mul_one,Nat.add_zero] at hx131_0);have hf131_0:=hfr131 0;(try simp only [show (k60).sz = 2 from rfl,Nat.mul_one,Nat.add_zero] at hf131_0);have hx131_1:=hcc131 1 _ rfl;(try simp only [show (k60).sz = 2 from rfl,Nat.mul_one,Nat.add_zero] at hx131_1);have hf131_1:=hfr131 1;(try simp only [show (k60).sz = 2 from rfl,Nat.mul_one,Nat.add_zero] at hf131_1);clear hcl131 hcc131 hfr131;(try clear hM131))|((with_reducible refine gate_store (t:=60) (p:=101) rfl ?_);refine store_event (t:=60) (p:=101) (v:=?vo_w132) (w1:=((w128.setCell ⟨go126,(t614 : Int).toNat * 2,none⟩ (.int .i64 ((rd_T60 x3_1 t614).f0))).setCell ⟨go126,(t614 : Int).toNat * 2 + 1,none⟩ (.int .i64 ((rd_T60 x3_1 t614).f1)))) ?hg ?ho ?hn ?hr ?_;(case ho=>rfl);(case hg=>rfl);(case hn=>rfl);(case hr=>first|(go_simp;done)|(go_simp;rfl));intro w132 hw;have hg : w128.grownBy w132 (some go126):=(by rw [hw];exact HP131.2);have hp_ : Kd.R k60 60 w132 w.heap.size (fun k_=>k_ ≠ gb618) (.slice (some ⟨go126,0,none⟩) x3_2.length co127) y647:=(by rw [hw,Ny647.out];exact HP131.1);clear HP131;have n0_:=zM (hp_);have n1_:=zM (blk_grown (g:=gb618) (o := .cells #[.int .i64 ((rd_T60 x3_1 t614).f0),.int .i64 ((rd_T60 x3_1 t614).f1)] 60 (0,0)) (by (with_reducible repeat (first|refine zJ ?_ _|refine zK ?_|refine zL ?_ _));exact BK618.out) hg (Kd.R_away HO_3.out (fun _ hk=>hk)));have n2_:=zM (IsS87.grown (by repeat (first|(with_reducible first|exact HI0.out|apply IsS87.alloc|apply IsS87.drewN|apply IsS87.drew|apply IsS87.set_1|apply IsS87.set_2|apply IsS87.far (hne:=NB0_618.out))|exact HI0.out)) hg (IsS87.own_ne HI0.out HO_3.out (by decide)));have n3_:=zM ((by rw [hw];exact below_set (below_set (HB.out) (Nat.le_trans HL.out GB126.out)) (Nat.le_trans HL.out GB126.out) : Below w0.heap.size w0 w132));have n4_:=zM (KeepBut.trans (by repeat (first|(with_reducible first|exact HK.out|apply KeepBut.set_|apply keep_drewN|apply keep_drew|apply keep_alloc|refine keep_far ?_ GW618.out _)|exact HK.out)) (KeepBut.of_grown hg g) (Kd.R_base2 HO_3.out));clear HO_3;clear BK618;clear HI0;clear HB;clear HK;have HO_3:=n0_;have BK618:=n1_;have HI0:=n2_;have HB:=n3_;have HK:=n4_;clear n0_ n1_ n2_ n3_ n4_;clear hg hw hp_))
               go_ret
               exact ⟨_,by first|rfl|(simp [errW_none,errW_some] <;> rfl)|(simp [*,errW_none,errW_some] <;> rfl),by (with_reducible repeat (first|apply zA|apply zB|apply zC));exact Kd.R_mono HO_3.out (fun _ hk=>trivial),by repeat (first|(with_reducible first|exact HI0.out|apply IsS87.alloc|apply IsS87.drewN|apply IsS87.drew|apply IsS87.set_1|apply IsS87.set_2|apply IsS87.far (hne:=NB0_618.out))|exact HI0.out),by repeat (first|(with_reducible first|exact HB.out|apply zD|apply zE|apply zF|refine below_set ?_ (IsS87.ge HI0.out)|refine below_set ?_ GE618.out)|exact HB.out),by repeat (first|(with_reducible first|exact HK.out|apply KeepBut.set_|apply keep_drewN|apply keep_drew|apply keep_alloc|refine keep_far ?_ GW618.out _)|exact HK.out)⟩
              ·rw [if_neg c125] at H
               exact absurd H (by simp)
             ·rw [if_neg c124] at H
              have c124b0 : decide (t614 < (x3_2.length : Int)) = false:=decide_eq_false c124
              clear c124
              simp only [Option.some.injEq,Prod.mk.injEq] at H
              obtain ⟨rfl,rfl,rfl⟩:=H
              obtain ⟨Ao133,co133,eo133⟩:=Kd.R_slice HO_3.out
              subst eo133
              go_wp2_with (first|((with_reducible refine gate_callee (f:=72) rfl ?_);refine goesL_ (some 74) rfl rfl Try.func72 (by kernel_rfl) rfl #[.pointer (some ⟨g,0,none⟩),.int .i64 2] rfl (by (try simp only [List.map_toArray,List.map_cons,List.map_nil]);first|done|rfl|(simp only [List.length_drop,List.length_take];rfl)) ?_;(with_reducible refine (spec_l1Cur_pick.calls g s0_0 x1001_2 x1002_2 2 t640 t641 t642 w0 _ ?side1 ?side2 A115.out).mono ?_);(case side1=>repeat (first|(with_reducible first|exact HI0.out|apply IsS87.alloc|apply IsS87.drewN|apply IsS87.drew|apply IsS87.set_1|apply IsS87.set_2|apply IsS87.far (hne:=NB0_618.out))|exact HI0.out));(case side2=>repeat (first|(with_reducible first|exact HB.out|apply zD|apply zE|apply zF|refine below_set ?_ (IsS87.ge HI0.out)|refine below_set ?_ GE618.out)|exact HB.out));rintro e w134 ⟨rfl,hi,hb,hk⟩;refine ⟨_,rfl,?_⟩;have n0_:=zM (Kd.R_mono (Kd.R_keep (IsS87.apart (show IsS87 w0 _ g s0_0 x1001_2 x1002_2 from by repeat (first|(with_reducible first|exact HI0.out|apply IsS87.alloc|apply IsS87.drewN|apply IsS87.drew|apply IsS87.set_1|apply IsS87.set_2|apply IsS87.far (hne:=NB0_618.out))|exact HI0.out)) (by (with_reducible repeat (first|apply zA|apply zB|apply zC));exact HO_3.out) (by decide)) hk (fun _ h=>h.2)) (fun _ h=>h.1));have n1_:=zM (KeepBut.blk hk (g':=gb618) (o := .cells #[.int .i64 ((rd_T60 x3_1 t614).f0),.int .i64 ((rd_T60 x3_1 t614).f1)] 60 (0,0)) (by (with_reducible repeat (first|refine zJ ?_ _|refine zK ?_|refine zL ?_ _));exact BK618.out) NB618_0.out (by simp));have n2_:=zM (KeepBut.trans (by repeat (first|(with_reducible first|exact HK.out|apply KeepBut.set_|apply keep_drewN|apply keep_drew|apply keep_alloc|refine keep_far ?_ GW618.out _)|exact HK.out)) hk (.inl rfl));have n3_:=zM (hb);have n4_:=zM (hi);clear HO_3;clear BK618;clear HK;clear HB;clear HI0;have HO_3:=n0_;have BK618:=n1_;have HK:=n2_;have HB:=n3_;have HI0:=n4_;clear n0_ n1_ n2_ n3_ n4_;(try clear hb);(try clear hb2);(try clear hk);(try clear hi)))
              go_ret
              exact ⟨_,by first|rfl|(simp [errW_none,errW_some] <;> rfl)|(simp [*,errW_none,errW_some] <;> rfl),by (with_reducible repeat (first|apply zA|apply zB|apply zC));exact Kd.R_mono HO_3.out (fun _ hk=>trivial),by repeat (first|(with_reducible first|exact HI0.out|apply IsS87.alloc|apply IsS87.drewN|apply IsS87.drew|apply IsS87.set_1|apply IsS87.set_2|apply IsS87.far (hne:=NB0_618.out))|exact HI0.out),by repeat (first|(with_reducible first|exact HB.out|apply zD|apply zE|apply zF|refine below_set ?_ (IsS87.ge HI0.out)|refine below_set ?_ GE618.out)|exact HB.out),by repeat (first|(with_reducible first|exact HK.out|apply KeepBut.set_|apply keep_drewN|apply keep_drew|apply keep_alloc|refine keep_far ?_ GW618.out _)|exact HK.out)⟩
         ·rw [if_neg c108] at H
          have c108b0 : (t619 == 3) = false:=beq_eq_false_iff_ne.mpr c108
          have c108b1 : (t619 != 3) = true:=bne_iff_ne.mpr c108
          obtain ⟨y648,hy648⟩ : ∃ y_ : List (S60),y_ = (x3_1.set (t614 : Int).toNat (⟨(rd_T60 x3_1 t614).f0,(rd_T60 x3_1 t614).f1⟩ : S60)):=⟨_,rfl⟩
          replace H : (some (y648,t620,t621)) = some (r1,r2,r3):=by first|(rw [hy648];with_reducible exact H)|(have H2_:=(Option.bind_some _ _).symm.trans H;rw [hy648];with_reducible exact H2_)|(have H2_:=(Option.bind_some _ _).symm.trans H;with_reducible exact H2_)|with_reducible exact H|(rw [hy648];exact H)|exact H
          have Ny648:=zM hy648
          clear hy648
          simp only [Option.some.injEq,Prod.mk.injEq] at H
          obtain ⟨rfl,rfl,rfl⟩:=H
          obtain ⟨Ao136,co136,eo136⟩:=Kd.R_slice HO_3.out
          subst eo136
          go_wp2_with (first|((with_reducible refine gate_callee (f:=72) rfl ?_);refine goesL_ (some 46) rfl rfl Try.func72 (by kernel_rfl) rfl #[.pointer (some ⟨g,0,none⟩),.int .i64 (x3_1.length : Int)] rfl (by (try simp only [List.map_toArray,List.map_cons,List.map_nil]);first|done|rfl|(simp only [List.length_drop,List.length_take];rfl)) ?_;(with_reducible refine (spec_l1Cur_pick.calls g s0_0 x1001_1 x1002_1 (x3_1.length : Int) t614 t615 t616 w0 _ ?side1 ?side2 A47.out).mono ?_);(case side1=>repeat (first|(with_reducible first|exact HI0.out|apply IsS87.alloc|apply IsS87.drewN|apply IsS87.drew|apply IsS87.set_1|apply IsS87.set_2)|exact HI0.out));(case side2=>repeat (first|(with_reducible first|exact HB.out|apply zD|apply zE|apply zF|refine below_set ?_ (IsS87.ge HI0.out))|exact HB.out));rintro e w137 ⟨rfl,hi,hb,hk⟩;refine ⟨_,rfl,?_⟩;have n0_:=zM (Kd.R_mono (Kd.R_keep (IsS87.apart (show IsS87 w0 _ g s0_0 x1001_1 x1002_1 from by repeat (first|(with_reducible first|exact HI0.out|apply IsS87.alloc|apply IsS87.drewN|apply IsS87.drew|apply IsS87.set_1|apply IsS87.set_2)|exact HI0.out)) (by (with_reducible repeat (first|apply zA|apply zB|apply zC));exact HO_3.out) (by decide)) hk (fun _ h=>h.2)) (fun _ h=>h.1));have n1_:=zM (KeepBut.trans (by repeat (first|(with_reducible first|exact HK.out|apply KeepBut.set_|apply keep_drewN|apply keep_drew|apply keep_alloc)|exact HK.out)) hk (.inl rfl));have n2_:=zM (hb);have n3_:=zM (hi);clear HO_3;clear HK;clear HB;clear HI0;have HO_3:=n0_;have HK:=n1_;have HB:=n2_;have HI0:=n3_;clear n0_ n1_ n2_ n3_;(try clear hb);(try clear hb2);(try clear hk);(try clear hi);have p617 : 0 ≤ (t614 : Int):=of_decide_eq_true (by first|(with_reducible assumption)|assumption);have q617 : t614 < (x3_1.length : Int):=of_decide_eq_true (by first|(with_reducible assumption)|assumption);obtain ⟨ad617,e617,hx617_0,hx617_1⟩:=at_T60 (zN HO_3.out).2.2 t614 p617 q617;cases e617;replace p617:=eq_true p617;replace q617:=eq_true q617)|((with_reducible refine gate_dst (N:=9) rfl ?_);refine box_event ?hg (N:=9) ?hd (cs := #[.int .i64 0,.int .i64 0]) (t:=60) ?hr ?_;(case hd=>rfl);(case hg=>rfl);(case hr=>first|(go_simp;done)|(go_simp;rfl));intro gb618 hg w138 hbox hb;have n0_:=zM (zP (Kd.R_elderB (by (with_reducible repeat (first|apply zA|apply zB|apply zC));exact HO_3.out) gb618 (Nat.le_of_eq hg.symm)) hb);have n1_:=zM (IsS87.below (by repeat (first|(with_reducible first|exact HI0.out|apply IsS87.alloc|apply IsS87.drewN|apply IsS87.drew|apply IsS87.set_1|apply IsS87.set_2)|exact HI0.out)) hb);have n2_:=zM (KeepBut.trans (by repeat (first|(with_reducible first|exact HK.out|apply KeepBut.set_|apply keep_drewN|apply keep_drew|apply keep_alloc)|exact HK.out)) (KeepBut.of_below hb g none) (.inl rfl));have n3_:=zM (zQ (by repeat (first|(with_reducible first|exact HB.out|apply zD|apply zE|apply zF|refine below_set ?_ (IsS87.ge HI0.out))|exact HB.out)) hb);have n4_:=zM (hbox);have n5_:=zM ((by rw [hg];exact (keep_size (w:=w) (g:=g) (row:=none) (by repeat (first|(with_reducible first|exact HK.out|apply KeepBut.set_|apply keep_drewN|apply keep_drew|apply keep_alloc)|exact HK.out))) : w.heap.size ≤ gb618));have n6_:=zM ((Nat.le_trans HW0.out (by rw [hg];exact (keep_size (w:=w) (g:=g) (row:=none) (by repeat (first|(with_reducible first|exact HK.out|apply KeepBut.set_|apply keep_drewN|apply keep_drew|apply keep_alloc)|exact HK.out))) : w.heap.size ≤ gb618) : w0.heap.size ≤ gb618));have n7_:=zM ((by rw [hg];exact Nat.ne_of_lt (IsS87.lt (show IsS87 w0 _ g s0_0 t615 t616 from by repeat (first|(with_reducible first|exact HI0.out|apply IsS87.alloc|apply IsS87.drewN|apply IsS87.drew|apply IsS87.set_1|apply IsS87.set_2)|exact HI0.out))) : g ≠ gb618));have n8_:=zM ((by rw [hg];exact Nat.ne_of_gt (IsS87.lt (show IsS87 w0 _ g s0_0 t615 t616 from by repeat (first|(with_reducible first|exact HI0.out|apply IsS87.alloc|apply IsS87.drewN|apply IsS87.drew|apply IsS87.set_1|apply IsS87.set_2)|exact HI0.out))) : gb618 ≠ g));clear HO_3;clear HI0;clear HK;clear HB;have HO_3:=n0_;have HI0:=n1_;have HK:=n2_;have HB:=n3_;have BK618:=n4_;have GW618:=n5_;have GE618:=n6_;have NB0_618:=n7_;have NB618_0:=n8_;clear n0_ n1_ n2_ n3_ n4_ n5_ n6_ n7_ n8_;clear hb hbox hg;have hnb139:=NB618_0.out;have hnc139:=NB0_618.out;have hcz140_0 : w138.cell? ⟨gb618,0,none⟩ = some (.int .i64 0):=(blk_cell BK618.out 0).trans rfl;have hcz140_1 : w138.cell? ⟨gb618,1,none⟩ = some (.int .i64 0):=(blk_cell BK618.out 1).trans rfl;have hfz140_0:=blk_frozen BK618.out 0;have hfz140_1:=blk_frozen BK618.out 1)|((with_reducible refine gate_callee (f:=72) rfl ?_);refine goesL_ (some 52) rfl rfl Try.func72 (by kernel_rfl) rfl #[.pointer (some ⟨g,0,none⟩),.int .i64 40] rfl (by (try simp only [List.map_toArray,List.map_cons,List.map_nil]);first|done|rfl|(simp only [List.length_drop,List.length_take];rfl)) ?_;(with_reducible refine (spec_l1Cur_pick.calls g s0_0 t615 t616 40 t619 t620 t621 w0 _ ?side1 ?side2 A50.out).mono ?_);(case side1=>repeat (first|(with_reducible first|exact HI0.out|apply IsS87.alloc|apply IsS87.drewN|apply IsS87.drew|apply IsS87.set_1|apply IsS87.set_2|apply IsS87.far (hne:=NB0_618.out))|exact HI0.out));(case side2=>repeat (first|(with_reducible first|exact HB.out|apply zD|apply zE|apply zF|refine below_set ?_ (IsS87.ge HI0.out)|refine below_set ?_ GE618.out)|exact HB.out));rintro e w141 ⟨rfl,hi,hb,hk⟩;refine ⟨_,rfl,?_⟩;have n0_:=zM (Kd.R_mono (Kd.R_keep (IsS87.apart (show IsS87 w0 _ g s0_0 t615 t616 from by repeat (first|(with_reducible first|exact HI0.out|apply IsS87.alloc|apply IsS87.drewN|apply IsS87.drew|apply IsS87.set_1|apply IsS87.set_2|apply IsS87.far (hne:=NB0_618.out))|exact HI0.out)) (by (with_reducible repeat (first|apply zA|apply zB|apply zC));exact (Kd.R_mono (Kd.R_far (p:=⟨gb618,1,none⟩) (Kd.R_far (p:=⟨gb618,0,none⟩) (Kd.R_mono HO_3.out (fun k_ hk=>(⟨hk,hk.2⟩ : _ ∧ k_ ≠ gb618))) (fun _ hk=>hk.2) (.int .i64 ((rd_T60 x3_1 t614).f0))) (fun _ hk=>hk.2) (.int .i64 ((rd_T60 x3_1 t614).f1))) (fun _ h_=>h_.1))) (by decide)) hk (fun _ h=>h.2)) (fun _ h=>h.1));have n1_:=zM (KeepBut.blk hk (g':=gb618) (o := .cells #[.int .i64 ((rd_T60 x3_1 t614).f0),.int .i64 ((rd_T60 x3_1 t614).f1)] 60 (0,0)) (by (with_reducible repeat (first|refine zJ ?_ _|refine zK ?_|refine zL ?_ _));refine blk_put (cs := #[.int .i64 ((rd_T60 x3_1 t614).f0),.int .i64 0]) ?_ 1 _ rfl;(with_reducible repeat (first|refine zJ ?_ _|refine zK ?_|refine zL ?_ _));refine blk_put (cs := #[.int .i64 0,.int .i64 0]) ?_ 0 _ rfl;(with_reducible repeat (first|refine zJ ?_ _|refine zK ?_|refine zL ?_ _));exact BK618.out) NB618_0.out (by simp));have n2_:=zM (KeepBut.trans (by repeat (first|(with_reducible first|exact HK.out|apply KeepBut.set_|apply keep_drewN|apply keep_drew|apply keep_alloc|refine keep_far ?_ GW618.out _)|exact HK.out)) hk (.inl rfl));have n3_:=zM (hb);have n4_:=zM (hi);clear HO_3;clear BK618;clear HK;clear HB;clear HI0;have HO_3:=n0_;have BK618:=n1_;have HK:=n2_;have HB:=n3_;have HI0:=n4_;clear n0_ n1_ n2_ n3_ n4_;(try clear hb);(try clear hb2);(try clear hk);(try clear hi);have hcz142_0 : w141.cell? ⟨gb618,0,none⟩ = some (.int .i64 ((rd_T60 x3_1 t614).f0)):=(blk_cell BK618.out 0).trans rfl;have hcz142_1 : w141.cell? ⟨gb618,1,none⟩ = some (.int .i64 ((rd_T60 x3_1 t614).f1)):=(blk_cell BK618.out 1).trans rfl;have hfz142_0:=blk_frozen BK618.out 0;have hfz142_1:=blk_frozen BK618.out 1;have p135 : 0 ≤ (t614 : Int):=of_decide_eq_true (by first|(with_reducible assumption)|assumption);have q135 : (t614 : Int) < ((x3_1.length : Int) : Int):=of_decide_eq_true (by first|(with_reducible assumption)|assumption);obtain ⟨go135,co135,eo135,gb135,gl135,cl135,HG135⟩:=Kd.R_form HO_3.out (by omega);(first|cases eo135|(injection eo135 with ea_ en_ ec_;(first|subst ea_|(injection ea_ with ea_;subst ea_));subst ec_;clear en_));have GB135:=zM gb135;have GG135:=zM HG135;clear gb135 gl135 HG135;(first|simp only [add_plain] at hx617_0|skip);(first|simp only [add_plain] at hx617_1|skip);obtain ⟨ce135,hcl135,hM135,hcc135,hfr135⟩:=Kd.R_elem HO_3.out z60 (t614 : Int) p135 q135;obtain rfl:=k60_openM hM135;have hx135_0 : w141.cell? ⟨go135,(t614 : Int).toNat * 2,none⟩ = some (.int .i64 ((rd_T60 x3_1 t614).f0)):=hcc135 0 _ rfl;have hx135_1 : w141.cell? ⟨go135,(t614 : Int).toNat * 2 + 1,none⟩ = some (.int .i64 ((rd_T60 x3_1 t614).f1)):=hcc135 1 _ rfl;have hf135_0 : w141.frozen? ⟨go135,(t614 : Int).toNat * 2,none⟩ = false:=hfr135 0;have hf135_1 : w141.frozen? ⟨go135,(t614 : Int).toNat * 2 + 1,none⟩ = false:=hfr135 1;clear hcl135 hcc135 hfr135;(try clear hM135);replace p135:=eq_true p135;replace q135:=eq_true q135;have n_:=zM (Kd.R_mono (ok':=(fun k_=>k_ ≠ gb618)) HO_3.out (fun k_ hk=>hk.2));clear HO_3;have HO_3:=n_;clear n_;have HX143:=zM (show Kd.R k60 60 w141 w.heap.size (fun k_=>k_ ≠ gb618) (.slice (some ⟨go135,0,none⟩) x3_1.length co136) x3_1 from (by (with_reducible repeat (first|apply zA|apply zB|apply zC));exact HO_3.out));obtain ⟨ce143,hcl143,hM143,hcc143,hfr143⟩:=Kd.R_elem HX143.out z60 (t614 : Int) (of_decide_eq_true (by first|(with_reducible assumption)|assumption)) (by have h_ : (t614 : Int) < ((x3_1.length : Int) : Int):=of_decide_eq_true (by first|(with_reducible assumption)|assumption);first|exact h_|(have e_:=(zN HO_3.out).1;omega)|simpa using h_);obtain rfl:=k60_openM hM143;have HP143:=Kd.R_seg HX143.out (t614 : Int) (of_decide_eq_true (by first|(with_reducible assumption)|assumption)) (by have h_ : (t614 : Int) < ((x3_1.length : Int) : Int):=of_decide_eq_true (by first|(with_reducible assumption)|assumption);first|exact h_|(have e_:=(zN HO_3.out).1;omega)|simpa using h_) (seg:=[.int .i64 ((rd_T60 x3_1 t614).f0),.int .i64 ((rd_T60 x3_1 t614).f1)]) (j:=0) hcl143 hcc143 (show 2 ≤ 2 from by decide) (x':=(⟨(rd_T60 x3_1 t614).f0,(rd_T60 x3_1 t614).f1⟩ : S60)) (k60_mkM _ _ _ (⟨(rd_T60 x3_1 t614).f0,(rd_T60 x3_1 t614).f1⟩ : S60) ) (fun _ hk=>hk);have hx143_0:=hcc143 0 _ rfl;(try simp only [show (k60).sz = 2 from rfl,Nat.mul_one,Nat.add_zero] at hx143_0);have hf143_0:=hfr143 0;(try simp only [show (k60).sz = 2 from rfl,Nat.mul_one,Nat.add_zero] at hf143_0);have hx143_1:=hcc143 1 _ rfl;(try simp only [show (k60).sz = 2 from rfl,Nat.mul_one,Nat.add_zero] at hx143_1);have hf143_1:=hfr143 1;(try simp only [show (k60).sz = 2 from rfl,Nat.mul_one,Nat.add_zero] at hf143_1);clear hcl143 hcc143 hfr143;(try clear hM143))|((with_reducible refine gate_store (t:=60) (p:=101) rfl ?_);refine store_event (t:=60) (p:=101) (v:=?vo_w144) (w1:=((w141.setCell ⟨go135,(t614 : Int).toNat * 2,none⟩ (.int .i64 ((rd_T60 x3_1 t614).f0))).setCell ⟨go135,(t614 : Int).toNat * 2 + 1,none⟩ (.int .i64 ((rd_T60 x3_1 t614).f1)))) ?hg ?ho ?hn ?hr ?_;(case ho=>rfl);(case hg=>rfl);(case hn=>rfl);(case hr=>first|(go_simp;done)|(go_simp;rfl));intro w144 hw;have hg : w141.grownBy w144 (some go135):=(by rw [hw];exact HP143.2);have hp_ : Kd.R k60 60 w144 w.heap.size (fun k_=>k_ ≠ gb618) (.slice (some ⟨go135,0,none⟩) x3_1.length co136) y648:=(by rw [hw,Ny648.out];exact HP143.1);clear HP143;have n0_:=zM (hp_);have n1_:=zM (IsS87.grown (by repeat (first|(with_reducible first|exact HI0.out|apply IsS87.alloc|apply IsS87.drewN|apply IsS87.drew|apply IsS87.set_1|apply IsS87.set_2|apply IsS87.far (hne:=NB0_618.out))|exact HI0.out)) hg (IsS87.own_ne HI0.out HO_3.out (by decide)));have n2_:=zM (blk_grown (g:=gb618) (o := .cells #[.int .i64 ((rd_T60 x3_1 t614).f0),.int .i64 ((rd_T60 x3_1 t614).f1)] 60 (0,0)) (by (with_reducible repeat (first|refine zJ ?_ _|refine zK ?_|refine zL ?_ _));exact BK618.out) hg (Kd.R_away HO_3.out (fun _ hk=>hk)));have n3_:=zM ((by rw [hw];exact below_set (below_set (HB.out) (Nat.le_trans HL.out GB135.out)) (Nat.le_trans HL.out GB135.out) : Below w0.heap.size w0 w144));have n4_:=zM (KeepBut.trans (by repeat (first|(with_reducible first|exact HK.out|apply KeepBut.set_|apply keep_drewN|apply keep_drew|apply keep_alloc|refine keep_far ?_ GW618.out _)|exact HK.out)) (KeepBut.of_grown hg g) (Kd.R_base2 HO_3.out));clear HO_3;clear HI0;clear BK618;clear HB;clear HK;have HO_3:=n0_;have HI0:=n1_;have BK618:=n2_;have HB:=n3_;have HK:=n4_;clear n0_ n1_ n2_ n3_ n4_;clear hg hw hp_))
          go_ret
          exact ⟨_,by first|rfl|(simp [errW_none,errW_some] <;> rfl)|(simp [*,errW_none,errW_some] <;> rfl),by (with_reducible repeat (first|apply zA|apply zB|apply zC));exact Kd.R_mono HO_3.out (fun _ hk=>trivial),by repeat (first|(with_reducible first|exact HI0.out|apply IsS87.alloc|apply IsS87.drewN|apply IsS87.drew|apply IsS87.set_1|apply IsS87.set_2|apply IsS87.far (hne:=NB0_618.out))|exact HI0.out),by repeat (first|(with_reducible first|exact HB.out|apply zD|apply zE|apply zF|refine below_set ?_ (IsS87.ge HI0.out)|refine below_set ?_ GE618.out)|exact HB.out),by repeat (first|(with_reducible first|exact HK.out|apply KeepBut.set_|apply keep_drewN|apply keep_drew|apply keep_alloc|refine keep_far ?_ GW618.out _)|exact HK.out)⟩
     ·rw [if_neg c49] at H
      exact absurd H (by simp)
    ·rw [if_neg c48] at H
     exact absurd H (by simp)

end Go.Proofs.Ytbglkkepfddecaa.G

-- Written by wip/tools/gen.py out of the translation (the kit's printer, one namespace a seat). Lean checks it.
namespace Go.Proofs.Ytbglkkepfddecaa.G
open Go.RowKit Go.Proofs.YtbglkkepfddecaaW.PrintWords Go.Proofs.YtbglkkepfddecaaW.PrintLast Go.Proofs.YtbglkkepfddecaaW.PrintMore
attribute [local go_sem] max2_int min2_int max_two min_two max_three min_three max_four min_four   -- for this text's walks alone
set_option linter.unusedVariables false
set_option linter.unusedSimpArgs false

/-! ### spec_DrawShiftTides: function 44 -/
def spec_DrawShiftTides.f (k : Nat) (l0 : List Int) : Option ((List (S60)) × Int × Int):=(spec_l1Cur_tides.f k l0 0 0).bind fun bt650=>((spec_l1Cur_among.f l0 bt650.2.1 bt650.2.2 (([0,1,(-1),100,240,(-3),241] : List Int))).bind fun bt658=>((spec_l1Cur_among.f l0 bt658.2.1 bt658.2.2 (([0,5,(-5),100,(-50),(-2001)] : List Int))).bind fun bt664=>(some (bt650.1,bt658.1,bt664.1))))
set_option maxHeartbeats 8000000 in
set_option maxRecDepth 100000 in
theorem spec_DrawShiftTides.calls (k : Nat) (A0 : Option Addr) (c0 : Nat) (l0 : List Int) (r1 : List (S60)) (r2 : Int) (r3 : Int) (w : World) (hr0 : Kd.C (Kd.int .u8) w A0 l0.length l0) (hc0 : l0.length ≤ c0) (h : spec_DrawShiftTides.f k l0 = some (r1,r2,r3)) :
  Calls Try.prog 44 #[.slice A0 l0.length c0] w fun e w' => ∃ v0_ : Value,e = .returned (.tuple #[v0_,.int .i64 r2,.int .i64 r3]) ∧ Kd.R k60 60 w' w.heap.size (fun _=>True) v0_ r1 ∧ Below w.heap.size w w':=by
 have hu87:=Try.underlying87
 have HR0:=zM hr0
 have HC0:=zM hc0
 clear hr0 hc0
 have HB:=zM (Below.refl w.heap.size w)
 have H : ((spec_l1Cur_tides.f k l0 0 0).bind fun bt650=>((spec_l1Cur_among.f l0 bt650.2.1 bt650.2.2 (([0,1,(-1),100,240,(-3),241] : List Int))).bind fun bt658=>((spec_l1Cur_among.f l0 bt658.2.1 bt658.2.2 (([0,5,(-5),100,(-50),(-2001)] : List Int))).bind fun bt664=>(some (bt650.1,bt658.1,bt664.1))))) = some (r1,r2,r3):=h
 clear h
 replace H:=Option.bind_eq_some_iff.mp H
 obtain ⟨⟨t650,t653,t654⟩,A20,H⟩:=H
 replace H : ((spec_l1Cur_among.f l0 t653 t654 (([0,1,(-1),100,240,(-3),241] : List Int))).bind fun bt658=>((spec_l1Cur_among.f l0 bt658.2.1 bt658.2.2 (([0,5,(-5),100,(-50),(-2001)] : List Int))).bind fun bt664=>(some (t650,bt658.1,bt664.1)))) = some (r1,r2,r3):=H
 have A2:=zM A20
 clear A20
 obtain ⟨y655,hy655⟩ : ∃ y_ : List Int,y_ = (([0,1,(-1),100,240,(-3),241] : List Int)):=⟨_,rfl⟩
 replace H : ((spec_l1Cur_among.f l0 t653 t654 y655).bind fun bt658=>((spec_l1Cur_among.f l0 bt658.2.1 bt658.2.2 (([0,5,(-5),100,(-50),(-2001)] : List Int))).bind fun bt664=>(some (t650,bt658.1,bt664.1)))) = some (r1,r2,r3):=by first|(rw [hy655];with_reducible exact H)|(have H2_:=(Option.bind_some _ _).symm.trans H;rw [hy655];with_reducible exact H2_)|(have H2_:=(Option.bind_some _ _).symm.trans H;with_reducible exact H2_)|with_reducible exact H|(rw [hy655];exact H)|exact H
 have Ny655:=zM hy655
 clear hy655
 replace H:=Option.bind_eq_some_iff.mp H
 obtain ⟨⟨t658,t659,t660⟩,A30,H⟩:=H
 replace H : ((spec_l1Cur_among.f l0 t659 t660 (([0,5,(-5),100,(-50),(-2001)] : List Int))).bind fun bt664=>(some (t650,t658,bt664.1))) = some (r1,r2,r3):=H
 have A3:=zM A30
 clear A30
 obtain ⟨y661,hy661⟩ : ∃ y_ : List Int,y_ = (([0,5,(-5),100,(-50),(-2001)] : List Int)):=⟨_,rfl⟩
 replace H : ((spec_l1Cur_among.f l0 t659 t660 y661).bind fun bt664=>(some (t650,t658,bt664.1))) = some (r1,r2,r3):=by first|(rw [hy661];with_reducible exact H)|(have H2_:=(Option.bind_some _ _).symm.trans H;rw [hy661];with_reducible exact H2_)|(have H2_:=(Option.bind_some _ _).symm.trans H;with_reducible exact H2_)|with_reducible exact H|(rw [hy661];exact H)|exact H
 have Ny661:=zM hy661
 clear hy661
 replace H:=Option.bind_eq_some_iff.mp H
 obtain ⟨⟨t664,t665,t666⟩,A40,H⟩:=H
 replace H : (some (t650,t658,t664)) = some (r1,r2,r3):=H
 have A4:=zM A40
 clear A40
 simp only [Option.some.injEq,Prod.mk.injEq] at H
 obtain ⟨rfl,rfl,rfl⟩:=H
 go_enter Try.func44,Try.ntmps44
 go_wp2_with (first|((with_reducible refine gate_dst (N:=9) rfl ?_);refine box_event ?hg (N:=9) ?hd (cs := #[.slice A0 l0.length c0,.int .i64 0,.int .u64 0]) (t:=87) ?hr ?_;(case hd=>rfl);(case hg=>rfl);(case hr=>first|(go_simp;done)|(go_simp;rfl));intro gb649 hg w5 hbox hb;have n0_:=zM (zQ (by repeat (first|(with_reducible first|exact HB.out|apply zD|apply zE|apply zF)|exact HB.out)) hb);have n1_:=zM ((by rw [hg];exact (zR (by repeat (first|(with_reducible first|exact HB.out|apply zD|apply zE|apply zF)|exact HB.out))) : w.heap.size ≤ gb649));have n2_:=zM ((by rw [hg];exact (zR (by repeat (first|(with_reducible first|exact HB.out|apply zD|apply zE|apply zF)|exact HB.out))) : w.heap.size ≤ gb649));have n3_:=zM ((show IsS87 w w5 gb649 l0 0 0 from ⟨_,_,hbox,(by rw [hg];exact (zR (by repeat (first|(with_reducible first|exact HB.out|apply zD|apply zE|apply zF)|exact HB.out))) : w.heap.size ≤ gb649),HR0.out⟩));clear HB;have HB:=n0_;have GW649:=n1_;have GE649:=n2_;have HI649:=n3_;clear n0_ n1_ n2_ n3_;clear hb hbox hg)|((with_reducible refine gate_callee (f:=69) rfl ?_);refine goesL_ (some 11) rfl rfl Try.func69 (by kernel_rfl) rfl #[.pointer (some ⟨gb649,0,none⟩)] rfl (by (try simp only [List.map_toArray,List.map_cons,List.map_nil]);first|done|rfl|(simp only [List.length_drop,List.length_take];rfl)) ?_;(with_reducible refine (spec_l1Cur_tides.calls k gb649 l0 0 0 t650 t653 t654 w _ ?side1 ?side2 A2.out).mono ?_);(case side1=>repeat (first|(with_reducible first|exact HI649.out|apply IsS87.alloc|apply IsS87.drewN|apply IsS87.drew|apply IsS87.set_1|apply IsS87.set_2)|exact HI649.out));(case side2=>repeat (first|(with_reducible first|exact HB.out|apply zD|apply zE|apply zF|refine below_set ?_ (IsS87.ge HI649.out))|exact HB.out));rintro e w6 ⟨v651,rfl,ho0,hi,hb,hk⟩;refine ⟨_,rfl,?_⟩;have n0_:=zM (Kd.R_lower ho0 (zR (by repeat (first|(with_reducible first|exact HB.out|apply zD|apply zE|apply zF|refine below_set ?_ (IsS87.ge HI649.out))|exact HB.out))));have n1_:=zM (hb);have n2_:=zM (hi);clear HB;clear HI649;have HO652:=n0_;have HB:=n1_;have HI649:=n2_;clear n0_ n1_ n2_;(try clear hb);(try clear hb2);(try clear hk);(try clear hi);(try clear ho0))|((with_reducible refine gate_dst (N:=14) rfl ?_);refine Kd.R_lit (Kd.int .i64) _ 3 ?hg (N:=14) ?hd (xs:=([0,1,(-1),100,240,(-3),241] : List Int)) (inner:=[.int .i64 0,.int .i64 1,.int .i64 (-1),.int .i64 100,.int .i64 240,.int .i64 (-3),.int .i64 241]) (ok:=fun _=>True) (okp:=fun _=>True) ?hr ?hp (fun _ hk=>hk) trivial (Below.refl _ _) (Nat.le_refl _) (by simp) ?_;(case hd=>rfl);(case hg=>rfl);(case hr=>first|(go_simp;done)|(go_simp;rfl));(case hp=>exact (Reps.one (show Kd.M (Kd.int .i64) _ _ _ 0 [.int .i64 0] from rfl) (Reps.one (show Kd.M (Kd.int .i64) _ _ _ 1 [.int .i64 1] from rfl) (Reps.one (show Kd.M (Kd.int .i64) _ _ _ (-1) [.int .i64 (-1)] from rfl) (Reps.one (show Kd.M (Kd.int .i64) _ _ _ 100 [.int .i64 100] from rfl) (Reps.one (show Kd.M (Kd.int .i64) _ _ _ 240 [.int .i64 240] from rfl) (Reps.one (show Kd.M (Kd.int .i64) _ _ _ (-3) [.int .i64 (-3)] from rfl) (Reps.one (show Kd.M (Kd.int .i64) _ _ _ 241 [.int .i64 241] from rfl) (Reps.none _ _)))))))));intro v656 w7 ho8 hb hg_ hnew_;clear hg_ hnew_;(first|rw [← Ny655.out] at ho8|(simp only [Int.reduceToNat] at ho8;rw [← Ny655.out] at ho8));have n0_:=zM (zP (by (with_reducible repeat (first|apply zA|apply zB|apply zC));exact HO652.out) hb);have n1_:=zM (Kd.R_lower ho8 (zR (by repeat (first|(with_reducible first|exact HB.out|apply zD|apply zE|apply zF|refine below_set ?_ (IsS87.ge HI649.out))|exact HB.out))));have n2_:=zM (IsS87.below (by repeat (first|(with_reducible first|exact HI649.out|apply IsS87.alloc|apply IsS87.drewN|apply IsS87.drew|apply IsS87.set_1|apply IsS87.set_2)|exact HI649.out)) hb);have n3_:=zM (zQ (by repeat (first|(with_reducible first|exact HB.out|apply zD|apply zE|apply zF|refine below_set ?_ (IsS87.ge HI649.out))|exact HB.out)) hb);clear HO652;clear HI649;clear HB;have HO652:=n0_;have HO657:=n1_;have HI649:=n2_;have HB:=n3_;clear n0_ n1_ n2_ n3_;clear hb ho8;obtain ⟨Ao9,co9,eo9⟩:=Kd.R_slice HO657.out;subst eo9)|((with_reducible refine gate_callee (f:=70) rfl ?_);refine goesL_ (some 15) rfl rfl Try.func70 (by kernel_rfl) rfl #[.pointer (some ⟨gb649,0,none⟩),.slice Ao9 y655.length co9] rfl (by (try simp only [List.map_toArray,List.map_cons,List.map_nil]);first|done|rfl|(simp only [List.length_drop,List.length_take];rfl)) ?_;(with_reducible refine (spec_l1Cur_among.calls gb649 l0 t653 t654 _ _ y655 t658 t659 t660 w _ ?side1 ?side2 ?side3 ?side4 ?side5 A3.out).mono ?_);(case side1=>repeat (first|(with_reducible first|exact HI649.out|apply IsS87.alloc|apply IsS87.drewN|apply IsS87.drew|apply IsS87.set_1|apply IsS87.set_2)|exact HI649.out));(case side2=>repeat (first|(with_reducible first|exact HB.out|apply zD|apply zE|apply zF|refine below_set ?_ (IsS87.ge HI649.out))|exact HB.out));(case side3=>repeat (first|exact (zN HO657.out).2.2|(with_reducible refine zG ?_ _)|(with_reducible refine zH ?_ _)|(with_reducible refine zI ?_)));(case side4=>exact (zN HO657.out).2.1);(case side5=>exact far_slice (IsS87.own_ne HI649.out HO657.out (by decide)));rintro e w10 ⟨rfl,hi,hb,hk⟩;refine ⟨_,rfl,?_⟩;have n0_:=zM (Kd.R_mono (Kd.R_keep (IsS87.apart (show IsS87 w _ gb649 l0 t653 t654 from by repeat (first|(with_reducible first|exact HI649.out|apply IsS87.alloc|apply IsS87.drewN|apply IsS87.drew|apply IsS87.set_1|apply IsS87.set_2)|exact HI649.out)) (by (with_reducible repeat (first|apply zA|apply zB|apply zC));exact HO652.out) (by decide)) hk (fun _ h=>h.2)) (fun _ h=>h.1));have n1_:=zM (Kd.R_mono (Kd.R_keep (IsS87.apart (show IsS87 w _ gb649 l0 t653 t654 from by repeat (first|(with_reducible first|exact HI649.out|apply IsS87.alloc|apply IsS87.drewN|apply IsS87.drew|apply IsS87.set_1|apply IsS87.set_2)|exact HI649.out)) (by (with_reducible repeat (first|apply zA|apply zB|apply zC));exact HO657.out) (by decide)) hk (fun _ h=>h.2)) (fun _ h=>h.1));have n2_:=zM (hb);have n3_:=zM (hi);clear HO652;clear HO657;clear HB;clear HI649;have HO652:=n0_;have HO657:=n1_;have HB:=n2_;have HI649:=n3_;clear n0_ n1_ n2_ n3_;(try clear hb);(try clear hb2);(try clear hk);(try clear hi))|((with_reducible refine gate_dst (N:=17) rfl ?_);refine Kd.R_lit (Kd.int .i64) _ 3 ?hg (N:=17) ?hd (xs:=([0,5,(-5),100,(-50),(-2001)] : List Int)) (inner:=[.int .i64 0,.int .i64 5,.int .i64 (-5),.int .i64 100,.int .i64 (-50),.int .i64 (-2001)]) (ok:=fun _=>True) (okp:=fun _=>True) ?hr ?hp (fun _ hk=>hk) trivial (Below.refl _ _) (Nat.le_refl _) (by simp) ?_;(case hd=>rfl);(case hg=>rfl);(case hr=>first|(go_simp;done)|(go_simp;rfl));(case hp=>exact (Reps.one (show Kd.M (Kd.int .i64) _ _ _ 0 [.int .i64 0] from rfl) (Reps.one (show Kd.M (Kd.int .i64) _ _ _ 5 [.int .i64 5] from rfl) (Reps.one (show Kd.M (Kd.int .i64) _ _ _ (-5) [.int .i64 (-5)] from rfl) (Reps.one (show Kd.M (Kd.int .i64) _ _ _ 100 [.int .i64 100] from rfl) (Reps.one (show Kd.M (Kd.int .i64) _ _ _ (-50) [.int .i64 (-50)] from rfl) (Reps.one (show Kd.M (Kd.int .i64) _ _ _ (-2001) [.int .i64 (-2001)] from rfl) (Reps.none _ _))))))));intro v662 w11 ho12 hb hg_ hnew_;clear hg_ hnew_;(first|rw [← Ny661.out] at ho12|(simp only [Int.reduceToNat] at ho12;rw [← Ny661.out] at ho12));have n0_:=zM (zP (by (with_reducible repeat (first|apply zA|apply zB|apply zC));exact HO652.out) hb);have n1_:=zM (Kd.R_elder' (by (with_reducible repeat (first|apply zA|apply zB|apply zC));exact HO657.out) (Kd.R_base ho12) hb);have n2_:=zM (Kd.R_lower (Kd.R_new' ho12 (Kd.R_lt (by (with_reducible repeat (first|apply zA|apply zB|apply zC));exact HO657.out))) (zR (by repeat (first|(with_reducible first|exact HB.out|apply zD|apply zE|apply zF|refine below_set ?_ (IsS87.ge HI649.out))|exact HB.out))));have n3_:=zM (IsS87.below (by repeat (first|(with_reducible first|exact HI649.out|apply IsS87.alloc|apply IsS87.drewN|apply IsS87.drew|apply IsS87.set_1|apply IsS87.set_2)|exact HI649.out)) hb);have n4_:=zM (zQ (by repeat (first|(with_reducible first|exact HB.out|apply zD|apply zE|apply zF|refine below_set ?_ (IsS87.ge HI649.out))|exact HB.out)) hb);clear HO652;clear HO657;clear HI649;clear HB;have HO652:=n0_;have HO657:=n1_;have HO663:=n2_;have HI649:=n3_;have HB:=n4_;clear n0_ n1_ n2_ n3_ n4_;clear hb ho12;obtain ⟨Ao13,co13,eo13⟩:=Kd.R_slice HO663.out;subst eo13)|((with_reducible refine gate_callee (f:=70) rfl ?_);refine goesL_ (some 18) rfl rfl Try.func70 (by kernel_rfl) rfl #[.pointer (some ⟨gb649,0,none⟩),.slice Ao13 y661.length co13] rfl (by (try simp only [List.map_toArray,List.map_cons,List.map_nil]);first|done|rfl|(simp only [List.length_drop,List.length_take];rfl)) ?_;(with_reducible refine (spec_l1Cur_among.calls gb649 l0 t659 t660 _ _ y661 t664 t665 t666 w _ ?side1 ?side2 ?side3 ?side4 ?side5 A4.out).mono ?_);(case side1=>repeat (first|(with_reducible first|exact HI649.out|apply IsS87.alloc|apply IsS87.drewN|apply IsS87.drew|apply IsS87.set_1|apply IsS87.set_2)|exact HI649.out));(case side2=>repeat (first|(with_reducible first|exact HB.out|apply zD|apply zE|apply zF|refine below_set ?_ (IsS87.ge HI649.out))|exact HB.out));(case side3=>repeat (first|exact (zN HO663.out).2.2|(with_reducible refine zG ?_ _)|(with_reducible refine zH ?_ _)|(with_reducible refine zI ?_)));(case side4=>exact (zN HO663.out).2.1);(case side5=>exact far_slice (IsS87.own_ne HI649.out HO663.out (by decide)));rintro e w14 ⟨rfl,hi,hb,hk⟩;refine ⟨_,rfl,?_⟩;have n0_:=zM (Kd.R_mono (Kd.R_keep (IsS87.apart (show IsS87 w _ gb649 l0 t659 t660 from by repeat (first|(with_reducible first|exact HI649.out|apply IsS87.alloc|apply IsS87.drewN|apply IsS87.drew|apply IsS87.set_1|apply IsS87.set_2)|exact HI649.out)) (by (with_reducible repeat (first|apply zA|apply zB|apply zC));exact HO652.out) (by decide)) hk (fun _ h=>h.2)) (fun _ h=>h.1));have n1_:=zM (Kd.R_mono (Kd.R_keep (IsS87.apart (show IsS87 w _ gb649 l0 t659 t660 from by repeat (first|(with_reducible first|exact HI649.out|apply IsS87.alloc|apply IsS87.drewN|apply IsS87.drew|apply IsS87.set_1|apply IsS87.set_2)|exact HI649.out)) (by (with_reducible repeat (first|apply zA|apply zB|apply zC));exact HO657.out) (by decide)) hk (fun _ h=>h.2)) (fun _ h=>h.1));have n2_:=zM (Kd.R_mono (Kd.R_keep (IsS87.apart (show IsS87 w _ gb649 l0 t659 t660 from by repeat (first|(with_reducible first|exact HI649.out|apply IsS87.alloc|apply IsS87.drewN|apply IsS87.drew|apply IsS87.set_1|apply IsS87.set_2)|exact HI649.out)) (by (with_reducible repeat (first|apply zA|apply zB|apply zC));exact HO663.out) (by decide)) hk (fun _ h=>h.2)) (fun _ h=>h.1));have n3_:=zM (hb);have n4_:=zM (hi);clear HO652;clear HO657;clear HO663;clear HB;clear HI649;have HO652:=n0_;have HO657:=n1_;have HO663:=n2_;have HB:=n3_;have HI649:=n4_;clear n0_ n1_ n2_ n3_ n4_;(try clear hb);(try clear hb2);(try clear hk);(try clear hi)))
 go_ret3
 exact ⟨_,by first|rfl|(simp [errW_none,errW_some] <;> rfl)|(simp [*,errW_none,errW_some] <;> rfl),by (with_reducible repeat (first|apply zA|apply zB|apply zC));exact HO652.out,by repeat (first|(with_reducible first|exact HB.out|apply zD|apply zE|apply zF|refine below_set ?_ (IsS87.ge HI649.out))|exact HB.out)⟩

/-! ### laws_rLowest: function 45 -/
def laws_rLowest.l0 : Nat → List (S60) → Int → Int → Option (Int)
 | 0,_,_,_=>none
 | k + 1,x0,x3,x4=>if x4 < (x0.length : Int) then (if 0 ≤ x4 then (if ((rd_T60 x0 x4).f1) < x3 then (laws_rLowest.l0 k x0 ((rd_T60 x0 x4).f1) (wrap64 (x4 + 1))) else (laws_rLowest.l0 k x0 x3 (wrap64 (x4 + 1)))) else (none)) else (some x3)
def laws_rLowest.f (k : Nat) (l0 : List (S60)) : Option (Int):=if 0 < (l0.length : Int) then (laws_rLowest.l0 k l0 ((rd_T60 l0 0).f1) 0) else (none)
set_option maxHeartbeats 8000000 in
set_option maxRecDepth 100000 in
theorem laws_rLowest.calls (k : Nat) (A0 : Option Addr) (c0 : Nat) (l0 : List (S60)) (r : Int) (w : World) (hr0 : Kd.C k60 w A0 l0.length l0) (hc0 : l0.length ≤ c0) (h : laws_rLowest.f k l0 = some r) :
  Calls Try.prog 45 #[.slice A0 l0.length c0] w fun e w'=>e = .returned (.int .i64 r) ∧ Drawn0 w w':=by
 have HR0:=zM hr0
 have HC0:=zM hc0
 clear hr0 hc0
 have H : (if 0 < (l0.length : Int) then (laws_rLowest.l0 k l0 ((rd_T60 l0 0).f1) 0) else (none)) = some r:=h
 clear h
 by_cases c2 : 0 < (l0.length : Int)
 ·rw [if_pos c2] at H
  have c2b0 : decide (0 < (l0.length : Int)) = true:=decide_eq_true c2
  have c2b1 : decide (0 < l0.length) = true:=decide_eq_true (by omega)
  clear c2
  have H':=zM H
  clear H
  have p667 : 0 ≤ (0 : Int):=(by omega)
  have q667 : 0 < (l0.length : Int):=of_decide_eq_true (by first|(with_reducible assumption)|assumption)
  obtain ⟨ad667,e667,hx667_0,hx667_1⟩:=at_T60 HR0.out 0 p667 q667
  cases e667
  have qi667 : (0 < l0.length) = True:=eq_true (by omega)
  (try rw [show ((0 : Int)).toNat = 0 from rfl] at hx667_0)
  (try rw [show 0 * 2 = 0 from rfl] at hx667_0)
  (try rw [Addr.add_zero'] at hx667_0)
  (try rw [show ((0 : Int)).toNat = 0 from rfl] at hx667_1)
  (try rw [show 0 * 2 = 0 from rfl] at hx667_1)
  (try rw [Addr.add_zero'] at hx667_1)
  replace p667:=eq_true p667
  replace q667:=eq_true q667
  go_enter Try.func45,Try.ntmps45
  go_wp2
  go_loopg [3,4] k (fun kq v3 v4 w' => ∃ (x3_1 : Int) (x4_1 : Int),v3 = .int .i64 x3_1 ∧ v4 = .int .i64 x4_1 ∧ Aside0 (laws_rLowest.l0 kq l0 x3_1 x4_1 = some r) ∧ Aside0 (kq ≤ k) ∧ Drawn0 w w')
  case atStart=>exact ⟨((rd_T60 l0 0).f1),(0),(by first|rfl|(simp;done)|(simp [*];done)),(by first|rfl|(simp;done)|(simp [*];done)),H',⟨Nat.le_refl _⟩,by repeat (first|exact Drawn0.refl _|apply Drawn0.step)⟩
  case round =>
   clear H'
   try clear c2
   try clear c2b0
   try clear c2b1
   try clear p2
   try clear hx667_0
   try clear hx667_1
   try clear p667
   try clear q667
   obtain ⟨x3_1,x4_1,rfl,rfl,HA,HK1,⟨m1,rfl⟩⟩:=hrel
   cases gk with
   | zero=>exact absurd HA.out (by simp [laws_rLowest.l0])
   | succ k1 =>
    have H:=HA.out
    clear HA
    simp only [laws_rLowest.l0] at H
    by_cases c3 : x4_1 < (l0.length : Int)
    ·rw [if_pos c3] at H
     have c3b0 : decide (x4_1 < (l0.length : Int)) = true:=decide_eq_true c3
     clear c3
     by_cases c4 : 0 ≤ x4_1
     ·rw [if_pos c4] at H
      have c4b0 : decide (0 ≤ x4_1) = true:=decide_eq_true c4
      clear c4
      by_cases c5 : ((rd_T60 l0 x4_1).f1) < x3_1
      ·rw [if_pos c5] at H
       have c5b0 : decide (((rd_T60 l0 x4_1).f1) < x3_1) = true:=decide_eq_true c5
       clear c5
       have H':=zM H
       clear H
       have p668 : 0 ≤ (x4_1 : Int):=of_decide_eq_true (by first|(with_reducible assumption)|assumption)
       have q668 : x4_1 < (l0.length : Int):=of_decide_eq_true (by first|(with_reducible assumption)|assumption)
       obtain ⟨ad668,e668,hx668_0,hx668_1⟩:=at_T60 HR0.out x4_1 p668 q668
       obtain rfl : ad667 = ad668:=(by injection e668)
       replace p668:=eq_true p668
       replace q668:=eq_true q668
       have p669 : 0 ≤ (x4_1 : Int):=of_decide_eq_true (by first|(with_reducible assumption)|assumption)
       have q669 : x4_1 < (l0.length : Int):=of_decide_eq_true (by first|(with_reducible assumption)|assumption)
       obtain ⟨ad669,e669,hx669_0,hx669_1⟩:=at_T60 HR0.out x4_1 p669 q669
       obtain rfl : ad667 = ad669:=(by injection e669)
       replace p669:=eq_true p669
       replace q669:=eq_true q669
       go_wp2
       go_roundg k1
       case measure=>have:=HK1.out;omega
       case rel=>exact ⟨((rd_T60 l0 x4_1).f1),(wrap64 (x4_1 + 1)),(by first|rfl|(simp;done)|(simp [*];done)),(by first|rfl|(simp;done)|(simp [*];done)),H',⟨by have:=HK1.out;omega⟩,by repeat (first|exact Drawn0.refl _|apply Drawn0.step)⟩
      ·rw [if_neg c5] at H
       have c5b0 : decide (((rd_T60 l0 x4_1).f1) < x3_1) = false:=decide_eq_false c5
       clear c5
       have H':=zM H
       clear H
       have p668 : 0 ≤ (x4_1 : Int):=of_decide_eq_true (by first|(with_reducible assumption)|assumption)
       have q668 : x4_1 < (l0.length : Int):=of_decide_eq_true (by first|(with_reducible assumption)|assumption)
       obtain ⟨ad668,e668,hx668_0,hx668_1⟩:=at_T60 HR0.out x4_1 p668 q668
       obtain rfl : ad667 = ad668:=(by injection e668)
       replace p668:=eq_true p668
       replace q668:=eq_true q668
       go_wp2
       go_roundg k1
       case measure=>have:=HK1.out;omega
       case rel=>exact ⟨(x3_1),(wrap64 (x4_1 + 1)),(by first|rfl|(simp;done)|(simp [*];done)),(by first|rfl|(simp;done)|(simp [*];done)),H',⟨by have:=HK1.out;omega⟩,by repeat (first|exact Drawn0.refl _|apply Drawn0.step)⟩
     ·rw [if_neg c4] at H
      exact absurd H (by simp)
    ·rw [if_neg c3] at H
     have c3b0 : decide (x4_1 < (l0.length : Int)) = false:=decide_eq_false c3
     clear c3
     obtain rfl:=Option.some.inj H
     go_wp2
     go_ret
     exact ⟨by first|rfl|(simp;done)|(simp [*];done),by repeat (first|exact Drawn0.refl _|apply Drawn0.step)⟩
 ·rw [if_neg c2] at H
  exact absurd H (by simp)

end Go.Proofs.Ytbglkkepfddecaa.G

-- Written by wip/tools/gen.py out of the translation (the kit's printer, one namespace a seat). Lean checks it.
namespace Go.Proofs.Ytbglkkepfddecaa.G
open Go.RowKit Go.Proofs.YtbglkkepfddecaaW.PrintWords Go.Proofs.YtbglkkepfddecaaW.PrintLast Go.Proofs.YtbglkkepfddecaaW.PrintMore
attribute [local go_sem] max2_int min2_int max_two min_two max_three min_three max_four min_four   -- for this text's walks alone
set_option linter.unusedVariables false
set_option linter.unusedSimpArgs false

/-! ### laws_rHighest: function 46 -/
def laws_rHighest.l0 : Nat → List (S60) → Int → Int → Option (Int)
 | 0,_,_,_=>none
 | k + 1,x0,x3,x4=>if x4 < (x0.length : Int) then (if 0 ≤ x4 then (if ((rd_T60 x0 x4).f1) > x3 then (laws_rHighest.l0 k x0 ((rd_T60 x0 x4).f1) (wrap64 (x4 + 1))) else (laws_rHighest.l0 k x0 x3 (wrap64 (x4 + 1)))) else (none)) else (some x3)
def laws_rHighest.f (k : Nat) (l0 : List (S60)) : Option (Int):=if 0 < (l0.length : Int) then (laws_rHighest.l0 k l0 ((rd_T60 l0 0).f1) 0) else (none)
set_option maxHeartbeats 8000000 in
set_option maxRecDepth 100000 in
theorem laws_rHighest.calls (k : Nat) (A0 : Option Addr) (c0 : Nat) (l0 : List (S60)) (r : Int) (w : World) (hr0 : Kd.C k60 w A0 l0.length l0) (hc0 : l0.length ≤ c0) (h : laws_rHighest.f k l0 = some r) :
  Calls Try.prog 46 #[.slice A0 l0.length c0] w fun e w'=>e = .returned (.int .i64 r) ∧ Drawn0 w w':=by
 have HR0:=zM hr0
 have HC0:=zM hc0
 clear hr0 hc0
 have H : (if 0 < (l0.length : Int) then (laws_rHighest.l0 k l0 ((rd_T60 l0 0).f1) 0) else (none)) = some r:=h
 clear h
 by_cases c2 : 0 < (l0.length : Int)
 ·rw [if_pos c2] at H
  have c2b0 : decide (0 < (l0.length : Int)) = true:=decide_eq_true c2
  have c2b1 : decide (0 < l0.length) = true:=decide_eq_true (by omega)
  clear c2
  have H':=zM H
  clear H
  have p670 : 0 ≤ (0 : Int):=(by omega)
  have q670 : 0 < (l0.length : Int):=of_decide_eq_true (by first|(with_reducible assumption)|assumption)
  obtain ⟨ad670,e670,hx670_0,hx670_1⟩:=at_T60 HR0.out 0 p670 q670
  cases e670
  have qi670 : (0 < l0.length) = True:=eq_true (by omega)
  (try rw [show ((0 : Int)).toNat = 0 from rfl] at hx670_0)
  (try rw [show 0 * 2 = 0 from rfl] at hx670_0)
  (try rw [Addr.add_zero'] at hx670_0)
  (try rw [show ((0 : Int)).toNat = 0 from rfl] at hx670_1)
  (try rw [show 0 * 2 = 0 from rfl] at hx670_1)
  (try rw [Addr.add_zero'] at hx670_1)
  replace p670:=eq_true p670
  replace q670:=eq_true q670
  go_enter Try.func46,Try.ntmps46
  go_wp2
  go_loopg [3,4] k (fun kq v3 v4 w' => ∃ (x3_1 : Int) (x4_1 : Int),v3 = .int .i64 x3_1 ∧ v4 = .int .i64 x4_1 ∧ Aside0 (laws_rHighest.l0 kq l0 x3_1 x4_1 = some r) ∧ Aside0 (kq ≤ k) ∧ Drawn0 w w')
  case atStart=>exact ⟨((rd_T60 l0 0).f1),(0),(by first|rfl|(simp;done)|(simp [*];done)),(by first|rfl|(simp;done)|(simp [*];done)),H',⟨Nat.le_refl _⟩,by repeat (first|exact Drawn0.refl _|apply Drawn0.step)⟩
  case round =>
   clear H'
   try clear c2
   try clear c2b0
   try clear c2b1
   try clear p2
   try clear hx670_0
   try clear hx670_1
   try clear p670
   try clear q670
   obtain ⟨x3_1,x4_1,rfl,rfl,HA,HK1,⟨m1,rfl⟩⟩:=hrel
   cases gk with
   | zero=>exact absurd HA.out (by simp [laws_rHighest.l0])
   | succ k1 =>
    have H:=HA.out
    clear HA
    simp only [laws_rHighest.l0] at H
    by_cases c3 : x4_1 < (l0.length : Int)
    ·rw [if_pos c3] at H
     have c3b0 : decide (x4_1 < (l0.length : Int)) = true:=decide_eq_true c3
     clear c3
     by_cases c4 : 0 ≤ x4_1
     ·rw [if_pos c4] at H
      have c4b0 : decide (0 ≤ x4_1) = true:=decide_eq_true c4
      clear c4
      by_cases c5 : ((rd_T60 l0 x4_1).f1) > x3_1
      ·rw [if_pos c5] at H
       have c5b0 : decide (x3_1 < ((rd_T60 l0 x4_1).f1)) = true:=decide_eq_true c5
       clear c5
       have H':=zM H
       clear H
       have p671 : 0 ≤ (x4_1 : Int):=of_decide_eq_true (by first|(with_reducible assumption)|assumption)
       have q671 : x4_1 < (l0.length : Int):=of_decide_eq_true (by first|(with_reducible assumption)|assumption)
       obtain ⟨ad671,e671,hx671_0,hx671_1⟩:=at_T60 HR0.out x4_1 p671 q671
       obtain rfl : ad670 = ad671:=(by injection e671)
       replace p671:=eq_true p671
       replace q671:=eq_true q671
       have p672 : 0 ≤ (x4_1 : Int):=of_decide_eq_true (by first|(with_reducible assumption)|assumption)
       have q672 : x4_1 < (l0.length : Int):=of_decide_eq_true (by first|(with_reducible assumption)|assumption)
       obtain ⟨ad672,e672,hx672_0,hx672_1⟩:=at_T60 HR0.out x4_1 p672 q672
       obtain rfl : ad670 = ad672:=(by injection e672)
       replace p672:=eq_true p672
       replace q672:=eq_true q672
       go_wp2
       go_roundg k1
       case measure=>have:=HK1.out;omega
       case rel=>exact ⟨((rd_T60 l0 x4_1).f1),(wrap64 (x4_1 + 1)),(by first|rfl|(simp;done)|(simp [*];done)),(by first|rfl|(simp;done)|(simp [*];done)),H',⟨by have:=HK1.out;omega⟩,by repeat (first|exact Drawn0.refl _|apply Drawn0.step)⟩
      ·rw [if_neg c5] at H
       have c5b0 : decide (x3_1 < ((rd_T60 l0 x4_1).f1)) = false:=decide_eq_false c5
       clear c5
       have H':=zM H
       clear H
       have p671 : 0 ≤ (x4_1 : Int):=of_decide_eq_true (by first|(with_reducible assumption)|assumption)
       have q671 : x4_1 < (l0.length : Int):=of_decide_eq_true (by first|(with_reducible assumption)|assumption)
       obtain ⟨ad671,e671,hx671_0,hx671_1⟩:=at_T60 HR0.out x4_1 p671 q671
       obtain rfl : ad670 = ad671:=(by injection e671)
       replace p671:=eq_true p671
       replace q671:=eq_true q671
       go_wp2
       go_roundg k1
       case measure=>have:=HK1.out;omega
       case rel=>exact ⟨(x3_1),(wrap64 (x4_1 + 1)),(by first|rfl|(simp;done)|(simp [*];done)),(by first|rfl|(simp;done)|(simp [*];done)),H',⟨by have:=HK1.out;omega⟩,by repeat (first|exact Drawn0.refl _|apply Drawn0.step)⟩
     ·rw [if_neg c4] at H
      exact absurd H (by simp)
    ·rw [if_neg c3] at H
     have c3b0 : decide (x4_1 < (l0.length : Int)) = false:=decide_eq_false c3
     clear c3
     obtain rfl:=Option.some.inj H
     go_wp2
     go_ret
     exact ⟨by first|rfl|(simp;done)|(simp [*];done),by repeat (first|exact Drawn0.refl _|apply Drawn0.step)⟩
 ·rw [if_neg c2] at H
  exact absurd H (by simp)

/-! ### spec_DrawTurningHours: function 47 -/
def spec_DrawTurningHours.f (k : Nat) (l0 : List Int) : Option ((List (S60)) × Bool):=(spec_l1Cur_tides.f k l0 0 0).bind fun bt674=>((spec_l1Cur_one.f l0 bt674.2.1 bt674.2.2 2).bind fun bt679=>(some (bt674.1,bt679.1)))
set_option maxHeartbeats 8000000 in
set_option maxRecDepth 100000 in
theorem spec_DrawTurningHours.calls (k : Nat) (A0 : Option Addr) (c0 : Nat) (l0 : List Int) (r1 : List (S60)) (r2 : Bool) (w : World) (hr0 : Kd.C (Kd.int .u8) w A0 l0.length l0) (hc0 : l0.length ≤ c0) (h : spec_DrawTurningHours.f k l0 = some (r1,r2)) :
  Calls Try.prog 47 #[.slice A0 l0.length c0] w fun e w' => ∃ v0_ : Value,e = .returned (.tuple #[v0_,.bool r2]) ∧ Kd.R k60 60 w' w.heap.size (fun _=>True) v0_ r1 ∧ Below w.heap.size w w':=by
 have hu87:=Try.underlying87
 have HR0:=zM hr0
 have HC0:=zM hc0
 clear hr0 hc0
 have HB:=zM (Below.refl w.heap.size w)
 have H : ((spec_l1Cur_tides.f k l0 0 0).bind fun bt674=>((spec_l1Cur_one.f l0 bt674.2.1 bt674.2.2 2).bind fun bt679=>(some (bt674.1,bt679.1)))) = some (r1,r2):=h
 clear h
 replace H:=Option.bind_eq_some_iff.mp H
 obtain ⟨⟨t674,t677,t678⟩,A20,H⟩:=H
 replace H : ((spec_l1Cur_one.f l0 t677 t678 2).bind fun bt679=>(some (t674,bt679.1))) = some (r1,r2):=H
 have A2:=zM A20
 clear A20
 replace H:=Option.bind_eq_some_iff.mp H
 obtain ⟨⟨t679,t680,t681⟩,A30,H⟩:=H
 replace H : (some (t674,t679)) = some (r1,r2):=H
 have A3:=zM A30
 clear A30
 simp only [Option.some.injEq,Prod.mk.injEq] at H
 obtain ⟨rfl,rfl⟩:=H
 go_enter Try.func47,Try.ntmps47
 go_wp2_with (first|((with_reducible refine gate_dst (N:=8) rfl ?_);refine box_event ?hg (N:=8) ?hd (cs := #[.slice A0 l0.length c0,.int .i64 0,.int .u64 0]) (t:=87) ?hr ?_;(case hd=>rfl);(case hg=>rfl);(case hr=>first|(go_simp;done)|(go_simp;rfl));intro gb673 hg w4 hbox hb;have n0_:=zM (zQ (by repeat (first|(with_reducible first|exact HB.out|apply zD|apply zE|apply zF)|exact HB.out)) hb);have n1_:=zM ((by rw [hg];exact (zR (by repeat (first|(with_reducible first|exact HB.out|apply zD|apply zE|apply zF)|exact HB.out))) : w.heap.size ≤ gb673));have n2_:=zM ((by rw [hg];exact (zR (by repeat (first|(with_reducible first|exact HB.out|apply zD|apply zE|apply zF)|exact HB.out))) : w.heap.size ≤ gb673));have n3_:=zM ((show IsS87 w w4 gb673 l0 0 0 from ⟨_,_,hbox,(by rw [hg];exact (zR (by repeat (first|(with_reducible first|exact HB.out|apply zD|apply zE|apply zF)|exact HB.out))) : w.heap.size ≤ gb673),HR0.out⟩));clear HB;have HB:=n0_;have GW673:=n1_;have GE673:=n2_;have HI673:=n3_;clear n0_ n1_ n2_ n3_;clear hb hbox hg)|((with_reducible refine gate_callee (f:=69) rfl ?_);refine goesL_ (some 10) rfl rfl Try.func69 (by kernel_rfl) rfl #[.pointer (some ⟨gb673,0,none⟩)] rfl (by (try simp only [List.map_toArray,List.map_cons,List.map_nil]);first|done|rfl|(simp only [List.length_drop,List.length_take];rfl)) ?_;(with_reducible refine (spec_l1Cur_tides.calls k gb673 l0 0 0 t674 t677 t678 w _ ?side1 ?side2 A2.out).mono ?_);(case side1=>repeat (first|(with_reducible first|exact HI673.out|apply IsS87.alloc|apply IsS87.drewN|apply IsS87.drew|apply IsS87.set_1|apply IsS87.set_2)|exact HI673.out));(case side2=>repeat (first|(with_reducible first|exact HB.out|apply zD|apply zE|apply zF|refine below_set ?_ (IsS87.ge HI673.out))|exact HB.out));rintro e w5 ⟨v675,rfl,ho0,hi,hb,hk⟩;refine ⟨_,rfl,?_⟩;have n0_:=zM (Kd.R_lower ho0 (zR (by repeat (first|(with_reducible first|exact HB.out|apply zD|apply zE|apply zF|refine below_set ?_ (IsS87.ge HI673.out))|exact HB.out))));have n1_:=zM (hb);have n2_:=zM (hi);clear HB;clear HI673;have HO676:=n0_;have HB:=n1_;have HI673:=n2_;clear n0_ n1_ n2_;(try clear hb);(try clear hb2);(try clear hk);(try clear hi);(try clear ho0))|((with_reducible refine gate_callee (f:=71) rfl ?_);refine goesL_ (some 13) rfl rfl Try.func71 (by kernel_rfl) rfl #[.pointer (some ⟨gb673,0,none⟩),.int .i64 2] rfl (by (try simp only [List.map_toArray,List.map_cons,List.map_nil]);first|done|rfl|(simp only [List.length_drop,List.length_take];rfl)) ?_;(with_reducible refine (spec_l1Cur_one.calls gb673 l0 t677 t678 2 t679 t680 t681 w _ ?side1 ?side2 A3.out).mono ?_);(case side1=>repeat (first|(with_reducible first|exact HI673.out|apply IsS87.alloc|apply IsS87.drewN|apply IsS87.drew|apply IsS87.set_1|apply IsS87.set_2)|exact HI673.out));(case side2=>repeat (first|(with_reducible first|exact HB.out|apply zD|apply zE|apply zF|refine below_set ?_ (IsS87.ge HI673.out))|exact HB.out));rintro e w6 ⟨rfl,hi,hb,hk⟩;refine ⟨_,rfl,?_⟩;have n0_:=zM (Kd.R_mono (Kd.R_keep (IsS87.apart (show IsS87 w _ gb673 l0 t677 t678 from by repeat (first|(with_reducible first|exact HI673.out|apply IsS87.alloc|apply IsS87.drewN|apply IsS87.drew|apply IsS87.set_1|apply IsS87.set_2)|exact HI673.out)) (by (with_reducible repeat (first|apply zA|apply zB|apply zC));exact HO676.out) (by decide)) hk (fun _ h=>h.2)) (fun _ h=>h.1));have n1_:=zM (hb);have n2_:=zM (hi);clear HO676;clear HB;clear HI673;have HO676:=n0_;have HB:=n1_;have HI673:=n2_;clear n0_ n1_ n2_;(try clear hb);(try clear hb2);(try clear hk);(try clear hi)))
 go_ret2
 exact ⟨_,by first|rfl|(simp [errW_none,errW_some] <;> rfl)|(simp [*,errW_none,errW_some] <;> rfl),by (with_reducible repeat (first|apply zA|apply zB|apply zC));exact HO676.out,by repeat (first|(with_reducible first|exact HB.out|apply zD|apply zE|apply zF|refine below_set ?_ (IsS87.ge HI673.out))|exact HB.out)⟩

end Go.Proofs.Ytbglkkepfddecaa.G
