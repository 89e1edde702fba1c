/- Texts of the proof of FnWindows, joined in build order. -/
import Derived.Test.YtbglkkepfddecaaProg
import Derived.Below
import Derived.Deep.Draws
import Derived.Deep.AppendLies
import Derived.Maps.AppendAt
import Derived.OwnWalk
import Derived.Laws.BytesArg
import Derived.Laws.MakeOwn
import Derived.Laws.OwnMore
import Derived.Deep.OwnRows
import Derived.Tactics
import Derived.Lib.ConvBytes
import Derived.Laws.Slices
import Derived.WalkKit
import Derived.KernelRfl
import Derived.RowKit3
import Derived.Deep.LoopGhost
import Derived.Deep.QuietTactic
import Derived.BigQuiet
import Derived.WideLaws
import Derived.Deep.DeepCutAuto
import Derived.Deep.CutBlock
import Derived.Deep.RegionHeld3
import Derived.Laws.Rows
import Derived.Lib.AppendStr
import Derived.ArgAppend
import Derived.Laws.IdiomCopy
import Derived.OrdersHeld
import Derived.Laws.BitsLemmas
import Derived.RowKit
import Derived.Test.YtbglkkepfddecaaMgFnWindows0
-- Written by wip/tools/gen.py out of the translation (the kit's printer, one namespace a seat). Lean checks it.
namespace Go.Proofs.Ytbglkkepfddecaa.G
open Go.RowKit Go.Proofs.YtbglkkepfddecaaW.PrintWords Go.Proofs.YtbglkkepfddecaaW.PrintLast Go.Proofs.YtbglkkepfddecaaW.PrintMore
attribute [local go_sem] max2_int min2_int max_two min_two max_three min_three max_four min_four   -- for this text's walks alone
set_option linter.unusedVariables false
set_option linter.unusedSimpArgs false



def errW : Option Int → Value
 | none => .nilIface
 | some c => .iface 0 (.int .i64 c)
theorem errW_none : errW none = .nilIface:=rfl
theorem errW_some (c : Int) : errW (some c) = .iface 0 (.int .i64 c):=rfl

theorem info3 : (Try.prog.info? 3).map (fun i=>(i.zero,i.size,i.bytes)) = some (some (.int .i64 0),1,8):=by kernel_rfl
theorem info60 : (Try.prog.info? 60).map (fun i=>(i.zero,i.size,i.bytes)) = some (some (.agg #[(.int .i64 0),(.int .i64 0)]),2,16):=by kernel_rfl
theorem info66 : (Try.prog.info? 66).map (fun i=>(i.zero,i.size,i.bytes)) = some (some (.agg #[(.int .i64 0),(.int .i64 0)]),2,16):=by kernel_rfl
-- the values' own types
/-! #### struct type 72 -/
structure S72 where
 f0 : Int
 f1 : Int
def z72 : S72:=⟨(0 : Int),(0 : Int)⟩
def k72 : Kd S72:=Kd.iso (Kd.pair (Kd.int .i64) (Kd.int .i64)) (fun x : S72=>(x.f0,x.f1))
theorem k72_open {w : World} {x : S72} {cs : List Value} (h : k72.K w x cs) : cs = [.int .i64 x.f0,.int .i64 x.f1]:=by
 obtain ⟨_,_,rfl,rfl,rfl⟩:=h
 exact rfl
def rd_T72 (xs : List S72) (i : Int) : S72:=xs.getD i.toNat z72
theorem at_T72 {w : World} {A : Option Addr} {n : Nat} {xs : List S72} (h : Kd.C k72 w A n xs) (i : Int) (h0 : 0 ≤ i) (h1 : i < n) : ∃ ad , A = some ad ∧ w.cell? (ad.add (i.toNat * 2)) = some (.int .i64 (rd_T72 xs i).f0) ∧ w.cell? ⟨(ad.add (i.toNat * 2)).block,(ad.add (i.toNat * 2)).off + 1,none⟩ = some (.int .i64 (rd_T72 xs i).f1):=by
 obtain ⟨ad,c,e,_,hK,hc0⟩:=Kd.C_get h z72 i h0 h1
 have hc : ∀ j u,c[j]? = some u → w.cell? (ad.add (i.toNat * 2 + j)) = some u:=hc0
 obtain rfl:=k72_open hK
 exact ⟨ad,e,hc 0 _ rfl,by rw [← add_field _ _ 1 (by omega)];exact hc 1 _ rfl⟩

/-! #### struct type 60 -/
structure S60 where
 f0 : Int
 f1 : Int
def z60 : S60:=⟨(0 : Int),(0 : Int)⟩
def k60 : Kd S60:=Kd.iso (Kd.pair (Kd.int .i64) (Kd.int .i64)) (fun x : S60=>(x.f0,x.f1))
theorem k60_open {w : World} {x : S60} {cs : List Value} (h : k60.K w x cs) : cs = [.int .i64 x.f0,.int .i64 x.f1]:=by
 obtain ⟨_,_,rfl,rfl,rfl⟩:=h
 exact rfl
theorem k60_openM {w : World} {base : Nat} {ok : Nat → Prop} {x : S60} {cs : List Value} (h : k60.M w base ok x cs) : cs = [.int .i64 x.f0,.int .i64 x.f1]:=by
 obtain ⟨_,_,rfl,rfl,rfl⟩:=h
 exact rfl
theorem k60_mkM (w : World) (base : Nat) (ok : Nat → Prop) (x : S60)  : k60.M w base ok x [.int .i64 x.f0,.int .i64 x.f1]:=⟨[.int .i64 x.f0],[.int .i64 x.f1],rfl,rfl,rfl⟩
def rd_T60 (xs : List S60) (i : Int) : S60:=xs.getD i.toNat z60
theorem at_T60 {w : World} {A : Option Addr} {n : Nat} {xs : List S60} (h : Kd.C k60 w A n xs) (i : Int) (h0 : 0 ≤ i) (h1 : i < n) : ∃ ad , A = some ad ∧ w.cell? (ad.add (i.toNat * 2)) = some (.int .i64 (rd_T60 xs i).f0) ∧ w.cell? ⟨(ad.add (i.toNat * 2)).block,(ad.add (i.toNat * 2)).off + 1,none⟩ = some (.int .i64 (rd_T60 xs i).f1):=by
 obtain ⟨ad,c,e,_,hK,hc0⟩:=Kd.C_get h z60 i h0 h1
 have hc : ∀ j u,c[j]? = some u → w.cell? (ad.add (i.toNat * 2 + j)) = some u:=hc0
 obtain rfl:=k60_open hK
 exact ⟨ad,e,hc 0 _ rfl,by rw [← add_field _ _ 1 (by omega)];exact hc 1 _ rfl⟩

def rd_L3 (xs : List (List S72)) (i : Int) : (List S72):=xs.getD i.toNat ([] : List S72)
/-! #### struct type 66 -/
structure S66 where
 f0 : Int
 f1 : Int
def z66 : S66:=⟨(0 : Int),(0 : Int)⟩
def k66 : Kd S66:=Kd.iso (Kd.pair (Kd.int .i64) (Kd.int .i64)) (fun x : S66=>(x.f0,x.f1))
theorem k66_open {w : World} {x : S66} {cs : List Value} (h : k66.K w x cs) : cs = [.int .i64 x.f0,.int .i64 x.f1]:=by
 obtain ⟨_,_,rfl,rfl,rfl⟩:=h
 exact rfl
theorem k66_openM {w : World} {base : Nat} {ok : Nat → Prop} {x : S66} {cs : List Value} (h : k66.M w base ok x cs) : cs = [.int .i64 x.f0,.int .i64 x.f1]:=by
 obtain ⟨_,_,rfl,rfl,rfl⟩:=h
 exact rfl
theorem k66_mkM (w : World) (base : Nat) (ok : Nat → Prop) (x : S66)  : k66.M w base ok x [.int .i64 x.f0,.int .i64 x.f1]:=⟨[.int .i64 x.f0],[.int .i64 x.f1],rfl,rfl,rfl⟩
def rd_T66 (xs : List S66) (i : Int) : S66:=xs.getD i.toNat z66
theorem at_T66 {w : World} {A : Option Addr} {n : Nat} {xs : List S66} (h : Kd.C k66 w A n xs) (i : Int) (h0 : 0 ≤ i) (h1 : i < n) : ∃ ad , A = some ad ∧ w.cell? (ad.add (i.toNat * 2)) = some (.int .i64 (rd_T66 xs i).f0) ∧ w.cell? ⟨(ad.add (i.toNat * 2)).block,(ad.add (i.toNat * 2)).off + 1,none⟩ = some (.int .i64 (rd_T66 xs i).f1):=by
 obtain ⟨ad,c,e,_,hK,hc0⟩:=Kd.C_get h z66 i h0 h1
 have hc : ∀ j u,c[j]? = some u → w.cell? (ad.add (i.toNat * 2 + j)) = some u:=hc0
 obtain rfl:=k66_open hK
 exact ⟨ad,e,hc 0 _ rfl,by rw [← add_field _ _ 1 (by omega)];exact hc 1 _ rfl⟩

def rd_L7 (xs : List (List Int)) (i : Int) : (List Int):=xs.getD i.toNat ([] : List Int)
/-- What is known of such a value that came in. -/
def W72 (x : S72) : Prop:=(Lit.int .i64 x.f0).wf = true ∧ (Lit.int .i64 x.f1).wf = true
end Go.Proofs.Ytbglkkepfddecaa.G

namespace Go.Proofs.Ytbglkkepfddecaa.G
open Go.RowKit Go.Proofs.YtbglkkepfddecaaW.PrintWords Go.Proofs.YtbglkkepfddecaaW.PrintLast Go.Proofs.YtbglkkepfddecaaW.PrintMore
theorem zA {α : Type} {d : Kd α} {e : Nat} {w : World} {base : Nat} {ok : Nat → Prop} {v : Value} {xs : List α} (h : Kd.R d e w base ok v xs) (o : Obj) : Kd.R d e (w.alloc o) base ok v xs := Kd.R_alloc h o
theorem zB {α : Type} {d : Kd α} {e : Nat} {w : World} {base : Nat} {ok : Nat → Prop} {v : Value} {xs : List α} (h : Kd.R d e w base ok v xs) (m : Nat) : Kd.R d e (w.drewN m) base ok v xs := Kd.R_drewN h m
theorem zC {α : Type} {d : Kd α} {e : Nat} {w : World} {base : Nat} {ok : Nat → Prop} {v : Value} {xs : List α} (h : Kd.R d e w base ok v xs) : Kd.R d e w.drew base ok v xs := Kd.R_drew h
theorem zD {w W : World} (h : Below w.heap.size w W) (o : Obj) : Below w.heap.size w (W.alloc o) := below_alloc h o
theorem zE {B : Nat} {w W : World} (h : Below B w W) (n : Nat) : Below B w (W.drewN n) := pw_below_drewN h n
theorem zF {base : Nat} {w W : World} (h : Below base w W) : Below base w W.drew := below_drew1 h
theorem zG {α : Type} {d : Kd α} {w : World} {xs : List α} {A : Option Addr} {n : Nat} (h : Kd.C d w A n xs) (o : Obj) : Kd.C d (w.alloc o) A n xs := Kd.C_alloc h o
theorem zH {α : Type} {d : Kd α} {w : World} {xs : List α} {A : Option Addr} {n : Nat} (h : Kd.C d w A n xs) (m : Nat) : Kd.C d (w.drewN m) A n xs := Kd.C_drewN h m
theorem zI {α : Type} {d : Kd α} {w : World} {xs : List α} {A : Option Addr} {n : Nat} (h : Kd.C d w A n xs) : Kd.C d w.drew A n xs := Kd.C_drew h
theorem zJ {w : World} {g : Nat} {o : Obj} (h : w.heap[g]? = some o) (n : Nat) : (w.drewN n).heap[g]? = some o := blk_drewN h n
theorem zK {w : World} {g : Nat} {o : Obj} (h : w.heap[g]? = some o) : w.drew.heap[g]? = some o := blk_drew h
theorem zL {w : World} {g : Nat} {o : Obj} (h : w.heap[g]? = some o) (o' : Obj) : (w.alloc o').heap[g]? = some o := blk_alloc h o'
theorem zM {p : Prop} (h : p) : Aside0 p := ⟨h⟩
theorem zN {α : Type} {d : Kd α} {e : Nat} {w : World} {base : Nat} {ok : Nat → Prop} {xs : List α} {A : Option Addr} {n c : Nat} (h : Kd.R d e w base ok (.slice A n c) xs) : n = xs.length ∧ n ≤ c ∧ Kd.C d w A xs.length xs := Kd.R_reads' h
theorem zO {α : Type} {d : Kd α} {w w1 : World} {xs : List α} {A : Option Addr} {n : Nat} (h : Kd.C d w A n xs) (b : Below w.heap.size w w1) : Kd.C d w1 A n xs := Kd.C_below h b
theorem zP {α : Type} {d : Kd α} {e : Nat} {w w1 : World} {base : Nat} {ok : Nat → Prop} {v : Value} {xs : List α} (h : Kd.R d e w base ok v xs) (b : Below w.heap.size w w1) : Kd.R d e w1 base ok v xs := Kd.R_below h b
theorem zQ {w W w2 : World} (h : Below w.heap.size w W) (k : Below W.heap.size W w2) : Below w.heap.size w w2 := below_step h k
theorem zR {w W : World} (h : Below w.heap.size w W) : w.heap.size ≤ W.heap.size := below_size h
theorem zS {a b : World} {ad : Addr} {v : Value} (hB : Below a.heap.size a b) (h : a.cell? ad = some v) : b.cell? ad = some v := (hB.cell (World.block_lt_of_cell? a ad h)).trans h
theorem zT {α : Type} {l : List α} {i : Nat} {a : α} : l.toArray.setIfInBounds i a = (l.set i a).toArray := by simp
theorem zU {α : Type} {l : List α} {a b : α} : (a :: l).set 0 b = b :: l := rfl
theorem zV {α : Type} {l : List α} {a b : α} {n : Nat} : (a :: l).set (n + 1) b = a :: l.set n b := rfl
theorem zW (w : World) (a b c : Nat) : (w.drewN (a + b)).drewN c = w.drewN (a + (b + c)) := Eq.trans (World.drewN_drewN _ _ _) (congrArg (World.drewN _) (Nat.add_assoc _ _ _))
end Go.Proofs.Ytbglkkepfddecaa.G

-- Written by wip/tools/gen.py out of the translation (the kit's printer, one namespace a seat). Lean checks it.
namespace Go.Proofs.Ytbglkkepfddecaa.G
open Go.RowKit Go.Proofs.YtbglkkepfddecaaW.PrintWords Go.Proofs.YtbglkkepfddecaaW.PrintLast Go.Proofs.YtbglkkepfddecaaW.PrintMore
attribute [local go_sem] max2_int min2_int max_two min_two max_three min_three max_four min_four   -- for this text's walks alone
set_option linter.unusedVariables false
set_option linter.unusedSimpArgs false

theorem eqA66 (d:Nat) (w:World) (x0 y0:Int) (x1 y1:Int) :
  (Op.equalIn (d + 2) 66 (.agg #[.int .i64 x0,.int .i64 x1]) (.agg #[.int .i64 y0,.int .i64 y1])).run Try.prog w = .ok (x0 == y0 && (x1 == y1)) w:=by
 refine eqA_of Try.underlying66 (by kernel_rfl) ?_
 refine eqf_cons (by rfl) (by go_simp;rfl) (by go_simp;rfl) (by go_simp) ?_
 exact eqf_last (by rfl) (by go_simp;rfl) (by go_simp;rfl) (by go_simp)


/-! ### laws_szTideS: function 14 -/
def laws_szTideS.f (l0:List (S72)) (a1:Int):Option (Int):=if (wrap64 (a1 - (l0.length:Int))) < 0 then (some (-1)) else (some (wrap64 (a1 - (l0.length:Int))))
set_option maxHeartbeats 8000000 in
set_option maxRecDepth 100000 in
theorem laws_szTideS.calls (A0:Option Addr) (c0:Nat) (l0:List (S72)) (a1:Int) (r:Int) (w:World) (hr0:Kd.C k72 w A0 l0.length l0) (hc0:l0.length ≤ c0) (h:laws_szTideS.f l0 a1 = some r) :
  Calls Try.prog 14 #[.slice A0 l0.length c0,.int .i64 a1] w fun e w'=>e = .returned (.int .i64 r) ∧ Drawn0 w w':=by
 have HR0:=zM hr0;have HC0:=zM hc0;clear hr0 hc0;have H:(if (wrap64 (a1 - (l0.length:Int))) < 0 then (some (-1)) else (some (wrap64 (a1 - (l0.length:Int))))) = some r:=h
 clear h;by_cases c3:(wrap64 (a1 - (l0.length:Int))) < 0
 ·rw [if_pos c3] at H
  have c3b0:decide ((wrap64 (a1 - (l0.length:Int))) < 0) = true:=decide_eq_true c3
  clear c3;obtain rfl:=Option.some.inj H;go_enter Try.func14,Try.ntmps14
  go_wp2
  go_ret
  exact ⟨by first|rfl|(simp;done)|(simp [*];done),by repeat (first|exact Drawn0.refl _|apply Drawn0.step)⟩
 ·rw [if_neg c3] at H
  have c3b0:decide ((wrap64 (a1 - (l0.length:Int))) < 0) = false:=decide_eq_false c3
  clear c3;obtain rfl:=Option.some.inj H;go_enter Try.func14,Try.ntmps14
  go_wp2
  go_ret
  exact ⟨by first|rfl|(simp;done)|(simp [*];done),by repeat (first|exact Drawn0.refl _|apply Drawn0.step)⟩

/-! ### spec_l1In: function 56 -/
def spec_l1In.f (a0:Int) (a1:Int) (a2:Int):Option (Bool):=if a0 ≥ a1 then (some (decide (a0 ≤ a2))) else (some false)
set_option maxHeartbeats 8000000 in
set_option maxRecDepth 100000 in
theorem spec_l1In.calls (a0:Int) (a1:Int) (a2:Int) (r:Bool) (w:World) (h:spec_l1In.f a0 a1 a2 = some r) :
  Calls Try.prog 56 #[.int .i64 a0,.int .i64 a1,.int .i64 a2] w fun e w'=>e = .returned (.bool r) ∧ Drawn0 w w':=by
 have H:(if a0 ≥ a1 then (some (decide (a0 ≤ a2))) else (some false)) = some r:=h
 clear h;by_cases c4:a0 ≥ a1
 ·rw [if_pos c4] at H
  have c4b0:decide (a1 ≤ a0) = true:=decide_eq_true c4
  clear c4;obtain rfl:=Option.some.inj H;go_enter Try.func56,Try.ntmps56
  go_wp2
  go_ret
  exact ⟨by first|rfl|(simp;done)|(simp [*];done),by repeat (first|exact Drawn0.refl _|apply Drawn0.step)⟩
 ·rw [if_neg c4] at H
  have c4b0:decide (a1 ≤ a0) = false:=decide_eq_false c4
  clear c4;obtain rfl:=Option.some.inj H;go_enter Try.func56,Try.ntmps56
  go_wp2
  go_ret
  exact ⟨by first|rfl|(simp;done)|(simp [*];done),by repeat (first|exact Drawn0.refl _|apply Drawn0.step)⟩



/-! ### spec_l15Good: function 52 -/
mutual
def spec_l15Good.l0:Nat → List (S60) → Int → Option (Bool)
 | 0,_,_=>none
 | k + 1,x0,x3=>if x3 < (x0.length:Int) then (if 0 ≤ x3 then ((spec_l1In.f ((rd_T60 x0 x3).f0) 0 240).bind fun t103=>(if t103 = true then ((spec_l1In.f ((rd_T60 x0 x3).f1) 0 2000).bind fun t105=>(spec_l15Good.j1 k x0 x3 (!t105))) else (spec_l15Good.j1 k x0 x3 true))) else (none)) else (some true)
def spec_l15Good.j1:Nat → List (S60) → Int → Bool → Option (Bool)
 | 0,_,_,_=>none
 | k + 1,x0,x3,x29=>if x29 = true then (some false) else (if x3 > 0 then (if 0 ≤ (wrap64 (x3 - 1)) then (if (wrap64 (x3 - 1)) < (x0.length:Int) then (if 0 ≤ x3 then (if x3 < (x0.length:Int) then (if ((rd_T60 x0 (wrap64 (x3 - 1))).f0) ≥ ((rd_T60 x0 x3).f0) then (spec_l15Good.j2 k x0 x3 true) else (spec_l15Good.j2 k x0 x3 (((rd_T60 x0 (wrap64 (x3 - 1))).f1) == ((rd_T60 x0 x3).f1)))) else (none)) else (none)) else (none)) else (none)) else (spec_l15Good.j2 k x0 x3 false))
def spec_l15Good.j2:Nat → List (S60) → Int → Bool → Option (Bool)
 | 0,_,_,_=>none
 | k + 1,x0,x3,x59=>if x59 = true then (some false) else (if x3 > 1 then (if 0 ≤ (wrap64 (x3 - 2)) then (if (wrap64 (x3 - 2)) < (x0.length:Int) then (if 0 ≤ (wrap64 (x3 - 1)) then (if (wrap64 (x3 - 1)) < (x0.length:Int) then (if 0 ≤ x3 then (if x3 < (x0.length:Int) then (if ((decide (((rd_T60 x0 (wrap64 (x3 - 2))).f1) < ((rd_T60 x0 (wrap64 (x3 - 1))).f1))) == (decide (((rd_T60 x0 (wrap64 (x3 - 1))).f1) < ((rd_T60 x0 x3).f1)))) = true then (some false) else (spec_l15Good.l0 k x0 (wrap64 (x3 + 1)))) else (none)) else (none)) else (none)) else (none)) else (none)) else (none)) else (spec_l15Good.l0 k x0 (wrap64 (x3 + 1))))
end
def spec_l15Good.f (k:Nat) (l0:List (S60)):Option (Bool):=(spec_l1In.f (l0.length:Int) 2 20).bind fun t101=>(if t101 = true then (spec_l15Good.l0 k l0 0) else (some false))
set_option maxHeartbeats 8000000 in
set_option maxRecDepth 100000 in
theorem spec_l15Good.calls (k:Nat) (A0:Option Addr) (c0:Nat) (l0:List (S60)) (r:Bool) (w:World) (hr0:Kd.C k60 w A0 l0.length l0) (hc0:l0.length ≤ c0) (h:spec_l15Good.f k l0 = some r) :
  Calls Try.prog 52 #[.slice A0 l0.length c0] w fun e w'=>e = .returned (.bool r) ∧ Drawn0 w w':=by
 have HR0:=zM hr0;have HC0:=zM hc0;clear hr0 hc0;have H:((spec_l1In.f (l0.length:Int) 2 20).bind fun t101=>(if t101 = true then (spec_l15Good.l0 k l0 0) else (some false))) = some r:=h
 clear h;replace H:=Option.bind_eq_some_iff.mp H;obtain ⟨t101,A20,H⟩:=H;replace H:(if t101 = true then (spec_l15Good.l0 k l0 0) else (some false)) = some r:=H
 have A2:=zM A20;clear A20;by_cases c3:t101 = true
 ·subst c3
  have H1:(spec_l15Good.l0 k l0 0) = some r:=by rw [if_pos rfl] at H;exact H
  clear H;have H:=H1;clear H1;have H':=zM H;clear H;go_enter Try.func52,Try.ntmps52
  go_wp2_with (first|(go_at_call 56;(with_reducible refine (spec_l1In.calls (l0.length:Int) 2 20 true _ A2.out).mono ?_);rintro e w' ⟨rfl,⟨nd,rfl⟩⟩;(try first|exact ⟨rfl,_,World.drewN_drewN _ _ _⟩|exact ⟨rfl,_,zW _ _ _ _⟩)))
  repeat (go_quiet (first|(go_at_call 56;(with_reducible refine (spec_l1In.calls (l0.length:Int) 2 20 true _ A2.out).mono ?_);rintro e w' ⟨rfl,⟨nd,rfl⟩⟩;(try first|exact ⟨rfl,_,World.drewN_drewN _ _ _⟩|exact ⟨rfl,_,zW _ _ _ _⟩)));try go_wp2_with (first|(go_at_call 56;(with_reducible refine (spec_l1In.calls (l0.length:Int) 2 20 true _ A2.out).mono ?_);rintro e w' ⟨rfl,⟨nd,rfl⟩⟩;(try first|exact ⟨rfl,_,World.drewN_drewN _ _ _⟩|exact ⟨rfl,_,zW _ _ _ _⟩))))
  go_loopg [3] k (fun kq v3 w' => ∃ (x3_1:Int),v3 = .int .i64 x3_1 ∧ Aside0 (spec_l15Good.l0 kq l0 x3_1 = some r) ∧ Aside0 (kq ≤ k) ∧ Drawn0 w w')
  case atStart=>exact ⟨(0),(by first|rfl|(simp;done)|(simp [*];done)),H',⟨Nat.le_refl _⟩,by repeat (first|exact Drawn0.refl _|apply Drawn0.step)⟩
  case round =>
   clear H';(try clear p2);(try clear c3);obtain ⟨x3_1,rfl,HA,HK1,⟨m1,rfl⟩⟩:=hrel;cases gk with
   | zero=>exact absurd HA.out (by simp [spec_l15Good.l0])
   | succ k1 =>
    have H:=HA.out;clear HA;simp only [spec_l15Good.l0] at H
    by_cases c4:x3_1 < (l0.length:Int)
    ·rw [if_pos c4] at H
     have c4b0:decide (x3_1 < (l0.length:Int)) = true:=decide_eq_true c4
     clear c4;have HC5:=zM H;clear H;go_upto_region 6 with (fail)
     repeat (go_quiet (fail);go_upto_region 6 with (fail))
     go_cut [29] (fun v29 wc => ∃ (kq:Nat) (x29_4:Bool),v29 = .bool x29_4 ∧ Aside0 (spec_l15Good.j1 kq l0 x3_1 x29_4 = some r) ∧ Aside0 (kq ≤ k1) ∧ Drawn0 w wc)
     case first =>
      have H:=HC5.out;clear HC5;by_cases c6:0 ≤ x3_1
      ·rw [if_pos c6] at H
       have c6b0:decide (0 ≤ x3_1) = true:=decide_eq_true c6
       clear c6;(first|rw [c6b0]|(simp only [i64_w,i32_w];rw [c6b0])|skip)
       replace H:=Option.bind_eq_some_iff.mp H;obtain ⟨t103,A70,H⟩:=H;replace H:(if t103 = true then ((spec_l1In.f ((rd_T60 l0 x3_1).f1) 0 2000).bind fun t105=>(spec_l15Good.j1 k1 l0 x3_1 (!t105))) else (spec_l15Good.j1 k1 l0 x3_1 true)) = some r:=H
       have A7:=zM A70;clear A70;by_cases c8:t103 = true
       ·subst c8
        have H1:((spec_l1In.f ((rd_T60 l0 x3_1).f1) 0 2000).bind fun t105=>(spec_l15Good.j1 k1 l0 x3_1 (!t105))) = some r:=by rw [if_pos rfl] at H;exact H
        clear H;have H:=H1;clear H1;replace H:=Option.bind_eq_some_iff.mp H;obtain ⟨t105,A90,H⟩:=H;replace H:(spec_l15Good.j1 k1 l0 x3_1 (!t105)) = some r:=H
        have A9:=zM A90;clear A90;have H':=zM H;clear H;have p102:0 ≤ (x3_1:Int):=of_decide_eq_true (by first|(with_reducible assumption)|assumption)
        have q102:x3_1 < (l0.length:Int):=of_decide_eq_true (by first|(with_reducible assumption)|assumption)
        obtain ⟨ad102,e102,hx102_0,hx102_1⟩:=at_T60 HR0.out x3_1 p102 q102;cases e102
        replace p102:=eq_true p102;replace q102:=eq_true q102;go_wp2_with (first|(go_at_call 56;(with_reducible refine (spec_l1In.calls ((rd_T60 l0 x3_1).f0) 0 240 true _ A7.out).mono ?_);rintro e w' ⟨rfl,⟨nd,rfl⟩⟩;(try first|exact ⟨rfl,_,World.drewN_drewN _ _ _⟩|exact ⟨rfl,_,zW _ _ _ _⟩);have p104:0 ≤ (x3_1:Int):=of_decide_eq_true (by first|(with_reducible assumption)|assumption);have q104:x3_1 < (l0.length:Int):=of_decide_eq_true (by first|(with_reducible assumption)|assumption);obtain ⟨ad104,e104,hx104_0,hx104_1⟩:=at_T60 HR0.out x3_1 p104 q104;obtain rfl:ad102 = ad104:=(by injection e104);replace p104:=eq_true p104;replace q104:=eq_true q104)|(go_at_call 56;(with_reducible refine (spec_l1In.calls ((rd_T60 l0 x3_1).f1) 0 2000 t105 _ A9.out).mono ?_);rintro e w' ⟨rfl,⟨nd,rfl⟩⟩;(try first|exact ⟨rfl,_,World.drewN_drewN _ _ _⟩|exact ⟨rfl,_,zW _ _ _ _⟩)))
        repeat (go_quiet (first|(go_at_call 56;(with_reducible refine (spec_l1In.calls ((rd_T60 l0 x3_1).f0) 0 240 true _ A7.out).mono ?_);rintro e w' ⟨rfl,⟨nd,rfl⟩⟩;(try first|exact ⟨rfl,_,World.drewN_drewN _ _ _⟩|exact ⟨rfl,_,zW _ _ _ _⟩);have p104:0 ≤ (x3_1:Int):=of_decide_eq_true (by first|(with_reducible assumption)|assumption);have q104:x3_1 < (l0.length:Int):=of_decide_eq_true (by first|(with_reducible assumption)|assumption);obtain ⟨ad104,e104,hx104_0,hx104_1⟩:=at_T60 HR0.out x3_1 p104 q104;obtain rfl:ad102 = ad104:=(by injection e104);replace p104:=eq_true p104;replace q104:=eq_true q104)|(go_at_call 56;(with_reducible refine (spec_l1In.calls ((rd_T60 l0 x3_1).f1) 0 2000 t105 _ A9.out).mono ?_);rintro e w' ⟨rfl,⟨nd,rfl⟩⟩;(try first|exact ⟨rfl,_,World.drewN_drewN _ _ _⟩|exact ⟨rfl,_,zW _ _ _ _⟩)));try go_wp2_with (first|(go_at_call 56;(with_reducible refine (spec_l1In.calls ((rd_T60 l0 x3_1).f0) 0 240 true _ A7.out).mono ?_);rintro e w' ⟨rfl,⟨nd,rfl⟩⟩;(try first|exact ⟨rfl,_,World.drewN_drewN _ _ _⟩|exact ⟨rfl,_,zW _ _ _ _⟩);have p104:0 ≤ (x3_1:Int):=of_decide_eq_true (by first|(with_reducible assumption)|assumption);have q104:x3_1 < (l0.length:Int):=of_decide_eq_true (by first|(with_reducible assumption)|assumption);obtain ⟨ad104,e104,hx104_0,hx104_1⟩:=at_T60 HR0.out x3_1 p104 q104;obtain rfl:ad102 = ad104:=(by injection e104);replace p104:=eq_true p104;replace q104:=eq_true q104)|(go_at_call 56;(with_reducible refine (spec_l1In.calls ((rd_T60 l0 x3_1).f1) 0 2000 t105 _ A9.out).mono ?_);rintro e w' ⟨rfl,⟨nd,rfl⟩⟩;(try first|exact ⟨rfl,_,World.drewN_drewN _ _ _⟩|exact ⟨rfl,_,zW _ _ _ _⟩))))
        go_meet
        case rel=>exact ⟨_,(!t105),(by first|rfl|(simp;done)|(simp [*];done)),H',⟨by have:=HK1.out;first|omega|exact Nat.le_refl _⟩,by repeat (first|exact Drawn0.refl _|apply Drawn0.step)⟩
       ·replace c8:=Bool.eq_false_iff.mpr c8
        subst c8;have H1:(spec_l15Good.j1 k1 l0 x3_1 true) = some r:=by rw [if_neg (show ¬ (false = true) by decide)] at H;exact H
        clear H;have H:=H1;clear H1;have H':=zM H;clear H;have p102:0 ≤ (x3_1:Int):=of_decide_eq_true (by first|(with_reducible assumption)|assumption)
        have q102:x3_1 < (l0.length:Int):=of_decide_eq_true (by first|(with_reducible assumption)|assumption)
        obtain ⟨ad102,e102,hx102_0,hx102_1⟩:=at_T60 HR0.out x3_1 p102 q102;cases e102
        replace p102:=eq_true p102;replace q102:=eq_true q102;go_wp2_with (first|(go_at_call 56;(with_reducible refine (spec_l1In.calls ((rd_T60 l0 x3_1).f0) 0 240 false _ A7.out).mono ?_);rintro e w' ⟨rfl,⟨nd,rfl⟩⟩;(try first|exact ⟨rfl,_,World.drewN_drewN _ _ _⟩|exact ⟨rfl,_,zW _ _ _ _⟩)))
        repeat (go_quiet (first|(go_at_call 56;(with_reducible refine (spec_l1In.calls ((rd_T60 l0 x3_1).f0) 0 240 false _ A7.out).mono ?_);rintro e w' ⟨rfl,⟨nd,rfl⟩⟩;(try first|exact ⟨rfl,_,World.drewN_drewN _ _ _⟩|exact ⟨rfl,_,zW _ _ _ _⟩)));try go_wp2_with (first|(go_at_call 56;(with_reducible refine (spec_l1In.calls ((rd_T60 l0 x3_1).f0) 0 240 false _ A7.out).mono ?_);rintro e w' ⟨rfl,⟨nd,rfl⟩⟩;(try first|exact ⟨rfl,_,World.drewN_drewN _ _ _⟩|exact ⟨rfl,_,zW _ _ _ _⟩))))
        go_meet
        case rel=>exact ⟨_,(true),(by first|rfl|(simp;done)|(simp [*];done)),H',⟨by have:=HK1.out;first|omega|exact Nat.le_refl _⟩,by repeat (first|exact Drawn0.refl _|apply Drawn0.step)⟩
      ·rw [if_neg c6] at H
       exact absurd H (by simp)
     case rest =>
      clear HC5;(try clear p1);(try clear q1);(try clear hx1);(try clear p2);(try clear c3);(try clear c4);(try clear c4b0);(try clear c5);(try clear c6);(try clear c6b0);(try clear c8);(try clear hx102_0);(try clear hx102_1);(try clear hx104_0);(try clear hx104_1);(try clear p102);(try clear p104);(try clear p2);(try clear q102);(try clear q104);obtain ⟨kq,x29_4,rfl,HA,HJ4,⟨mc4,rfl⟩⟩:=hcut;cases kq with
      | zero=>exact absurd HA.out (by simp [spec_l15Good.j1])
      | succ kj4 =>
       have H:=HA.out;clear HA;simp only [spec_l15Good.j1] at H
       by_cases c10:x29_4 = true
       ·subst c10
        have H1:(some false) = some r:=by rw [if_pos rfl] at H;exact H
        clear H;have H:=H1;clear H1;obtain rfl:=Option.some.inj H;go_wp2
        repeat (go_quiet (fail);try go_wp2)
        go_ret
        exact ⟨by first|rfl|(simp;done)|(simp [*];done),by repeat (first|exact Drawn0.refl _|apply Drawn0.step)⟩
       ·replace c10:=Bool.eq_false_iff.mpr c10
        subst c10;have H1:(if x3_1 > 0 then (if 0 ≤ (wrap64 (x3_1 - 1)) then (if (wrap64 (x3_1 - 1)) < (l0.length:Int) then (if 0 ≤ x3_1 then (if x3_1 < (l0.length:Int) then (if ((rd_T60 l0 (wrap64 (x3_1 - 1))).f0) ≥ ((rd_T60 l0 x3_1).f0) then (spec_l15Good.j2 kj4 l0 x3_1 true) else (spec_l15Good.j2 kj4 l0 x3_1 (((rd_T60 l0 (wrap64 (x3_1 - 1))).f1) == ((rd_T60 l0 x3_1).f1)))) else (none)) else (none)) else (none)) else (none)) else (spec_l15Good.j2 kj4 l0 x3_1 false)) = some r:=by rw [if_neg (show ¬ (false = true) by decide)] at H;exact H
        clear H;have H:=H1;clear H1;have HC11:=zM H;clear H;go_upto_region 8 with (fail)
        repeat (go_quiet (fail);go_upto_region 8 with (fail))
        go_cut [59] (fun v59 wc => ∃ (kq:Nat) (x59_10:Bool),v59 = .bool x59_10 ∧ Aside0 (spec_l15Good.j2 kq l0 x3_1 x59_10 = some r) ∧ Aside0 (kq ≤ kj4) ∧ Drawn0 w wc)
        case first =>
         have H:=HC11.out;clear HC11;by_cases c12:x3_1 > 0
         ·rw [if_pos c12] at H
          have c12b0:decide (0 < x3_1) = true:=decide_eq_true c12
          clear c12;(first|rw [c12b0]|(simp only [i64_w,i32_w];rw [c12b0])|skip)
          obtain ⟨ji13,hji13⟩ : ∃ j_:Int,(wrap64 (x3_1 - 1)) = j_:=⟨_,rfl⟩
          replace H:(if 0 ≤ (ji13) then (if (ji13) < (l0.length:Int) then (if 0 ≤ x3_1 then (if x3_1 < (l0.length:Int) then (if ((rd_T60 l0 (ji13)).f0) ≥ ((rd_T60 l0 x3_1).f0) then (spec_l15Good.j2 kj4 l0 x3_1 true) else (spec_l15Good.j2 kj4 l0 x3_1 (((rd_T60 l0 (ji13)).f1) == ((rd_T60 l0 x3_1).f1)))) else (none)) else (none)) else (none)) else (none)) = some r:=by first|(rw [hji13] at H;exact H)|(simp only [hji13] at H ⊢;exact H)
          have hji13w:(IntKind.i64.wrap (x3_1 - 1)) = ji13:=(i64_w _).trans hji13
          by_cases c14:0 ≤ (ji13)
          ·rw [if_pos c14] at H
           have c14b0:decide (0 ≤ (ji13)) = true:=decide_eq_true c14
           clear c14;by_cases c15:(ji13) < (l0.length:Int)
           ·rw [if_pos c15] at H
            have c15b0:decide ((ji13) < (l0.length:Int)) = true:=decide_eq_true c15
            clear c15;by_cases c16:0 ≤ x3_1
            ·rw [if_pos c16] at H
             have c16b0:decide (0 ≤ x3_1) = true:=decide_eq_true c16
             clear c16;by_cases c17:x3_1 < (l0.length:Int)
             ·rw [if_pos c17] at H
              have c17b0:decide (x3_1 < (l0.length:Int)) = true:=decide_eq_true c17
              clear c17;by_cases c18:((rd_T60 l0 (ji13)).f0) ≥ ((rd_T60 l0 x3_1).f0)
              ·rw [if_pos c18] at H
               have c18b0:decide (((rd_T60 l0 x3_1).f0) ≤ ((rd_T60 l0 (ji13)).f0)) = true:=decide_eq_true c18
               clear c18;have H':=zM H;clear H;have p106:0 ≤ ((ji13):Int):=of_decide_eq_true (by first|(with_reducible assumption)|assumption)
               have q106:(ji13) < (l0.length:Int):=of_decide_eq_true (by first|(with_reducible assumption)|assumption)
               obtain ⟨ad106,e106,hx106_0,hx106_1⟩:=at_T60 HR0.out (ji13) p106 q106;cases e106
               replace p106:=eq_true p106;replace q106:=eq_true q106;have p107:0 ≤ (x3_1:Int):=of_decide_eq_true (by first|(with_reducible assumption)|assumption)
               have q107:x3_1 < (l0.length:Int):=of_decide_eq_true (by first|(with_reducible assumption)|assumption)
               obtain ⟨ad107,e107,hx107_0,hx107_1⟩:=at_T60 HR0.out x3_1 p107 q107;obtain rfl:ad106 = ad107:=(by injection e107)
               replace p107:=eq_true p107;replace q107:=eq_true q107;go_wp2
               repeat (go_quiet (fail);try go_wp2)
               go_meet
               case rel=>exact ⟨_,(true),(by first|rfl|(simp;done)|(simp [*];done)),H',⟨by have:=HK1.out;have:=HJ4.out;first|omega|exact Nat.le_refl _⟩,by repeat (first|exact Drawn0.refl _|apply Drawn0.step)⟩
              ·rw [if_neg c18] at H
               have c18b0:decide (((rd_T60 l0 x3_1).f0) ≤ ((rd_T60 l0 (ji13)).f0)) = false:=decide_eq_false c18
               clear c18;have H':=zM H;clear H;have p106:0 ≤ ((ji13):Int):=of_decide_eq_true (by first|(with_reducible assumption)|assumption)
               have q106:(ji13) < (l0.length:Int):=of_decide_eq_true (by first|(with_reducible assumption)|assumption)
               obtain ⟨ad106,e106,hx106_0,hx106_1⟩:=at_T60 HR0.out (ji13) p106 q106;cases e106
               replace p106:=eq_true p106;replace q106:=eq_true q106;have p107:0 ≤ (x3_1:Int):=of_decide_eq_true (by first|(with_reducible assumption)|assumption)
               have q107:x3_1 < (l0.length:Int):=of_decide_eq_true (by first|(with_reducible assumption)|assumption)
               obtain ⟨ad107,e107,hx107_0,hx107_1⟩:=at_T60 HR0.out x3_1 p107 q107;obtain rfl:ad106 = ad107:=(by injection e107)
               replace p107:=eq_true p107;replace q107:=eq_true q107;have p108:0 ≤ ((ji13):Int):=of_decide_eq_true (by first|(with_reducible assumption)|assumption)
               have q108:(ji13) < (l0.length:Int):=of_decide_eq_true (by first|(with_reducible assumption)|assumption)
               obtain ⟨ad108,e108,hx108_0,hx108_1⟩:=at_T60 HR0.out (ji13) p108 q108;obtain rfl:ad106 = ad108:=(by injection e108)
               replace p108:=eq_true p108;replace q108:=eq_true q108;have p109:0 ≤ (x3_1:Int):=of_decide_eq_true (by first|(with_reducible assumption)|assumption)
               have q109:x3_1 < (l0.length:Int):=of_decide_eq_true (by first|(with_reducible assumption)|assumption)
               obtain ⟨ad109,e109,hx109_0,hx109_1⟩:=at_T60 HR0.out x3_1 p109 q109;obtain rfl:ad106 = ad109:=(by injection e109)
               replace p109:=eq_true p109;replace q109:=eq_true q109;go_wp2
               repeat (go_quiet (fail);try go_wp2)
               go_meet
               case rel=>exact ⟨_,((((rd_T60 l0 (ji13)).f1) == ((rd_T60 l0 x3_1).f1))),(by first|rfl|(simp;done)|(simp only [← hji13] <;> (first|rfl|simp))|(simp [*];done)),H',⟨by have:=HK1.out;have:=HJ4.out;first|omega|exact Nat.le_refl _⟩,by repeat (first|exact Drawn0.refl _|apply Drawn0.step)⟩
             ·rw [if_neg c17] at H
              exact absurd H (by simp)
            ·rw [if_neg c16] at H
             exact absurd H (by simp)
           ·rw [if_neg c15] at H
            exact absurd H (by simp)
          ·rw [if_neg c14] at H
           exact absurd H (by simp)
         ·rw [if_neg c12] at H
          have c12b0:decide (0 < x3_1) = false:=decide_eq_false c12
          clear c12;(first|rw [c12b0]|(simp only [i64_w,i32_w];rw [c12b0])|skip)
          have H':=zM H;clear H;go_wp2
          repeat (go_quiet (fail);try go_wp2)
          go_meet
          case rel=>exact ⟨_,(false),(by first|rfl|(simp;done)|(simp [*];done)),H',⟨by have:=HK1.out;have:=HJ4.out;first|omega|exact Nat.le_refl _⟩,by repeat (first|exact Drawn0.refl _|apply Drawn0.step)⟩
        case rest =>
         clear HC11;(try clear c1);(try clear p1);(try clear q1);(try clear hx1);(try clear p2);(try clear c3);(try clear c4);(try clear c4b0);(try clear c5);(try clear c6);(try clear c6b0);(try clear p6);(try clear c8);(try clear c10);(try clear p10);(try clear q10);(try clear hx10);(try clear c12);(try clear c12b0);(try clear c14);(try clear c14b0);(try clear c15);(try clear c15b0);(try clear c16);(try clear c16b0);(try clear c17);(try clear c17b0);(try clear c18);(try clear c18b0);(try clear hx102_0);(try clear hx102_1);(try clear hx104_0);(try clear hx104_1);(try clear hx106_0);(try clear hx106_1);(try clear hx107_0);(try clear hx107_1);(try clear hx108_0);(try clear hx108_1);(try clear hx109_0);(try clear hx109_1);(try clear p1);(try clear p102);(try clear p104);(try clear p106);(try clear p107);(try clear p108);(try clear p109);(try clear p2);(try clear q1);(try clear q102);(try clear q104);(try clear q106);(try clear q107);(try clear q108);(try clear q109);obtain ⟨kq,x59_10,rfl,HA,HJ10,⟨mc10,rfl⟩⟩:=hcut;cases kq with
         | zero=>exact absurd HA.out (by simp [spec_l15Good.j2])
         | succ kj10 =>
          have H:=HA.out;clear HA;simp only [spec_l15Good.j2] at H
          by_cases c19:x59_10 = true
          ·subst c19
           have H1:(some false) = some r:=by rw [if_pos rfl] at H;exact H
           clear H;have H:=H1;clear H1;obtain rfl:=Option.some.inj H;go_wp2
           repeat (go_quiet (fail);try go_wp2)
           go_ret
           exact ⟨by first|rfl|(simp;done)|(simp [*];done),by repeat (first|exact Drawn0.refl _|apply Drawn0.step)⟩
          ·replace c19:=Bool.eq_false_iff.mpr c19
           subst c19;have H1:(if x3_1 > 1 then (if 0 ≤ (wrap64 (x3_1 - 2)) then (if (wrap64 (x3_1 - 2)) < (l0.length:Int) then (if 0 ≤ (wrap64 (x3_1 - 1)) then (if (wrap64 (x3_1 - 1)) < (l0.length:Int) then (if 0 ≤ x3_1 then (if x3_1 < (l0.length:Int) then (if ((decide (((rd_T60 l0 (wrap64 (x3_1 - 2))).f1) < ((rd_T60 l0 (wrap64 (x3_1 - 1))).f1))) == (decide (((rd_T60 l0 (wrap64 (x3_1 - 1))).f1) < ((rd_T60 l0 x3_1).f1)))) = true then (some false) else (spec_l15Good.l0 kj10 l0 (wrap64 (x3_1 + 1)))) else (none)) else (none)) else (none)) else (none)) else (none)) else (none)) else (spec_l15Good.l0 kj10 l0 (wrap64 (x3_1 + 1)))) = some r:=by rw [if_neg (show ¬ (false = true) by decide)] at H;exact H
           clear H;have H:=H1;clear H1;by_cases c20:x3_1 > 1
           ·rw [if_pos c20] at H
            have c20b0:decide (1 < x3_1) = true:=decide_eq_true c20
            clear c20;obtain ⟨ji21,hji21⟩ : ∃ j_:Int,(wrap64 (x3_1 - 2)) = j_:=⟨_,rfl⟩
            replace H:(if 0 ≤ (ji21) then (if (ji21) < (l0.length:Int) then (if 0 ≤ (wrap64 (x3_1 - 1)) then (if (wrap64 (x3_1 - 1)) < (l0.length:Int) then (if 0 ≤ x3_1 then (if x3_1 < (l0.length:Int) then (if ((decide (((rd_T60 l0 (ji21)).f1) < ((rd_T60 l0 (wrap64 (x3_1 - 1))).f1))) == (decide (((rd_T60 l0 (wrap64 (x3_1 - 1))).f1) < ((rd_T60 l0 x3_1).f1)))) = true then (some false) else (spec_l15Good.l0 kj10 l0 (wrap64 (x3_1 + 1)))) else (none)) else (none)) else (none)) else (none)) else (none)) else (none)) = some r:=by first|(rw [hji21] at H;exact H)|(simp only [hji21] at H ⊢;exact H)
            have hji21w:(IntKind.i64.wrap (x3_1 - 2)) = ji21:=(i64_w _).trans hji21
            by_cases c22:0 ≤ (ji21)
            ·rw [if_pos c22] at H
             have c22b0:decide (0 ≤ (ji21)) = true:=decide_eq_true c22
             clear c22;by_cases c23:(ji21) < (l0.length:Int)
             ·rw [if_pos c23] at H
              have c23b0:decide ((ji21) < (l0.length:Int)) = true:=decide_eq_true c23
              clear c23;obtain ⟨ji24,hji24⟩ : ∃ j_:Int,(wrap64 (x3_1 - 1)) = j_:=⟨_,rfl⟩
              replace H:(if 0 ≤ (ji24) then (if (ji24) < (l0.length:Int) then (if 0 ≤ x3_1 then (if x3_1 < (l0.length:Int) then (if ((decide (((rd_T60 l0 (ji21)).f1) < ((rd_T60 l0 (ji24)).f1))) == (decide (((rd_T60 l0 (ji24)).f1) < ((rd_T60 l0 x3_1).f1)))) = true then (some false) else (spec_l15Good.l0 kj10 l0 (wrap64 (x3_1 + 1)))) else (none)) else (none)) else (none)) else (none)) = some r:=by first|(rw [hji24] at H;exact H)|(simp only [hji24] at H ⊢;exact H)
              have hji24w:(IntKind.i64.wrap (x3_1 - 1)) = ji24:=(i64_w _).trans hji24
              by_cases c25:0 ≤ (ji24)
              ·rw [if_pos c25] at H
               have c25b0:decide (0 ≤ (ji24)) = true:=decide_eq_true c25
               clear c25;by_cases c26:(ji24) < (l0.length:Int)
               ·rw [if_pos c26] at H
                have c26b0:decide ((ji24) < (l0.length:Int)) = true:=decide_eq_true c26
                clear c26;by_cases c27:0 ≤ x3_1
                ·rw [if_pos c27] at H
                 have c27b0:decide (0 ≤ x3_1) = true:=decide_eq_true c27
                 clear c27;by_cases c28:x3_1 < (l0.length:Int)
                 ·rw [if_pos c28] at H
                  have c28b0:decide (x3_1 < (l0.length:Int)) = true:=decide_eq_true c28
                  clear c28;by_cases c29:((decide (((rd_T60 l0 (ji21)).f1) < ((rd_T60 l0 (ji24)).f1))) == (decide (((rd_T60 l0 (ji24)).f1) < ((rd_T60 l0 x3_1).f1)))) = true
                  ·rw [if_pos c29] at H
                   have c29b0:((decide (((rd_T60 l0 (ji21)).f1) < ((rd_T60 l0 (ji24)).f1))) == (decide (((rd_T60 l0 (ji24)).f1) < ((rd_T60 l0 x3_1).f1)))) = true:=c29
                   (try (have c29b1:decide ((decide (((rd_T60 l0 (ji21)).f1) < ((rd_T60 l0 (ji24)).f1))) = (decide (((rd_T60 l0 (ji24)).f1) < ((rd_T60 l0 x3_1).f1)))) = true:=by simpa using c29))
                   (try (have c29b2:((decide (((rd_T60 l0 (ji21)).f1) < ((rd_T60 l0 (ji24)).f1))) == (decide (((rd_T60 l0 (ji24)).f1) < ((rd_T60 l0 x3_1).f1)))) = true:=by simpa using c29))
                   clear c29;obtain rfl:=Option.some.inj H;have p110:0 ≤ ((ji21):Int):=of_decide_eq_true (by first|(with_reducible assumption)|assumption)
                   have q110:(ji21) < (l0.length:Int):=of_decide_eq_true (by first|(with_reducible assumption)|assumption)
                   obtain ⟨ad110,e110,hx110_0,hx110_1⟩:=at_T60 HR0.out (ji21) p110 q110;cases e110
                   replace p110:=eq_true p110;replace q110:=eq_true q110;have p111:0 ≤ ((ji24):Int):=of_decide_eq_true (by first|(with_reducible assumption)|assumption)
                   have q111:(ji24) < (l0.length:Int):=of_decide_eq_true (by first|(with_reducible assumption)|assumption)
                   obtain ⟨ad111,e111,hx111_0,hx111_1⟩:=at_T60 HR0.out (ji24) p111 q111;obtain rfl:ad110 = ad111:=(by injection e111)
                   replace p111:=eq_true p111;replace q111:=eq_true q111;have p112:0 ≤ ((ji24):Int):=of_decide_eq_true (by first|(with_reducible assumption)|assumption)
                   have q112:(ji24) < (l0.length:Int):=of_decide_eq_true (by first|(with_reducible assumption)|assumption)
                   obtain ⟨ad112,e112,hx112_0,hx112_1⟩:=at_T60 HR0.out (ji24) p112 q112;obtain rfl:ad110 = ad112:=(by injection e112)
                   replace p112:=eq_true p112;replace q112:=eq_true q112;have p113:0 ≤ (x3_1:Int):=of_decide_eq_true (by first|(with_reducible assumption)|assumption)
                   have q113:x3_1 < (l0.length:Int):=of_decide_eq_true (by first|(with_reducible assumption)|assumption)
                   obtain ⟨ad113,e113,hx113_0,hx113_1⟩:=at_T60 HR0.out x3_1 p113 q113;obtain rfl:ad110 = ad113:=(by injection e113)
                   replace p113:=eq_true p113;replace q113:=eq_true q113;go_wp2
                   repeat (go_quiet (fail);try go_wp2)
                   go_ret
                   exact ⟨by first|rfl|(simp;done)|(simp only [← hji21,← hji24] <;> (first|rfl|simp))|(simp [*];done),by repeat (first|exact Drawn0.refl _|apply Drawn0.step)⟩
                  ·rw [if_neg c29] at H
                   have c29b0:((decide (((rd_T60 l0 (ji21)).f1) < ((rd_T60 l0 (ji24)).f1))) == (decide (((rd_T60 l0 (ji24)).f1) < ((rd_T60 l0 x3_1).f1)))) = false:=by simpa using c29
                   (try (have c29b1:decide ((decide (((rd_T60 l0 (ji21)).f1) < ((rd_T60 l0 (ji24)).f1))) = (decide (((rd_T60 l0 (ji24)).f1) < ((rd_T60 l0 x3_1).f1)))) = false:=by simpa using c29))
                   (try (have c29b2:((decide (((rd_T60 l0 (ji21)).f1) < ((rd_T60 l0 (ji24)).f1))) == (decide (((rd_T60 l0 (ji24)).f1) < ((rd_T60 l0 x3_1).f1)))) = false:=by simpa using c29))
                   (try (have c29b3:¬ ((decide (((rd_T60 l0 (ji21)).f1) < ((rd_T60 l0 (ji24)).f1))) = (decide (((rd_T60 l0 (ji24)).f1) < ((rd_T60 l0 x3_1).f1)))):=by simpa using c29))
                   clear c29;have H':=zM H;clear H;have p110:0 ≤ ((ji21):Int):=of_decide_eq_true (by first|(with_reducible assumption)|assumption)
                   have q110:(ji21) < (l0.length:Int):=of_decide_eq_true (by first|(with_reducible assumption)|assumption)
                   obtain ⟨ad110,e110,hx110_0,hx110_1⟩:=at_T60 HR0.out (ji21) p110 q110;cases e110
                   replace p110:=eq_true p110;replace q110:=eq_true q110;have p111:0 ≤ ((ji24):Int):=of_decide_eq_true (by first|(with_reducible assumption)|assumption)
                   have q111:(ji24) < (l0.length:Int):=of_decide_eq_true (by first|(with_reducible assumption)|assumption)
                   obtain ⟨ad111,e111,hx111_0,hx111_1⟩:=at_T60 HR0.out (ji24) p111 q111;obtain rfl:ad110 = ad111:=(by injection e111)
                   replace p111:=eq_true p111;replace q111:=eq_true q111;have p112:0 ≤ ((ji24):Int):=of_decide_eq_true (by first|(with_reducible assumption)|assumption)
                   have q112:(ji24) < (l0.length:Int):=of_decide_eq_true (by first|(with_reducible assumption)|assumption)
                   obtain ⟨ad112,e112,hx112_0,hx112_1⟩:=at_T60 HR0.out (ji24) p112 q112;obtain rfl:ad110 = ad112:=(by injection e112)
                   replace p112:=eq_true p112;replace q112:=eq_true q112;have p113:0 ≤ (x3_1:Int):=of_decide_eq_true (by first|(with_reducible assumption)|assumption)
                   have q113:x3_1 < (l0.length:Int):=of_decide_eq_true (by first|(with_reducible assumption)|assumption)
                   obtain ⟨ad113,e113,hx113_0,hx113_1⟩:=at_T60 HR0.out x3_1 p113 q113;obtain rfl:ad110 = ad113:=(by injection e113)
                   replace p113:=eq_true p113;replace q113:=eq_true q113;go_wp2
                   repeat (go_quiet (fail);try go_wp2)
                   go_roundg kj10
                   case measure=>have:=HK1.out;have:=HJ4.out;have:=HJ10.out;omega
                   case rel=>exact ⟨(wrap64 (x3_1 + 1)),(by first|rfl|(simp;done)|(simp [*];done)),H',⟨by have:=HK1.out;have:=HJ4.out;have:=HJ10.out;omega⟩,by repeat (first|exact Drawn0.refl _|apply Drawn0.step)⟩
                 ·rw [if_neg c28] at H
                  exact absurd H (by simp)
                ·rw [if_neg c27] at H
                 exact absurd H (by simp)
               ·rw [if_neg c26] at H
                exact absurd H (by simp)
              ·rw [if_neg c25] at H
               exact absurd H (by simp)
             ·rw [if_neg c23] at H
              exact absurd H (by simp)
            ·rw [if_neg c22] at H
             exact absurd H (by simp)
           ·rw [if_neg c20] at H
            have c20b0:decide (1 < x3_1) = false:=decide_eq_false c20
            clear c20;have H':=zM H;clear H;go_wp2
            repeat (go_quiet (fail);try go_wp2)
            go_roundg kj10
            case measure=>have:=HK1.out;have:=HJ4.out;have:=HJ10.out;omega
            case rel=>exact ⟨(wrap64 (x3_1 + 1)),(by first|rfl|(simp;done)|(simp [*];done)),H',⟨by have:=HK1.out;have:=HJ4.out;have:=HJ10.out;omega⟩,by repeat (first|exact Drawn0.refl _|apply Drawn0.step)⟩
    ·rw [if_neg c4] at H
     have c4b0:decide (x3_1 < (l0.length:Int)) = false:=decide_eq_false c4
     clear c4;obtain rfl:=Option.some.inj H;go_wp2
     repeat (go_quiet (fail);try go_wp2)
     go_ret
     exact ⟨by first|rfl|(simp;done)|(simp [*];done),by repeat (first|exact Drawn0.refl _|apply Drawn0.step)⟩
 ·replace c3:=Bool.eq_false_iff.mpr c3
  subst c3;have H1:(some false) = some r:=by rw [if_neg (show ¬ (false = true) by decide)] at H;exact H
  clear H;have H:=H1;clear H1;obtain rfl:=Option.some.inj H;go_enter Try.func52,Try.ntmps52
  go_wp2_with (first|(go_at_call 56;(with_reducible refine (spec_l1In.calls (l0.length:Int) 2 20 false _ A2.out).mono ?_);rintro e w' ⟨rfl,⟨nd,rfl⟩⟩;(try first|exact ⟨rfl,_,World.drewN_drewN _ _ _⟩|exact ⟨rfl,_,zW _ _ _ _⟩)))
  repeat (go_quiet (first|(go_at_call 56;(with_reducible refine (spec_l1In.calls (l0.length:Int) 2 20 false _ A2.out).mono ?_);rintro e w' ⟨rfl,⟨nd,rfl⟩⟩;(try first|exact ⟨rfl,_,World.drewN_drewN _ _ _⟩|exact ⟨rfl,_,zW _ _ _ _⟩)));try go_wp2_with (first|(go_at_call 56;(with_reducible refine (spec_l1In.calls (l0.length:Int) 2 20 false _ A2.out).mono ?_);rintro e w' ⟨rfl,⟨nd,rfl⟩⟩;(try first|exact ⟨rfl,_,World.drewN_drewN _ _ _⟩|exact ⟨rfl,_,zW _ _ _ _⟩))))
  go_ret
  exact ⟨by first|rfl|(simp;done)|(simp [*];done),by repeat (first|exact Drawn0.refl _|apply Drawn0.step)⟩



/-! ### spec_l15Holds: function 59 -/
def spec_l15Holds.f (k:Nat) (l0:List (S60)) (a1:Int):Option (Bool):=(spec_l15Good.f k l0).bind fun t260=>(if t260 = true then (if 0 < (l0.length:Int) then (if 0 ≤ (wrap64 ((l0.length:Int) - 1)) then (if (wrap64 ((l0.length:Int) - 1)) < (l0.length:Int) then ((spec_l1In.f a1 ((rd_T60 l0 0).f0) ((rd_T60 l0 (wrap64 ((l0.length:Int) - 1))).f0)).bind fun t263=>(some t263)) else (none)) else (none)) else (none)) else (some false))
set_option maxHeartbeats 8000000 in
set_option maxRecDepth 100000 in
theorem spec_l15Holds.calls (k:Nat) (A0:Option Addr) (c0:Nat) (l0:List (S60)) (a1:Int) (r:Bool) (w:World) (hr0:Kd.C k60 w A0 l0.length l0) (hc0:l0.length ≤ c0) (h:spec_l15Holds.f k l0 a1 = some r) :
  Calls Try.prog 59 #[.slice A0 l0.length c0,.int .i64 a1] w fun e w'=>e = .returned (.bool r) ∧ Drawn0 w w':=by
 have HR0:=zM hr0;have HC0:=zM hc0;clear hr0 hc0;have H:((spec_l15Good.f k l0).bind fun t260=>(if t260 = true then (if 0 < (l0.length:Int) then (if 0 ≤ (wrap64 ((l0.length:Int) - 1)) then (if (wrap64 ((l0.length:Int) - 1)) < (l0.length:Int) then ((spec_l1In.f a1 ((rd_T60 l0 0).f0) ((rd_T60 l0 (wrap64 ((l0.length:Int) - 1))).f0)).bind fun t263=>(some t263)) else (none)) else (none)) else (none)) else (some false))) = some r:=h
 clear h;replace H:=Option.bind_eq_some_iff.mp H;obtain ⟨t260,A30,H⟩:=H;replace H:(if t260 = true then (if 0 < (l0.length:Int) then (if 0 ≤ (wrap64 ((l0.length:Int) - 1)) then (if (wrap64 ((l0.length:Int) - 1)) < (l0.length:Int) then ((spec_l1In.f a1 ((rd_T60 l0 0).f0) ((rd_T60 l0 (wrap64 ((l0.length:Int) - 1))).f0)).bind fun t263=>(some t263)) else (none)) else (none)) else (none)) else (some false)) = some r:=H
 have A3:=zM A30;clear A30;by_cases c4:t260 = true
 ·subst c4
  have H1:(if 0 < (l0.length:Int) then (if 0 ≤ (wrap64 ((l0.length:Int) - 1)) then (if (wrap64 ((l0.length:Int) - 1)) < (l0.length:Int) then ((spec_l1In.f a1 ((rd_T60 l0 0).f0) ((rd_T60 l0 (wrap64 ((l0.length:Int) - 1))).f0)).bind fun t263=>(some t263)) else (none)) else (none)) else (none)) = some r:=by rw [if_pos rfl] at H;exact H
  clear H;have H:=H1;clear H1;by_cases c5:0 < (l0.length:Int)
  ·rw [if_pos c5] at H
   have c5b0:decide (0 < (l0.length:Int)) = true:=decide_eq_true c5
   have c5b1:decide (0 < l0.length) = true:=decide_eq_true (by omega)
   clear c5;obtain ⟨ji6,hji6⟩ : ∃ j_:Int,(wrap64 ((l0.length:Int) - 1)) = j_:=⟨_,rfl⟩
   replace H:(if 0 ≤ (ji6) then (if (ji6) < (l0.length:Int) then ((spec_l1In.f a1 ((rd_T60 l0 0).f0) ((rd_T60 l0 (ji6)).f0)).bind fun t263=>(some t263)) else (none)) else (none)) = some r:=by first|(rw [hji6] at H;exact H)|(simp only [hji6] at H ⊢;exact H)
   (try rw [hji6] at A3)
   have hji6w:(IntKind.i64.wrap ((l0.length:Int) - 1)) = ji6:=(i64_w _).trans hji6
   by_cases c7:0 ≤ (ji6)
   ·rw [if_pos c7] at H
    have c7b0:decide (0 ≤ (ji6)) = true:=decide_eq_true c7
    clear c7;by_cases c8:(ji6) < (l0.length:Int)
    ·rw [if_pos c8] at H
     have c8b0:decide ((ji6) < (l0.length:Int)) = true:=decide_eq_true c8
     clear c8;replace H:=Option.bind_eq_some_iff.mp H;obtain ⟨t263,A90,H⟩:=H;replace H:(some t263) = some r:=H
     have A9:=zM A90;clear A90;obtain rfl:=Option.some.inj H;go_enter Try.func59,Try.ntmps59
     go_wp2_with (first|(go_at_call 52;(with_reducible refine (spec_l15Good.calls k _ _ l0 true _ ?side1 ?side2 A3.out).mono ?_);(case side1=>repeat (first|exact HR0.out|(with_reducible first|refine zG ?_ _|refine zH ?_ _|refine zI ?_)));(case side2=>exact HC0.out);rintro e w' ⟨rfl,⟨nd,rfl⟩⟩;(try first|exact ⟨rfl,_,World.drewN_drewN _ _ _⟩|exact ⟨rfl,_,zW _ _ _ _⟩);have p261:0 ≤ (0:Int):=(by omega);have q261:0 < (l0.length:Int):=of_decide_eq_true (by first|(with_reducible assumption)|assumption);obtain ⟨ad261,e261,hx261_0,hx261_1⟩:=at_T60 HR0.out 0 p261 q261;cases e261;have qi261:(0 < l0.length) = True:=eq_true (by omega);(try rw [show ((0:Int)).toNat = 0 from rfl] at hx261_0);(try rw [show 0 * 2 = 0 from rfl] at hx261_0);(try rw [Addr.add_zero'] at hx261_0);(try rw [show ((0:Int)).toNat = 0 from rfl] at hx261_1);(try rw [show 0 * 2 = 0 from rfl] at hx261_1);(try rw [Addr.add_zero'] at hx261_1);replace p261:=eq_true p261;replace q261:=eq_true q261;have p262:0 ≤ ((ji6):Int):=of_decide_eq_true (by first|(with_reducible assumption)|assumption);have q262:(ji6) < (l0.length:Int):=of_decide_eq_true (by first|(with_reducible assumption)|assumption);obtain ⟨ad262,e262,hx262_0,hx262_1⟩:=at_T60 HR0.out (ji6) p262 q262;obtain rfl:ad261 = ad262:=(by injection e262);replace p262:=eq_true p262;replace q262:=eq_true q262)|(go_at_call 56;(with_reducible refine (spec_l1In.calls a1 ((rd_T60 l0 0).f0) ((rd_T60 l0 (ji6)).f0) t263 _ A9.out).mono ?_);rintro e w' ⟨rfl,⟨nd,rfl⟩⟩;(try first|exact ⟨rfl,_,World.drewN_drewN _ _ _⟩|exact ⟨rfl,_,zW _ _ _ _⟩)))
     repeat (go_quiet (first|(go_at_call 52;(with_reducible refine (spec_l15Good.calls k _ _ l0 true _ ?side1 ?side2 A3.out).mono ?_);(case side1=>repeat (first|exact HR0.out|(with_reducible first|refine zG ?_ _|refine zH ?_ _|refine zI ?_)));(case side2=>exact HC0.out);rintro e w' ⟨rfl,⟨nd,rfl⟩⟩;(try first|exact ⟨rfl,_,World.drewN_drewN _ _ _⟩|exact ⟨rfl,_,zW _ _ _ _⟩);have p261:0 ≤ (0:Int):=(by omega);have q261:0 < (l0.length:Int):=of_decide_eq_true (by first|(with_reducible assumption)|assumption);obtain ⟨ad261,e261,hx261_0,hx261_1⟩:=at_T60 HR0.out 0 p261 q261;cases e261;have qi261:(0 < l0.length) = True:=eq_true (by omega);(try rw [show ((0:Int)).toNat = 0 from rfl] at hx261_0);(try rw [show 0 * 2 = 0 from rfl] at hx261_0);(try rw [Addr.add_zero'] at hx261_0);(try rw [show ((0:Int)).toNat = 0 from rfl] at hx261_1);(try rw [show 0 * 2 = 0 from rfl] at hx261_1);(try rw [Addr.add_zero'] at hx261_1);replace p261:=eq_true p261;replace q261:=eq_true q261;have p262:0 ≤ ((ji6):Int):=of_decide_eq_true (by first|(with_reducible assumption)|assumption);have q262:(ji6) < (l0.length:Int):=of_decide_eq_true (by first|(with_reducible assumption)|assumption);obtain ⟨ad262,e262,hx262_0,hx262_1⟩:=at_T60 HR0.out (ji6) p262 q262;obtain rfl:ad261 = ad262:=(by injection e262);replace p262:=eq_true p262;replace q262:=eq_true q262)|(go_at_call 56;(with_reducible refine (spec_l1In.calls a1 ((rd_T60 l0 0).f0) ((rd_T60 l0 (ji6)).f0) t263 _ A9.out).mono ?_);rintro e w' ⟨rfl,⟨nd,rfl⟩⟩;(try first|exact ⟨rfl,_,World.drewN_drewN _ _ _⟩|exact ⟨rfl,_,zW _ _ _ _⟩)));try go_wp2_with (first|(go_at_call 52;(with_reducible refine (spec_l15Good.calls k _ _ l0 true _ ?side1 ?side2 A3.out).mono ?_);(case side1=>repeat (first|exact HR0.out|(with_reducible first|refine zG ?_ _|refine zH ?_ _|refine zI ?_)));(case side2=>exact HC0.out);rintro e w' ⟨rfl,⟨nd,rfl⟩⟩;(try first|exact ⟨rfl,_,World.drewN_drewN _ _ _⟩|exact ⟨rfl,_,zW _ _ _ _⟩);have p261:0 ≤ (0:Int):=(by omega);have q261:0 < (l0.length:Int):=of_decide_eq_true (by first|(with_reducible assumption)|assumption);obtain ⟨ad261,e261,hx261_0,hx261_1⟩:=at_T60 HR0.out 0 p261 q261;cases e261;have qi261:(0 < l0.length) = True:=eq_true (by omega);(try rw [show ((0:Int)).toNat = 0 from rfl] at hx261_0);(try rw [show 0 * 2 = 0 from rfl] at hx261_0);(try rw [Addr.add_zero'] at hx261_0);(try rw [show ((0:Int)).toNat = 0 from rfl] at hx261_1);(try rw [show 0 * 2 = 0 from rfl] at hx261_1);(try rw [Addr.add_zero'] at hx261_1);replace p261:=eq_true p261;replace q261:=eq_true q261;have p262:0 ≤ ((ji6):Int):=of_decide_eq_true (by first|(with_reducible assumption)|assumption);have q262:(ji6) < (l0.length:Int):=of_decide_eq_true (by first|(with_reducible assumption)|assumption);obtain ⟨ad262,e262,hx262_0,hx262_1⟩:=at_T60 HR0.out (ji6) p262 q262;obtain rfl:ad261 = ad262:=(by injection e262);replace p262:=eq_true p262;replace q262:=eq_true q262)|(go_at_call 56;(with_reducible refine (spec_l1In.calls a1 ((rd_T60 l0 0).f0) ((rd_T60 l0 (ji6)).f0) t263 _ A9.out).mono ?_);rintro e w' ⟨rfl,⟨nd,rfl⟩⟩;(try first|exact ⟨rfl,_,World.drewN_drewN _ _ _⟩|exact ⟨rfl,_,zW _ _ _ _⟩))))
     go_ret
     exact ⟨by first|rfl|(simp;done)|(simp only [← hji6] <;> (first|rfl|simp))|(simp [*];done),by repeat (first|exact Drawn0.refl _|apply Drawn0.step)⟩
    ·rw [if_neg c8] at H
     exact absurd H (by simp)
   ·rw [if_neg c7] at H
    exact absurd H (by simp)
  ·rw [if_neg c5] at H
   exact absurd H (by simp)
 ·replace c4:=Bool.eq_false_iff.mpr c4
  subst c4;have H1:(some false) = some r:=by rw [if_neg (show ¬ (false = true) by decide)] at H;exact H
  clear H;have H:=H1;clear H1;obtain rfl:=Option.some.inj H;go_enter Try.func59,Try.ntmps59
  go_wp2_with (first|(go_at_call 52;(with_reducible refine (spec_l15Good.calls k _ _ l0 false _ ?side1 ?side2 A3.out).mono ?_);(case side1=>repeat (first|exact HR0.out|(with_reducible first|refine zG ?_ _|refine zH ?_ _|refine zI ?_)));(case side2=>exact HC0.out);rintro e w' ⟨rfl,⟨nd,rfl⟩⟩;(try first|exact ⟨rfl,_,World.drewN_drewN _ _ _⟩|exact ⟨rfl,_,zW _ _ _ _⟩)))
  repeat (go_quiet (first|(go_at_call 52;(with_reducible refine (spec_l15Good.calls k _ _ l0 false _ ?side1 ?side2 A3.out).mono ?_);(case side1=>repeat (first|exact HR0.out|(with_reducible first|refine zG ?_ _|refine zH ?_ _|refine zI ?_)));(case side2=>exact HC0.out);rintro e w' ⟨rfl,⟨nd,rfl⟩⟩;(try first|exact ⟨rfl,_,World.drewN_drewN _ _ _⟩|exact ⟨rfl,_,zW _ _ _ _⟩)));try go_wp2_with (first|(go_at_call 52;(with_reducible refine (spec_l15Good.calls k _ _ l0 false _ ?side1 ?side2 A3.out).mono ?_);(case side1=>repeat (first|exact HR0.out|(with_reducible first|refine zG ?_ _|refine zH ?_ _|refine zI ?_)));(case side2=>exact HC0.out);rintro e w' ⟨rfl,⟨nd,rfl⟩⟩;(try first|exact ⟨rfl,_,World.drewN_drewN _ _ _⟩|exact ⟨rfl,_,zW _ _ _ _⟩))))
  go_ret
  exact ⟨by first|rfl|(simp;done)|(simp [*];done),by repeat (first|exact Drawn0.refl _|apply Drawn0.step)⟩



/-! ### spec_l15Height: function 60 -/
def spec_l15Height.l0:Nat → List (S60) → Int → Int → Option (Int × Int)
 | 0,_,_,_=>none
 | k + 1,x0,x1,x6=>if (wrap64 (x6 + 2)) < (x0.length:Int) then (if 0 ≤ (wrap64 (x6 + 1)) then (if (wrap64 (x6 + 1)) < (x0.length:Int) then (if ((rd_T60 x0 (wrap64 (x6 + 1))).f0) ≤ x1 then (spec_l15Height.l0 k x0 x1 (wrap64 (x6 + 1))) else (if 0 ≤ x6 then (if x6 < (x0.length:Int) then (some (wrap64 ((wrap64 (((rd_T60 x0 x6).f1) * (wrap64 (((rd_T60 x0 (wrap64 (x6 + 1))).f0) - ((rd_T60 x0 x6).f0))))) + (wrap64 ((wrap64 (((rd_T60 x0 (wrap64 (x6 + 1))).f1) - ((rd_T60 x0 x6).f1))) * (wrap64 (x1 - ((rd_T60 x0 x6).f0)))))),wrap64 (((rd_T60 x0 (wrap64 (x6 + 1))).f0) - ((rd_T60 x0 x6).f0)))) else (none)) else (none))) else (none)) else (none)) else (if 0 ≤ x6 then (if x6 < (x0.length:Int) then (if 0 ≤ (wrap64 (x6 + 1)) then (if (wrap64 (x6 + 1)) < (x0.length:Int) then (some (wrap64 ((wrap64 (((rd_T60 x0 x6).f1) * (wrap64 (((rd_T60 x0 (wrap64 (x6 + 1))).f0) - ((rd_T60 x0 x6).f0))))) + (wrap64 ((wrap64 (((rd_T60 x0 (wrap64 (x6 + 1))).f1) - ((rd_T60 x0 x6).f1))) * (wrap64 (x1 - ((rd_T60 x0 x6).f0)))))),wrap64 (((rd_T60 x0 (wrap64 (x6 + 1))).f0) - ((rd_T60 x0 x6).f0)))) else (none)) else (none)) else (none)) else (none))
def spec_l15Height.f (k:Nat) (l0:List (S60)) (a1:Int):Option (Int × Int):=spec_l15Height.l0 k l0 a1 0
def spec_l15Height.T4:Bool × List (List Nat × List Nat):=(true,[([],[]),([],[]),([0,1],[0,1]),([2],[2]),([],[]),([],[]),([5],[5]),([4,6],[4,6]),([7],[7]),([],[]),([],[]),([9,3,0,1,2,3,9,10],[3,9]),([10,8,11,0,1,2,3,4,5,6,7,8,9,10,11],[8,10])])
def spec_l15Height.B4:List Nat:=[0,0,3,7,0,0,32,112,240,0,0,1551,4095]
theorem spec_l15Height.tab4:rtab .any (opsOf Try.f60 4) = spec_l15Height.T4:=by kernel_rfl
theorem spec_l15Height.bits4:waitsOk spec_l15Height.T4.2 spec_l15Height.B4 = true:=by kernel_rfl
set_option maxHeartbeats 8000000 in
set_option maxRecDepth 100000 in
theorem spec_l15Height.calls (k:Nat) (A0:Option Addr) (c0:Nat) (l0:List (S60)) (a1:Int) (r1:Int) (r2:Int) (w:World) (hr0:Kd.C k60 w A0 l0.length l0) (hc0:l0.length ≤ c0) (h:spec_l15Height.f k l0 a1 = some (r1,r2)) :
  Calls Try.prog 60 #[.slice A0 l0.length c0,.int .i64 a1] w fun e w'=>e = .returned (.tuple #[.int .i64 r1,.int .i64 r2]) ∧ Below w.heap.size w w':=by
 have hu60:=Try.underlying60;have HR0:=zM hr0;have HC0:=zM hc0;clear hr0 hc0;have HB:=zM (Below.refl w.heap.size w);have H:(spec_l15Height.l0 k l0 a1 0) = some (r1,r2):=h
 clear h;have H':=zM H;clear H;go_enter Try.func60,Try.ntmps60
 go_wp2
 go_loopg [6] k (fun kq v6 w' => ∃ (x6_1:Int),v6 = .int .i64 x6_1 ∧ Aside0 (spec_l15Height.l0 kq l0 a1 x6_1 = some (r1,r2)) ∧ Aside0 (kq ≤ k) ∧ Aside0 (Below w.heap.size w w'))
 case atStart=>exact ⟨(0),(by first|rfl|(simp;done)|(simp [*];done)),H',⟨Nat.le_refl _⟩,⟨by repeat (first|(with_reducible first|exact HB.out|apply zD|apply zE|apply zF)|exact HB.out)⟩⟩
 case round =>
  clear H';(try clear p2);obtain ⟨x6_1,rfl,HA,HK1,HB⟩:=hrel;cases gk with
  | zero=>exact absurd HA.out (by simp [spec_l15Height.l0])
  | succ k1 =>
   have H:=HA.out;clear HA;simp only [spec_l15Height.l0] at H
   by_cases c3:(wrap64 (x6_1 + 2)) < (l0.length:Int)
   ·rw [if_pos c3] at H
    have c3b0:decide ((wrap64 (x6_1 + 2)) < (l0.length:Int)) = true:=decide_eq_true c3
    clear c3;obtain ⟨ji4,hji4⟩ : ∃ j_:Int,(wrap64 (x6_1 + 1)) = j_:=⟨_,rfl⟩
    replace H:(if 0 ≤ (ji4) then (if (ji4) < (l0.length:Int) then (if ((rd_T60 l0 (ji4)).f0) ≤ a1 then (spec_l15Height.l0 k1 l0 a1 ji4) else (if 0 ≤ x6_1 then (if x6_1 < (l0.length:Int) then (some (wrap64 ((wrap64 (((rd_T60 l0 x6_1).f1) * (wrap64 (((rd_T60 l0 (ji4)).f0) - ((rd_T60 l0 x6_1).f0))))) + (wrap64 ((wrap64 (((rd_T60 l0 (ji4)).f1) - ((rd_T60 l0 x6_1).f1))) * (wrap64 (a1 - ((rd_T60 l0 x6_1).f0)))))),wrap64 (((rd_T60 l0 (ji4)).f0) - ((rd_T60 l0 x6_1).f0)))) else (none)) else (none))) else (none)) else (none)) = some (r1,r2):=by first|(rw [hji4] at H;exact H)|(simp only [hji4] at H ⊢;exact H)
    have hji4w:(IntKind.i64.wrap (x6_1 + 1)) = ji4:=(i64_w _).trans hji4
    by_cases c5:0 ≤ (ji4)
    ·rw [if_pos c5] at H
     have c5b0:decide (0 ≤ (ji4)) = true:=decide_eq_true c5
     clear c5;by_cases c6:(ji4) < (l0.length:Int)
     ·rw [if_pos c6] at H
      have c6b0:decide ((ji4) < (l0.length:Int)) = true:=decide_eq_true c6
      clear c6;by_cases c7:((rd_T60 l0 (ji4)).f0) ≤ a1
      ·rw [if_pos c7] at H
       have c7b0:decide (((rd_T60 l0 (ji4)).f0) ≤ a1) = true:=decide_eq_true c7
       clear c7;have H':=zM H;clear H;have p264:0 ≤ ((ji4):Int):=of_decide_eq_true (by first|(with_reducible assumption)|assumption)
       have q264:(ji4) < (l0.length:Int):=of_decide_eq_true (by first|(with_reducible assumption)|assumption)
       obtain ⟨ad264,e264,hx264_0,hx264_1⟩:=at_T60 HR0.out (ji4) p264 q264;cases e264
       replace hx264_0:=zS HB.out hx264_0;replace hx264_1:=zS HB.out hx264_1;replace p264:=eq_true p264;replace q264:=eq_true q264;go_wp2
       go_roundg k1
       case measure=>have:=HK1.out;omega
       case rel=>exact ⟨(ji4),(by first|rfl|(simp;done)|(simp only [← hji4] <;> (first|rfl|simp))|(simp [*];done)),H',⟨by have:=HK1.out;omega⟩,⟨by repeat (first|(with_reducible first|exact HB.out|apply zD|apply zE|apply zF)|exact HB.out)⟩⟩
      ·rw [if_neg c7] at H
       have c7b0:decide (((rd_T60 l0 (ji4)).f0) ≤ a1) = false:=decide_eq_false c7
       clear c7;by_cases c8:0 ≤ x6_1
       ·rw [if_pos c8] at H
        have c8b0:decide (0 ≤ x6_1) = true:=decide_eq_true c8
        clear c8;by_cases c9:x6_1 < (l0.length:Int)
        ·rw [if_pos c9] at H
         have c9b0:decide (x6_1 < (l0.length:Int)) = true:=decide_eq_true c9
         clear c9;simp only [Option.some.injEq,Prod.mk.injEq] at H
         obtain ⟨rfl,rfl⟩:=H;have p264:0 ≤ ((ji4):Int):=of_decide_eq_true (by first|(with_reducible assumption)|assumption)
         have q264:(ji4) < (l0.length:Int):=of_decide_eq_true (by first|(with_reducible assumption)|assumption)
         obtain ⟨ad264,e264,hx264_0,hx264_1⟩:=at_T60 HR0.out (ji4) p264 q264;cases e264
         replace hx264_0:=zS HB.out hx264_0;replace hx264_1:=zS HB.out hx264_1;replace p264:=eq_true p264;replace q264:=eq_true q264;try go_wp2
         have n0_:=zM (zF HB.out);clear HB;have HB:=n0_;clear n0_;have p265:0 ≤ (x6_1:Int):=of_decide_eq_true (by first|(with_reducible assumption)|assumption)
         have q265:x6_1 < (l0.length:Int):=of_decide_eq_true (by first|(with_reducible assumption)|assumption)
         obtain ⟨ad265,e265,hx265_0,hx265_1⟩:=at_T60 HR0.out x6_1 p265 q265;have hw265_1:=hx265_1;have hw265_0:=hx265_0;obtain rfl:ad264 = ad265:=(by injection e265)
         replace hx265_0:=zS HB.out hx265_0;replace hx265_1:=zS HB.out hx265_1;replace p265:=eq_true p265;replace q265:=eq_true q265;have p266:0 ≤ ((ji4):Int):=of_decide_eq_true (by first|(with_reducible assumption)|assumption)
         have q266:(ji4) < (l0.length:Int):=of_decide_eq_true (by first|(with_reducible assumption)|assumption)
         obtain ⟨ad266,e266,hx266_0,hx266_1⟩:=at_T60 HR0.out (ji4) p266 q266;have hw266_1:=hx266_1;have hw266_0:=hx266_0;obtain rfl:ad264 = ad266:=(by injection e266)
         replace hx266_0:=zS HB.out hx266_0;replace hx266_1:=zS HB.out hx266_1;replace p266:=eq_true p266;replace q266:=eq_true q266;refine start_ (n:=13) (S:=fun w'=>w'.cell? (ad264.add ((x6_1).toNat * 2)) = some (.int .i64 ((rd_T60 l0 x6_1).f0)) ∧ w'.cell? ⟨(ad264.add ((x6_1).toNat * 2)).block,(ad264.add ((x6_1).toNat * 2)).off + 1,none⟩ = some (.int .i64 ((rd_T60 l0 x6_1).f1)) ∧ w'.cell? (ad264.add (((ji4)).toNat * 2)) = some (.int .i64 ((rd_T60 l0 (ji4)).f0)) ∧ w'.cell? ⟨(ad264.add (((ji4)).toNat * 2)).block,(ad264.add (((ji4)).toNat * 2)).off + 1,none⟩ = some (.int .i64 ((rd_T60 l0 (ji4)).f1))) (ds:=[]) #[false,false,false,false,false,false,false,false,false,false,false,false,false] (by kernel_rfl) rfl rfl ⟨(zS HB.out hw265_0),(zS HB.out hw265_1),(zS HB.out hw266_0),(zS HB.out hw266_1)⟩ (fun hHeld=>?_);refine with_tabW spec_l15Height.tab4 spec_l15Height.bits4 (fun HT_ HW_=>?_)
         generalize wr.drew = w10 at HB hx265_0 hx265_1 hx266_0 hx266_1 hHeld ⊢
         refine pure_ (i:=0) (N:=some 27) (v:=?_) (a':=?_) #[true,false,false,false,false,false,false,false,false,false,false,false,false] rfl rfl (any_of HT_.out (by kernel_rfl)) (fun _ _ _ h=>h) (Or.inl ⟨by rfl,?_⟩) ?_ ?_
         rotate_left
         ·intro w'
          go_simp
          with_reducible rfl
         rotate_left
         ·simp only [Act.put,zT,zU,zV,i64_w,i32_w]
          rfl
         refine pure_ (i:=1) (N:=some 28) (v:=?_) (a':=?_) #[true,true,false,false,false,false,false,false,false,false,false,false,false] rfl rfl (any_of HT_.out (by kernel_rfl)) (fun _ _ _ h=>h) (Or.inl ⟨by rfl,?_⟩) ?_ ?_
         rotate_left
         ·intro w'
          go_simp
          with_reducible rfl
         rotate_left
         ·simp only [Act.put,zT,zU,zV,i64_w,i32_w]
          rfl
         refine pure_ (i:=2) (N:=some 29) (v:=?_) (a':=?_) #[true,true,true,false,false,false,false,false,false,false,false,false,false] rfl rfl (any_of HT_.out (by kernel_rfl)) (fun _ _ _ h=>h) (Or.inl ⟨by rfl,?_⟩) ?_ ?_
         rotate_left
         ·intro w'
          go_simp
          with_reducible rfl
         rotate_left
         ·simp only [Act.put,zT,zU,zV,i64_w,i32_w]
          rfl
         refine pure_ (i:=4) (N:=some 31) (v:=?_) (a':=?_) #[true,true,true,false,true,false,false,false,false,false,false,false,false] rfl rfl (any_of HT_.out (by kernel_rfl)) (fun _ _ _ h=>h) (Or.inl ⟨by rfl,?_⟩) ?_ ?_
         rotate_left
         ·intro w'
          go_simp
          with_reducible rfl
         rotate_left
         ·simp only [Act.put,zT,zU,zV,i64_w,i32_w]
          rfl
         refine pure_ (i:=5) (N:=some 32) (v:=?_) (a':=?_) #[true,true,true,false,true,true,false,false,false,false,false,false,false] rfl rfl (any_of HT_.out (by kernel_rfl)) (fun _ _ _ h=>h) (Or.inl ⟨by rfl,?_⟩) ?_ ?_
         rotate_left
         ·intro w'
          go_simp
          with_reducible rfl
         rotate_left
         ·simp only [Act.put,zT,zU,zV,i64_w,i32_w]
          rfl
         refine pure_ (i:=6) (N:=some 33) (v:=?_) (a':=?_) #[true,true,true,false,true,true,true,false,false,false,false,false,false] rfl rfl (any_of HT_.out (by kernel_rfl)) (fun _ _ _ h=>h) (Or.inl ⟨by rfl,?_⟩) ?_ ?_
         rotate_left
         ·intro w'
          go_simp
          with_reducible rfl
         rotate_left
         ·simp only [Act.put,zT,zU,zV,i64_w,i32_w]
          rfl
         refine pure_ (i:=7) (N:=some 34) (v:=?_) (a':=?_) #[true,true,true,false,true,true,true,true,false,false,false,false,false] rfl rfl (any_of HT_.out (by kernel_rfl)) (fun _ _ _ h=>h) (Or.inl ⟨by rfl,?_⟩) ?_ ?_
         rotate_left
         ·intro w'
          go_simp
          with_reducible rfl
         rotate_left
         ·simp only [Act.put,zT,zU,zV,i64_w,i32_w]
          rfl
         refine take_ (i:=3) (N:=some 30) (v:=?_) (a':=?_) #[true,true,true,true,true,true,true,true,false,false,false,false,false] rfl rfl (take_ofW HT_.out HW_.out (by kernel_rfl)) (fun _ _ _ h=>h) (Or.inl ⟨by rfl,?_⟩) hHeld ?_ ?_
         rotate_left
         ·rintro w' ⟨s0,s1,s2,s3⟩
          go_simp
          with_reducible rfl
         rotate_left
         ·simp only [Act.put,zT,zU,zV,i64_w,i32_w]
          rfl
         refine take_ (i:=8) (N:=some 35) (v:=?_) (a':=?_) #[true,true,true,true,true,true,true,true,true,false,false,false,false] rfl rfl (take_ofW HT_.out HW_.out (by kernel_rfl)) (fun _ _ _ h=>h) (Or.inl ⟨by rfl,?_⟩) hHeld ?_ ?_
         rotate_left
         ·rintro w' ⟨s0,s1,s2,s3⟩
          go_simp
          with_reducible rfl
         rotate_left
         ·simp only [Act.put,zT,zU,zV,i64_w,i32_w]
          rfl
         refine join_ (σ:=Nat × Nat) 2 #[true,true,true,true,true,true,true,true,true,true,true,false,false] (fun s_=>[(7,.pointer (some ⟨s_.1,0,none⟩)),(8,.pointer (some ⟨s_.2,0,none⟩))]) (fun s_ w'=>(w'.cell? (ad264.add ((x6_1).toNat * 2)) = some (.int .i64 ((rd_T60 l0 x6_1).f0)) ∧ w'.cell? ⟨(ad264.add ((x6_1).toNat * 2)).block,(ad264.add ((x6_1).toNat * 2)).off + 1,none⟩ = some (.int .i64 ((rd_T60 l0 x6_1).f1)) ∧ w'.cell? (ad264.add (((ji4)).toNat * 2)) = some (.int .i64 ((rd_T60 l0 (ji4)).f0)) ∧ w'.cell? ⟨(ad264.add (((ji4)).toNat * 2)).block,(ad264.add (((ji4)).toNat * 2)).off + 1,none⟩ = some (.int .i64 ((rd_T60 l0 (ji4)).f1))) ∧ (w'.heap[s_.1]? = some (.cells #[.int .i64 0,.int .i64 0] 60 (0,0))) ∧ (w'.heap[s_.2]? = some (.cells #[.int .i64 0,.int .i64 0] 60 (0,0))) ∧ (w.heap.size ≤ s_.1) ∧ (w.heap.size ≤ s_.1) ∧ (s_.2 ≠ s_.1) ∧ (s_.1 ≠ s_.2) ∧ (w.heap.size ≤ s_.2) ∧ (w.heap.size ≤ s_.2) ∧ (Below w.heap.size w w')) ?_ ?_
         rotate_left
         ·intro hCont
          refine two_ (i:=9) (j:=10) (Ni:=some 7) (Nj:=some 8) #[true,true,true,true,true,true,true,true,true,true,false,false,false] #[true,true,true,true,true,true,true,true,true,false,true,false,false] rfl rfl rfl rfl (two_of HT_.out (by kernel_rfl)) (by decide) (by decide) (fun K hK=>?_) (fun K hK=>?_)
          ·skip
           refine box_step ?hg (N:=7) ?hd (cs := #[.int .i64 0,.int .i64 0]) (t:=60) ?hr ?_;(case hd=>rfl);(case hg=>rfl);(case hr=>first|(go_simp;done)|(go_simp;rfl))
           intro gb267 hg w11 hbox hb;have n0_:=zM (zQ (by repeat (first|(with_reducible first|exact HB.out|apply zD|apply zE|apply zF)|exact HB.out)) hb)
           have n1_:=zM (hbox);have n2_:=zM ((by rw [hg];exact (zR (by repeat (first|(with_reducible first|exact HB.out|apply zD|apply zE|apply zF)|exact HB.out))):w.heap.size ≤ gb267))
           have n3_:=zM ((by rw [hg];exact (zR (by repeat (first|(with_reducible first|exact HB.out|apply zD|apply zE|apply zF)|exact HB.out))):w.heap.size ≤ gb267))
           clear HB;have HB:=n0_;have BK267:=n1_;have GW267:=n2_;have GE267:=n3_;clear n0_ n1_ n2_ n3_;clear hb hbox hg;refine hK.out _ _ ⟨(zS HB.out hw265_0),(zS HB.out hw265_1),(zS HB.out hw266_0),(zS HB.out hw266_1)⟩ (fun hHeld=>?_)
           clear hK K;refine norm_ (a':=?_) ?_ ?_
           rotate_left
           ·show Act.put _ (some 7) _ = _
            simp only [Act.put,zT,zU,zV,i64_w,i32_w]
            rfl
           refine one_ (i:=10) (N:=some 8) #[true,true,true,true,true,true,true,true,true,true,true,false,false] rfl rfl (one_of HT_.out (by kernel_rfl)) (by decide) (fun K hK=>?_)
           refine box_step ?hg (N:=8) ?hd (cs := #[.int .i64 0,.int .i64 0]) (t:=60) ?hr ?_;(case hd=>rfl);(case hg=>rfl);(case hr=>first|(go_simp;done)|(go_simp;rfl))
           intro gb268 hg w12 hbox hb;have n0_:=zM (blk_below (g:=gb267) (o := .cells #[.int .i64 0,.int .i64 0] 60 (0,0)) (by (with_reducible repeat (first|refine zJ ?_ _|refine zK ?_|refine zL ?_ _));exact BK267.out) hb)
           have n1_:=zM (zQ (by repeat (first|(with_reducible first|exact HB.out|apply zD|apply zE|apply zF|refine below_set ?_ GE267.out)|exact HB.out)) hb)
           have n2_:=zM (hbox);have n3_:=zM ((by rw [hg];exact (zR (by repeat (first|(with_reducible first|exact HB.out|apply zD|apply zE|apply zF|refine below_set ?_ GE267.out)|exact HB.out))):w.heap.size ≤ gb268))
           have n4_:=zM ((by rw [hg];exact (zR (by repeat (first|(with_reducible first|exact HB.out|apply zD|apply zE|apply zF|refine below_set ?_ GE267.out)|exact HB.out))):w.heap.size ≤ gb268))
           have n5_:=zM ((by rw [hg];exact Nat.ne_of_lt (blk_lt (g:=gb267) (o := .cells #[.int .i64 0,.int .i64 0] 60 (0,0)) (by (with_reducible repeat (first|refine zJ ?_ _|refine zK ?_|refine zL ?_ _));exact BK267.out)):gb267 ≠ gb268))
           have n6_:=zM ((by rw [hg];exact Nat.ne_of_gt (blk_lt (g:=gb267) (o := .cells #[.int .i64 0,.int .i64 0] 60 (0,0)) (by (with_reducible repeat (first|refine zJ ?_ _|refine zK ?_|refine zL ?_ _));exact BK267.out)):gb268 ≠ gb267))
           clear BK267;clear HB;have BK267:=n0_;have HB:=n1_;have BK268:=n2_;have GW268:=n3_;have GE268:=n4_;have NB267_268:=n5_;have NB268_267:=n6_;clear n0_ n1_ n2_ n3_ n4_ n5_ n6_;clear hb hbox hg;refine hK.out _ _ ⟨(zS HB.out hw265_0),(zS HB.out hw265_1),(zS HB.out hw266_0),(zS HB.out hw266_1)⟩ (fun hHeld=>?_)
           clear hK K;refine norm_ (a':=?_) ?_ ?_
           rotate_left
           ·show Act.put _ (some 8) _ = _
            simp only [Act.put,zT,zU,zV,i64_w,i32_w]
            rfl
           exact norm_ (by simp only [putAll,Act.put,List.setIfInBounds_toArray,List.set_cons_zero,List.set_cons_succ]) (hCont (gb267,gb268) _ ⟨hHeld,(by (with_reducible repeat (first|refine zJ ?_ _|refine zK ?_|refine zL ?_ _));exact BK267.out),(by (with_reducible repeat (first|refine zJ ?_ _|refine zK ?_|refine zL ?_ _));exact BK268.out),GW267.out,GE267.out,NB268_267.out,NB267_268.out,GW268.out,GE268.out,(by repeat (first|(with_reducible first|exact HB.out|apply zD|apply zE|apply zF|refine below_set ?_ GE267.out|refine below_set ?_ GE268.out)|exact HB.out))⟩)
          ·skip
           refine box_step ?hg (N:=8) ?hd (cs := #[.int .i64 0,.int .i64 0]) (t:=60) ?hr ?_;(case hd=>rfl);(case hg=>rfl);(case hr=>first|(go_simp;done)|(go_simp;rfl))
           intro gb268 hg w11 hbox hb;have n0_:=zM (zQ (by repeat (first|(with_reducible first|exact HB.out|apply zD|apply zE|apply zF)|exact HB.out)) hb)
           have n1_:=zM (hbox);have n2_:=zM ((by rw [hg];exact (zR (by repeat (first|(with_reducible first|exact HB.out|apply zD|apply zE|apply zF)|exact HB.out))):w.heap.size ≤ gb268))
           have n3_:=zM ((by rw [hg];exact (zR (by repeat (first|(with_reducible first|exact HB.out|apply zD|apply zE|apply zF)|exact HB.out))):w.heap.size ≤ gb268))
           clear HB;have HB:=n0_;have BK268:=n1_;have GW268:=n2_;have GE268:=n3_;clear n0_ n1_ n2_ n3_;clear hb hbox hg;refine hK.out _ _ ⟨(zS HB.out hw265_0),(zS HB.out hw265_1),(zS HB.out hw266_0),(zS HB.out hw266_1)⟩ (fun hHeld=>?_)
           clear hK K;refine norm_ (a':=?_) ?_ ?_
           rotate_left
           ·show Act.put _ (some 8) _ = _
            simp only [Act.put,zT,zU,zV,i64_w,i32_w]
            rfl
           refine one_ (i:=9) (N:=some 7) #[true,true,true,true,true,true,true,true,true,true,true,false,false] rfl rfl (one_of HT_.out (by kernel_rfl)) (by decide) (fun K hK=>?_)
           refine box_step ?hg (N:=7) ?hd (cs := #[.int .i64 0,.int .i64 0]) (t:=60) ?hr ?_;(case hd=>rfl);(case hg=>rfl);(case hr=>first|(go_simp;done)|(go_simp;rfl))
           intro gb267 hg w12 hbox hb;have n0_:=zM (blk_below (g:=gb268) (o := .cells #[.int .i64 0,.int .i64 0] 60 (0,0)) (by (with_reducible repeat (first|refine zJ ?_ _|refine zK ?_|refine zL ?_ _));exact BK268.out) hb)
           have n1_:=zM (zQ (by repeat (first|(with_reducible first|exact HB.out|apply zD|apply zE|apply zF|refine below_set ?_ GE268.out)|exact HB.out)) hb)
           have n2_:=zM (hbox);have n3_:=zM ((by rw [hg];exact (zR (by repeat (first|(with_reducible first|exact HB.out|apply zD|apply zE|apply zF|refine below_set ?_ GE268.out)|exact HB.out))):w.heap.size ≤ gb267))
           have n4_:=zM ((by rw [hg];exact (zR (by repeat (first|(with_reducible first|exact HB.out|apply zD|apply zE|apply zF|refine below_set ?_ GE268.out)|exact HB.out))):w.heap.size ≤ gb267))
           have n5_:=zM ((by rw [hg];exact Nat.ne_of_lt (blk_lt (g:=gb268) (o := .cells #[.int .i64 0,.int .i64 0] 60 (0,0)) (by (with_reducible repeat (first|refine zJ ?_ _|refine zK ?_|refine zL ?_ _));exact BK268.out)):gb268 ≠ gb267))
           have n6_:=zM ((by rw [hg];exact Nat.ne_of_gt (blk_lt (g:=gb268) (o := .cells #[.int .i64 0,.int .i64 0] 60 (0,0)) (by (with_reducible repeat (first|refine zJ ?_ _|refine zK ?_|refine zL ?_ _));exact BK268.out)):gb267 ≠ gb268))
           clear BK268;clear HB;have BK268:=n0_;have HB:=n1_;have BK267:=n2_;have GW267:=n3_;have GE267:=n4_;have NB268_267:=n5_;have NB267_268:=n6_;clear n0_ n1_ n2_ n3_ n4_ n5_ n6_;clear hb hbox hg;refine hK.out _ _ ⟨(zS HB.out hw265_0),(zS HB.out hw265_1),(zS HB.out hw266_0),(zS HB.out hw266_1)⟩ (fun hHeld=>?_)
           clear hK K;refine norm_ (a':=?_) ?_ ?_
           rotate_left
           ·show Act.put _ (some 7) _ = _
            simp only [Act.put,zT,zU,zV,i64_w,i32_w]
            rfl
           exact norm_ (by simp only [putAll,Act.put,List.setIfInBounds_toArray,List.set_cons_zero,List.set_cons_succ]) (hCont (gb267,gb268) _ ⟨hHeld,(by (with_reducible repeat (first|refine zJ ?_ _|refine zK ?_|refine zL ?_ _));exact BK267.out),(by (with_reducible repeat (first|refine zJ ?_ _|refine zK ?_|refine zL ?_ _));exact BK268.out),GW267.out,GE267.out,NB268_267.out,NB267_268.out,GW268.out,GE268.out,(by repeat (first|(with_reducible first|exact HB.out|apply zD|apply zE|apply zF|refine below_set ?_ GE268.out|refine below_set ?_ GE267.out)|exact HB.out))⟩)
         rintro ⟨gb267,gb268⟩ w13 ⟨hS_,h0_,h1_,h2_,h3_,h4_,h5_,h6_,h7_,h8_⟩
         have n0_:Aside0 (w13.heap[gb267]? = some (.cells #[.int .i64 0,.int .i64 0] 60 (0,0))):=⟨h0_⟩
         have n1_:Aside0 (w13.heap[gb268]? = some (.cells #[.int .i64 0,.int .i64 0] 60 (0,0))):=⟨h1_⟩
         have n2_:Aside0 (w.heap.size ≤ gb267):=⟨h2_⟩
         have n3_:Aside0 (w.heap.size ≤ gb267):=⟨h3_⟩
         have n4_:Aside0 (gb268 ≠ gb267):=⟨h4_⟩
         have n5_:Aside0 (gb267 ≠ gb268):=⟨h5_⟩
         have n6_:Aside0 (w.heap.size ≤ gb268):=⟨h6_⟩
         have n7_:Aside0 (w.heap.size ≤ gb268):=⟨h7_⟩
         have n8_:Aside0 (Below w.heap.size w w13):=⟨h8_⟩
         clear HB;clear h0_ h1_ h2_ h3_ h4_ h5_ h6_ h7_ h8_;have BK267:=n0_;have BK268:=n1_;have GW267:=n2_;have GE267:=n3_;have NB268_267:=n4_;have NB267_268:=n5_;have GW268:=n6_;have GE268:=n7_;have HB:=n8_;clear n0_ n1_ n2_ n3_ n4_ n5_ n6_ n7_ n8_;have hHeld:w13.cell? (ad264.add ((x6_1).toNat * 2)) = some (.int .i64 ((rd_T60 l0 x6_1).f0)) ∧ w13.cell? ⟨(ad264.add ((x6_1).toNat * 2)).block,(ad264.add ((x6_1).toNat * 2)).off + 1,none⟩ = some (.int .i64 ((rd_T60 l0 x6_1).f1)) ∧ w13.cell? (ad264.add (((ji4)).toNat * 2)) = some (.int .i64 ((rd_T60 l0 (ji4)).f0)) ∧ w13.cell? ⟨(ad264.add (((ji4)).toNat * 2)).block,(ad264.add (((ji4)).toNat * 2)).off + 1,none⟩ = some (.int .i64 ((rd_T60 l0 (ji4)).f1)):=hS_
         refine norm_ (a':=?_) ?_ ?_
         rotate_left
         ·simp only [putAll,Act.put,List.setIfInBounds_toArray,List.set_cons_zero,List.set_cons_succ]
          rfl
         refine one_ (i:=11) (N:=none) #[true,true,true,true,true,true,true,true,true,true,true,true,false] rfl rfl (one_of HT_.out (by kernel_rfl)) (by decide) (fun K hK=>?_)
         have hs14:w13.cell? ⟨gb267,0,none⟩ = some (.int .i64 0):=(blk_cell BK267.out 0).trans rfl
         have hfs14:=blk_frozen BK267.out 0;have hns14_1:=NB268_267.out;have hms14_1:=NB267_268.out;have hs15:w13.cell? ⟨gb267,1,none⟩ = some (.int .i64 0):=(blk_cell BK267.out 1).trans rfl
         have hfs15:=blk_frozen BK267.out 1;have hns15_1:=NB268_267.out;have hms15_1:=NB267_268.out;refine skip_ (w1:=?_) (by rfl) rfl ?_ ?_
         rotate_left
         ·go_simp
          rfl
         refine hK.out _ _ ⟨((cell_far (p:=⟨gb267,_,none⟩) (by first|exact Nat.ne_of_lt (Nat.lt_of_lt_of_le (by have:=World.block_lt_of_cell? _ _ hw265_0;first|rwa [add_block] at this|exact this) GW267.out)|(rw [add_block];exact Nat.ne_of_lt (Nat.lt_of_lt_of_le (by have:=World.block_lt_of_cell? _ _ hw265_0;first|rwa [add_block] at this|exact this) GW267.out))|(show (Addr.add _ _).block ≠ _;rw [add_block];exact Nat.ne_of_lt (Nat.lt_of_lt_of_le (by have:=World.block_lt_of_cell? _ _ hw265_0;first|rwa [add_block] at this|exact this) GW267.out))|(dsimp only;exact Nat.ne_of_lt (Nat.lt_of_lt_of_le (by have:=World.block_lt_of_cell? _ _ hw265_0;first|rwa [add_block] at this|exact this) GW267.out))) _).trans (((cell_far (p:=⟨gb267,_,none⟩) (by first|exact Nat.ne_of_lt (Nat.lt_of_lt_of_le (by have:=World.block_lt_of_cell? _ _ hw265_0;first|rwa [add_block] at this|exact this) GW267.out)|(rw [add_block];exact Nat.ne_of_lt (Nat.lt_of_lt_of_le (by have:=World.block_lt_of_cell? _ _ hw265_0;first|rwa [add_block] at this|exact this) GW267.out))|(show (Addr.add _ _).block ≠ _;rw [add_block];exact Nat.ne_of_lt (Nat.lt_of_lt_of_le (by have:=World.block_lt_of_cell? _ _ hw265_0;first|rwa [add_block] at this|exact this) GW267.out))|(dsimp only;exact Nat.ne_of_lt (Nat.lt_of_lt_of_le (by have:=World.block_lt_of_cell? _ _ hw265_0;first|rwa [add_block] at this|exact this) GW267.out))) _).trans (hHeld.1)))),((cell_far (p:=⟨gb267,_,none⟩) (by first|exact Nat.ne_of_lt (Nat.lt_of_lt_of_le (by have:=World.block_lt_of_cell? _ _ hw265_1;first|rwa [add_block] at this|exact this) GW267.out)|(rw [add_block];exact Nat.ne_of_lt (Nat.lt_of_lt_of_le (by have:=World.block_lt_of_cell? _ _ hw265_1;first|rwa [add_block] at this|exact this) GW267.out))|(show (Addr.add _ _).block ≠ _;rw [add_block];exact Nat.ne_of_lt (Nat.lt_of_lt_of_le (by have:=World.block_lt_of_cell? _ _ hw265_1;first|rwa [add_block] at this|exact this) GW267.out))|(dsimp only;exact Nat.ne_of_lt (Nat.lt_of_lt_of_le (by have:=World.block_lt_of_cell? _ _ hw265_1;first|rwa [add_block] at this|exact this) GW267.out))) _).trans (((cell_far (p:=⟨gb267,_,none⟩) (by first|exact Nat.ne_of_lt (Nat.lt_of_lt_of_le (by have:=World.block_lt_of_cell? _ _ hw265_1;first|rwa [add_block] at this|exact this) GW267.out)|(rw [add_block];exact Nat.ne_of_lt (Nat.lt_of_lt_of_le (by have:=World.block_lt_of_cell? _ _ hw265_1;first|rwa [add_block] at this|exact this) GW267.out))|(show (Addr.add _ _).block ≠ _;rw [add_block];exact Nat.ne_of_lt (Nat.lt_of_lt_of_le (by have:=World.block_lt_of_cell? _ _ hw265_1;first|rwa [add_block] at this|exact this) GW267.out))|(dsimp only;exact Nat.ne_of_lt (Nat.lt_of_lt_of_le (by have:=World.block_lt_of_cell? _ _ hw265_1;first|rwa [add_block] at this|exact this) GW267.out))) _).trans (hHeld.2.1)))),((cell_far (p:=⟨gb267,_,none⟩) (by first|exact Nat.ne_of_lt (Nat.lt_of_lt_of_le (by have:=World.block_lt_of_cell? _ _ hw266_0;first|rwa [add_block] at this|exact this) GW267.out)|(rw [add_block];exact Nat.ne_of_lt (Nat.lt_of_lt_of_le (by have:=World.block_lt_of_cell? _ _ hw266_0;first|rwa [add_block] at this|exact this) GW267.out))|(show (Addr.add _ _).block ≠ _;rw [add_block];exact Nat.ne_of_lt (Nat.lt_of_lt_of_le (by have:=World.block_lt_of_cell? _ _ hw266_0;first|rwa [add_block] at this|exact this) GW267.out))|(dsimp only;exact Nat.ne_of_lt (Nat.lt_of_lt_of_le (by have:=World.block_lt_of_cell? _ _ hw266_0;first|rwa [add_block] at this|exact this) GW267.out))) _).trans (((cell_far (p:=⟨gb267,_,none⟩) (by first|exact Nat.ne_of_lt (Nat.lt_of_lt_of_le (by have:=World.block_lt_of_cell? _ _ hw266_0;first|rwa [add_block] at this|exact this) GW267.out)|(rw [add_block];exact Nat.ne_of_lt (Nat.lt_of_lt_of_le (by have:=World.block_lt_of_cell? _ _ hw266_0;first|rwa [add_block] at this|exact this) GW267.out))|(show (Addr.add _ _).block ≠ _;rw [add_block];exact Nat.ne_of_lt (Nat.lt_of_lt_of_le (by have:=World.block_lt_of_cell? _ _ hw266_0;first|rwa [add_block] at this|exact this) GW267.out))|(dsimp only;exact Nat.ne_of_lt (Nat.lt_of_lt_of_le (by have:=World.block_lt_of_cell? _ _ hw266_0;first|rwa [add_block] at this|exact this) GW267.out))) _).trans (hHeld.2.2.1)))),((cell_far (p:=⟨gb267,_,none⟩) (by first|exact Nat.ne_of_lt (Nat.lt_of_lt_of_le (by have:=World.block_lt_of_cell? _ _ hw266_1;first|rwa [add_block] at this|exact this) GW267.out)|(rw [add_block];exact Nat.ne_of_lt (Nat.lt_of_lt_of_le (by have:=World.block_lt_of_cell? _ _ hw266_1;first|rwa [add_block] at this|exact this) GW267.out))|(show (Addr.add _ _).block ≠ _;rw [add_block];exact Nat.ne_of_lt (Nat.lt_of_lt_of_le (by have:=World.block_lt_of_cell? _ _ hw266_1;first|rwa [add_block] at this|exact this) GW267.out))|(dsimp only;exact Nat.ne_of_lt (Nat.lt_of_lt_of_le (by have:=World.block_lt_of_cell? _ _ hw266_1;first|rwa [add_block] at this|exact this) GW267.out))) _).trans (((cell_far (p:=⟨gb267,_,none⟩) (by first|exact Nat.ne_of_lt (Nat.lt_of_lt_of_le (by have:=World.block_lt_of_cell? _ _ hw266_1;first|rwa [add_block] at this|exact this) GW267.out)|(rw [add_block];exact Nat.ne_of_lt (Nat.lt_of_lt_of_le (by have:=World.block_lt_of_cell? _ _ hw266_1;first|rwa [add_block] at this|exact this) GW267.out))|(show (Addr.add _ _).block ≠ _;rw [add_block];exact Nat.ne_of_lt (Nat.lt_of_lt_of_le (by have:=World.block_lt_of_cell? _ _ hw266_1;first|rwa [add_block] at this|exact this) GW267.out))|(dsimp only;exact Nat.ne_of_lt (Nat.lt_of_lt_of_le (by have:=World.block_lt_of_cell? _ _ hw266_1;first|rwa [add_block] at this|exact this) GW267.out))) _).trans (hHeld.2.2.2))))⟩ (fun hHeld=>?_)
         clear hK K;refine one_ (i:=12) (N:=none) #[true,true,true,true,true,true,true,true,true,true,true,true,true] rfl rfl (one_of HT_.out (by kernel_rfl)) (by decide) (fun K hK=>?_)
         have hs16:w13.cell? ⟨gb268,0,none⟩ = some (.int .i64 0):=(blk_cell BK268.out 0).trans rfl
         have hfs16:=blk_frozen BK268.out 0;have hns16_0:=NB267_268.out;have hms16_0:=NB268_267.out;have hs17:w13.cell? ⟨gb268,1,none⟩ = some (.int .i64 0):=(blk_cell BK268.out 1).trans rfl
         have hfs17:=blk_frozen BK268.out 1;have hns17_0:=NB267_268.out;have hms17_0:=NB268_267.out;refine skip_ (w1:=?_) (by rfl) rfl ?_ ?_
         rotate_left
         ·go_simp
          rfl
         refine hK.out _ _ ⟨((cell_far (p:=⟨gb268,_,none⟩) (by first|exact Nat.ne_of_lt (Nat.lt_of_lt_of_le (by have:=World.block_lt_of_cell? _ _ hw265_0;first|rwa [add_block] at this|exact this) GW268.out)|(rw [add_block];exact Nat.ne_of_lt (Nat.lt_of_lt_of_le (by have:=World.block_lt_of_cell? _ _ hw265_0;first|rwa [add_block] at this|exact this) GW268.out))|(show (Addr.add _ _).block ≠ _;rw [add_block];exact Nat.ne_of_lt (Nat.lt_of_lt_of_le (by have:=World.block_lt_of_cell? _ _ hw265_0;first|rwa [add_block] at this|exact this) GW268.out))|(dsimp only;exact Nat.ne_of_lt (Nat.lt_of_lt_of_le (by have:=World.block_lt_of_cell? _ _ hw265_0;first|rwa [add_block] at this|exact this) GW268.out))) _).trans (((cell_far (p:=⟨gb268,_,none⟩) (by first|exact Nat.ne_of_lt (Nat.lt_of_lt_of_le (by have:=World.block_lt_of_cell? _ _ hw265_0;first|rwa [add_block] at this|exact this) GW268.out)|(rw [add_block];exact Nat.ne_of_lt (Nat.lt_of_lt_of_le (by have:=World.block_lt_of_cell? _ _ hw265_0;first|rwa [add_block] at this|exact this) GW268.out))|(show (Addr.add _ _).block ≠ _;rw [add_block];exact Nat.ne_of_lt (Nat.lt_of_lt_of_le (by have:=World.block_lt_of_cell? _ _ hw265_0;first|rwa [add_block] at this|exact this) GW268.out))|(dsimp only;exact Nat.ne_of_lt (Nat.lt_of_lt_of_le (by have:=World.block_lt_of_cell? _ _ hw265_0;first|rwa [add_block] at this|exact this) GW268.out))) _).trans (hHeld.1)))),((cell_far (p:=⟨gb268,_,none⟩) (by first|exact Nat.ne_of_lt (Nat.lt_of_lt_of_le (by have:=World.block_lt_of_cell? _ _ hw265_1;first|rwa [add_block] at this|exact this) GW268.out)|(rw [add_block];exact Nat.ne_of_lt (Nat.lt_of_lt_of_le (by have:=World.block_lt_of_cell? _ _ hw265_1;first|rwa [add_block] at this|exact this) GW268.out))|(show (Addr.add _ _).block ≠ _;rw [add_block];exact Nat.ne_of_lt (Nat.lt_of_lt_of_le (by have:=World.block_lt_of_cell? _ _ hw265_1;first|rwa [add_block] at this|exact this) GW268.out))|(dsimp only;exact Nat.ne_of_lt (Nat.lt_of_lt_of_le (by have:=World.block_lt_of_cell? _ _ hw265_1;first|rwa [add_block] at this|exact this) GW268.out))) _).trans (((cell_far (p:=⟨gb268,_,none⟩) (by first|exact Nat.ne_of_lt (Nat.lt_of_lt_of_le (by have:=World.block_lt_of_cell? _ _ hw265_1;first|rwa [add_block] at this|exact this) GW268.out)|(rw [add_block];exact Nat.ne_of_lt (Nat.lt_of_lt_of_le (by have:=World.block_lt_of_cell? _ _ hw265_1;first|rwa [add_block] at this|exact this) GW268.out))|(show (Addr.add _ _).block ≠ _;rw [add_block];exact Nat.ne_of_lt (Nat.lt_of_lt_of_le (by have:=World.block_lt_of_cell? _ _ hw265_1;first|rwa [add_block] at this|exact this) GW268.out))|(dsimp only;exact Nat.ne_of_lt (Nat.lt_of_lt_of_le (by have:=World.block_lt_of_cell? _ _ hw265_1;first|rwa [add_block] at this|exact this) GW268.out))) _).trans (hHeld.2.1)))),((cell_far (p:=⟨gb268,_,none⟩) (by first|exact Nat.ne_of_lt (Nat.lt_of_lt_of_le (by have:=World.block_lt_of_cell? _ _ hw266_0;first|rwa [add_block] at this|exact this) GW268.out)|(rw [add_block];exact Nat.ne_of_lt (Nat.lt_of_lt_of_le (by have:=World.block_lt_of_cell? _ _ hw266_0;first|rwa [add_block] at this|exact this) GW268.out))|(show (Addr.add _ _).block ≠ _;rw [add_block];exact Nat.ne_of_lt (Nat.lt_of_lt_of_le (by have:=World.block_lt_of_cell? _ _ hw266_0;first|rwa [add_block] at this|exact this) GW268.out))|(dsimp only;exact Nat.ne_of_lt (Nat.lt_of_lt_of_le (by have:=World.block_lt_of_cell? _ _ hw266_0;first|rwa [add_block] at this|exact this) GW268.out))) _).trans (((cell_far (p:=⟨gb268,_,none⟩) (by first|exact Nat.ne_of_lt (Nat.lt_of_lt_of_le (by have:=World.block_lt_of_cell? _ _ hw266_0;first|rwa [add_block] at this|exact this) GW268.out)|(rw [add_block];exact Nat.ne_of_lt (Nat.lt_of_lt_of_le (by have:=World.block_lt_of_cell? _ _ hw266_0;first|rwa [add_block] at this|exact this) GW268.out))|(show (Addr.add _ _).block ≠ _;rw [add_block];exact Nat.ne_of_lt (Nat.lt_of_lt_of_le (by have:=World.block_lt_of_cell? _ _ hw266_0;first|rwa [add_block] at this|exact this) GW268.out))|(dsimp only;exact Nat.ne_of_lt (Nat.lt_of_lt_of_le (by have:=World.block_lt_of_cell? _ _ hw266_0;first|rwa [add_block] at this|exact this) GW268.out))) _).trans (hHeld.2.2.1)))),((cell_far (p:=⟨gb268,_,none⟩) (by first|exact Nat.ne_of_lt (Nat.lt_of_lt_of_le (by have:=World.block_lt_of_cell? _ _ hw266_1;first|rwa [add_block] at this|exact this) GW268.out)|(rw [add_block];exact Nat.ne_of_lt (Nat.lt_of_lt_of_le (by have:=World.block_lt_of_cell? _ _ hw266_1;first|rwa [add_block] at this|exact this) GW268.out))|(show (Addr.add _ _).block ≠ _;rw [add_block];exact Nat.ne_of_lt (Nat.lt_of_lt_of_le (by have:=World.block_lt_of_cell? _ _ hw266_1;first|rwa [add_block] at this|exact this) GW268.out))|(dsimp only;exact Nat.ne_of_lt (Nat.lt_of_lt_of_le (by have:=World.block_lt_of_cell? _ _ hw266_1;first|rwa [add_block] at this|exact this) GW268.out))) _).trans (((cell_far (p:=⟨gb268,_,none⟩) (by first|exact Nat.ne_of_lt (Nat.lt_of_lt_of_le (by have:=World.block_lt_of_cell? _ _ hw266_1;first|rwa [add_block] at this|exact this) GW268.out)|(rw [add_block];exact Nat.ne_of_lt (Nat.lt_of_lt_of_le (by have:=World.block_lt_of_cell? _ _ hw266_1;first|rwa [add_block] at this|exact this) GW268.out))|(show (Addr.add _ _).block ≠ _;rw [add_block];exact Nat.ne_of_lt (Nat.lt_of_lt_of_le (by have:=World.block_lt_of_cell? _ _ hw266_1;first|rwa [add_block] at this|exact this) GW268.out))|(dsimp only;exact Nat.ne_of_lt (Nat.lt_of_lt_of_le (by have:=World.block_lt_of_cell? _ _ hw266_1;first|rwa [add_block] at this|exact this) GW268.out))) _).trans (hHeld.2.2.2))))⟩ (fun hHeld=>?_)
         clear hK K;refine done_ (done_of HT_.out (by kernel_rfl)) ?_
         have hnb18:=NB268_267.out;have hnc18:=NB267_268.out;have hcz19_0:w13.cell? ⟨gb268,0,none⟩ = some (.int .i64 0):=(blk_cell BK268.out 0).trans rfl
         have hcz19_1:w13.cell? ⟨gb268,1,none⟩ = some (.int .i64 0):=(blk_cell BK268.out 1).trans rfl
         have hfz19_0:=blk_frozen BK268.out 0;have hfz19_1:=blk_frozen BK268.out 1;have hcz20_0:w13.cell? ⟨gb267,0,none⟩ = some (.int .i64 0):=(blk_cell BK267.out 0).trans rfl
         have hcz20_1:w13.cell? ⟨gb267,1,none⟩ = some (.int .i64 0):=(blk_cell BK267.out 1).trans rfl
         have hfz20_0:=blk_frozen BK267.out 0;have hfz20_1:=blk_frozen BK267.out 1;try go_wp2
         go_ret2
         exact ⟨by first|rfl|(simp [errW_none,errW_some] <;> rfl)|(simp only [← hji4];first|rfl|(simp [errW_none,errW_some] <;> rfl))|(simp [*,errW_none,errW_some] <;> rfl),by repeat (first|(with_reducible first|exact HB.out|apply zD|apply zE|apply zF|refine below_set ?_ GE267.out|refine below_set ?_ GE268.out)|exact HB.out)⟩
        ·rw [if_neg c9] at H
         exact absurd H (by simp)
       ·rw [if_neg c8] at H
        exact absurd H (by simp)
     ·rw [if_neg c6] at H
      exact absurd H (by simp)
    ·rw [if_neg c5] at H
     exact absurd H (by simp)
   ·rw [if_neg c3] at H
    have c3b0:decide ((wrap64 (x6_1 + 2)) < (l0.length:Int)) = false:=decide_eq_false c3
    clear c3;by_cases c21:0 ≤ x6_1
    ·rw [if_pos c21] at H
     have c21b0:decide (0 ≤ x6_1) = true:=decide_eq_true c21
     clear c21;by_cases c22:x6_1 < (l0.length:Int)
     ·rw [if_pos c22] at H
      have c22b0:decide (x6_1 < (l0.length:Int)) = true:=decide_eq_true c22
      clear c22;obtain ⟨ji23,hji23⟩ : ∃ j_:Int,(wrap64 (x6_1 + 1)) = j_:=⟨_,rfl⟩
      replace H:(if 0 ≤ (ji23) then (if (ji23) < (l0.length:Int) then (some (wrap64 ((wrap64 (((rd_T60 l0 x6_1).f1) * (wrap64 (((rd_T60 l0 (ji23)).f0) - ((rd_T60 l0 x6_1).f0))))) + (wrap64 ((wrap64 (((rd_T60 l0 (ji23)).f1) - ((rd_T60 l0 x6_1).f1))) * (wrap64 (a1 - ((rd_T60 l0 x6_1).f0)))))),wrap64 (((rd_T60 l0 (ji23)).f0) - ((rd_T60 l0 x6_1).f0)))) else (none)) else (none)) = some (r1,r2):=by first|(rw [hji23] at H;exact H)|(simp only [hji23] at H ⊢;exact H)
      have hji23w:(IntKind.i64.wrap (x6_1 + 1)) = ji23:=(i64_w _).trans hji23
      by_cases c24:0 ≤ (ji23)
      ·rw [if_pos c24] at H
       have c24b0:decide (0 ≤ (ji23)) = true:=decide_eq_true c24
       clear c24;by_cases c25:(ji23) < (l0.length:Int)
       ·rw [if_pos c25] at H
        have c25b0:decide ((ji23) < (l0.length:Int)) = true:=decide_eq_true c25
        clear c25;simp only [Option.some.injEq,Prod.mk.injEq] at H
        obtain ⟨rfl,rfl⟩:=H;try go_wp2
        have n0_:=zM (zF HB.out);clear HB;have HB:=n0_;clear n0_;have p269:0 ≤ (x6_1:Int):=of_decide_eq_true (by first|(with_reducible assumption)|assumption)
        have q269:x6_1 < (l0.length:Int):=of_decide_eq_true (by first|(with_reducible assumption)|assumption)
        obtain ⟨ad269,e269,hx269_0,hx269_1⟩:=at_T60 HR0.out x6_1 p269 q269;have hw269_1:=hx269_1;have hw269_0:=hx269_0;cases e269
        replace hx269_0:=zS HB.out hx269_0;replace hx269_1:=zS HB.out hx269_1;replace p269:=eq_true p269;replace q269:=eq_true q269;have p270:0 ≤ ((ji23):Int):=of_decide_eq_true (by first|(with_reducible assumption)|assumption)
        have q270:(ji23) < (l0.length:Int):=of_decide_eq_true (by first|(with_reducible assumption)|assumption)
        obtain ⟨ad270,e270,hx270_0,hx270_1⟩:=at_T60 HR0.out (ji23) p270 q270;have hw270_1:=hx270_1;have hw270_0:=hx270_0;obtain rfl:ad269 = ad270:=(by injection e270)
        replace hx270_0:=zS HB.out hx270_0;replace hx270_1:=zS HB.out hx270_1;replace p270:=eq_true p270;replace q270:=eq_true q270;refine start_ (n:=13) (S:=fun w'=>w'.cell? (ad269.add ((x6_1).toNat * 2)) = some (.int .i64 ((rd_T60 l0 x6_1).f0)) ∧ w'.cell? ⟨(ad269.add ((x6_1).toNat * 2)).block,(ad269.add ((x6_1).toNat * 2)).off + 1,none⟩ = some (.int .i64 ((rd_T60 l0 x6_1).f1)) ∧ w'.cell? (ad269.add (((ji23)).toNat * 2)) = some (.int .i64 ((rd_T60 l0 (ji23)).f0)) ∧ w'.cell? ⟨(ad269.add (((ji23)).toNat * 2)).block,(ad269.add (((ji23)).toNat * 2)).off + 1,none⟩ = some (.int .i64 ((rd_T60 l0 (ji23)).f1))) (ds:=[]) #[false,false,false,false,false,false,false,false,false,false,false,false,false] (by kernel_rfl) rfl rfl ⟨(zS HB.out hw269_0),(zS HB.out hw269_1),(zS HB.out hw270_0),(zS HB.out hw270_1)⟩ (fun hHeld=>?_);refine with_tabW spec_l15Height.tab4 spec_l15Height.bits4 (fun HT_ HW_=>?_)
        generalize wr.drew = w26 at HB hx269_0 hx269_1 hx270_0 hx270_1 hHeld ⊢
        refine pure_ (i:=0) (N:=some 27) (v:=?_) (a':=?_) #[true,false,false,false,false,false,false,false,false,false,false,false,false] rfl rfl (any_of HT_.out (by kernel_rfl)) (fun _ _ _ h=>h) (Or.inl ⟨by rfl,?_⟩) ?_ ?_
        rotate_left
        ·intro w'
         go_simp
         with_reducible rfl
        rotate_left
        ·simp only [Act.put,zT,zU,zV,i64_w,i32_w]
         rfl
        refine pure_ (i:=1) (N:=some 28) (v:=?_) (a':=?_) #[true,true,false,false,false,false,false,false,false,false,false,false,false] rfl rfl (any_of HT_.out (by kernel_rfl)) (fun _ _ _ h=>h) (Or.inl ⟨by rfl,?_⟩) ?_ ?_
        rotate_left
        ·intro w'
         go_simp
         with_reducible rfl
        rotate_left
        ·simp only [Act.put,zT,zU,zV,i64_w,i32_w]
         rfl
        refine pure_ (i:=2) (N:=some 29) (v:=?_) (a':=?_) #[true,true,true,false,false,false,false,false,false,false,false,false,false] rfl rfl (any_of HT_.out (by kernel_rfl)) (fun _ _ _ h=>h) (Or.inl ⟨by rfl,?_⟩) ?_ ?_
        rotate_left
        ·intro w'
         go_simp
         with_reducible rfl
        rotate_left
        ·simp only [Act.put,zT,zU,zV,i64_w,i32_w]
         rfl
        refine pure_ (i:=4) (N:=some 31) (v:=?_) (a':=?_) #[true,true,true,false,true,false,false,false,false,false,false,false,false] rfl rfl (any_of HT_.out (by kernel_rfl)) (fun _ _ _ h=>h) (Or.inl ⟨by rfl,?_⟩) ?_ ?_
        rotate_left
        ·intro w'
         go_simp
         with_reducible rfl
        rotate_left
        ·simp only [Act.put,zT,zU,zV,i64_w,i32_w]
         rfl
        refine pure_ (i:=5) (N:=some 32) (v:=?_) (a':=?_) #[true,true,true,false,true,true,false,false,false,false,false,false,false] rfl rfl (any_of HT_.out (by kernel_rfl)) (fun _ _ _ h=>h) (Or.inl ⟨by rfl,?_⟩) ?_ ?_
        rotate_left
        ·intro w'
         go_simp
         with_reducible rfl
        rotate_left
        ·simp only [Act.put,zT,zU,zV,i64_w,i32_w]
         rfl
        refine pure_ (i:=6) (N:=some 33) (v:=?_) (a':=?_) #[true,true,true,false,true,true,true,false,false,false,false,false,false] rfl rfl (any_of HT_.out (by kernel_rfl)) (fun _ _ _ h=>h) (Or.inl ⟨by rfl,?_⟩) ?_ ?_
        rotate_left
        ·intro w'
         go_simp
         with_reducible rfl
        rotate_left
        ·simp only [Act.put,zT,zU,zV,i64_w,i32_w]
         rfl
        refine pure_ (i:=7) (N:=some 34) (v:=?_) (a':=?_) #[true,true,true,false,true,true,true,true,false,false,false,false,false] rfl rfl (any_of HT_.out (by kernel_rfl)) (fun _ _ _ h=>h) (Or.inl ⟨by rfl,?_⟩) ?_ ?_
        rotate_left
        ·intro w'
         go_simp
         with_reducible rfl
        rotate_left
        ·simp only [Act.put,zT,zU,zV,i64_w,i32_w]
         rfl
        refine take_ (i:=3) (N:=some 30) (v:=?_) (a':=?_) #[true,true,true,true,true,true,true,true,false,false,false,false,false] rfl rfl (take_ofW HT_.out HW_.out (by kernel_rfl)) (fun _ _ _ h=>h) (Or.inl ⟨by rfl,?_⟩) hHeld ?_ ?_
        rotate_left
        ·rintro w' ⟨s0,s1,s2,s3⟩
         go_simp
         with_reducible rfl
        rotate_left
        ·simp only [Act.put,zT,zU,zV,i64_w,i32_w]
         rfl
        refine take_ (i:=8) (N:=some 35) (v:=?_) (a':=?_) #[true,true,true,true,true,true,true,true,true,false,false,false,false] rfl rfl (take_ofW HT_.out HW_.out (by kernel_rfl)) (fun _ _ _ h=>h) (Or.inl ⟨by rfl,?_⟩) hHeld ?_ ?_
        rotate_left
        ·rintro w' ⟨s0,s1,s2,s3⟩
         go_simp
         with_reducible rfl
        rotate_left
        ·simp only [Act.put,zT,zU,zV,i64_w,i32_w]
         rfl
        refine join_ (σ:=Nat × Nat) 2 #[true,true,true,true,true,true,true,true,true,true,true,false,false] (fun s_=>[(7,.pointer (some ⟨s_.1,0,none⟩)),(8,.pointer (some ⟨s_.2,0,none⟩))]) (fun s_ w'=>(w'.cell? (ad269.add ((x6_1).toNat * 2)) = some (.int .i64 ((rd_T60 l0 x6_1).f0)) ∧ w'.cell? ⟨(ad269.add ((x6_1).toNat * 2)).block,(ad269.add ((x6_1).toNat * 2)).off + 1,none⟩ = some (.int .i64 ((rd_T60 l0 x6_1).f1)) ∧ w'.cell? (ad269.add (((ji23)).toNat * 2)) = some (.int .i64 ((rd_T60 l0 (ji23)).f0)) ∧ w'.cell? ⟨(ad269.add (((ji23)).toNat * 2)).block,(ad269.add (((ji23)).toNat * 2)).off + 1,none⟩ = some (.int .i64 ((rd_T60 l0 (ji23)).f1))) ∧ (w'.heap[s_.1]? = some (.cells #[.int .i64 0,.int .i64 0] 60 (0,0))) ∧ (w'.heap[s_.2]? = some (.cells #[.int .i64 0,.int .i64 0] 60 (0,0))) ∧ (w.heap.size ≤ s_.1) ∧ (w.heap.size ≤ s_.1) ∧ (s_.2 ≠ s_.1) ∧ (s_.1 ≠ s_.2) ∧ (w.heap.size ≤ s_.2) ∧ (w.heap.size ≤ s_.2) ∧ (Below w.heap.size w w')) ?_ ?_
        rotate_left
        ·intro hCont
         refine two_ (i:=9) (j:=10) (Ni:=some 7) (Nj:=some 8) #[true,true,true,true,true,true,true,true,true,true,false,false,false] #[true,true,true,true,true,true,true,true,true,false,true,false,false] rfl rfl rfl rfl (two_of HT_.out (by kernel_rfl)) (by decide) (by decide) (fun K hK=>?_) (fun K hK=>?_)
         ·skip
          refine box_step ?hg (N:=7) ?hd (cs := #[.int .i64 0,.int .i64 0]) (t:=60) ?hr ?_;(case hd=>rfl);(case hg=>rfl);(case hr=>first|(go_simp;done)|(go_simp;rfl))
          intro gb271 hg w27 hbox hb;have n0_:=zM (zQ (by repeat (first|(with_reducible first|exact HB.out|apply zD|apply zE|apply zF)|exact HB.out)) hb)
          have n1_:=zM (hbox);have n2_:=zM ((by rw [hg];exact (zR (by repeat (first|(with_reducible first|exact HB.out|apply zD|apply zE|apply zF)|exact HB.out))):w.heap.size ≤ gb271))
          have n3_:=zM ((by rw [hg];exact (zR (by repeat (first|(with_reducible first|exact HB.out|apply zD|apply zE|apply zF)|exact HB.out))):w.heap.size ≤ gb271))
          clear HB;have HB:=n0_;have BK271:=n1_;have GW271:=n2_;have GE271:=n3_;clear n0_ n1_ n2_ n3_;clear hb hbox hg;refine hK.out _ _ ⟨(zS HB.out hw269_0),(zS HB.out hw269_1),(zS HB.out hw270_0),(zS HB.out hw270_1)⟩ (fun hHeld=>?_)
          clear hK K;refine norm_ (a':=?_) ?_ ?_
          rotate_left
          ·show Act.put _ (some 7) _ = _
           simp only [Act.put,zT,zU,zV,i64_w,i32_w]
           rfl
          refine one_ (i:=10) (N:=some 8) #[true,true,true,true,true,true,true,true,true,true,true,false,false] rfl rfl (one_of HT_.out (by kernel_rfl)) (by decide) (fun K hK=>?_)
          refine box_step ?hg (N:=8) ?hd (cs := #[.int .i64 0,.int .i64 0]) (t:=60) ?hr ?_;(case hd=>rfl);(case hg=>rfl);(case hr=>first|(go_simp;done)|(go_simp;rfl))
          intro gb272 hg w28 hbox hb;have n0_:=zM (blk_below (g:=gb271) (o := .cells #[.int .i64 0,.int .i64 0] 60 (0,0)) (by (with_reducible repeat (first|refine zJ ?_ _|refine zK ?_|refine zL ?_ _));exact BK271.out) hb)
          have n1_:=zM (zQ (by repeat (first|(with_reducible first|exact HB.out|apply zD|apply zE|apply zF|refine below_set ?_ GE271.out)|exact HB.out)) hb)
          have n2_:=zM (hbox);have n3_:=zM ((by rw [hg];exact (zR (by repeat (first|(with_reducible first|exact HB.out|apply zD|apply zE|apply zF|refine below_set ?_ GE271.out)|exact HB.out))):w.heap.size ≤ gb272))
          have n4_:=zM ((by rw [hg];exact (zR (by repeat (first|(with_reducible first|exact HB.out|apply zD|apply zE|apply zF|refine below_set ?_ GE271.out)|exact HB.out))):w.heap.size ≤ gb272))
          have n5_:=zM ((by rw [hg];exact Nat.ne_of_lt (blk_lt (g:=gb271) (o := .cells #[.int .i64 0,.int .i64 0] 60 (0,0)) (by (with_reducible repeat (first|refine zJ ?_ _|refine zK ?_|refine zL ?_ _));exact BK271.out)):gb271 ≠ gb272))
          have n6_:=zM ((by rw [hg];exact Nat.ne_of_gt (blk_lt (g:=gb271) (o := .cells #[.int .i64 0,.int .i64 0] 60 (0,0)) (by (with_reducible repeat (first|refine zJ ?_ _|refine zK ?_|refine zL ?_ _));exact BK271.out)):gb272 ≠ gb271))
          clear BK271;clear HB;have BK271:=n0_;have HB:=n1_;have BK272:=n2_;have GW272:=n3_;have GE272:=n4_;have NB271_272:=n5_;have NB272_271:=n6_;clear n0_ n1_ n2_ n3_ n4_ n5_ n6_;clear hb hbox hg;refine hK.out _ _ ⟨(zS HB.out hw269_0),(zS HB.out hw269_1),(zS HB.out hw270_0),(zS HB.out hw270_1)⟩ (fun hHeld=>?_)
          clear hK K;refine norm_ (a':=?_) ?_ ?_
          rotate_left
          ·show Act.put _ (some 8) _ = _
           simp only [Act.put,zT,zU,zV,i64_w,i32_w]
           rfl
          exact norm_ (by simp only [putAll,Act.put,List.setIfInBounds_toArray,List.set_cons_zero,List.set_cons_succ]) (hCont (gb271,gb272) _ ⟨hHeld,(by (with_reducible repeat (first|refine zJ ?_ _|refine zK ?_|refine zL ?_ _));exact BK271.out),(by (with_reducible repeat (first|refine zJ ?_ _|refine zK ?_|refine zL ?_ _));exact BK272.out),GW271.out,GE271.out,NB272_271.out,NB271_272.out,GW272.out,GE272.out,(by repeat (first|(with_reducible first|exact HB.out|apply zD|apply zE|apply zF|refine below_set ?_ GE271.out|refine below_set ?_ GE272.out)|exact HB.out))⟩)
         ·skip
          refine box_step ?hg (N:=8) ?hd (cs := #[.int .i64 0,.int .i64 0]) (t:=60) ?hr ?_;(case hd=>rfl);(case hg=>rfl);(case hr=>first|(go_simp;done)|(go_simp;rfl))
          intro gb272 hg w27 hbox hb;have n0_:=zM (zQ (by repeat (first|(with_reducible first|exact HB.out|apply zD|apply zE|apply zF)|exact HB.out)) hb)
          have n1_:=zM (hbox);have n2_:=zM ((by rw [hg];exact (zR (by repeat (first|(with_reducible first|exact HB.out|apply zD|apply zE|apply zF)|exact HB.out))):w.heap.size ≤ gb272))
          have n3_:=zM ((by rw [hg];exact (zR (by repeat (first|(with_reducible first|exact HB.out|apply zD|apply zE|apply zF)|exact HB.out))):w.heap.size ≤ gb272))
          clear HB;have HB:=n0_;have BK272:=n1_;have GW272:=n2_;have GE272:=n3_;clear n0_ n1_ n2_ n3_;clear hb hbox hg;refine hK.out _ _ ⟨(zS HB.out hw269_0),(zS HB.out hw269_1),(zS HB.out hw270_0),(zS HB.out hw270_1)⟩ (fun hHeld=>?_)
          clear hK K;refine norm_ (a':=?_) ?_ ?_
          rotate_left
          ·show Act.put _ (some 8) _ = _
           simp only [Act.put,zT,zU,zV,i64_w,i32_w]
           rfl
          refine one_ (i:=9) (N:=some 7) #[true,true,true,true,true,true,true,true,true,true,true,false,false] rfl rfl (one_of HT_.out (by kernel_rfl)) (by decide) (fun K hK=>?_)
          refine box_step ?hg (N:=7) ?hd (cs := #[.int .i64 0,.int .i64 0]) (t:=60) ?hr ?_;(case hd=>rfl);(case hg=>rfl);(case hr=>first|(go_simp;done)|(go_simp;rfl))
          intro gb271 hg w28 hbox hb;have n0_:=zM (blk_below (g:=gb272) (o := .cells #[.int .i64 0,.int .i64 0] 60 (0,0)) (by (with_reducible repeat (first|refine zJ ?_ _|refine zK ?_|refine zL ?_ _));exact BK272.out) hb)
          have n1_:=zM (zQ (by repeat (first|(with_reducible first|exact HB.out|apply zD|apply zE|apply zF|refine below_set ?_ GE272.out)|exact HB.out)) hb)
          have n2_:=zM (hbox);have n3_:=zM ((by rw [hg];exact (zR (by repeat (first|(with_reducible first|exact HB.out|apply zD|apply zE|apply zF|refine below_set ?_ GE272.out)|exact HB.out))):w.heap.size ≤ gb271))
          have n4_:=zM ((by rw [hg];exact (zR (by repeat (first|(with_reducible first|exact HB.out|apply zD|apply zE|apply zF|refine below_set ?_ GE272.out)|exact HB.out))):w.heap.size ≤ gb271))
          have n5_:=zM ((by rw [hg];exact Nat.ne_of_lt (blk_lt (g:=gb272) (o := .cells #[.int .i64 0,.int .i64 0] 60 (0,0)) (by (with_reducible repeat (first|refine zJ ?_ _|refine zK ?_|refine zL ?_ _));exact BK272.out)):gb272 ≠ gb271))
          have n6_:=zM ((by rw [hg];exact Nat.ne_of_gt (blk_lt (g:=gb272) (o := .cells #[.int .i64 0,.int .i64 0] 60 (0,0)) (by (with_reducible repeat (first|refine zJ ?_ _|refine zK ?_|refine zL ?_ _));exact BK272.out)):gb271 ≠ gb272))
          clear BK272;clear HB;have BK272:=n0_;have HB:=n1_;have BK271:=n2_;have GW271:=n3_;have GE271:=n4_;have NB272_271:=n5_;have NB271_272:=n6_;clear n0_ n1_ n2_ n3_ n4_ n5_ n6_;clear hb hbox hg;refine hK.out _ _ ⟨(zS HB.out hw269_0),(zS HB.out hw269_1),(zS HB.out hw270_0),(zS HB.out hw270_1)⟩ (fun hHeld=>?_)
          clear hK K;refine norm_ (a':=?_) ?_ ?_
          rotate_left
          ·show Act.put _ (some 7) _ = _
           simp only [Act.put,zT,zU,zV,i64_w,i32_w]
           rfl
          exact norm_ (by simp only [putAll,Act.put,List.setIfInBounds_toArray,List.set_cons_zero,List.set_cons_succ]) (hCont (gb271,gb272) _ ⟨hHeld,(by (with_reducible repeat (first|refine zJ ?_ _|refine zK ?_|refine zL ?_ _));exact BK271.out),(by (with_reducible repeat (first|refine zJ ?_ _|refine zK ?_|refine zL ?_ _));exact BK272.out),GW271.out,GE271.out,NB272_271.out,NB271_272.out,GW272.out,GE272.out,(by repeat (first|(with_reducible first|exact HB.out|apply zD|apply zE|apply zF|refine below_set ?_ GE272.out|refine below_set ?_ GE271.out)|exact HB.out))⟩)
        rintro ⟨gb271,gb272⟩ w29 ⟨hS_,h0_,h1_,h2_,h3_,h4_,h5_,h6_,h7_,h8_⟩
        have n0_:Aside0 (w29.heap[gb271]? = some (.cells #[.int .i64 0,.int .i64 0] 60 (0,0))):=⟨h0_⟩
        have n1_:Aside0 (w29.heap[gb272]? = some (.cells #[.int .i64 0,.int .i64 0] 60 (0,0))):=⟨h1_⟩
        have n2_:Aside0 (w.heap.size ≤ gb271):=⟨h2_⟩
        have n3_:Aside0 (w.heap.size ≤ gb271):=⟨h3_⟩
        have n4_:Aside0 (gb272 ≠ gb271):=⟨h4_⟩
        have n5_:Aside0 (gb271 ≠ gb272):=⟨h5_⟩
        have n6_:Aside0 (w.heap.size ≤ gb272):=⟨h6_⟩
        have n7_:Aside0 (w.heap.size ≤ gb272):=⟨h7_⟩
        have n8_:Aside0 (Below w.heap.size w w29):=⟨h8_⟩
        clear HB;clear h0_ h1_ h2_ h3_ h4_ h5_ h6_ h7_ h8_;have BK271:=n0_;have BK272:=n1_;have GW271:=n2_;have GE271:=n3_;have NB272_271:=n4_;have NB271_272:=n5_;have GW272:=n6_;have GE272:=n7_;have HB:=n8_;clear n0_ n1_ n2_ n3_ n4_ n5_ n6_ n7_ n8_;have hHeld:w29.cell? (ad269.add ((x6_1).toNat * 2)) = some (.int .i64 ((rd_T60 l0 x6_1).f0)) ∧ w29.cell? ⟨(ad269.add ((x6_1).toNat * 2)).block,(ad269.add ((x6_1).toNat * 2)).off + 1,none⟩ = some (.int .i64 ((rd_T60 l0 x6_1).f1)) ∧ w29.cell? (ad269.add (((ji23)).toNat * 2)) = some (.int .i64 ((rd_T60 l0 (ji23)).f0)) ∧ w29.cell? ⟨(ad269.add (((ji23)).toNat * 2)).block,(ad269.add (((ji23)).toNat * 2)).off + 1,none⟩ = some (.int .i64 ((rd_T60 l0 (ji23)).f1)):=hS_
        refine norm_ (a':=?_) ?_ ?_
        rotate_left
        ·simp only [putAll,Act.put,List.setIfInBounds_toArray,List.set_cons_zero,List.set_cons_succ]
         rfl
        refine one_ (i:=11) (N:=none) #[true,true,true,true,true,true,true,true,true,true,true,true,false] rfl rfl (one_of HT_.out (by kernel_rfl)) (by decide) (fun K hK=>?_)
        have hs30:w29.cell? ⟨gb271,0,none⟩ = some (.int .i64 0):=(blk_cell BK271.out 0).trans rfl
        have hfs30:=blk_frozen BK271.out 0;have hns30_1:=NB272_271.out;have hms30_1:=NB271_272.out;have hs31:w29.cell? ⟨gb271,1,none⟩ = some (.int .i64 0):=(blk_cell BK271.out 1).trans rfl
        have hfs31:=blk_frozen BK271.out 1;have hns31_1:=NB272_271.out;have hms31_1:=NB271_272.out;refine skip_ (w1:=?_) (by rfl) rfl ?_ ?_
        rotate_left
        ·go_simp
         rfl
        refine hK.out _ _ ⟨((cell_far (p:=⟨gb271,_,none⟩) (by first|exact Nat.ne_of_lt (Nat.lt_of_lt_of_le (by have:=World.block_lt_of_cell? _ _ hw269_0;first|rwa [add_block] at this|exact this) GW271.out)|(rw [add_block];exact Nat.ne_of_lt (Nat.lt_of_lt_of_le (by have:=World.block_lt_of_cell? _ _ hw269_0;first|rwa [add_block] at this|exact this) GW271.out))|(show (Addr.add _ _).block ≠ _;rw [add_block];exact Nat.ne_of_lt (Nat.lt_of_lt_of_le (by have:=World.block_lt_of_cell? _ _ hw269_0;first|rwa [add_block] at this|exact this) GW271.out))|(dsimp only;exact Nat.ne_of_lt (Nat.lt_of_lt_of_le (by have:=World.block_lt_of_cell? _ _ hw269_0;first|rwa [add_block] at this|exact this) GW271.out))) _).trans (((cell_far (p:=⟨gb271,_,none⟩) (by first|exact Nat.ne_of_lt (Nat.lt_of_lt_of_le (by have:=World.block_lt_of_cell? _ _ hw269_0;first|rwa [add_block] at this|exact this) GW271.out)|(rw [add_block];exact Nat.ne_of_lt (Nat.lt_of_lt_of_le (by have:=World.block_lt_of_cell? _ _ hw269_0;first|rwa [add_block] at this|exact this) GW271.out))|(show (Addr.add _ _).block ≠ _;rw [add_block];exact Nat.ne_of_lt (Nat.lt_of_lt_of_le (by have:=World.block_lt_of_cell? _ _ hw269_0;first|rwa [add_block] at this|exact this) GW271.out))|(dsimp only;exact Nat.ne_of_lt (Nat.lt_of_lt_of_le (by have:=World.block_lt_of_cell? _ _ hw269_0;first|rwa [add_block] at this|exact this) GW271.out))) _).trans (hHeld.1)))),((cell_far (p:=⟨gb271,_,none⟩) (by first|exact Nat.ne_of_lt (Nat.lt_of_lt_of_le (by have:=World.block_lt_of_cell? _ _ hw269_1;first|rwa [add_block] at this|exact this) GW271.out)|(rw [add_block];exact Nat.ne_of_lt (Nat.lt_of_lt_of_le (by have:=World.block_lt_of_cell? _ _ hw269_1;first|rwa [add_block] at this|exact this) GW271.out))|(show (Addr.add _ _).block ≠ _;rw [add_block];exact Nat.ne_of_lt (Nat.lt_of_lt_of_le (by have:=World.block_lt_of_cell? _ _ hw269_1;first|rwa [add_block] at this|exact this) GW271.out))|(dsimp only;exact Nat.ne_of_lt (Nat.lt_of_lt_of_le (by have:=World.block_lt_of_cell? _ _ hw269_1;first|rwa [add_block] at this|exact this) GW271.out))) _).trans (((cell_far (p:=⟨gb271,_,none⟩) (by first|exact Nat.ne_of_lt (Nat.lt_of_lt_of_le (by have:=World.block_lt_of_cell? _ _ hw269_1;first|rwa [add_block] at this|exact this) GW271.out)|(rw [add_block];exact Nat.ne_of_lt (Nat.lt_of_lt_of_le (by have:=World.block_lt_of_cell? _ _ hw269_1;first|rwa [add_block] at this|exact this) GW271.out))|(show (Addr.add _ _).block ≠ _;rw [add_block];exact Nat.ne_of_lt (Nat.lt_of_lt_of_le (by have:=World.block_lt_of_cell? _ _ hw269_1;first|rwa [add_block] at this|exact this) GW271.out))|(dsimp only;exact Nat.ne_of_lt (Nat.lt_of_lt_of_le (by have:=World.block_lt_of_cell? _ _ hw269_1;first|rwa [add_block] at this|exact this) GW271.out))) _).trans (hHeld.2.1)))),((cell_far (p:=⟨gb271,_,none⟩) (by first|exact Nat.ne_of_lt (Nat.lt_of_lt_of_le (by have:=World.block_lt_of_cell? _ _ hw270_0;first|rwa [add_block] at this|exact this) GW271.out)|(rw [add_block];exact Nat.ne_of_lt (Nat.lt_of_lt_of_le (by have:=World.block_lt_of_cell? _ _ hw270_0;first|rwa [add_block] at this|exact this) GW271.out))|(show (Addr.add _ _).block ≠ _;rw [add_block];exact Nat.ne_of_lt (Nat.lt_of_lt_of_le (by have:=World.block_lt_of_cell? _ _ hw270_0;first|rwa [add_block] at this|exact this) GW271.out))|(dsimp only;exact Nat.ne_of_lt (Nat.lt_of_lt_of_le (by have:=World.block_lt_of_cell? _ _ hw270_0;first|rwa [add_block] at this|exact this) GW271.out))) _).trans (((cell_far (p:=⟨gb271,_,none⟩) (by first|exact Nat.ne_of_lt (Nat.lt_of_lt_of_le (by have:=World.block_lt_of_cell? _ _ hw270_0;first|rwa [add_block] at this|exact this) GW271.out)|(rw [add_block];exact Nat.ne_of_lt (Nat.lt_of_lt_of_le (by have:=World.block_lt_of_cell? _ _ hw270_0;first|rwa [add_block] at this|exact this) GW271.out))|(show (Addr.add _ _).block ≠ _;rw [add_block];exact Nat.ne_of_lt (Nat.lt_of_lt_of_le (by have:=World.block_lt_of_cell? _ _ hw270_0;first|rwa [add_block] at this|exact this) GW271.out))|(dsimp only;exact Nat.ne_of_lt (Nat.lt_of_lt_of_le (by have:=World.block_lt_of_cell? _ _ hw270_0;first|rwa [add_block] at this|exact this) GW271.out))) _).trans (hHeld.2.2.1)))),((cell_far (p:=⟨gb271,_,none⟩) (by first|exact Nat.ne_of_lt (Nat.lt_of_lt_of_le (by have:=World.block_lt_of_cell? _ _ hw270_1;first|rwa [add_block] at this|exact this) GW271.out)|(rw [add_block];exact Nat.ne_of_lt (Nat.lt_of_lt_of_le (by have:=World.block_lt_of_cell? _ _ hw270_1;first|rwa [add_block] at this|exact this) GW271.out))|(show (Addr.add _ _).block ≠ _;rw [add_block];exact Nat.ne_of_lt (Nat.lt_of_lt_of_le (by have:=World.block_lt_of_cell? _ _ hw270_1;first|rwa [add_block] at this|exact this) GW271.out))|(dsimp only;exact Nat.ne_of_lt (Nat.lt_of_lt_of_le (by have:=World.block_lt_of_cell? _ _ hw270_1;first|rwa [add_block] at this|exact this) GW271.out))) _).trans (((cell_far (p:=⟨gb271,_,none⟩) (by first|exact Nat.ne_of_lt (Nat.lt_of_lt_of_le (by have:=World.block_lt_of_cell? _ _ hw270_1;first|rwa [add_block] at this|exact this) GW271.out)|(rw [add_block];exact Nat.ne_of_lt (Nat.lt_of_lt_of_le (by have:=World.block_lt_of_cell? _ _ hw270_1;first|rwa [add_block] at this|exact this) GW271.out))|(show (Addr.add _ _).block ≠ _;rw [add_block];exact Nat.ne_of_lt (Nat.lt_of_lt_of_le (by have:=World.block_lt_of_cell? _ _ hw270_1;first|rwa [add_block] at this|exact this) GW271.out))|(dsimp only;exact Nat.ne_of_lt (Nat.lt_of_lt_of_le (by have:=World.block_lt_of_cell? _ _ hw270_1;first|rwa [add_block] at this|exact this) GW271.out))) _).trans (hHeld.2.2.2))))⟩ (fun hHeld=>?_)
        clear hK K;refine one_ (i:=12) (N:=none) #[true,true,true,true,true,true,true,true,true,true,true,true,true] rfl rfl (one_of HT_.out (by kernel_rfl)) (by decide) (fun K hK=>?_)
        have hs32:w29.cell? ⟨gb272,0,none⟩ = some (.int .i64 0):=(blk_cell BK272.out 0).trans rfl
        have hfs32:=blk_frozen BK272.out 0;have hns32_0:=NB271_272.out;have hms32_0:=NB272_271.out;have hs33:w29.cell? ⟨gb272,1,none⟩ = some (.int .i64 0):=(blk_cell BK272.out 1).trans rfl
        have hfs33:=blk_frozen BK272.out 1;have hns33_0:=NB271_272.out;have hms33_0:=NB272_271.out;refine skip_ (w1:=?_) (by rfl) rfl ?_ ?_
        rotate_left
        ·go_simp
         rfl
        refine hK.out _ _ ⟨((cell_far (p:=⟨gb272,_,none⟩) (by first|exact Nat.ne_of_lt (Nat.lt_of_lt_of_le (by have:=World.block_lt_of_cell? _ _ hw269_0;first|rwa [add_block] at this|exact this) GW272.out)|(rw [add_block];exact Nat.ne_of_lt (Nat.lt_of_lt_of_le (by have:=World.block_lt_of_cell? _ _ hw269_0;first|rwa [add_block] at this|exact this) GW272.out))|(show (Addr.add _ _).block ≠ _;rw [add_block];exact Nat.ne_of_lt (Nat.lt_of_lt_of_le (by have:=World.block_lt_of_cell? _ _ hw269_0;first|rwa [add_block] at this|exact this) GW272.out))|(dsimp only;exact Nat.ne_of_lt (Nat.lt_of_lt_of_le (by have:=World.block_lt_of_cell? _ _ hw269_0;first|rwa [add_block] at this|exact this) GW272.out))) _).trans (((cell_far (p:=⟨gb272,_,none⟩) (by first|exact Nat.ne_of_lt (Nat.lt_of_lt_of_le (by have:=World.block_lt_of_cell? _ _ hw269_0;first|rwa [add_block] at this|exact this) GW272.out)|(rw [add_block];exact Nat.ne_of_lt (Nat.lt_of_lt_of_le (by have:=World.block_lt_of_cell? _ _ hw269_0;first|rwa [add_block] at this|exact this) GW272.out))|(show (Addr.add _ _).block ≠ _;rw [add_block];exact Nat.ne_of_lt (Nat.lt_of_lt_of_le (by have:=World.block_lt_of_cell? _ _ hw269_0;first|rwa [add_block] at this|exact this) GW272.out))|(dsimp only;exact Nat.ne_of_lt (Nat.lt_of_lt_of_le (by have:=World.block_lt_of_cell? _ _ hw269_0;first|rwa [add_block] at this|exact this) GW272.out))) _).trans (hHeld.1)))),((cell_far (p:=⟨gb272,_,none⟩) (by first|exact Nat.ne_of_lt (Nat.lt_of_lt_of_le (by have:=World.block_lt_of_cell? _ _ hw269_1;first|rwa [add_block] at this|exact this) GW272.out)|(rw [add_block];exact Nat.ne_of_lt (Nat.lt_of_lt_of_le (by have:=World.block_lt_of_cell? _ _ hw269_1;first|rwa [add_block] at this|exact this) GW272.out))|(show (Addr.add _ _).block ≠ _;rw [add_block];exact Nat.ne_of_lt (Nat.lt_of_lt_of_le (by have:=World.block_lt_of_cell? _ _ hw269_1;first|rwa [add_block] at this|exact this) GW272.out))|(dsimp only;exact Nat.ne_of_lt (Nat.lt_of_lt_of_le (by have:=World.block_lt_of_cell? _ _ hw269_1;first|rwa [add_block] at this|exact this) GW272.out))) _).trans (((cell_far (p:=⟨gb272,_,none⟩) (by first|exact Nat.ne_of_lt (Nat.lt_of_lt_of_le (by have:=World.block_lt_of_cell? _ _ hw269_1;first|rwa [add_block] at this|exact this) GW272.out)|(rw [add_block];exact Nat.ne_of_lt (Nat.lt_of_lt_of_le (by have:=World.block_lt_of_cell? _ _ hw269_1;first|rwa [add_block] at this|exact this) GW272.out))|(show (Addr.add _ _).block ≠ _;rw [add_block];exact Nat.ne_of_lt (Nat.lt_of_lt_of_le (by have:=World.block_lt_of_cell? _ _ hw269_1;first|rwa [add_block] at this|exact this) GW272.out))|(dsimp only;exact Nat.ne_of_lt (Nat.lt_of_lt_of_le (by have:=World.block_lt_of_cell? _ _ hw269_1;first|rwa [add_block] at this|exact this) GW272.out))) _).trans (hHeld.2.1)))),((cell_far (p:=⟨gb272,_,none⟩) (by first|exact Nat.ne_of_lt (Nat.lt_of_lt_of_le (by have:=World.block_lt_of_cell? _ _ hw270_0;first|rwa [add_block] at this|exact this) GW272.out)|(rw [add_block];exact Nat.ne_of_lt (Nat.lt_of_lt_of_le (by have:=World.block_lt_of_cell? _ _ hw270_0;first|rwa [add_block] at this|exact this) GW272.out))|(show (Addr.add _ _).block ≠ _;rw [add_block];exact Nat.ne_of_lt (Nat.lt_of_lt_of_le (by have:=World.block_lt_of_cell? _ _ hw270_0;first|rwa [add_block] at this|exact this) GW272.out))|(dsimp only;exact Nat.ne_of_lt (Nat.lt_of_lt_of_le (by have:=World.block_lt_of_cell? _ _ hw270_0;first|rwa [add_block] at this|exact this) GW272.out))) _).trans (((cell_far (p:=⟨gb272,_,none⟩) (by first|exact Nat.ne_of_lt (Nat.lt_of_lt_of_le (by have:=World.block_lt_of_cell? _ _ hw270_0;first|rwa [add_block] at this|exact this) GW272.out)|(rw [add_block];exact Nat.ne_of_lt (Nat.lt_of_lt_of_le (by have:=World.block_lt_of_cell? _ _ hw270_0;first|rwa [add_block] at this|exact this) GW272.out))|(show (Addr.add _ _).block ≠ _;rw [add_block];exact Nat.ne_of_lt (Nat.lt_of_lt_of_le (by have:=World.block_lt_of_cell? _ _ hw270_0;first|rwa [add_block] at this|exact this) GW272.out))|(dsimp only;exact Nat.ne_of_lt (Nat.lt_of_lt_of_le (by have:=World.block_lt_of_cell? _ _ hw270_0;first|rwa [add_block] at this|exact this) GW272.out))) _).trans (hHeld.2.2.1)))),((cell_far (p:=⟨gb272,_,none⟩) (by first|exact Nat.ne_of_lt (Nat.lt_of_lt_of_le (by have:=World.block_lt_of_cell? _ _ hw270_1;first|rwa [add_block] at this|exact this) GW272.out)|(rw [add_block];exact Nat.ne_of_lt (Nat.lt_of_lt_of_le (by have:=World.block_lt_of_cell? _ _ hw270_1;first|rwa [add_block] at this|exact this) GW272.out))|(show (Addr.add _ _).block ≠ _;rw [add_block];exact Nat.ne_of_lt (Nat.lt_of_lt_of_le (by have:=World.block_lt_of_cell? _ _ hw270_1;first|rwa [add_block] at this|exact this) GW272.out))|(dsimp only;exact Nat.ne_of_lt (Nat.lt_of_lt_of_le (by have:=World.block_lt_of_cell? _ _ hw270_1;first|rwa [add_block] at this|exact this) GW272.out))) _).trans (((cell_far (p:=⟨gb272,_,none⟩) (by first|exact Nat.ne_of_lt (Nat.lt_of_lt_of_le (by have:=World.block_lt_of_cell? _ _ hw270_1;first|rwa [add_block] at this|exact this) GW272.out)|(rw [add_block];exact Nat.ne_of_lt (Nat.lt_of_lt_of_le (by have:=World.block_lt_of_cell? _ _ hw270_1;first|rwa [add_block] at this|exact this) GW272.out))|(show (Addr.add _ _).block ≠ _;rw [add_block];exact Nat.ne_of_lt (Nat.lt_of_lt_of_le (by have:=World.block_lt_of_cell? _ _ hw270_1;first|rwa [add_block] at this|exact this) GW272.out))|(dsimp only;exact Nat.ne_of_lt (Nat.lt_of_lt_of_le (by have:=World.block_lt_of_cell? _ _ hw270_1;first|rwa [add_block] at this|exact this) GW272.out))) _).trans (hHeld.2.2.2))))⟩ (fun hHeld=>?_)
        clear hK K;refine done_ (done_of HT_.out (by kernel_rfl)) ?_
        have hnb34:=NB272_271.out;have hnc34:=NB271_272.out;have hcz35_0:w29.cell? ⟨gb272,0,none⟩ = some (.int .i64 0):=(blk_cell BK272.out 0).trans rfl
        have hcz35_1:w29.cell? ⟨gb272,1,none⟩ = some (.int .i64 0):=(blk_cell BK272.out 1).trans rfl
        have hfz35_0:=blk_frozen BK272.out 0;have hfz35_1:=blk_frozen BK272.out 1;have hcz36_0:w29.cell? ⟨gb271,0,none⟩ = some (.int .i64 0):=(blk_cell BK271.out 0).trans rfl
        have hcz36_1:w29.cell? ⟨gb271,1,none⟩ = some (.int .i64 0):=(blk_cell BK271.out 1).trans rfl
        have hfz36_0:=blk_frozen BK271.out 0;have hfz36_1:=blk_frozen BK271.out 1;try go_wp2
        go_ret2
        exact ⟨by first|rfl|(simp [errW_none,errW_some] <;> rfl)|(simp only [← hji23];first|rfl|(simp [errW_none,errW_some] <;> rfl))|(simp [*,errW_none,errW_some] <;> rfl),by repeat (first|(with_reducible first|exact HB.out|apply zD|apply zE|apply zF|refine below_set ?_ GE271.out|refine below_set ?_ GE272.out)|exact HB.out)⟩
       ·rw [if_neg c25] at H
        exact absurd H (by simp)
      ·rw [if_neg c24] at H
       exact absurd H (by simp)
     ·rw [if_neg c22] at H
      exact absurd H (by simp)
    ·rw [if_neg c21] at H
     exact absurd H (by simp)



/-! ### spec_l1Least: function 61 -/
def spec_l1Least.f (a0:Int) (a1:Int):Option (Int):=if a0 < a1 then (some a0) else (some a1)
set_option maxHeartbeats 8000000 in
set_option maxRecDepth 100000 in
theorem spec_l1Least.calls (a0:Int) (a1:Int) (r:Int) (w:World) (h:spec_l1Least.f a0 a1 = some r) :
  Calls Try.prog 61 #[.int .i64 a0,.int .i64 a1] w fun e w'=>e = .returned (.int .i64 r) ∧ Drawn0 w w':=by
 have H:(if a0 < a1 then (some a0) else (some a1)) = some r:=h
 clear h;by_cases c3:a0 < a1
 ·rw [if_pos c3] at H
  have c3b0:decide (a0 < a1) = true:=decide_eq_true c3
  clear c3;obtain rfl:=Option.some.inj H;go_enter Try.func61,Try.ntmps61
  go_wp2
  go_ret
  exact ⟨by first|rfl|(simp;done)|(simp [*];done),by repeat (first|exact Drawn0.refl _|apply Drawn0.step)⟩
 ·rw [if_neg c3] at H
  have c3b0:decide (a0 < a1) = false:=decide_eq_false c3
  clear c3;obtain rfl:=Option.some.inj H;go_enter Try.func61,Try.ntmps61
  go_wp2
  go_ret
  exact ⟨by first|rfl|(simp;done)|(simp [*];done),by repeat (first|exact Drawn0.refl _|apply Drawn0.step)⟩



/-! ### spec_GreatestDraft: function 25 -/
mutual
def spec_GreatestDraft.j0:Nat → List (S60) → Int → Int → Int → Bool → Option (Int × Bool)
 | 0,_,_,_,_,_=>none
 | k + 1,x0,x1,x2,x3,x33=>if x33 = true then (some (0,false)) else (spec_GreatestDraft.l0 k x0 x1 x3 (wrap64 (x1 + 2000)) x2)
def spec_GreatestDraft.l0:Nat → List (S60) → Int → Int → Int → Int → Option (Int × Bool)
 | 0,_,_,_,_,_=>none
 | k + 1,x0,x1,x3,x10,x11=>if x11 ≤ x3 then ((spec_l15Height.f k x0 x11).bind fun bt276=>(if bt276.2 = 0 then (none) else ((spec_l1Least.f x10 (wrap64 (x1 + (wrap64 (Int.tdiv bt276.1 bt276.2))))).bind fun t278=>(spec_GreatestDraft.l0 k x0 x1 x3 t278 (wrap64 (x11 + 1)))))) else (some (x10,true))
end
def spec_GreatestDraft.f (k:Nat) (l0:List (S60)) (a1:Int) (a2:Int) (a3:Int):Option (Int × Bool):=(spec_l15Holds.f k l0 a2).bind fun t273=>(if t273 = true then ((spec_l15Holds.f k l0 a3).bind fun t274=>(if t274 = true then (if a2 > a3 then (spec_GreatestDraft.j0 k l0 a1 a2 a3 true) else ((spec_l1In.f a1 0 3000).bind fun t275=>(spec_GreatestDraft.j0 k l0 a1 a2 a3 (!t275)))) else (spec_GreatestDraft.j0 k l0 a1 a2 a3 true))) else (spec_GreatestDraft.j0 k l0 a1 a2 a3 true))
set_option maxHeartbeats 8000000 in
set_option maxRecDepth 100000 in
theorem spec_GreatestDraft.calls (k:Nat) (A0:Option Addr) (c0:Nat) (l0:List (S60)) (a1:Int) (a2:Int) (a3:Int) (r1:Int) (r2:Bool) (w:World) (hr0:Kd.C k60 w A0 l0.length l0) (hc0:l0.length ≤ c0) (h:spec_GreatestDraft.f k l0 a1 a2 a3 = some (r1,r2)) :
  Calls Try.prog 25 #[.slice A0 l0.length c0,.int .i64 a1,.int .i64 a2,.int .i64 a3] w fun e w'=>e = .returned (.tuple #[.int .i64 r1,.bool r2]) ∧ Below w.heap.size w w':=by
 have HR0:=zM hr0;have HC0:=zM hc0;clear hr0 hc0;have HB:=zM (Below.refl w.heap.size w);have H:((spec_l15Holds.f k l0 a2).bind fun t273=>(if t273 = true then ((spec_l15Holds.f k l0 a3).bind fun t274=>(if t274 = true then (if a2 > a3 then (spec_GreatestDraft.j0 k l0 a1 a2 a3 true) else ((spec_l1In.f a1 0 3000).bind fun t275=>(spec_GreatestDraft.j0 k l0 a1 a2 a3 (!t275)))) else (spec_GreatestDraft.j0 k l0 a1 a2 a3 true))) else (spec_GreatestDraft.j0 k l0 a1 a2 a3 true))) = some (r1,r2):=h
 clear h;have HC5:=zM H;clear H;go_enter Try.func25,Try.ntmps25
 go_upto_region 1 with (fail)
 go_cut [33] (fun v33 wc => ∃ (kq:Nat) (x33_4:Bool),v33 = .bool x33_4 ∧ Aside0 (spec_GreatestDraft.j0 kq l0 a1 a2 a3 x33_4 = some (r1,r2)) ∧ Aside0 (kq ≤ k) ∧ Aside0 (Below w.heap.size w wc))
 case first =>
  have H:=HC5.out;clear HC5;replace H:=Option.bind_eq_some_iff.mp H;obtain ⟨t273,A60,H⟩:=H;replace H:(if t273 = true then ((spec_l15Holds.f k l0 a3).bind fun t274=>(if t274 = true then (if a2 > a3 then (spec_GreatestDraft.j0 k l0 a1 a2 a3 true) else ((spec_l1In.f a1 0 3000).bind fun t275=>(spec_GreatestDraft.j0 k l0 a1 a2 a3 (!t275)))) else (spec_GreatestDraft.j0 k l0 a1 a2 a3 true))) else (spec_GreatestDraft.j0 k l0 a1 a2 a3 true)) = some (r1,r2):=H
  have A6:=zM A60;clear A60;by_cases c7:t273 = true
  ·subst c7
   have H1:((spec_l15Holds.f k l0 a3).bind fun t274=>(if t274 = true then (if a2 > a3 then (spec_GreatestDraft.j0 k l0 a1 a2 a3 true) else ((spec_l1In.f a1 0 3000).bind fun t275=>(spec_GreatestDraft.j0 k l0 a1 a2 a3 (!t275)))) else (spec_GreatestDraft.j0 k l0 a1 a2 a3 true))) = some (r1,r2):=by rw [if_pos rfl] at H;exact H
   clear H;have H:=H1;clear H1;replace H:=Option.bind_eq_some_iff.mp H;obtain ⟨t274,A80,H⟩:=H;replace H:(if t274 = true then (if a2 > a3 then (spec_GreatestDraft.j0 k l0 a1 a2 a3 true) else ((spec_l1In.f a1 0 3000).bind fun t275=>(spec_GreatestDraft.j0 k l0 a1 a2 a3 (!t275)))) else (spec_GreatestDraft.j0 k l0 a1 a2 a3 true)) = some (r1,r2):=H
   have A8:=zM A80;clear A80;by_cases c9:t274 = true
   ·subst c9
    have H1:(if a2 > a3 then (spec_GreatestDraft.j0 k l0 a1 a2 a3 true) else ((spec_l1In.f a1 0 3000).bind fun t275=>(spec_GreatestDraft.j0 k l0 a1 a2 a3 (!t275)))) = some (r1,r2):=by rw [if_pos rfl] at H;exact H
    clear H;have H:=H1;clear H1;by_cases c10:a2 > a3
    ·rw [if_pos c10] at H
     have c10b0:decide (a3 < a2) = true:=decide_eq_true c10
     clear c10;(first|rw [c10b0]|(simp only [i64_w,i32_w];rw [c10b0])|skip)
     have H':=zM H;clear H;go_wp2_with (first|((with_reducible refine gate_callee (f:=59) rfl ?_);refine goesL_ (some 16) rfl rfl Try.func59 (by kernel_rfl) rfl #[.slice A0 l0.length c0,.int .i64 a2] rfl (by (try simp only [List.map_toArray,List.map_cons,List.map_nil]);first|done|rfl|(simp only [List.length_drop,List.length_take];rfl)) ?_;(with_reducible refine (spec_l15Holds.calls k _ _ l0 a2 true _ ?side1 ?side2 A6.out).mono ?_);(case side1=>repeat (first|exact (zO HR0.out HB.out)|(with_reducible first|refine zG ?_ _|refine zH ?_ _|refine zI ?_)));(case side2=>exact HC0.out);rintro e w' ⟨rfl,⟨nd,rfl⟩⟩;refine ⟨_,rfl,?_⟩)|(go_at_call 59;(with_reducible refine (spec_l15Holds.calls k _ _ l0 a3 true _ ?side1 ?side2 A8.out).mono ?_);(case side1=>repeat (first|exact (zO HR0.out (by repeat (first|(with_reducible first|exact HB.out|apply zD|apply zE|apply zF)|exact HB.out)))|(with_reducible first|refine zG ?_ _|refine zH ?_ _|refine zI ?_)));(case side2=>exact HC0.out);rintro e w' ⟨rfl,⟨nd,rfl⟩⟩))
     go_meet
     case rel=>exact ⟨_,(true),(by first|rfl|(simp;done)|(simp [*];done)),H',⟨by first|omega|exact Nat.le_refl _⟩,⟨by repeat (first|(with_reducible first|exact HB.out|apply zD|apply zE|apply zF)|exact HB.out)⟩⟩
    ·rw [if_neg c10] at H
     have c10b0:decide (a3 < a2) = false:=decide_eq_false c10
     clear c10;(first|rw [c10b0]|(simp only [i64_w,i32_w];rw [c10b0])|skip)
     replace H:=Option.bind_eq_some_iff.mp H;obtain ⟨t275,A110,H⟩:=H;replace H:(spec_GreatestDraft.j0 k l0 a1 a2 a3 (!t275)) = some (r1,r2):=H
     have A11:=zM A110;clear A110;have H':=zM H;clear H;go_wp2_with (first|((with_reducible refine gate_callee (f:=59) rfl ?_);refine goesL_ (some 16) rfl rfl Try.func59 (by kernel_rfl) rfl #[.slice A0 l0.length c0,.int .i64 a2] rfl (by (try simp only [List.map_toArray,List.map_cons,List.map_nil]);first|done|rfl|(simp only [List.length_drop,List.length_take];rfl)) ?_;(with_reducible refine (spec_l15Holds.calls k _ _ l0 a2 true _ ?side1 ?side2 A6.out).mono ?_);(case side1=>repeat (first|exact (zO HR0.out HB.out)|(with_reducible first|refine zG ?_ _|refine zH ?_ _|refine zI ?_)));(case side2=>exact HC0.out);rintro e w' ⟨rfl,⟨nd,rfl⟩⟩;refine ⟨_,rfl,?_⟩)|(go_at_call 59;(with_reducible refine (spec_l15Holds.calls k _ _ l0 a3 true _ ?side1 ?side2 A8.out).mono ?_);(case side1=>repeat (first|exact (zO HR0.out (by repeat (first|(with_reducible first|exact HB.out|apply zD|apply zE|apply zF)|exact HB.out)))|(with_reducible first|refine zG ?_ _|refine zH ?_ _|refine zI ?_)));(case side2=>exact HC0.out);rintro e w' ⟨rfl,⟨nd,rfl⟩⟩)|(go_at_call 56;(with_reducible refine (spec_l1In.calls a1 0 3000 t275 _ A11.out).mono ?_);rintro e w' ⟨rfl,⟨nd,rfl⟩⟩))
     go_meet
     case rel=>exact ⟨_,(!t275),(by first|rfl|(simp;done)|(simp [*];done)),H',⟨by first|omega|exact Nat.le_refl _⟩,⟨by repeat (first|(with_reducible first|exact HB.out|apply zD|apply zE|apply zF)|exact HB.out)⟩⟩
   ·replace c9:=Bool.eq_false_iff.mpr c9
    subst c9;have H1:(spec_GreatestDraft.j0 k l0 a1 a2 a3 true) = some (r1,r2):=by rw [if_neg (show ¬ (false = true) by decide)] at H;exact H
    clear H;have H:=H1;clear H1;have H':=zM H;clear H;go_wp2_with (first|((with_reducible refine gate_callee (f:=59) rfl ?_);refine goesL_ (some 16) rfl rfl Try.func59 (by kernel_rfl) rfl #[.slice A0 l0.length c0,.int .i64 a2] rfl (by (try simp only [List.map_toArray,List.map_cons,List.map_nil]);first|done|rfl|(simp only [List.length_drop,List.length_take];rfl)) ?_;(with_reducible refine (spec_l15Holds.calls k _ _ l0 a2 true _ ?side1 ?side2 A6.out).mono ?_);(case side1=>repeat (first|exact (zO HR0.out HB.out)|(with_reducible first|refine zG ?_ _|refine zH ?_ _|refine zI ?_)));(case side2=>exact HC0.out);rintro e w' ⟨rfl,⟨nd,rfl⟩⟩;refine ⟨_,rfl,?_⟩)|(go_at_call 59;(with_reducible refine (spec_l15Holds.calls k _ _ l0 a3 false _ ?side1 ?side2 A8.out).mono ?_);(case side1=>repeat (first|exact (zO HR0.out (by repeat (first|(with_reducible first|exact HB.out|apply zD|apply zE|apply zF)|exact HB.out)))|(with_reducible first|refine zG ?_ _|refine zH ?_ _|refine zI ?_)));(case side2=>exact HC0.out);rintro e w' ⟨rfl,⟨nd,rfl⟩⟩))
    go_meet
    case rel=>exact ⟨_,(true),(by first|rfl|(simp;done)|(simp [*];done)),H',⟨by first|omega|exact Nat.le_refl _⟩,⟨by repeat (first|(with_reducible first|exact HB.out|apply zD|apply zE|apply zF)|exact HB.out)⟩⟩
  ·replace c7:=Bool.eq_false_iff.mpr c7
   subst c7;have H1:(spec_GreatestDraft.j0 k l0 a1 a2 a3 true) = some (r1,r2):=by rw [if_neg (show ¬ (false = true) by decide)] at H;exact H
   clear H;have H:=H1;clear H1;have H':=zM H;clear H;go_wp2_with (first|((with_reducible refine gate_callee (f:=59) rfl ?_);refine goesL_ (some 16) rfl rfl Try.func59 (by kernel_rfl) rfl #[.slice A0 l0.length c0,.int .i64 a2] rfl (by (try simp only [List.map_toArray,List.map_cons,List.map_nil]);first|done|rfl|(simp only [List.length_drop,List.length_take];rfl)) ?_;(with_reducible refine (spec_l15Holds.calls k _ _ l0 a2 false _ ?side1 ?side2 A6.out).mono ?_);(case side1=>repeat (first|exact (zO HR0.out HB.out)|(with_reducible first|refine zG ?_ _|refine zH ?_ _|refine zI ?_)));(case side2=>exact HC0.out);rintro e w' ⟨rfl,⟨nd,rfl⟩⟩;refine ⟨_,rfl,?_⟩))
   go_meet
   case rel=>exact ⟨_,(true),(by first|rfl|(simp;done)|(simp [*];done)),H',⟨by first|omega|exact Nat.le_refl _⟩,⟨by repeat (first|(with_reducible first|exact HB.out|apply zD|apply zE|apply zF)|exact HB.out)⟩⟩
 case rest =>
  clear HC5;(try clear c1);(try clear c2);(try clear p2);(try clear c5);(try clear c7);(try clear c9);(try clear c10);(try clear c10b0);obtain ⟨kq,x33_4,rfl,HA,HJ4,HB⟩:=hcut;cases kq with
  | zero=>exact absurd HA.out (by simp [spec_GreatestDraft.j0])
  | succ kj4 =>
   have H:=HA.out;clear HA;simp only [spec_GreatestDraft.j0] at H
   by_cases c12:x33_4 = true
   ·subst c12
    have H1:(some (0,false)) = some (r1,r2):=by rw [if_pos rfl] at H;exact H
    clear H;have H:=H1;clear H1;simp only [Option.some.injEq,Prod.mk.injEq] at H
    obtain ⟨rfl,rfl⟩:=H;go_wp2
    go_ret2
    exact ⟨by first|rfl|(simp [errW_none,errW_some] <;> rfl)|(simp [*,errW_none,errW_some] <;> rfl),by repeat (first|(with_reducible first|exact HB.out|apply zD|apply zE|apply zF)|exact HB.out)⟩
   ·replace c12:=Bool.eq_false_iff.mpr c12
    subst c12;have H1:(spec_GreatestDraft.l0 kj4 l0 a1 a3 (wrap64 (a1 + 2000)) a2) = some (r1,r2):=by rw [if_neg (show ¬ (false = true) by decide)] at H;exact H
    clear H;have H:=H1;clear H1;have H':=zM H;clear H;go_wp2
    go_loopg [10,11] kj4 (fun kq v10 v11 w' => ∃ (x10_2:Int) (x11_2:Int),v10 = .int .i64 x10_2 ∧ v11 = .int .i64 x11_2 ∧ Aside0 (spec_GreatestDraft.l0 kq l0 a1 a3 x10_2 x11_2 = some (r1,r2)) ∧ Aside0 (kq ≤ kj4) ∧ Aside0 (Below w.heap.size w w'))
    case atStart=>exact ⟨(wrap64 (a1 + 2000)),(a2),(by first|rfl|(simp;done)|(simp [*];done)),(by first|rfl|(simp;done)|(simp [*];done)),H',⟨Nat.le_refl _⟩,⟨by repeat (first|(with_reducible first|exact HB.out|apply zD|apply zE|apply zF)|exact HB.out)⟩⟩
    case round =>
     clear H';(try clear c1);(try clear c2);(try clear p2);(try clear c5);(try clear p6);(try clear c7);(try clear c9);(try clear c10);(try clear c10b0);(try clear c12);(try clear p2);obtain ⟨x10_2,x11_2,rfl,rfl,HA,HK2,HB⟩:=hrel;cases gk with
     | zero=>exact absurd HA.out (by simp [spec_GreatestDraft.l0])
     | succ k2 =>
      have H:=HA.out;clear HA;simp only [spec_GreatestDraft.l0] at H
      by_cases c13:x11_2 ≤ a3
      ·rw [if_pos c13] at H
       have c13b0:decide (x11_2 ≤ a3) = true:=decide_eq_true c13
       clear c13;replace H:=Option.bind_eq_some_iff.mp H;obtain ⟨⟨t276,t277⟩,A140,H⟩:=H;replace H:(if t277 = 0 then (none) else ((spec_l1Least.f x10_2 (wrap64 (a1 + (wrap64 (Int.tdiv t276 t277))))).bind fun t278=>(spec_GreatestDraft.l0 k2 l0 a1 a3 t278 (wrap64 (x11_2 + 1))))) = some (r1,r2):=H
       have A14:=zM A140;clear A140;by_cases c15:t277 = 0
       ·rw [if_pos c15] at H
        exact absurd H (by simp)
       ·rw [if_neg c15] at H
        have c15b0:(t277 == 0) = false:=beq_eq_false_iff_ne.mpr c15
        have c15b1:(t277 != 0) = true:=bne_iff_ne.mpr c15
        replace H:=Option.bind_eq_some_iff.mp H;obtain ⟨t278,A160,H⟩:=H;replace H:(spec_GreatestDraft.l0 k2 l0 a1 a3 t278 (wrap64 (x11_2 + 1))) = some (r1,r2):=H
        have A16:=zM A160;clear A160;have H':=zM H;clear H;go_wp2_with (first|((with_reducible refine gate_callee (f:=60) rfl ?_);refine goesL_ (some 45) rfl rfl Try.func60 (by kernel_rfl) rfl #[.slice A0 l0.length c0,.int .i64 x11_2] rfl (by (try simp only [List.map_toArray,List.map_cons,List.map_nil]);first|done|rfl|(simp only [List.length_drop,List.length_take];rfl)) ?_;(with_reducible refine (spec_l15Height.calls k2 _ _ l0 x11_2 t276 t277 _ ?side1 ?side2 A14.out).mono ?_);(case side1=>repeat (first|exact (zO HR0.out HB.out)|(with_reducible first|refine zG ?_ _|refine zH ?_ _|refine zI ?_)));(case side2=>exact HC0.out);rintro e w17 ⟨rfl,hb⟩;refine ⟨_,rfl,?_⟩;have n0_:=zM (zQ (by repeat (first|(with_reducible first|exact HB.out|apply zD|apply zE|apply zF)|exact HB.out)) hb);clear HB;have HB:=n0_;clear n0_;(try clear hb);(try clear hb2);(try clear hk);(try clear hi))|((with_reducible refine gate_callee (f:=61) rfl ?_);refine goesL_ (some 54) rfl rfl Try.func61 (by kernel_rfl) rfl #[.int .i64 x10_2,.int .i64 (wrap64 (a1 + (wrap64 (Int.tdiv t276 t277))))] rfl (by (try simp only [List.map_toArray,List.map_cons,List.map_nil]);first|done|rfl|(simp only [List.length_drop,List.length_take];rfl)) ?_;(with_reducible refine (spec_l1Least.calls x10_2 (wrap64 (a1 + (wrap64 (Int.tdiv t276 t277)))) t278 _ A16.out).mono ?_);rintro e w' ⟨rfl,⟨nd,rfl⟩⟩;refine ⟨_,rfl,?_⟩))
        go_roundg k2
        case measure=>have:=HJ4.out;have:=HK2.out;omega
        case rel=>exact ⟨(t278),(wrap64 (x11_2 + 1)),(by first|rfl|(simp;done)|(simp [*];done)),(by first|rfl|(simp;done)|(simp [*];done)),H',⟨by have:=HJ4.out;have:=HK2.out;omega⟩,⟨by repeat (first|(with_reducible first|exact HB.out|apply zD|apply zE|apply zF)|exact HB.out)⟩⟩
      ·rw [if_neg c13] at H
       have c13b0:decide (x11_2 ≤ a3) = false:=decide_eq_false c13
       clear c13;simp only [Option.some.injEq,Prod.mk.injEq] at H
       obtain ⟨rfl,rfl⟩:=H;go_wp2
       go_ret2
       exact ⟨by first|rfl|(simp [errW_none,errW_some] <;> rfl)|(simp [*,errW_none,errW_some] <;> rfl),by repeat (first|(with_reducible first|exact HB.out|apply zD|apply zE|apply zF)|exact HB.out)⟩



/-! ### spec_IsValidTides: function 15 -/
def spec_IsValidTides.f (k:Nat) (l0:List (S60)):Option (Bool):=(spec_l15Good.f k l0).bind fun t114=>(some t114)
set_option maxHeartbeats 8000000 in
set_option maxRecDepth 100000 in
theorem spec_IsValidTides.calls (k:Nat) (A0:Option Addr) (c0:Nat) (l0:List (S60)) (r:Bool) (w:World) (hr0:Kd.C k60 w A0 l0.length l0) (hc0:l0.length ≤ c0) (h:spec_IsValidTides.f k l0 = some r) :
  Calls Try.prog 15 #[.slice A0 l0.length c0] w fun e w'=>e = .returned (.bool r) ∧ Drawn0 w w':=by
 have HR0:=zM hr0;have HC0:=zM hc0;clear hr0 hc0;have H:((spec_l15Good.f k l0).bind fun t114=>(some t114)) = some r:=h
 clear h;replace H:=Option.bind_eq_some_iff.mp H;obtain ⟨t114,A20,H⟩:=H;replace H:(some t114) = some r:=H
 have A2:=zM A20;clear A20;obtain rfl:=Option.some.inj H;go_enter Try.func15,Try.ntmps15
 go_wp2_with (first|((with_reducible refine gate_callee (f:=52) rfl ?_);refine goesL_ (some 4) rfl rfl Try.func52 (by kernel_rfl) rfl #[.slice A0 l0.length c0] rfl (by (try simp only [List.map_toArray,List.map_cons,List.map_nil]);first|done|rfl|(simp only [List.length_drop,List.length_take];rfl)) ?_;(with_reducible refine (spec_l15Good.calls k _ _ l0 t114 _ ?side1 ?side2 A2.out).mono ?_);(case side1=>repeat (first|exact HR0.out|(with_reducible first|refine zG ?_ _|refine zH ?_ _|refine zI ?_)));(case side2=>exact HC0.out);rintro e w' ⟨rfl,⟨nd,rfl⟩⟩;refine ⟨_,rfl,?_⟩))
 go_ret
 exact ⟨by first|rfl|(simp;done)|(simp [*];done),by repeat (first|exact Drawn0.refl _|apply Drawn0.step)⟩

/-! ### laws_toTide: function 53 -/
def laws_toTide.f (a0_0:Int) (a0_1:Int):Option (Int × Int):=some (a0_0,a0_1)
set_option maxHeartbeats 8000000 in
set_option maxRecDepth 100000 in
theorem laws_toTide.calls (a0_0:Int) (a0_1:Int) (r1:Int) (r2:Int) (w:World) (h:laws_toTide.f a0_0 a0_1 = some (r1,r2)) :
  Calls Try.prog 53 #[.agg #[.int .i64 a0_0,.int .i64 a0_1]] w fun e w'=>e = .returned (.agg #[.int .i64 r1,.int .i64 r2]) ∧ Below w.heap.size w w':=by
 have hu72:=Try.underlying72;have hu60:=Try.underlying60;have HB:=zM (Below.refl w.heap.size w);have H:(some (a0_0,a0_1)) = some (r1,r2):=h
 clear h;simp only [Option.some.injEq,Prod.mk.injEq] at H
 obtain ⟨rfl,rfl⟩:=H;go_enter Try.func53,Try.ntmps53
 go_wp2_with (first|((with_reducible refine gate_dst (N:=1) rfl ?_);refine box_event ?hg (N:=1) ?hd (cs := #[.int .i64 a0_0,.int .i64 a0_1]) (t:=72) ?hr ?_;(case hd=>rfl);(case hg=>rfl);(case hr=>first|(go_simp;done)|(go_simp;rfl));intro gb115 hg w2 hbox hb;have n0_:=zM (zQ (by repeat (first|(with_reducible first|exact HB.out|apply zD|apply zE|apply zF)|exact HB.out)) hb);have n1_:=zM (hbox);have n2_:=zM ((by rw [hg];exact (zR (by repeat (first|(with_reducible first|exact HB.out|apply zD|apply zE|apply zF)|exact HB.out))):w.heap.size ≤ gb115));have n3_:=zM ((by rw [hg];exact (zR (by repeat (first|(with_reducible first|exact HB.out|apply zD|apply zE|apply zF)|exact HB.out))):w.heap.size ≤ gb115));clear HB;have HB:=n0_;have BK115:=n1_;have GW115:=n2_;have GE115:=n3_;clear n0_ n1_ n2_ n3_;clear hb hbox hg)|((with_reducible refine gate_dst (N:=2) rfl ?_);refine box_event ?hg (N:=2) ?hd (cs := #[.int .i64 0,.int .i64 0]) (t:=60) ?hr ?_;(case hd=>rfl);(case hg=>rfl);(case hr=>first|(go_simp;done)|(go_simp;rfl));intro gb116 hg w3 hbox hb;have n0_:=zM (blk_below (g:=gb115) (o := .cells #[.int .i64 a0_0,.int .i64 a0_1] 72 (0,0)) (by (with_reducible repeat (first|refine zJ ?_ _|refine zK ?_|refine zL ?_ _));exact BK115.out) hb);have n1_:=zM (zQ (by repeat (first|(with_reducible first|exact HB.out|apply zD|apply zE|apply zF|refine below_set ?_ GE115.out)|exact HB.out)) hb);have n2_:=zM (hbox);have n3_:=zM ((by rw [hg];exact (zR (by repeat (first|(with_reducible first|exact HB.out|apply zD|apply zE|apply zF|refine below_set ?_ GE115.out)|exact HB.out))):w.heap.size ≤ gb116));have n4_:=zM ((by rw [hg];exact (zR (by repeat (first|(with_reducible first|exact HB.out|apply zD|apply zE|apply zF|refine below_set ?_ GE115.out)|exact HB.out))):w.heap.size ≤ gb116));have n5_:=zM ((by rw [hg];exact Nat.ne_of_lt (blk_lt (g:=gb115) (o := .cells #[.int .i64 a0_0,.int .i64 a0_1] 72 (0,0)) (by (with_reducible repeat (first|refine zJ ?_ _|refine zK ?_|refine zL ?_ _));exact BK115.out)):gb115 ≠ gb116));have n6_:=zM ((by rw [hg];exact Nat.ne_of_gt (blk_lt (g:=gb115) (o := .cells #[.int .i64 a0_0,.int .i64 a0_1] 72 (0,0)) (by (with_reducible repeat (first|refine zJ ?_ _|refine zK ?_|refine zL ?_ _));exact BK115.out)):gb116 ≠ gb115));clear BK115;clear HB;have BK115:=n0_;have HB:=n1_;have BK116:=n2_;have GW116:=n3_;have GE116:=n4_;have NB115_116:=n5_;have NB116_115:=n6_;clear n0_ n1_ n2_ n3_ n4_ n5_ n6_;clear hb hbox hg)|((with_reducible refine gate_dst (N:=3) rfl ?_);refine box_event ?hg (N:=3) ?hd (cs := #[.int .i64 0,.int .i64 0]) (t:=60) ?hr ?_;(case hd=>rfl);(case hg=>rfl);(case hr=>first|(go_simp;done)|(go_simp;rfl));intro gb117 hg w4 hbox hb;have n0_:=zM (blk_below (g:=gb115) (o := .cells #[.int .i64 a0_0,.int .i64 a0_1] 72 (0,0)) (by (with_reducible repeat (first|refine zJ ?_ _|refine zK ?_|refine zL ?_ _));exact BK115.out) hb);have n1_:=zM (blk_below (g:=gb116) (o := .cells #[.int .i64 0,.int .i64 0] 60 (0,0)) (by (with_reducible repeat (first|refine zJ ?_ _|refine zK ?_|refine zL ?_ _));exact BK116.out) hb);have n2_:=zM (zQ (by repeat (first|(with_reducible first|exact HB.out|apply zD|apply zE|apply zF|refine below_set ?_ GE115.out|refine below_set ?_ GE116.out)|exact HB.out)) hb);have n3_:=zM (hbox);have n4_:=zM ((by rw [hg];exact (zR (by repeat (first|(with_reducible first|exact HB.out|apply zD|apply zE|apply zF|refine below_set ?_ GE115.out|refine below_set ?_ GE116.out)|exact HB.out))):w.heap.size ≤ gb117));have n5_:=zM ((by rw [hg];exact (zR (by repeat (first|(with_reducible first|exact HB.out|apply zD|apply zE|apply zF|refine below_set ?_ GE115.out|refine below_set ?_ GE116.out)|exact HB.out))):w.heap.size ≤ gb117));have n6_:=zM ((by rw [hg];exact Nat.ne_of_lt (blk_lt (g:=gb115) (o := .cells #[.int .i64 a0_0,.int .i64 a0_1] 72 (0,0)) (by (with_reducible repeat (first|refine zJ ?_ _|refine zK ?_|refine zL ?_ _));exact BK115.out)):gb115 ≠ gb117));have n7_:=zM ((by rw [hg];exact Nat.ne_of_gt (blk_lt (g:=gb115) (o := .cells #[.int .i64 a0_0,.int .i64 a0_1] 72 (0,0)) (by (with_reducible repeat (first|refine zJ ?_ _|refine zK ?_|refine zL ?_ _));exact BK115.out)):gb117 ≠ gb115));have n8_:=zM ((by rw [hg];exact Nat.ne_of_lt (blk_lt (g:=gb116) (o := .cells #[.int .i64 0,.int .i64 0] 60 (0,0)) (by (with_reducible repeat (first|refine zJ ?_ _|refine zK ?_|refine zL ?_ _));exact BK116.out)):gb116 ≠ gb117));have n9_:=zM ((by rw [hg];exact Nat.ne_of_gt (blk_lt (g:=gb116) (o := .cells #[.int .i64 0,.int .i64 0] 60 (0,0)) (by (with_reducible repeat (first|refine zJ ?_ _|refine zK ?_|refine zL ?_ _));exact BK116.out)):gb117 ≠ gb116));clear BK115;clear BK116;clear HB;have BK115:=n0_;have BK116:=n1_;have HB:=n2_;have BK117:=n3_;have GW117:=n4_;have GE117:=n5_;have NB115_117:=n6_;have NB117_115:=n7_;have NB116_117:=n8_;have NB117_116:=n9_;clear n0_ n1_ n2_ n3_ n4_ n5_ n6_ n7_ n8_ n9_;clear hb hbox hg;have hnb5:=NB115_116.out;have hnc5:=NB116_115.out;have hnb6:=NB115_117.out;have hnc6:=NB117_115.out;have hcz7_0:w4.cell? ⟨gb115,0,none⟩ = some (.int .i64 a0_0):=(blk_cell BK115.out 0).trans rfl;have hcz7_1:w4.cell? ⟨gb115,1,none⟩ = some (.int .i64 a0_1):=(blk_cell BK115.out 1).trans rfl;have hfz7_0:=blk_frozen BK115.out 0;have hfz7_1:=blk_frozen BK115.out 1;have hnb8:=NB117_116.out;have hnc8:=NB116_117.out;have hcz9_0:w4.cell? ⟨gb117,0,none⟩ = some (.int .i64 0):=(blk_cell BK117.out 0).trans rfl;have hcz9_1:w4.cell? ⟨gb117,1,none⟩ = some (.int .i64 0):=(blk_cell BK117.out 1).trans rfl;have hfz9_0:=blk_frozen BK117.out 0;have hfz9_1:=blk_frozen BK117.out 1;have hcz10_0:w4.cell? ⟨gb116,0,none⟩ = some (.int .i64 0):=(blk_cell BK116.out 0).trans rfl;have hcz10_1:w4.cell? ⟨gb116,1,none⟩ = some (.int .i64 0):=(blk_cell BK116.out 1).trans rfl;have hfz10_0:=blk_frozen BK116.out 0;have hfz10_1:=blk_frozen BK116.out 1))
 refine bodyPost_ret (results_cell_row rfl _ _ gb116 60 #[.int .i64 a0_0,.int .i64 a0_1] (0,0) _ rfl (by (with_reducible repeat (first|refine zJ ?_ _|refine zK ?_|refine zL ?_ _));refine blk_put (cs := #[.int .i64 a0_0,.int .i64 0]) ?_ 1 _ rfl;(with_reducible repeat (first|refine zJ ?_ _|refine zK ?_|refine zL ?_ _));refine blk_put (cs := #[.int .i64 0,.int .i64 0]) ?_ 0 _ rfl;(with_reducible repeat (first|refine zJ ?_ _|refine zK ?_|refine zL ?_ _));refine blk_far ?_ NB116_117.out _;(with_reducible repeat (first|refine zJ ?_ _|refine zK ?_|refine zL ?_ _));refine blk_far ?_ NB116_117.out _;(with_reducible repeat (first|refine zJ ?_ _|refine zK ?_|refine zL ?_ _));exact BK116.out) Try.underlying60 rfl (by kernel_rfl)) rfl ?_
 exact ⟨by first|rfl|(simp [errW_none,errW_some] <;> rfl)|(simp [*,errW_none,errW_some] <;> rfl),by repeat (first|(with_reducible first|exact HB.out|apply zD|apply zE|apply zF|refine below_set ?_ GE115.out|refine below_set ?_ GE116.out|refine below_set ?_ GE117.out)|exact HB.out)⟩

/-! ### laws_toTideS: function 16 -/
def laws_toTideS.l0:Nat → List (S72) → List (S60) → Int → Option ((List (S60)))
 | 0,_,_,_=>none
 | k + 1,x0,x3,x4=>if x4 < (x0.length:Int) then (if 0 ≤ x4 then ((laws_toTide.f ((rd_T72 x0 x4).f0) ((rd_T72 x0 x4).f1)).bind fun bt122=>(if x4 < (x3.length:Int) then (laws_toTideS.l0 k x0 (x3.set (x4:Int).toNat (⟨bt122.1,bt122.2⟩ : S60)) (wrap64 (x4 + 1))) else (none))) else (none)) else (some x3)
def laws_toTideS.f (k:Nat) (l0:List (S72)):Option ((List (S60))):=if 0 ≤ (l0.length:Int) then (if ((l0.length:Int):Int).toNat ≤ 17592186044416 then (laws_toTideS.l0 k l0 (List.replicate ((l0.length:Int):Int).toNat z60) 0) else (none)) else (none)
set_option maxHeartbeats 8000000 in
set_option maxRecDepth 100000 in
theorem laws_toTideS.calls (k:Nat) (A0:Option Addr) (c0:Nat) (l0:List (S72)) (r:List (S60)) (w:World) (hr0:Kd.C k72 w A0 l0.length l0) (hc0:l0.length ≤ c0) (h:laws_toTideS.f k l0 = some r) :
  Calls Try.prog 16 #[.slice A0 l0.length c0] w fun e w' => ∃ v0_:Value,e = .returned (v0_) ∧ Kd.R k60 60 w' w.heap.size (fun _=>True) v0_ r ∧ Below w.heap.size w w':=by
 have hu72:=Try.underlying72;have hu60:=Try.underlying60;have HR0:=zM hr0;have HC0:=zM hc0;clear hr0 hc0;have HB:=zM (Below.refl w.heap.size w);have H:(if 0 ≤ (l0.length:Int) then (if ((l0.length:Int):Int).toNat ≤ 17592186044416 then (laws_toTideS.l0 k l0 (List.replicate ((l0.length:Int):Int).toNat z60) 0) else (none)) else (none)) = some r:=h
 clear h;by_cases c2:0 ≤ (l0.length:Int)
 ·rw [if_pos c2] at H
  have c2b0:=eq_true c2;have c2b1:decide (0 ≤ (l0.length:Int)) = true:=decide_eq_true c2
  clear c2;by_cases c3:((l0.length:Int):Int).toNat ≤ 17592186044416
  ·rw [if_pos c3] at H
   have c3b0:=eq_true c3;have c3b1:decide (((l0.length:Int):Int).toNat ≤ 17592186044416) = true:=decide_eq_true c3
   clear c3;obtain ⟨y118,hy118⟩ : ∃ y_:List (S60),y_ = (List.replicate ((l0.length:Int):Int).toNat z60):=⟨_,rfl⟩
   replace H:(laws_toTideS.l0 k l0 y118 0) = some r:=by first|(rw [hy118];with_reducible exact H)|(have H2_:=(Option.bind_some _ _).symm.trans H;rw [hy118];with_reducible exact H2_)|(have H2_:=(Option.bind_some _ _).symm.trans H;with_reducible exact H2_)|with_reducible exact H|(rw [hy118];exact H)|exact H
   have Ny118:=zM hy118;clear hy118;have H':=zM H;clear H;go_enter Try.func16,Try.ntmps16
   go_wp2_with (first|((with_reducible refine gate_dst (N:=7) rfl ?_);refine Kd.R_make k60 _ 60 rfl (N:=7) rfl 25 _ _ rfl (l0.length:Int) rfl rfl Try.underlying25 (.agg #[(.int .i64 0),(.int .i64 0)]) 16 info60 rfl (by decide) (by omega) z60 (ok:=fun _=>True) (okp:=fun _=>True) (k60_mkM _ _ _ z60 ) (fun _ hk=>hk) trivial (of_decide_eq_true (by first|(with_reducible assumption)|assumption)) (Nat.le_trans (Nat.mul_le_mul_right _ (of_decide_eq_true (by first|(with_reducible assumption)|assumption):(l0.length:Int).toNat ≤ 17592186044416)) (by omega)) (Below.refl _ _) (Nat.le_refl _) ?_;intro v119 w4 ho5 hb hg_ hnew_;clear hg_ hnew_;(first|rw [← Ny118.out] at ho5|(simp only [Int.reduceToNat] at ho5;rw [← Ny118.out] at ho5));have n0_:=zM (Kd.R_lower ho5 (zR (by repeat (first|(with_reducible first|exact HB.out|apply zD|apply zE|apply zF)|exact HB.out))));have n1_:=zM (zQ (by repeat (first|(with_reducible first|exact HB.out|apply zD|apply zE|apply zF)|exact HB.out)) hb);clear HB;have HO120:=n0_;have HB:=n1_;clear n0_ n1_;clear hb ho5))
   go_loopg [4] k (fun kq v4 w' => ∃ (x3_1:List (S60)) (x4_1:Int),v4 = .int .i64 x4_1 ∧ Aside0 (laws_toTideS.l0 kq l0 x3_1 x4_1 = some r) ∧ Aside0 (kq ≤ k) ∧ Aside0 (Kd.R k60 60 w' w.heap.size (fun _=>True) v119 x3_1) ∧ Aside0 (Below w.heap.size w w'))
   case atStart=>exact ⟨(y118),(0),(by first|rfl|(simp;done)|(simp [*];done)),H',⟨Nat.le_refl _⟩,⟨by (with_reducible repeat (first|apply zA|apply zB|apply zC));exact HO120.out⟩,⟨by repeat (first|(with_reducible first|exact HB.out|apply zD|apply zE|apply zF)|exact HB.out)⟩⟩
   case round =>
    clear H';(try clear c1);(try clear c2);(try clear c2b0);(try clear c2b1);(try clear p2);(try clear c3);(try clear c3b0);(try clear c3b1);obtain ⟨x3_1,x4_1,rfl,HA,HK1,HO_3,HB⟩:=hrel;cases gk with
    | zero=>exact absurd HA.out (by simp [laws_toTideS.l0])
    | succ k1 =>
     have H:=HA.out;clear HA;simp only [laws_toTideS.l0] at H
     by_cases c6:x4_1 < (l0.length:Int)
     ·rw [if_pos c6] at H
      have c6b0:decide (x4_1 < (l0.length:Int)) = true:=decide_eq_true c6
      clear c6;by_cases c7:0 ≤ x4_1
      ·rw [if_pos c7] at H
       have c7b0:decide (0 ≤ x4_1) = true:=decide_eq_true c7
       clear c7;replace H:=Option.bind_eq_some_iff.mp H;obtain ⟨⟨t122,t123⟩,A80,H⟩:=H;replace H:(if x4_1 < (x3_1.length:Int) then (laws_toTideS.l0 k1 l0 (x3_1.set (x4_1:Int).toNat (⟨t122,t123⟩ : S60)) (wrap64 (x4_1 + 1))) else (none)) = some r:=H
       have A8:=zM A80;clear A80;by_cases c9:x4_1 < (x3_1.length:Int)
       ·rw [if_pos c9] at H
        have c9b0:decide (x4_1 < (x3_1.length:Int)) = true:=decide_eq_true c9
        clear c9;obtain ⟨y124,hy124⟩ : ∃ y_:List (S60),y_ = (x3_1.set (x4_1:Int).toNat (⟨t122,t123⟩ : S60)):=⟨_,rfl⟩
        replace H:(laws_toTideS.l0 k1 l0 y124 (wrap64 (x4_1 + 1))) = some r:=by first|(rw [hy124];with_reducible exact H)|(have H2_:=(Option.bind_some _ _).symm.trans H;rw [hy124];with_reducible exact H2_)|(have H2_:=(Option.bind_some _ _).symm.trans H;with_reducible exact H2_)|with_reducible exact H|(rw [hy124];exact H)|exact H
        have Ny124:=zM hy124;clear hy124;have H':=zM H;clear H;have p121:0 ≤ (x4_1:Int):=of_decide_eq_true (by first|(with_reducible assumption)|assumption)
        have q121:x4_1 < (l0.length:Int):=of_decide_eq_true (by first|(with_reducible assumption)|assumption)
        obtain ⟨ad121,e121,hx121_0,hx121_1⟩:=at_T72 HR0.out x4_1 p121 q121;cases e121
        replace hx121_0:=zS HB.out hx121_0;replace hx121_1:=zS HB.out hx121_1;replace p121:=eq_true p121;replace q121:=eq_true q121;go_wp2_with (first|((with_reducible refine gate_callee (f:=53) rfl ?_);refine goesL_ (some 20) rfl rfl Try.func53 (by kernel_rfl) rfl #[.agg #[.int .i64 ((rd_T72 l0 x4_1).f0),.int .i64 ((rd_T72 l0 x4_1).f1)]] rfl (by (try simp only [List.map_toArray,List.map_cons,List.map_nil]);first|done|rfl|(simp only [List.length_drop,List.length_take];rfl)) ?_;(with_reducible refine (laws_toTide.calls ((rd_T72 l0 x4_1).f0) ((rd_T72 l0 x4_1).f1) t122 t123 _ A8.out).mono ?_);rintro e w11 ⟨rfl,hb⟩;refine ⟨_,rfl,?_⟩;have n0_:=zM (zP (by (with_reducible repeat (first|apply zA|apply zB|apply zC));exact HO_3.out) hb);have n1_:=zM (zQ (by repeat (first|(with_reducible first|exact HB.out|apply zD|apply zE|apply zF)|exact HB.out)) hb);clear HO_3;clear HB;have HO_3:=n0_;have HB:=n1_;clear n0_ n1_;(try clear hb);(try clear hb2);(try clear hk);(try clear hi);have p10:0 ≤ (x4_1:Int):=of_decide_eq_true (by first|(with_reducible assumption)|assumption);have q10:(x4_1:Int) < ((x3_1.length:Int):Int):=of_decide_eq_true (by first|(with_reducible assumption)|assumption);obtain ⟨go10,co10,eo10,gb10,gl10,cl10,HG10⟩:=Kd.R_form HO_3.out (by omega);(first|cases eo10|(injection eo10 with ea_ en_ ec_;(first|subst ea_|(injection ea_ with ea_;subst ea_));subst ec_;clear en_));have GB10:=zM gb10;have GG10:=zM HG10;clear gb10 gl10 HG10;obtain ⟨ce10,hcl10,hM10,hcc10,hfr10⟩:=Kd.R_elem HO_3.out z60 (x4_1:Int) p10 q10;obtain rfl:=k60_openM hM10;have hx10_0:w11.cell? ⟨go10,(x4_1:Int).toNat * 2,none⟩ = some (.int .i64 ((rd_T60 x3_1 x4_1).f0)):=hcc10 0 _ rfl;have hx10_1:w11.cell? ⟨go10,(x4_1:Int).toNat * 2 + 1,none⟩ = some (.int .i64 ((rd_T60 x3_1 x4_1).f1)):=hcc10 1 _ rfl;have hf10_0:w11.frozen? ⟨go10,(x4_1:Int).toNat * 2,none⟩ = false:=hfr10 0;have hf10_1:w11.frozen? ⟨go10,(x4_1:Int).toNat * 2 + 1,none⟩ = false:=hfr10 1;clear hcl10 hcc10 hfr10;(try clear hM10);replace p10:=eq_true p10;replace q10:=eq_true q10;have HX12:=zM (show Kd.R k60 60 w11 w.heap.size (fun _=>True) (.slice (some ⟨go10,0,none⟩) x3_1.length co10) x3_1 from (by (with_reducible repeat (first|apply zA|apply zB|apply zC));exact HO_3.out));obtain ⟨ce12,hcl12,hM12,hcc12,hfr12⟩:=Kd.R_elem HX12.out z60 (x4_1:Int) (of_decide_eq_true (by first|(with_reducible assumption)|assumption)) (by have h_:(x4_1:Int) < ((x3_1.length:Int):Int):=of_decide_eq_true (by first|(with_reducible assumption)|assumption);first|exact h_|(have e_:=(zN HO_3.out).1;omega)|simpa using h_);obtain rfl:=k60_openM hM12;have HP12:=Kd.R_seg HX12.out (x4_1:Int) (of_decide_eq_true (by first|(with_reducible assumption)|assumption)) (by have h_:(x4_1:Int) < ((x3_1.length:Int):Int):=of_decide_eq_true (by first|(with_reducible assumption)|assumption);first|exact h_|(have e_:=(zN HO_3.out).1;omega)|simpa using h_) (seg:=[.int .i64 t122,.int .i64 t123]) (j:=0) hcl12 hcc12 (show 2 ≤ 2 from by decide) (x':=(⟨t122,t123⟩ : S60)) (k60_mkM _ _ _ (⟨t122,t123⟩ : S60) ) (fun _ hk=>hk);have hx12_0:=hcc12 0 _ rfl;(try simp only [show (k60).sz = 2 from rfl,Nat.mul_one,Nat.add_zero] at hx12_0);have hf12_0:=hfr12 0;(try simp only [show (k60).sz = 2 from rfl,Nat.mul_one,Nat.add_zero] at hf12_0);have hx12_1:=hcc12 1 _ rfl;(try simp only [show (k60).sz = 2 from rfl,Nat.mul_one,Nat.add_zero] at hx12_1);have hf12_1:=hfr12 1;(try simp only [show (k60).sz = 2 from rfl,Nat.mul_one,Nat.add_zero] at hf12_1);clear hcl12 hcc12 hfr12;(try clear hM12))|((with_reducible refine gate_store (t:=60) (p:=21) rfl ?_);refine store_event (t:=60) (p:=21) (v:=?vo_w13) (w1:=((w11.setCell ⟨go10,(x4_1:Int).toNat * 2,none⟩ (.int .i64 t122)).setCell ⟨go10,(x4_1:Int).toNat * 2 + 1,none⟩ (.int .i64 t123))) ?hg ?ho ?hn ?hr ?_;(case ho=>rfl);(case hg=>rfl);(case hn=>rfl);(case hr=>first|(go_simp;done)|(go_simp;rfl));intro w13 hw;have hg:w11.grownBy w13 (some go10):=(by rw [hw];exact HP12.2);have hp_:Kd.R k60 60 w13 w.heap.size (fun _=>True) (.slice (some ⟨go10,0,none⟩) x3_1.length co10) y124:=(by rw [hw,Ny124.out];exact HP12.1);clear HP12;have n0_:=zM (hp_);have n1_:=zM ((by rw [hw];exact below_set (below_set (HB.out) GB10.out) GB10.out:Below w.heap.size w w13));clear HO_3;clear HB;have HO_3:=n0_;have HB:=n1_;clear n0_ n1_;clear hg hw hp_))
        go_roundg k1
        case measure=>have:=HK1.out;omega
        case rel=>exact ⟨(y124),(wrap64 (x4_1 + 1)),(by first|rfl|(simp;done)|(simp [*];done)),H',⟨by have:=HK1.out;omega⟩,⟨by (with_reducible repeat (first|apply zA|apply zB|apply zC));exact HO_3.out⟩,⟨by repeat (first|(with_reducible first|exact HB.out|apply zD|apply zE|apply zF)|exact HB.out)⟩⟩
       ·rw [if_neg c9] at H
        exact absurd H (by simp)
      ·rw [if_neg c7] at H
       exact absurd H (by simp)
     ·rw [if_neg c6] at H
      have c6b0:decide (x4_1 < (l0.length:Int)) = false:=decide_eq_false c6
      clear c6;obtain rfl:=Option.some.inj H;go_wp2
      go_ret
      exact ⟨_,by first|rfl|(simp [errW_none,errW_some] <;> rfl)|(simp [*,errW_none,errW_some] <;> rfl),by (with_reducible repeat (first|apply zA|apply zB|apply zC));exact HO_3.out,by repeat (first|(with_reducible first|exact HB.out|apply zD|apply zE|apply zF)|exact HB.out)⟩
  ·rw [if_neg c3] at H
   exact absurd H (by simp)
 ·rw [if_neg c2] at H
  exact absurd H (by simp)

/-! ### impl_within: function 54 -/
def impl_within.f (a0:Int) (a1:Int) (a2:Int):Option (Bool):=if a0 ≥ a1 then (some (decide (a0 ≤ a2))) else (some false)
set_option maxHeartbeats 8000000 in
set_option maxRecDepth 100000 in
theorem impl_within.calls (a0:Int) (a1:Int) (a2:Int) (r:Bool) (w:World) (h:impl_within.f a0 a1 a2 = some r) :
  Calls Try.prog 54 #[.int .i64 a0,.int .i64 a1,.int .i64 a2] w fun e w'=>e = .returned (.bool r) ∧ Drawn0 w w':=by
 have H:(if a0 ≥ a1 then (some (decide (a0 ≤ a2))) else (some false)) = some r:=h
 clear h;by_cases c4:a0 ≥ a1
 ·rw [if_pos c4] at H
  have c4b0:decide (a1 ≤ a0) = true:=decide_eq_true c4
  clear c4;obtain rfl:=Option.some.inj H;go_enter Try.func54,Try.ntmps54
  go_wp2
  go_ret
  exact ⟨by first|rfl|(simp;done)|(simp [*];done),by repeat (first|exact Drawn0.refl _|apply Drawn0.step)⟩
 ·rw [if_neg c4] at H
  have c4b0:decide (a1 ≤ a0) = false:=decide_eq_false c4
  clear c4;obtain rfl:=Option.some.inj H;go_enter Try.func54,Try.ntmps54
  go_wp2
  go_ret
  exact ⟨by first|rfl|(simp;done)|(simp [*];done),by repeat (first|exact Drawn0.refl _|apply Drawn0.step)⟩



/-! ### impl_IsValidTides: function 17 -/
mutual
def impl_IsValidTides.l0:Nat → List (S60) → List (S60) → Int → Int → Option (Bool)
 | 0,_,_,_,_=>none
 | k + 1,x0,x9,x10,x11=>if x11 < x10 then (if 0 ≤ x11 then (if x11 < (x9.length:Int) then ((impl_within.f ((rd_T60 x9 x11).f0) 0 240).bind fun t128=>(if t128 = true then ((impl_within.f ((rd_T60 x9 x11).f1) 0 2000).bind fun t129=>(impl_IsValidTides.j1 k x0 x11 x9 x10 x11 (!t129) ((rd_T60 x9 x11).f0) ((rd_T60 x9 x11).f1))) else (impl_IsValidTides.j1 k x0 x11 x9 x10 x11 true ((rd_T60 x9 x11).f0) ((rd_T60 x9 x11).f1)))) else (none)) else (none)) else (some true)
def impl_IsValidTides.j1:Nat → List (S60) → Int → List (S60) → Int → Int → Bool → Int → Int → Option (Bool)
 | 0,_,_,_,_,_,_,_,_=>none
 | k + 1,x0,x3,x9,x10,x11,x25,x128000,x128001=>if x25 = true then (some false) else (if x3 > 0 then (if 0 ≤ (wrap64 (x3 - 1)) then (if (wrap64 (x3 - 1)) < (x0.length:Int) then (if x128000 ≤ ((rd_T60 x0 (wrap64 (x3 - 1))).f0) then (impl_IsValidTides.j2 k x0 x3 x9 x10 x11 true x128000 x128001) else (impl_IsValidTides.j2 k x0 x3 x9 x10 x11 (x128001 == ((rd_T60 x0 (wrap64 (x3 - 1))).f1)) x128000 x128001)) else (none)) else (none)) else (impl_IsValidTides.j2 k x0 x3 x9 x10 x11 false x128000 x128001))
def impl_IsValidTides.j2:Nat → List (S60) → Int → List (S60) → Int → Int → Bool → Int → Int → Option (Bool)
 | 0,_,_,_,_,_,_,_,_=>none
 | k + 1,x0,x3,x9,x10,x11,x49,x128000,x128001=>if x49 = true then (some false) else (if x3 > 1 then (if 0 ≤ (wrap64 (x3 - 1)) then (if (wrap64 (x3 - 1)) < (x0.length:Int) then (if 0 ≤ (wrap64 (x3 - 2)) then (if (wrap64 (x3 - 2)) < (x0.length:Int) then (if ((decide (x128001 > ((rd_T60 x0 (wrap64 (x3 - 1))).f1))) == (decide (((rd_T60 x0 (wrap64 (x3 - 1))).f1) > ((rd_T60 x0 (wrap64 (x3 - 2))).f1)))) = true then (some false) else (impl_IsValidTides.l0 k x0 x9 x10 (wrap64 (x11 + 1)))) else (none)) else (none)) else (none)) else (none)) else (impl_IsValidTides.l0 k x0 x9 x10 (wrap64 (x11 + 1))))
end
def impl_IsValidTides.f (k:Nat) (l0:List (S60)):Option (Bool):=(impl_within.f (l0.length:Int) 2 20).bind fun t125=>(if t125 = true then (impl_IsValidTides.l0 k l0 l0 (l0.length:Int) 0) else (some false))
set_option maxHeartbeats 8000000 in
set_option maxRecDepth 100000 in
theorem impl_IsValidTides.calls (k:Nat) (A0:Option Addr) (c0:Nat) (l0:List (S60)) (r:Bool) (w:World) (hr0:Kd.C k60 w A0 l0.length l0) (hc0:l0.length ≤ c0) (h:impl_IsValidTides.f k l0 = some r) :
  Calls Try.prog 17 #[.slice A0 l0.length c0] w fun e w'=>e = .returned (.bool r) ∧ Below w.heap.size w w':=by
 have hu60:=Try.underlying60;have HR0:=zM hr0;have HC0:=zM hc0;clear hr0 hc0;have HB:=zM (Below.refl w.heap.size w);have H:((impl_within.f (l0.length:Int) 2 20).bind fun t125=>(if t125 = true then (impl_IsValidTides.l0 k l0 l0 (l0.length:Int) 0) else (some false))) = some r:=h
 clear h;replace H:=Option.bind_eq_some_iff.mp H;obtain ⟨t125,A20,H⟩:=H;replace H:(if t125 = true then (impl_IsValidTides.l0 k l0 l0 (l0.length:Int) 0) else (some false)) = some r:=H
 have A2:=zM A20;clear A20;by_cases c3:t125 = true
 ·subst c3
  have H1:(impl_IsValidTides.l0 k l0 l0 (l0.length:Int) 0) = some r:=by rw [if_pos rfl] at H;exact H
  clear H;have H:=H1;clear H1;have H':=zM H;clear H;go_enter Try.func17,Try.ntmps17
  go_wp2_with (first|(go_at_call 54;(with_reducible refine (impl_within.calls (l0.length:Int) 2 20 true _ A2.out).mono ?_);rintro e w' ⟨rfl,⟨nd,rfl⟩⟩;(try first|exact ⟨rfl,_,World.drewN_drewN _ _ _⟩|exact ⟨rfl,_,zW _ _ _ _⟩)))
  repeat (go_quiet (first|(go_at_call 54;(with_reducible refine (impl_within.calls (l0.length:Int) 2 20 true _ A2.out).mono ?_);rintro e w' ⟨rfl,⟨nd,rfl⟩⟩;(try first|exact ⟨rfl,_,World.drewN_drewN _ _ _⟩|exact ⟨rfl,_,zW _ _ _ _⟩)));try go_wp2_with (first|(go_at_call 54;(with_reducible refine (impl_within.calls (l0.length:Int) 2 20 true _ A2.out).mono ?_);rintro e w' ⟨rfl,⟨nd,rfl⟩⟩;(try first|exact ⟨rfl,_,World.drewN_drewN _ _ _⟩|exact ⟨rfl,_,zW _ _ _ _⟩))))
  go_loopg [11] k (fun kq v11 w' => ∃ (x11_1:Int),v11 = .int .i64 x11_1 ∧ Aside0 (impl_IsValidTides.l0 kq l0 l0 (l0.length:Int) x11_1 = some r) ∧ Aside0 (kq ≤ k) ∧ Aside0 (Below w.heap.size w w'))
  case atStart=>exact ⟨(0),(by first|rfl|(simp;done)|(simp [*];done)),H',⟨Nat.le_refl _⟩,⟨by repeat (first|(with_reducible first|exact HB.out|apply zD|apply zE|apply zF)|exact HB.out)⟩⟩
  case round =>
   clear H';(try clear c1);(try clear p2);(try clear c3);obtain ⟨x11_1,rfl,HA,HK1,HB⟩:=hrel;cases gk with
   | zero=>exact absurd HA.out (by simp [impl_IsValidTides.l0])
   | succ k1 =>
    have H:=HA.out;clear HA;simp only [impl_IsValidTides.l0] at H
    by_cases c4:x11_1 < (l0.length:Int)
    ·rw [if_pos c4] at H
     have c4b0:decide (x11_1 < (l0.length:Int)) = true:=decide_eq_true c4
     clear c4;by_cases c5:0 ≤ x11_1
     ·rw [if_pos c5] at H
      have c5b0:decide (0 ≤ x11_1) = true:=decide_eq_true c5
      clear c5;by_cases c6:x11_1 < (l0.length:Int)
      ·rw [if_pos c6] at H
       have c6b0:decide (x11_1 < (l0.length:Int)) = true:=decide_eq_true c6
       clear c6;have HC7:=zM H;clear H;have p126:0 ≤ (x11_1:Int):=of_decide_eq_true (by first|(with_reducible assumption)|assumption)
       have q126:x11_1 < (l0.length:Int):=of_decide_eq_true (by first|(with_reducible assumption)|assumption)
       obtain ⟨ad126,e126,hx126_0,hx126_1⟩:=at_T60 HR0.out x11_1 p126 q126;cases e126
       replace hx126_0:=zS HB.out hx126_0;replace hx126_1:=zS HB.out hx126_1;replace p126:=eq_true p126;replace q126:=eq_true q126;go_upto_region 6 with (first|((with_reducible refine gate_dst (N:=4) rfl ?_);refine box_event ?hg (N:=4) ?hd (cs := #[.int .i64 0,.int .i64 0]) (t:=60) ?hr ?_;(case hd=>rfl);(case hg=>rfl);(case hr=>first|(go_simp;done)|(go_simp;rfl));intro gb127 hg w8 hbox hb;have n0_:=zM (zQ (by repeat (first|(with_reducible first|exact HB.out|apply zD|apply zE|apply zF)|exact HB.out)) hb);have n1_:=zM (hbox);have n2_:=zM ((by rw [hg];exact (zR (by repeat (first|(with_reducible first|exact HB.out|apply zD|apply zE|apply zF)|exact HB.out))):w.heap.size ≤ gb127));have n3_:=zM ((by rw [hg];exact (zR (by repeat (first|(with_reducible first|exact HB.out|apply zD|apply zE|apply zF)|exact HB.out))):w.heap.size ≤ gb127));clear HB;have HB:=n0_;have BK127:=n1_;have GW127:=n2_;have GE127:=n3_;clear n0_ n1_ n2_ n3_;clear hb hbox hg;have hcz9_0:w8.cell? ⟨gb127,0,none⟩ = some (.int .i64 0):=(blk_cell BK127.out 0).trans rfl;have hcz9_1:w8.cell? ⟨gb127,1,none⟩ = some (.int .i64 0):=(blk_cell BK127.out 1).trans rfl;have hfz9_0:=blk_frozen BK127.out 0;have hfz9_1:=blk_frozen BK127.out 1))
       repeat (go_quiet (first|((with_reducible refine gate_dst (N:=4) rfl ?_);refine box_event ?hg (N:=4) ?hd (cs := #[.int .i64 0,.int .i64 0]) (t:=60) ?hr ?_;(case hd=>rfl);(case hg=>rfl);(case hr=>first|(go_simp;done)|(go_simp;rfl));intro gb127 hg w8 hbox hb;have n0_:=zM (zQ (by repeat (first|(with_reducible first|exact HB.out|apply zD|apply zE|apply zF)|exact HB.out)) hb);have n1_:=zM (hbox);have n2_:=zM ((by rw [hg];exact (zR (by repeat (first|(with_reducible first|exact HB.out|apply zD|apply zE|apply zF)|exact HB.out))):w.heap.size ≤ gb127));have n3_:=zM ((by rw [hg];exact (zR (by repeat (first|(with_reducible first|exact HB.out|apply zD|apply zE|apply zF)|exact HB.out))):w.heap.size ≤ gb127));clear HB;have HB:=n0_;have BK127:=n1_;have GW127:=n2_;have GE127:=n3_;clear n0_ n1_ n2_ n3_;clear hb hbox hg;have hcz9_0:w8.cell? ⟨gb127,0,none⟩ = some (.int .i64 0):=(blk_cell BK127.out 0).trans rfl;have hcz9_1:w8.cell? ⟨gb127,1,none⟩ = some (.int .i64 0):=(blk_cell BK127.out 1).trans rfl;have hfz9_0:=blk_frozen BK127.out 0;have hfz9_1:=blk_frozen BK127.out 1));go_upto_region 6 with (first|((with_reducible refine gate_dst (N:=4) rfl ?_);refine box_event ?hg (N:=4) ?hd (cs := #[.int .i64 0,.int .i64 0]) (t:=60) ?hr ?_;(case hd=>rfl);(case hg=>rfl);(case hr=>first|(go_simp;done)|(go_simp;rfl));intro gb127 hg w8 hbox hb;have n0_:=zM (zQ (by repeat (first|(with_reducible first|exact HB.out|apply zD|apply zE|apply zF)|exact HB.out)) hb);have n1_:=zM (hbox);have n2_:=zM ((by rw [hg];exact (zR (by repeat (first|(with_reducible first|exact HB.out|apply zD|apply zE|apply zF)|exact HB.out))):w.heap.size ≤ gb127));have n3_:=zM ((by rw [hg];exact (zR (by repeat (first|(with_reducible first|exact HB.out|apply zD|apply zE|apply zF)|exact HB.out))):w.heap.size ≤ gb127));clear HB;have HB:=n0_;have BK127:=n1_;have GW127:=n2_;have GE127:=n3_;clear n0_ n1_ n2_ n3_;clear hb hbox hg;have hcz9_0:w8.cell? ⟨gb127,0,none⟩ = some (.int .i64 0):=(blk_cell BK127.out 0).trans rfl;have hcz9_1:w8.cell? ⟨gb127,1,none⟩ = some (.int .i64 0):=(blk_cell BK127.out 1).trans rfl;have hfz9_0:=blk_frozen BK127.out 0;have hfz9_1:=blk_frozen BK127.out 1)))
       (try simp only [Act.put,zT,zU,zV])
       go_cut [25] (fun v25 wc => ∃ (kq:Nat) (x25_6:Bool),v25 = .bool x25_6 ∧ Aside0 (impl_IsValidTides.j1 kq l0 x11_1 l0 (l0.length:Int) x11_1 x25_6 ((rd_T60 l0 x11_1).f0) ((rd_T60 l0 x11_1).f1) = some r) ∧ Aside0 (kq ≤ k1) ∧ Aside0 (wc.heap[gb127]? = some (.cells #[.int .i64 ((rd_T60 l0 x11_1).f0),.int .i64 ((rd_T60 l0 x11_1).f1)] 60 (0,0))) ∧ Aside0 (Below w.heap.size w wc))
       case first =>
        have H:=HC7.out;clear HC7;replace H:=Option.bind_eq_some_iff.mp H;obtain ⟨t128,A100,H⟩:=H;replace H:(if t128 = true then ((impl_within.f ((rd_T60 l0 x11_1).f1) 0 2000).bind fun t129=>(impl_IsValidTides.j1 k1 l0 x11_1 l0 (l0.length:Int) x11_1 (!t129) ((rd_T60 l0 x11_1).f0) ((rd_T60 l0 x11_1).f1))) else (impl_IsValidTides.j1 k1 l0 x11_1 l0 (l0.length:Int) x11_1 true ((rd_T60 l0 x11_1).f0) ((rd_T60 l0 x11_1).f1))) = some r:=H
        have A10:=zM A100;clear A100;by_cases c11:t128 = true
        ·subst c11
         have H1:((impl_within.f ((rd_T60 l0 x11_1).f1) 0 2000).bind fun t129=>(impl_IsValidTides.j1 k1 l0 x11_1 l0 (l0.length:Int) x11_1 (!t129) ((rd_T60 l0 x11_1).f0) ((rd_T60 l0 x11_1).f1))) = some r:=by rw [if_pos rfl] at H;exact H
         clear H;have H:=H1;clear H1;replace H:=Option.bind_eq_some_iff.mp H;obtain ⟨t129,A120,H⟩:=H;replace H:(impl_IsValidTides.j1 k1 l0 x11_1 l0 (l0.length:Int) x11_1 (!t129) ((rd_T60 l0 x11_1).f0) ((rd_T60 l0 x11_1).f1)) = some r:=H
         have A12:=zM A120;clear A120;have H':=zM H;clear H;have hcz13_0:w8.cell? ⟨gb127,0,none⟩ = some (.int .i64 0):=(blk_cell BK127.out 0).trans rfl
         have hcz13_1:w8.cell? ⟨gb127,1,none⟩ = some (.int .i64 0):=(blk_cell BK127.out 1).trans rfl
         have hfz13_0:=blk_frozen BK127.out 0;have hfz13_1:=blk_frozen BK127.out 1;go_wp2_with (first|(go_at_call 54;(with_reducible refine (impl_within.calls ((rd_T60 l0 x11_1).f0) 0 240 true _ A10.out).mono ?_);rintro e w' ⟨rfl,⟨nd,rfl⟩⟩;(try first|exact ⟨rfl,_,World.drewN_drewN _ _ _⟩|exact ⟨rfl,_,zW _ _ _ _⟩))|(go_at_call 54;(with_reducible refine (impl_within.calls ((rd_T60 l0 x11_1).f1) 0 2000 t129 _ A12.out).mono ?_);rintro e w' ⟨rfl,⟨nd,rfl⟩⟩;(try first|exact ⟨rfl,_,World.drewN_drewN _ _ _⟩|exact ⟨rfl,_,zW _ _ _ _⟩)))
         repeat (go_quiet (first|(go_at_call 54;(with_reducible refine (impl_within.calls ((rd_T60 l0 x11_1).f0) 0 240 true _ A10.out).mono ?_);rintro e w' ⟨rfl,⟨nd,rfl⟩⟩;(try first|exact ⟨rfl,_,World.drewN_drewN _ _ _⟩|exact ⟨rfl,_,zW _ _ _ _⟩))|(go_at_call 54;(with_reducible refine (impl_within.calls ((rd_T60 l0 x11_1).f1) 0 2000 t129 _ A12.out).mono ?_);rintro e w' ⟨rfl,⟨nd,rfl⟩⟩;(try first|exact ⟨rfl,_,World.drewN_drewN _ _ _⟩|exact ⟨rfl,_,zW _ _ _ _⟩)));try go_wp2_with (first|(go_at_call 54;(with_reducible refine (impl_within.calls ((rd_T60 l0 x11_1).f0) 0 240 true _ A10.out).mono ?_);rintro e w' ⟨rfl,⟨nd,rfl⟩⟩;(try first|exact ⟨rfl,_,World.drewN_drewN _ _ _⟩|exact ⟨rfl,_,zW _ _ _ _⟩))|(go_at_call 54;(with_reducible refine (impl_within.calls ((rd_T60 l0 x11_1).f1) 0 2000 t129 _ A12.out).mono ?_);rintro e w' ⟨rfl,⟨nd,rfl⟩⟩;(try first|exact ⟨rfl,_,World.drewN_drewN _ _ _⟩|exact ⟨rfl,_,zW _ _ _ _⟩))))
         go_meet
         case rel=>exact ⟨_,(!t129),(by first|rfl|(simp;done)|(simp [*];done)),H',⟨by have:=HK1.out;first|omega|exact Nat.le_refl _⟩,⟨by (with_reducible repeat (first|refine zJ ?_ _|refine zK ?_|refine zL ?_ _));refine blk_put (cs := #[.int .i64 ((rd_T60 l0 x11_1).f0),.int .i64 0]) ?_ 1 _ rfl;(with_reducible repeat (first|refine zJ ?_ _|refine zK ?_|refine zL ?_ _));refine blk_put (cs := #[.int .i64 0,.int .i64 0]) ?_ 0 _ rfl;(with_reducible repeat (first|refine zJ ?_ _|refine zK ?_|refine zL ?_ _));exact BK127.out⟩,⟨by repeat (first|(with_reducible first|exact HB.out|apply zD|apply zE|apply zF|refine below_set ?_ GE127.out)|exact HB.out)⟩⟩
        ·replace c11:=Bool.eq_false_iff.mpr c11
         subst c11;have H1:(impl_IsValidTides.j1 k1 l0 x11_1 l0 (l0.length:Int) x11_1 true ((rd_T60 l0 x11_1).f0) ((rd_T60 l0 x11_1).f1)) = some r:=by rw [if_neg (show ¬ (false = true) by decide)] at H;exact H
         clear H;have H:=H1;clear H1;have H':=zM H;clear H;have hcz14_0:w8.cell? ⟨gb127,0,none⟩ = some (.int .i64 0):=(blk_cell BK127.out 0).trans rfl
         have hcz14_1:w8.cell? ⟨gb127,1,none⟩ = some (.int .i64 0):=(blk_cell BK127.out 1).trans rfl
         have hfz14_0:=blk_frozen BK127.out 0;have hfz14_1:=blk_frozen BK127.out 1;go_wp2_with (first|(go_at_call 54;(with_reducible refine (impl_within.calls ((rd_T60 l0 x11_1).f0) 0 240 false _ A10.out).mono ?_);rintro e w' ⟨rfl,⟨nd,rfl⟩⟩;(try first|exact ⟨rfl,_,World.drewN_drewN _ _ _⟩|exact ⟨rfl,_,zW _ _ _ _⟩)))
         repeat (go_quiet (first|(go_at_call 54;(with_reducible refine (impl_within.calls ((rd_T60 l0 x11_1).f0) 0 240 false _ A10.out).mono ?_);rintro e w' ⟨rfl,⟨nd,rfl⟩⟩;(try first|exact ⟨rfl,_,World.drewN_drewN _ _ _⟩|exact ⟨rfl,_,zW _ _ _ _⟩)));try go_wp2_with (first|(go_at_call 54;(with_reducible refine (impl_within.calls ((rd_T60 l0 x11_1).f0) 0 240 false _ A10.out).mono ?_);rintro e w' ⟨rfl,⟨nd,rfl⟩⟩;(try first|exact ⟨rfl,_,World.drewN_drewN _ _ _⟩|exact ⟨rfl,_,zW _ _ _ _⟩))))
         go_meet
         case rel=>exact ⟨_,(true),(by first|rfl|(simp;done)|(simp [*];done)),H',⟨by have:=HK1.out;first|omega|exact Nat.le_refl _⟩,⟨by (with_reducible repeat (first|refine zJ ?_ _|refine zK ?_|refine zL ?_ _));refine blk_put (cs := #[.int .i64 ((rd_T60 l0 x11_1).f0),.int .i64 0]) ?_ 1 _ rfl;(with_reducible repeat (first|refine zJ ?_ _|refine zK ?_|refine zL ?_ _));refine blk_put (cs := #[.int .i64 0,.int .i64 0]) ?_ 0 _ rfl;(with_reducible repeat (first|refine zJ ?_ _|refine zK ?_|refine zL ?_ _));exact BK127.out⟩,⟨by repeat (first|(with_reducible first|exact HB.out|apply zD|apply zE|apply zF|refine below_set ?_ GE127.out)|exact HB.out)⟩⟩
       case rest =>
        clear HC7;(try clear c1);(try clear p1);(try clear q1);(try clear hx1);(try clear p2);(try clear c3);(try clear c4);(try clear c4b0);(try clear c5);(try clear c5b0);(try clear c6);(try clear c6b0);(try clear c11);(try clear p12);(try clear q12);(try clear hx12);(try clear hcz13_0);(try clear hcz13_1);(try clear hcz14_0);(try clear hcz14_1);(try clear hcz9_0);(try clear hcz9_1);(try clear hfz13_0);(try clear hfz13_1);(try clear hfz14_0);(try clear hfz14_1);(try clear hfz9_0);(try clear hfz9_1);(try clear hx126_0);(try clear hx126_1);(try clear p126);(try clear p2);(try clear q126);obtain ⟨kq,x25_6,rfl,HA,HJ6,BK127,HB⟩:=hcut;cases kq with
        | zero=>exact absurd HA.out (by simp [impl_IsValidTides.j1])
        | succ kj6 =>
         have H:=HA.out;clear HA;simp only [impl_IsValidTides.j1] at H
         by_cases c15:x25_6 = true
         ·subst c15
          have H1:(some false) = some r:=by rw [if_pos rfl] at H;exact H
          clear H;have H:=H1;clear H1;obtain rfl:=Option.some.inj H;go_wp2
          repeat (go_quiet (fail);try go_wp2)
          go_ret
          exact ⟨by first|rfl|(simp [errW_none,errW_some] <;> rfl)|(simp [*,errW_none,errW_some] <;> rfl),by repeat (first|(with_reducible first|exact HB.out|apply zD|apply zE|apply zF|refine below_set ?_ GE127.out)|exact HB.out)⟩
         ·replace c15:=Bool.eq_false_iff.mpr c15
          subst c15;have H1:(if x11_1 > 0 then (if 0 ≤ (wrap64 (x11_1 - 1)) then (if (wrap64 (x11_1 - 1)) < (l0.length:Int) then (if ((rd_T60 l0 x11_1).f0) ≤ ((rd_T60 l0 (wrap64 (x11_1 - 1))).f0) then (impl_IsValidTides.j2 kj6 l0 x11_1 l0 (l0.length:Int) x11_1 true ((rd_T60 l0 x11_1).f0) ((rd_T60 l0 x11_1).f1)) else (impl_IsValidTides.j2 kj6 l0 x11_1 l0 (l0.length:Int) x11_1 (((rd_T60 l0 x11_1).f1) == ((rd_T60 l0 (wrap64 (x11_1 - 1))).f1)) ((rd_T60 l0 x11_1).f0) ((rd_T60 l0 x11_1).f1))) else (none)) else (none)) else (impl_IsValidTides.j2 kj6 l0 x11_1 l0 (l0.length:Int) x11_1 false ((rd_T60 l0 x11_1).f0) ((rd_T60 l0 x11_1).f1))) = some r:=by rw [if_neg (show ¬ (false = true) by decide)] at H;exact H
          clear H;have H:=H1;clear H1;have HC16:=zM H;clear H;go_upto_region 8 with (fail)
          repeat (go_quiet (fail);go_upto_region 8 with (fail))
          go_cut [49] (fun v49 wc => ∃ (kq:Nat) (x49_15:Bool),v49 = .bool x49_15 ∧ Aside0 (impl_IsValidTides.j2 kq l0 x11_1 l0 (l0.length:Int) x11_1 x49_15 ((rd_T60 l0 x11_1).f0) ((rd_T60 l0 x11_1).f1) = some r) ∧ Aside0 (kq ≤ kj6) ∧ Aside0 (wc.heap[gb127]? = some (.cells #[.int .i64 ((rd_T60 l0 x11_1).f0),.int .i64 ((rd_T60 l0 x11_1).f1)] 60 (0,0))) ∧ Aside0 (Below w.heap.size w wc))
          case first =>
           have H:=HC16.out;clear HC16;by_cases c17:x11_1 > 0
           ·rw [if_pos c17] at H
            have c17b0:decide (0 < x11_1) = true:=decide_eq_true c17
            clear c17;(first|rw [c17b0]|(simp only [i64_w,i32_w];rw [c17b0])|skip)
            obtain ⟨ji18,hji18⟩ : ∃ j_:Int,(wrap64 (x11_1 - 1)) = j_:=⟨_,rfl⟩
            replace H:(if 0 ≤ (ji18) then (if (ji18) < (l0.length:Int) then (if ((rd_T60 l0 x11_1).f0) ≤ ((rd_T60 l0 (ji18)).f0) then (impl_IsValidTides.j2 kj6 l0 x11_1 l0 (l0.length:Int) x11_1 true ((rd_T60 l0 x11_1).f0) ((rd_T60 l0 x11_1).f1)) else (impl_IsValidTides.j2 kj6 l0 x11_1 l0 (l0.length:Int) x11_1 (((rd_T60 l0 x11_1).f1) == ((rd_T60 l0 (ji18)).f1)) ((rd_T60 l0 x11_1).f0) ((rd_T60 l0 x11_1).f1))) else (none)) else (none)) = some r:=by first|(rw [hji18] at H;exact H)|(simp only [hji18] at H ⊢;exact H)
            have hji18w:(IntKind.i64.wrap (x11_1 - 1)) = ji18:=(i64_w _).trans hji18
            by_cases c19:0 ≤ (ji18)
            ·rw [if_pos c19] at H
             have c19b0:decide (0 ≤ (ji18)) = true:=decide_eq_true c19
             clear c19;by_cases c20:(ji18) < (l0.length:Int)
             ·rw [if_pos c20] at H
              have c20b0:decide ((ji18) < (l0.length:Int)) = true:=decide_eq_true c20
              clear c20;by_cases c21:((rd_T60 l0 x11_1).f0) ≤ ((rd_T60 l0 (ji18)).f0)
              ·rw [if_pos c21] at H
               have c21b0:decide (((rd_T60 l0 x11_1).f0) ≤ ((rd_T60 l0 (ji18)).f0)) = true:=decide_eq_true c21
               clear c21;have H':=zM H;clear H;have hcz22_0:wc.cell? ⟨gb127,0,none⟩ = some (.int .i64 ((rd_T60 l0 x11_1).f0)):=(blk_cell BK127.out 0).trans rfl
               have hcz22_1:wc.cell? ⟨gb127,1,none⟩ = some (.int .i64 ((rd_T60 l0 x11_1).f1)):=(blk_cell BK127.out 1).trans rfl
               have hfz22_0:=blk_frozen BK127.out 0;have hfz22_1:=blk_frozen BK127.out 1;have p130:0 ≤ ((ji18):Int):=of_decide_eq_true (by first|(with_reducible assumption)|assumption)
               have q130:(ji18) < (l0.length:Int):=of_decide_eq_true (by first|(with_reducible assumption)|assumption)
               obtain ⟨ad130,e130,hx130_0,hx130_1⟩:=at_T60 HR0.out (ji18) p130 q130;obtain rfl:ad126 = ad130:=(by injection e130)
               replace hx130_0:=zS HB.out hx130_0;replace hx130_1:=zS HB.out hx130_1;replace p130:=eq_true p130;replace q130:=eq_true q130;go_wp2
               repeat (go_quiet (fail);try go_wp2)
               go_meet
               case rel=>exact ⟨_,(true),(by first|rfl|(simp;done)|(simp [*];done)),H',⟨by have:=HK1.out;have:=HJ6.out;first|omega|exact Nat.le_refl _⟩,⟨by (with_reducible repeat (first|refine zJ ?_ _|refine zK ?_|refine zL ?_ _));exact BK127.out⟩,⟨by repeat (first|(with_reducible first|exact HB.out|apply zD|apply zE|apply zF|refine below_set ?_ GE127.out)|exact HB.out)⟩⟩
              ·rw [if_neg c21] at H
               have c21b0:decide (((rd_T60 l0 x11_1).f0) ≤ ((rd_T60 l0 (ji18)).f0)) = false:=decide_eq_false c21
               clear c21;have H':=zM H;clear H;have hcz23_0:wc.cell? ⟨gb127,0,none⟩ = some (.int .i64 ((rd_T60 l0 x11_1).f0)):=(blk_cell BK127.out 0).trans rfl
               have hcz23_1:wc.cell? ⟨gb127,1,none⟩ = some (.int .i64 ((rd_T60 l0 x11_1).f1)):=(blk_cell BK127.out 1).trans rfl
               have hfz23_0:=blk_frozen BK127.out 0;have hfz23_1:=blk_frozen BK127.out 1;have p130:0 ≤ ((ji18):Int):=of_decide_eq_true (by first|(with_reducible assumption)|assumption)
               have q130:(ji18) < (l0.length:Int):=of_decide_eq_true (by first|(with_reducible assumption)|assumption)
               obtain ⟨ad130,e130,hx130_0,hx130_1⟩:=at_T60 HR0.out (ji18) p130 q130;obtain rfl:ad126 = ad130:=(by injection e130)
               replace hx130_0:=zS HB.out hx130_0;replace hx130_1:=zS HB.out hx130_1;replace p130:=eq_true p130;replace q130:=eq_true q130;have p131:0 ≤ ((ji18):Int):=of_decide_eq_true (by first|(with_reducible assumption)|assumption)
               have q131:(ji18) < (l0.length:Int):=of_decide_eq_true (by first|(with_reducible assumption)|assumption)
               obtain ⟨ad131,e131,hx131_0,hx131_1⟩:=at_T60 HR0.out (ji18) p131 q131;obtain rfl:ad126 = ad131:=(by injection e131)
               replace hx131_0:=zS HB.out hx131_0;replace hx131_1:=zS HB.out hx131_1;replace p131:=eq_true p131;replace q131:=eq_true q131;go_wp2
               repeat (go_quiet (fail);try go_wp2)
               go_meet
               case rel=>exact ⟨_,((((rd_T60 l0 x11_1).f1) == ((rd_T60 l0 (ji18)).f1))),(by first|rfl|(simp;done)|(simp only [← hji18] <;> (first|rfl|simp))|(simp [*];done)),H',⟨by have:=HK1.out;have:=HJ6.out;first|omega|exact Nat.le_refl _⟩,⟨by (with_reducible repeat (first|refine zJ ?_ _|refine zK ?_|refine zL ?_ _));exact BK127.out⟩,⟨by repeat (first|(with_reducible first|exact HB.out|apply zD|apply zE|apply zF|refine below_set ?_ GE127.out)|exact HB.out)⟩⟩
             ·rw [if_neg c20] at H
              exact absurd H (by simp)
            ·rw [if_neg c19] at H
             exact absurd H (by simp)
           ·rw [if_neg c17] at H
            have c17b0:decide (0 < x11_1) = false:=decide_eq_false c17
            clear c17;(first|rw [c17b0]|(simp only [i64_w,i32_w];rw [c17b0])|skip)
            have H':=zM H;clear H;go_wp2
            repeat (go_quiet (fail);try go_wp2)
            go_meet
            case rel=>exact ⟨_,(false),(by first|rfl|(simp;done)|(simp [*];done)),H',⟨by have:=HK1.out;have:=HJ6.out;first|omega|exact Nat.le_refl _⟩,⟨by (with_reducible repeat (first|refine zJ ?_ _|refine zK ?_|refine zL ?_ _));exact BK127.out⟩,⟨by repeat (first|(with_reducible first|exact HB.out|apply zD|apply zE|apply zF|refine below_set ?_ GE127.out)|exact HB.out)⟩⟩
          case rest =>
           clear HC16;(try clear c1);(try clear p1);(try clear q1);(try clear hx1);(try clear c2);(try clear p2);(try clear c3);(try clear c4);(try clear c4b0);(try clear c5);(try clear c5b0);(try clear c6);(try clear c6b0);(try clear p6);(try clear c11);(try clear p12);(try clear q12);(try clear hx12);(try clear p13);(try clear q13);(try clear hx13);(try clear c15);(try clear c17);(try clear c17b0);(try clear c19);(try clear c19b0);(try clear c20);(try clear c20b0);(try clear c21);(try clear c21b0);(try clear hcz13_0);(try clear hcz13_1);(try clear hcz14_0);(try clear hcz14_1);(try clear hcz22_0);(try clear hcz22_1);(try clear hcz23_0);(try clear hcz23_1);(try clear hcz9_0);(try clear hcz9_1);(try clear hfz13_0);(try clear hfz13_1);(try clear hfz14_0);(try clear hfz14_1);(try clear hfz22_0);(try clear hfz22_1);(try clear hfz23_0);(try clear hfz23_1);(try clear hfz9_0);(try clear hfz9_1);(try clear hx126_0);(try clear hx126_1);(try clear hx130_0);(try clear hx130_1);(try clear hx131_0);(try clear hx131_1);(try clear p1);(try clear p12);(try clear p126);(try clear p130);(try clear p131);(try clear p2);(try clear q1);(try clear q12);(try clear q126);(try clear q130);(try clear q131);obtain ⟨kq,x49_15,rfl,HA,HJ15,BK127,HB⟩:=hcut;cases kq with
           | zero=>exact absurd HA.out (by simp [impl_IsValidTides.j2])
           | succ kj15 =>
            have H:=HA.out;clear HA;simp only [impl_IsValidTides.j2] at H
            by_cases c24:x49_15 = true
            ·subst c24
             have H1:(some false) = some r:=by rw [if_pos rfl] at H;exact H
             clear H;have H:=H1;clear H1;obtain rfl:=Option.some.inj H;go_wp2
             repeat (go_quiet (fail);try go_wp2)
             go_ret
             exact ⟨by first|rfl|(simp [errW_none,errW_some] <;> rfl)|(simp [*,errW_none,errW_some] <;> rfl),by repeat (first|(with_reducible first|exact HB.out|apply zD|apply zE|apply zF|refine below_set ?_ GE127.out)|exact HB.out)⟩
            ·replace c24:=Bool.eq_false_iff.mpr c24
             subst c24;have H1:(if x11_1 > 1 then (if 0 ≤ (wrap64 (x11_1 - 1)) then (if (wrap64 (x11_1 - 1)) < (l0.length:Int) then (if 0 ≤ (wrap64 (x11_1 - 2)) then (if (wrap64 (x11_1 - 2)) < (l0.length:Int) then (if ((decide (((rd_T60 l0 x11_1).f1) > ((rd_T60 l0 (wrap64 (x11_1 - 1))).f1))) == (decide (((rd_T60 l0 (wrap64 (x11_1 - 1))).f1) > ((rd_T60 l0 (wrap64 (x11_1 - 2))).f1)))) = true then (some false) else (impl_IsValidTides.l0 kj15 l0 l0 (l0.length:Int) (wrap64 (x11_1 + 1)))) else (none)) else (none)) else (none)) else (none)) else (impl_IsValidTides.l0 kj15 l0 l0 (l0.length:Int) (wrap64 (x11_1 + 1)))) = some r:=by rw [if_neg (show ¬ (false = true) by decide)] at H;exact H
             clear H;have H:=H1;clear H1;by_cases c25:x11_1 > 1
             ·rw [if_pos c25] at H
              have c25b0:decide (1 < x11_1) = true:=decide_eq_true c25
              clear c25;obtain ⟨ji26,hji26⟩ : ∃ j_:Int,(wrap64 (x11_1 - 1)) = j_:=⟨_,rfl⟩
              replace H:(if 0 ≤ (ji26) then (if (ji26) < (l0.length:Int) then (if 0 ≤ (wrap64 (x11_1 - 2)) then (if (wrap64 (x11_1 - 2)) < (l0.length:Int) then (if ((decide (((rd_T60 l0 x11_1).f1) > ((rd_T60 l0 (ji26)).f1))) == (decide (((rd_T60 l0 (ji26)).f1) > ((rd_T60 l0 (wrap64 (x11_1 - 2))).f1)))) = true then (some false) else (impl_IsValidTides.l0 kj15 l0 l0 (l0.length:Int) (wrap64 (x11_1 + 1)))) else (none)) else (none)) else (none)) else (none)) = some r:=by first|(rw [hji26] at H;exact H)|(simp only [hji26] at H ⊢;exact H)
              have hji26w:(IntKind.i64.wrap (x11_1 - 1)) = ji26:=(i64_w _).trans hji26
              by_cases c27:0 ≤ (ji26)
              ·rw [if_pos c27] at H
               have c27b0:decide (0 ≤ (ji26)) = true:=decide_eq_true c27
               clear c27;by_cases c28:(ji26) < (l0.length:Int)
               ·rw [if_pos c28] at H
                have c28b0:decide ((ji26) < (l0.length:Int)) = true:=decide_eq_true c28
                clear c28;obtain ⟨ji29,hji29⟩ : ∃ j_:Int,(wrap64 (x11_1 - 2)) = j_:=⟨_,rfl⟩
                replace H:(if 0 ≤ (ji29) then (if (ji29) < (l0.length:Int) then (if ((decide (((rd_T60 l0 x11_1).f1) > ((rd_T60 l0 (ji26)).f1))) == (decide (((rd_T60 l0 (ji26)).f1) > ((rd_T60 l0 (ji29)).f1)))) = true then (some false) else (impl_IsValidTides.l0 kj15 l0 l0 (l0.length:Int) (wrap64 (x11_1 + 1)))) else (none)) else (none)) = some r:=by first|(rw [hji29] at H;exact H)|(simp only [hji29] at H ⊢;exact H)
                have hji29w:(IntKind.i64.wrap (x11_1 - 2)) = ji29:=(i64_w _).trans hji29
                by_cases c30:0 ≤ (ji29)
                ·rw [if_pos c30] at H
                 have c30b0:decide (0 ≤ (ji29)) = true:=decide_eq_true c30
                 clear c30;by_cases c31:(ji29) < (l0.length:Int)
                 ·rw [if_pos c31] at H
                  have c31b0:decide ((ji29) < (l0.length:Int)) = true:=decide_eq_true c31
                  clear c31;by_cases c32:((decide (((rd_T60 l0 x11_1).f1) > ((rd_T60 l0 (ji26)).f1))) == (decide (((rd_T60 l0 (ji26)).f1) > ((rd_T60 l0 (ji29)).f1)))) = true
                  ·rw [if_pos c32] at H
                   have c32b0:((decide (((rd_T60 l0 x11_1).f1) > ((rd_T60 l0 (ji26)).f1))) == (decide (((rd_T60 l0 (ji26)).f1) > ((rd_T60 l0 (ji29)).f1)))) = true:=c32
                   (try (have c32b1:decide ((decide (((rd_T60 l0 x11_1).f1) > ((rd_T60 l0 (ji26)).f1))) = (decide (((rd_T60 l0 (ji26)).f1) > ((rd_T60 l0 (ji29)).f1)))) = true:=by simpa using c32))
                   (try (have c32b2:((decide (((rd_T60 l0 x11_1).f1) > ((rd_T60 l0 (ji26)).f1))) == (decide (((rd_T60 l0 (ji26)).f1) > ((rd_T60 l0 (ji29)).f1)))) = true:=by simpa using c32))
                   clear c32;obtain rfl:=Option.some.inj H;have hcz33_0:wc.cell? ⟨gb127,0,none⟩ = some (.int .i64 ((rd_T60 l0 x11_1).f0)):=(blk_cell BK127.out 0).trans rfl
                   have hcz33_1:wc.cell? ⟨gb127,1,none⟩ = some (.int .i64 ((rd_T60 l0 x11_1).f1)):=(blk_cell BK127.out 1).trans rfl
                   have hfz33_0:=blk_frozen BK127.out 0;have hfz33_1:=blk_frozen BK127.out 1;have p132:0 ≤ ((ji26):Int):=of_decide_eq_true (by first|(with_reducible assumption)|assumption)
                   have q132:(ji26) < (l0.length:Int):=of_decide_eq_true (by first|(with_reducible assumption)|assumption)
                   obtain ⟨ad132,e132,hx132_0,hx132_1⟩:=at_T60 HR0.out (ji26) p132 q132;obtain rfl:ad126 = ad132:=(by injection e132)
                   replace hx132_0:=zS HB.out hx132_0;replace hx132_1:=zS HB.out hx132_1;replace p132:=eq_true p132;replace q132:=eq_true q132;have p133:0 ≤ ((ji26):Int):=of_decide_eq_true (by first|(with_reducible assumption)|assumption)
                   have q133:(ji26) < (l0.length:Int):=of_decide_eq_true (by first|(with_reducible assumption)|assumption)
                   obtain ⟨ad133,e133,hx133_0,hx133_1⟩:=at_T60 HR0.out (ji26) p133 q133;obtain rfl:ad126 = ad133:=(by injection e133)
                   replace hx133_0:=zS HB.out hx133_0;replace hx133_1:=zS HB.out hx133_1;replace p133:=eq_true p133;replace q133:=eq_true q133;have p134:0 ≤ ((ji29):Int):=of_decide_eq_true (by first|(with_reducible assumption)|assumption)
                   have q134:(ji29) < (l0.length:Int):=of_decide_eq_true (by first|(with_reducible assumption)|assumption)
                   obtain ⟨ad134,e134,hx134_0,hx134_1⟩:=at_T60 HR0.out (ji29) p134 q134;obtain rfl:ad126 = ad134:=(by injection e134)
                   replace hx134_0:=zS HB.out hx134_0;replace hx134_1:=zS HB.out hx134_1;replace p134:=eq_true p134;replace q134:=eq_true q134;go_wp2
                   repeat (go_quiet (fail);try go_wp2)
                   go_ret
                   exact ⟨by first|rfl|(simp [errW_none,errW_some] <;> rfl)|(simp only [← hji26,← hji29];first|rfl|(simp [errW_none,errW_some] <;> rfl))|(simp [*,errW_none,errW_some] <;> rfl),by repeat (first|(with_reducible first|exact HB.out|apply zD|apply zE|apply zF|refine below_set ?_ GE127.out)|exact HB.out)⟩
                  ·rw [if_neg c32] at H
                   have c32b0:((decide (((rd_T60 l0 x11_1).f1) > ((rd_T60 l0 (ji26)).f1))) == (decide (((rd_T60 l0 (ji26)).f1) > ((rd_T60 l0 (ji29)).f1)))) = false:=by simpa using c32
                   (try (have c32b1:decide ((decide (((rd_T60 l0 x11_1).f1) > ((rd_T60 l0 (ji26)).f1))) = (decide (((rd_T60 l0 (ji26)).f1) > ((rd_T60 l0 (ji29)).f1)))) = false:=by simpa using c32))
                   (try (have c32b2:((decide (((rd_T60 l0 x11_1).f1) > ((rd_T60 l0 (ji26)).f1))) == (decide (((rd_T60 l0 (ji26)).f1) > ((rd_T60 l0 (ji29)).f1)))) = false:=by simpa using c32))
                   (try (have c32b3:¬ ((decide (((rd_T60 l0 x11_1).f1) > ((rd_T60 l0 (ji26)).f1))) = (decide (((rd_T60 l0 (ji26)).f1) > ((rd_T60 l0 (ji29)).f1)))):=by simpa using c32))
                   clear c32;have H':=zM H;clear H;have hcz34_0:wc.cell? ⟨gb127,0,none⟩ = some (.int .i64 ((rd_T60 l0 x11_1).f0)):=(blk_cell BK127.out 0).trans rfl
                   have hcz34_1:wc.cell? ⟨gb127,1,none⟩ = some (.int .i64 ((rd_T60 l0 x11_1).f1)):=(blk_cell BK127.out 1).trans rfl
                   have hfz34_0:=blk_frozen BK127.out 0;have hfz34_1:=blk_frozen BK127.out 1;have p132:0 ≤ ((ji26):Int):=of_decide_eq_true (by first|(with_reducible assumption)|assumption)
                   have q132:(ji26) < (l0.length:Int):=of_decide_eq_true (by first|(with_reducible assumption)|assumption)
                   obtain ⟨ad132,e132,hx132_0,hx132_1⟩:=at_T60 HR0.out (ji26) p132 q132;obtain rfl:ad126 = ad132:=(by injection e132)
                   replace hx132_0:=zS HB.out hx132_0;replace hx132_1:=zS HB.out hx132_1;replace p132:=eq_true p132;replace q132:=eq_true q132;have p133:0 ≤ ((ji26):Int):=of_decide_eq_true (by first|(with_reducible assumption)|assumption)
                   have q133:(ji26) < (l0.length:Int):=of_decide_eq_true (by first|(with_reducible assumption)|assumption)
                   obtain ⟨ad133,e133,hx133_0,hx133_1⟩:=at_T60 HR0.out (ji26) p133 q133;obtain rfl:ad126 = ad133:=(by injection e133)
                   replace hx133_0:=zS HB.out hx133_0;replace hx133_1:=zS HB.out hx133_1;replace p133:=eq_true p133;replace q133:=eq_true q133;have p134:0 ≤ ((ji29):Int):=of_decide_eq_true (by first|(with_reducible assumption)|assumption)
                   have q134:(ji29) < (l0.length:Int):=of_decide_eq_true (by first|(with_reducible assumption)|assumption)
                   obtain ⟨ad134,e134,hx134_0,hx134_1⟩:=at_T60 HR0.out (ji29) p134 q134;obtain rfl:ad126 = ad134:=(by injection e134)
                   replace hx134_0:=zS HB.out hx134_0;replace hx134_1:=zS HB.out hx134_1;replace p134:=eq_true p134;replace q134:=eq_true q134;go_wp2
                   repeat (go_quiet (fail);try go_wp2)
                   go_roundg kj15
                   case measure=>have:=HK1.out;have:=HJ6.out;have:=HJ15.out;omega
                   case rel=>exact ⟨(wrap64 (x11_1 + 1)),(by first|rfl|(simp;done)|(simp [*];done)),H',⟨by have:=HK1.out;have:=HJ6.out;have:=HJ15.out;omega⟩,⟨by repeat (first|(with_reducible first|exact HB.out|apply zD|apply zE|apply zF|refine below_set ?_ GE127.out)|exact HB.out)⟩⟩
                 ·rw [if_neg c31] at H
                  exact absurd H (by simp)
                ·rw [if_neg c30] at H
                 exact absurd H (by simp)
               ·rw [if_neg c28] at H
                exact absurd H (by simp)
              ·rw [if_neg c27] at H
               exact absurd H (by simp)
             ·rw [if_neg c25] at H
              have c25b0:decide (1 < x11_1) = false:=decide_eq_false c25
              clear c25;have H':=zM H;clear H;go_wp2
              repeat (go_quiet (fail);try go_wp2)
              go_roundg kj15
              case measure=>have:=HK1.out;have:=HJ6.out;have:=HJ15.out;omega
              case rel=>exact ⟨(wrap64 (x11_1 + 1)),(by first|rfl|(simp;done)|(simp [*];done)),H',⟨by have:=HK1.out;have:=HJ6.out;have:=HJ15.out;omega⟩,⟨by repeat (first|(with_reducible first|exact HB.out|apply zD|apply zE|apply zF|refine below_set ?_ GE127.out)|exact HB.out)⟩⟩
      ·rw [if_neg c6] at H
       exact absurd H (by simp)
     ·rw [if_neg c5] at H
      exact absurd H (by simp)
    ·rw [if_neg c4] at H
     have c4b0:decide (x11_1 < (l0.length:Int)) = false:=decide_eq_false c4
     clear c4;obtain rfl:=Option.some.inj H;go_wp2
     repeat (go_quiet (fail);try go_wp2)
     go_ret
     exact ⟨by first|rfl|(simp [errW_none,errW_some] <;> rfl)|(simp [*,errW_none,errW_some] <;> rfl),by repeat (first|(with_reducible first|exact HB.out|apply zD|apply zE|apply zF)|exact HB.out)⟩
 ·replace c3:=Bool.eq_false_iff.mpr c3
  subst c3;have H1:(some false) = some r:=by rw [if_neg (show ¬ (false = true) by decide)] at H;exact H
  clear H;have H:=H1;clear H1;obtain rfl:=Option.some.inj H;go_enter Try.func17,Try.ntmps17
  go_wp2_with (first|(go_at_call 54;(with_reducible refine (impl_within.calls (l0.length:Int) 2 20 false _ A2.out).mono ?_);rintro e w' ⟨rfl,⟨nd,rfl⟩⟩;(try first|exact ⟨rfl,_,World.drewN_drewN _ _ _⟩|exact ⟨rfl,_,zW _ _ _ _⟩)))
  repeat (go_quiet (first|(go_at_call 54;(with_reducible refine (impl_within.calls (l0.length:Int) 2 20 false _ A2.out).mono ?_);rintro e w' ⟨rfl,⟨nd,rfl⟩⟩;(try first|exact ⟨rfl,_,World.drewN_drewN _ _ _⟩|exact ⟨rfl,_,zW _ _ _ _⟩)));try go_wp2_with (first|(go_at_call 54;(with_reducible refine (impl_within.calls (l0.length:Int) 2 20 false _ A2.out).mono ?_);rintro e w' ⟨rfl,⟨nd,rfl⟩⟩;(try first|exact ⟨rfl,_,World.drewN_drewN _ _ _⟩|exact ⟨rfl,_,zW _ _ _ _⟩))))
  go_ret
  exact ⟨by first|rfl|(simp [errW_none,errW_some] <;> rfl)|(simp [*,errW_none,errW_some] <;> rfl),by repeat (first|(with_reducible first|exact HB.out|apply zD|apply zE|apply zF)|exact HB.out)⟩



/-! ### impl_holds: function 62 -/
def impl_holds.l0:Nat → List (S60) → List Int → Int → Int → Option (Bool)
 | 0,_,_,_,_=>none
 | k + 1,x0,x10,x11,x12=>if x12 < x11 then (if 0 ≤ x12 then (if x12 < (x10.length:Int) then (if 0 < (x0.length:Int) then (if 0 ≤ (wrap64 ((x0.length:Int) - 1)) then (if (wrap64 ((x0.length:Int) - 1)) < (x0.length:Int) then ((impl_within.f (rd x10 x12) ((rd_T60 x0 0).f0) ((rd_T60 x0 (wrap64 ((x0.length:Int) - 1))).f0)).bind fun t283=>(if t283 = true then (impl_holds.l0 k x0 x10 x11 (wrap64 (x12 + 1))) else (some false))) else (none)) else (none)) else (none)) else (none)) else (none)) else (some true)
def impl_holds.f (k:Nat) (l0:List (S60)) (l1:List Int):Option (Bool):=(impl_IsValidTides.f k l0).bind fun t279=>(if t279 = true then (impl_holds.l0 k l0 l1 (l1.length:Int) 0) else (some false))
set_option maxHeartbeats 8000000 in
set_option maxRecDepth 100000 in
theorem impl_holds.calls (k:Nat) (A0:Option Addr) (c0:Nat) (l0:List (S60)) (A1:Option Addr) (c1:Nat) (l1:List Int) (r:Bool) (w:World) (hr0:Kd.C k60 w A0 l0.length l0) (hc0:l0.length ≤ c0) (hr1:Kd.C (Kd.int .i64) w A1 l1.length l1) (hc1:l1.length ≤ c1) (h:impl_holds.f k l0 l1 = some r) :
  Calls Try.prog 62 #[.slice A0 l0.length c0,.slice A1 l1.length c1] w fun e w'=>e = .returned (.bool r) ∧ Below w.heap.size w w':=by
 have HR0:=zM hr0;have HC0:=zM hc0;clear hr0 hc0;have HR1:=zM hr1;have HC1:=zM hc1;clear hr1 hc1;have HB:=zM (Below.refl w.heap.size w);have H:((impl_IsValidTides.f k l0).bind fun t279=>(if t279 = true then (impl_holds.l0 k l0 l1 (l1.length:Int) 0) else (some false))) = some r:=h
 clear h;replace H:=Option.bind_eq_some_iff.mp H;obtain ⟨t279,A30,H⟩:=H;replace H:(if t279 = true then (impl_holds.l0 k l0 l1 (l1.length:Int) 0) else (some false)) = some r:=H
 have A3:=zM A30;clear A30;by_cases c4:t279 = true
 ·subst c4
  have H1:(impl_holds.l0 k l0 l1 (l1.length:Int) 0) = some r:=by rw [if_pos rfl] at H;exact H
  clear H;have H:=H1;clear H1;have H':=zM H;clear H;go_enter Try.func62,Try.ntmps62
  go_wp2_with (first|(go_at_call 17;(with_reducible refine (impl_IsValidTides.calls k _ _ l0 true _ ?side1 ?side2 A3.out).mono ?_);(case side1=>repeat (first|exact HR0.out|(with_reducible first|refine zG ?_ _|refine zH ?_ _|refine zI ?_)));(case side2=>exact HC0.out);rintro e w5 ⟨rfl,hb⟩;have n0_:=zM (zQ (by repeat (first|(with_reducible first|exact HB.out|apply zD|apply zE|apply zF)|exact HB.out)) hb);clear HB;have HB:=n0_;clear n0_;(try clear hb);(try clear hb2);(try clear hk);(try clear hi)))
  repeat (go_quiet (first|(go_at_call 17;(with_reducible refine (impl_IsValidTides.calls k _ _ l0 true _ ?side1 ?side2 A3.out).mono ?_);(case side1=>repeat (first|exact HR0.out|(with_reducible first|refine zG ?_ _|refine zH ?_ _|refine zI ?_)));(case side2=>exact HC0.out);rintro e w5 ⟨rfl,hb⟩;have n0_:=zM (zQ (by repeat (first|(with_reducible first|exact HB.out|apply zD|apply zE|apply zF)|exact HB.out)) hb);clear HB;have HB:=n0_;clear n0_;(try clear hb);(try clear hb2);(try clear hk);(try clear hi)));try go_wp2_with (first|(go_at_call 17;(with_reducible refine (impl_IsValidTides.calls k _ _ l0 true _ ?side1 ?side2 A3.out).mono ?_);(case side1=>repeat (first|exact HR0.out|(with_reducible first|refine zG ?_ _|refine zH ?_ _|refine zI ?_)));(case side2=>exact HC0.out);rintro e w5 ⟨rfl,hb⟩;have n0_:=zM (zQ (by repeat (first|(with_reducible first|exact HB.out|apply zD|apply zE|apply zF)|exact HB.out)) hb);clear HB;have HB:=n0_;clear n0_;(try clear hb);(try clear hb2);(try clear hk);(try clear hi))))
  go_loopg [12] k (fun kq v12 w' => ∃ (x12_1:Int),v12 = .int .i64 x12_1 ∧ Aside0 (impl_holds.l0 kq l0 l1 (l1.length:Int) x12_1 = some r) ∧ Aside0 (kq ≤ k) ∧ Aside0 (Below w.heap.size w w'))
  case atStart=>exact ⟨(0),(by first|rfl|(simp;done)|(simp [*];done)),H',⟨Nat.le_refl _⟩,⟨by repeat (first|(with_reducible first|exact HB.out|apply zD|apply zE|apply zF)|exact HB.out)⟩⟩
  case round =>
   clear H';(try clear c1);(try clear p2);(try clear c4);obtain ⟨x12_1,rfl,HA,HK1,HB⟩:=hrel;cases gk with
   | zero=>exact absurd HA.out (by simp [impl_holds.l0])
   | succ k1 =>
    have H:=HA.out;clear HA;simp only [impl_holds.l0] at H
    by_cases c6:x12_1 < (l1.length:Int)
    ·rw [if_pos c6] at H
     have c6b0:decide (x12_1 < (l1.length:Int)) = true:=decide_eq_true c6
     clear c6;by_cases c7:0 ≤ x12_1
     ·rw [if_pos c7] at H
      have c7b0:decide (0 ≤ x12_1) = true:=decide_eq_true c7
      clear c7;by_cases c8:x12_1 < (l1.length:Int)
      ·rw [if_pos c8] at H
       have c8b0:decide (x12_1 < (l1.length:Int)) = true:=decide_eq_true c8
       clear c8;by_cases c9:0 < (l0.length:Int)
       ·rw [if_pos c9] at H
        have c9b0:decide (0 < (l0.length:Int)) = true:=decide_eq_true c9
        have c9b1:decide (0 < l0.length) = true:=decide_eq_true (by omega)
        clear c9;obtain ⟨ji10,hji10⟩ : ∃ j_:Int,(wrap64 ((l0.length:Int) - 1)) = j_:=⟨_,rfl⟩
        replace H:(if 0 ≤ (ji10) then (if (ji10) < (l0.length:Int) then ((impl_within.f (rd l1 x12_1) ((rd_T60 l0 0).f0) ((rd_T60 l0 (ji10)).f0)).bind fun t283=>(if t283 = true then (impl_holds.l0 k1 l0 l1 (l1.length:Int) (wrap64 (x12_1 + 1))) else (some false))) else (none)) else (none)) = some r:=by first|(rw [hji10] at H;exact H)|(simp only [hji10] at H ⊢;exact H)
        have hji10w:(IntKind.i64.wrap ((l0.length:Int) - 1)) = ji10:=(i64_w _).trans hji10
        by_cases c11:0 ≤ (ji10)
        ·rw [if_pos c11] at H
         have c11b0:decide (0 ≤ (ji10)) = true:=decide_eq_true c11
         clear c11;by_cases c12:(ji10) < (l0.length:Int)
         ·rw [if_pos c12] at H
          have c12b0:decide ((ji10) < (l0.length:Int)) = true:=decide_eq_true c12
          clear c12;replace H:=Option.bind_eq_some_iff.mp H;obtain ⟨t283,A130,H⟩:=H;replace H:(if t283 = true then (impl_holds.l0 k1 l0 l1 (l1.length:Int) (wrap64 (x12_1 + 1))) else (some false)) = some r:=H
          have A13:=zM A130;clear A130;by_cases c14:t283 = true
          ·subst c14
           have H1:(impl_holds.l0 k1 l0 l1 (l1.length:Int) (wrap64 (x12_1 + 1))) = some r:=by rw [if_pos rfl] at H;exact H
           clear H;have H:=H1;clear H1;have H':=zM H;clear H;have p280:0 ≤ (x12_1:Int):=of_decide_eq_true (by first|(with_reducible assumption)|assumption)
           have q280:x12_1 < (l1.length:Int):=of_decide_eq_true (by first|(with_reducible assumption)|assumption)
           obtain ⟨ad280,e280,hx280_0⟩:=Kd.at_int HR1.out x12_1 p280 q280;cases e280
           replace hx280_0:=zS HB.out hx280_0;replace p280:=eq_true p280;replace q280:=eq_true q280;have p281:0 ≤ (0:Int):=(by omega)
           have q281:0 < (l0.length:Int):=of_decide_eq_true (by first|(with_reducible assumption)|assumption)
           obtain ⟨ad281,e281,hx281_0,hx281_1⟩:=at_T60 HR0.out 0 p281 q281;cases e281
           have qi281:(0 < l0.length) = True:=eq_true (by omega)
           (try rw [show ((0:Int)).toNat = 0 from rfl] at hx281_0)
           (try rw [show 0 * 2 = 0 from rfl] at hx281_0)
           (try rw [Addr.add_zero'] at hx281_0)
           (try rw [show ((0:Int)).toNat = 0 from rfl] at hx281_1)
           (try rw [show 0 * 2 = 0 from rfl] at hx281_1)
           (try rw [Addr.add_zero'] at hx281_1)
           replace hx281_0:=zS HB.out hx281_0;replace hx281_1:=zS HB.out hx281_1;replace p281:=eq_true p281;replace q281:=eq_true q281;have p282:0 ≤ ((ji10):Int):=of_decide_eq_true (by first|(with_reducible assumption)|assumption)
           have q282:(ji10) < (l0.length:Int):=of_decide_eq_true (by first|(with_reducible assumption)|assumption)
           obtain ⟨ad282,e282,hx282_0,hx282_1⟩:=at_T60 HR0.out (ji10) p282 q282;obtain rfl:ad281 = ad282:=(by injection e282)
           replace hx282_0:=zS HB.out hx282_0;replace hx282_1:=zS HB.out hx282_1;replace p282:=eq_true p282;replace q282:=eq_true q282;go_wp2_with (first|(go_at_call 54;(with_reducible refine (impl_within.calls (rd l1 x12_1) ((rd_T60 l0 0).f0) ((rd_T60 l0 (ji10)).f0) true _ A13.out).mono ?_);rintro e w' ⟨rfl,⟨nd,rfl⟩⟩;(try first|exact ⟨rfl,_,World.drewN_drewN _ _ _⟩|exact ⟨rfl,_,zW _ _ _ _⟩)))
           repeat (go_quiet (first|(go_at_call 54;(with_reducible refine (impl_within.calls (rd l1 x12_1) ((rd_T60 l0 0).f0) ((rd_T60 l0 (ji10)).f0) true _ A13.out).mono ?_);rintro e w' ⟨rfl,⟨nd,rfl⟩⟩;(try first|exact ⟨rfl,_,World.drewN_drewN _ _ _⟩|exact ⟨rfl,_,zW _ _ _ _⟩)));try go_wp2_with (first|(go_at_call 54;(with_reducible refine (impl_within.calls (rd l1 x12_1) ((rd_T60 l0 0).f0) ((rd_T60 l0 (ji10)).f0) true _ A13.out).mono ?_);rintro e w' ⟨rfl,⟨nd,rfl⟩⟩;(try first|exact ⟨rfl,_,World.drewN_drewN _ _ _⟩|exact ⟨rfl,_,zW _ _ _ _⟩))))
           go_roundg k1
           case measure=>have:=HK1.out;omega
           case rel=>exact ⟨(wrap64 (x12_1 + 1)),(by first|rfl|(simp;done)|(simp [*];done)),H',⟨by have:=HK1.out;omega⟩,⟨by repeat (first|(with_reducible first|exact HB.out|apply zD|apply zE|apply zF)|exact HB.out)⟩⟩
          ·replace c14:=Bool.eq_false_iff.mpr c14
           subst c14;have H1:(some false) = some r:=by rw [if_neg (show ¬ (false = true) by decide)] at H;exact H
           clear H;have H:=H1;clear H1;obtain rfl:=Option.some.inj H;have p280:0 ≤ (x12_1:Int):=of_decide_eq_true (by first|(with_reducible assumption)|assumption)
           have q280:x12_1 < (l1.length:Int):=of_decide_eq_true (by first|(with_reducible assumption)|assumption)
           obtain ⟨ad280,e280,hx280_0⟩:=Kd.at_int HR1.out x12_1 p280 q280;cases e280
           replace hx280_0:=zS HB.out hx280_0;replace p280:=eq_true p280;replace q280:=eq_true q280;have p281:0 ≤ (0:Int):=(by omega)
           have q281:0 < (l0.length:Int):=of_decide_eq_true (by first|(with_reducible assumption)|assumption)
           obtain ⟨ad281,e281,hx281_0,hx281_1⟩:=at_T60 HR0.out 0 p281 q281;cases e281
           have qi281:(0 < l0.length) = True:=eq_true (by omega)
           (try rw [show ((0:Int)).toNat = 0 from rfl] at hx281_0)
           (try rw [show 0 * 2 = 0 from rfl] at hx281_0)
           (try rw [Addr.add_zero'] at hx281_0)
           (try rw [show ((0:Int)).toNat = 0 from rfl] at hx281_1)
           (try rw [show 0 * 2 = 0 from rfl] at hx281_1)
           (try rw [Addr.add_zero'] at hx281_1)
           replace hx281_0:=zS HB.out hx281_0;replace hx281_1:=zS HB.out hx281_1;replace p281:=eq_true p281;replace q281:=eq_true q281;have p282:0 ≤ ((ji10):Int):=of_decide_eq_true (by first|(with_reducible assumption)|assumption)
           have q282:(ji10) < (l0.length:Int):=of_decide_eq_true (by first|(with_reducible assumption)|assumption)
           obtain ⟨ad282,e282,hx282_0,hx282_1⟩:=at_T60 HR0.out (ji10) p282 q282;obtain rfl:ad281 = ad282:=(by injection e282)
           replace hx282_0:=zS HB.out hx282_0;replace hx282_1:=zS HB.out hx282_1;replace p282:=eq_true p282;replace q282:=eq_true q282;go_wp2_with (first|(go_at_call 54;(with_reducible refine (impl_within.calls (rd l1 x12_1) ((rd_T60 l0 0).f0) ((rd_T60 l0 (ji10)).f0) false _ A13.out).mono ?_);rintro e w' ⟨rfl,⟨nd,rfl⟩⟩;(try first|exact ⟨rfl,_,World.drewN_drewN _ _ _⟩|exact ⟨rfl,_,zW _ _ _ _⟩)))
           repeat (go_quiet (first|(go_at_call 54;(with_reducible refine (impl_within.calls (rd l1 x12_1) ((rd_T60 l0 0).f0) ((rd_T60 l0 (ji10)).f0) false _ A13.out).mono ?_);rintro e w' ⟨rfl,⟨nd,rfl⟩⟩;(try first|exact ⟨rfl,_,World.drewN_drewN _ _ _⟩|exact ⟨rfl,_,zW _ _ _ _⟩)));try go_wp2_with (first|(go_at_call 54;(with_reducible refine (impl_within.calls (rd l1 x12_1) ((rd_T60 l0 0).f0) ((rd_T60 l0 (ji10)).f0) false _ A13.out).mono ?_);rintro e w' ⟨rfl,⟨nd,rfl⟩⟩;(try first|exact ⟨rfl,_,World.drewN_drewN _ _ _⟩|exact ⟨rfl,_,zW _ _ _ _⟩))))
           go_ret
           exact ⟨by first|rfl|(simp [errW_none,errW_some] <;> rfl)|(simp only [← hji10];first|rfl|(simp [errW_none,errW_some] <;> rfl))|(simp [*,errW_none,errW_some] <;> rfl),by repeat (first|(with_reducible first|exact HB.out|apply zD|apply zE|apply zF)|exact HB.out)⟩
         ·rw [if_neg c12] at H
          exact absurd H (by simp)
        ·rw [if_neg c11] at H
         exact absurd H (by simp)
       ·rw [if_neg c9] at H
        exact absurd H (by simp)
      ·rw [if_neg c8] at H
       exact absurd H (by simp)
     ·rw [if_neg c7] at H
      exact absurd H (by simp)
    ·rw [if_neg c6] at H
     have c6b0:decide (x12_1 < (l1.length:Int)) = false:=decide_eq_false c6
     clear c6;obtain rfl:=Option.some.inj H;go_wp2
     repeat (go_quiet (fail);try go_wp2)
     go_ret
     exact ⟨by first|rfl|(simp [errW_none,errW_some] <;> rfl)|(simp [*,errW_none,errW_some] <;> rfl),by repeat (first|(with_reducible first|exact HB.out|apply zD|apply zE|apply zF)|exact HB.out)⟩
 ·replace c4:=Bool.eq_false_iff.mpr c4
  subst c4;have H1:(some false) = some r:=by rw [if_neg (show ¬ (false = true) by decide)] at H;exact H
  clear H;have H:=H1;clear H1;obtain rfl:=Option.some.inj H;go_enter Try.func62,Try.ntmps62
  go_wp2_with (first|(go_at_call 17;(with_reducible refine (impl_IsValidTides.calls k _ _ l0 false _ ?side1 ?side2 A3.out).mono ?_);(case side1=>repeat (first|exact HR0.out|(with_reducible first|refine zG ?_ _|refine zH ?_ _|refine zI ?_)));(case side2=>exact HC0.out);rintro e w15 ⟨rfl,hb⟩;have n0_:=zM (zQ (by repeat (first|(with_reducible first|exact HB.out|apply zD|apply zE|apply zF)|exact HB.out)) hb);clear HB;have HB:=n0_;clear n0_;(try clear hb);(try clear hb2);(try clear hk);(try clear hi)))
  repeat (go_quiet (first|(go_at_call 17;(with_reducible refine (impl_IsValidTides.calls k _ _ l0 false _ ?side1 ?side2 A3.out).mono ?_);(case side1=>repeat (first|exact HR0.out|(with_reducible first|refine zG ?_ _|refine zH ?_ _|refine zI ?_)));(case side2=>exact HC0.out);rintro e w15 ⟨rfl,hb⟩;have n0_:=zM (zQ (by repeat (first|(with_reducible first|exact HB.out|apply zD|apply zE|apply zF)|exact HB.out)) hb);clear HB;have HB:=n0_;clear n0_;(try clear hb);(try clear hb2);(try clear hk);(try clear hi)));try go_wp2_with (first|(go_at_call 17;(with_reducible refine (impl_IsValidTides.calls k _ _ l0 false _ ?side1 ?side2 A3.out).mono ?_);(case side1=>repeat (first|exact HR0.out|(with_reducible first|refine zG ?_ _|refine zH ?_ _|refine zI ?_)));(case side2=>exact HC0.out);rintro e w15 ⟨rfl,hb⟩;have n0_:=zM (zQ (by repeat (first|(with_reducible first|exact HB.out|apply zD|apply zE|apply zF)|exact HB.out)) hb);clear HB;have HB:=n0_;clear n0_;(try clear hb);(try clear hb2);(try clear hk);(try clear hi))))
  go_ret
  exact ⟨by first|rfl|(simp [errW_none,errW_some] <;> rfl)|(simp [*,errW_none,errW_some] <;> rfl),by repeat (first|(with_reducible first|exact HB.out|apply zD|apply zE|apply zF)|exact HB.out)⟩



/-! ### impl_heightAt: function 63 -/
def impl_heightAt.l0:Nat → List (S60) → Int → Int → Option (Int × Int)
 | 0,_,_,_=>none
 | k + 1,x0,x1,x6=>if 0 ≤ x6 then (if x6 < (x0.length:Int) then (if ((rd_T60 x0 x6).f0) < x1 then (impl_heightAt.l0 k x0 x1 (wrap64 (x6 + 1))) else (if 0 ≤ (wrap64 (x6 - 1)) then (if (wrap64 (x6 - 1)) < (x0.length:Int) then (some (wrap64 ((wrap64 (((rd_T60 x0 (wrap64 (x6 - 1))).f1) * (wrap64 (((rd_T60 x0 x6).f0) - ((rd_T60 x0 (wrap64 (x6 - 1))).f0))))) + (wrap64 ((wrap64 (((rd_T60 x0 x6).f1) - ((rd_T60 x0 (wrap64 (x6 - 1))).f1))) * (wrap64 (x1 - ((rd_T60 x0 (wrap64 (x6 - 1))).f0)))))),wrap64 (((rd_T60 x0 x6).f0) - ((rd_T60 x0 (wrap64 (x6 - 1))).f0)))) else (none)) else (none))) else (none)) else (none)
def impl_heightAt.f (k:Nat) (l0:List (S60)) (a1:Int):Option (Int × Int):=impl_heightAt.l0 k l0 a1 1
def impl_heightAt.T4:Bool × List (List Nat × List Nat):=(true,[([],[]),([],[]),([1],[1]),([0,2],[0,2]),([3],[3]),([],[]),([],[]),([5,6],[5,6]),([7],[7]),([],[]),([],[]),([9,4,0,1,2,3,4,9,10],[4,9]),([10,8,11,0,1,2,3,4,5,6,7,8,9,10,11],[8,10])])
def impl_heightAt.B4:List Nat:=[0,0,2,7,15,0,0,96,224,0,0,1567,4095]
theorem impl_heightAt.tab4:rtab .any (opsOf Try.f63 4) = impl_heightAt.T4:=by kernel_rfl
theorem impl_heightAt.bits4:waitsOk impl_heightAt.T4.2 impl_heightAt.B4 = true:=by kernel_rfl
set_option maxHeartbeats 8000000 in
set_option maxRecDepth 100000 in
theorem impl_heightAt.calls (k:Nat) (A0:Option Addr) (c0:Nat) (l0:List (S60)) (a1:Int) (r1:Int) (r2:Int) (w:World) (hr0:Kd.C k60 w A0 l0.length l0) (hc0:l0.length ≤ c0) (h:impl_heightAt.f k l0 a1 = some (r1,r2)) :
  Calls Try.prog 63 #[.slice A0 l0.length c0,.int .i64 a1] w fun e w'=>e = .returned (.tuple #[.int .i64 r1,.int .i64 r2]) ∧ Below w.heap.size w w':=by
 have hu60:=Try.underlying60;have HR0:=zM hr0;have HC0:=zM hc0;clear hr0 hc0;have HB:=zM (Below.refl w.heap.size w);have H:(impl_heightAt.l0 k l0 a1 1) = some (r1,r2):=h
 clear h;have H':=zM H;clear H;go_enter Try.func63,Try.ntmps63
 go_wp2
 go_loopg [6] k (fun kq v6 w' => ∃ (x6_1:Int),v6 = .int .i64 x6_1 ∧ Aside0 (impl_heightAt.l0 kq l0 a1 x6_1 = some (r1,r2)) ∧ Aside0 (kq ≤ k) ∧ Aside0 (Below w.heap.size w w'))
 case atStart=>exact ⟨(1),(by first|rfl|(simp;done)|(simp [*];done)),H',⟨Nat.le_refl _⟩,⟨by repeat (first|(with_reducible first|exact HB.out|apply zD|apply zE|apply zF)|exact HB.out)⟩⟩
 case round =>
  clear H';(try clear p2);obtain ⟨x6_1,rfl,HA,HK1,HB⟩:=hrel;cases gk with
  | zero=>exact absurd HA.out (by simp [impl_heightAt.l0])
  | succ k1 =>
   have H:=HA.out;clear HA;simp only [impl_heightAt.l0] at H
   by_cases c3:0 ≤ x6_1
   ·rw [if_pos c3] at H
    have c3b0:decide (0 ≤ x6_1) = true:=decide_eq_true c3
    clear c3;by_cases c4:x6_1 < (l0.length:Int)
    ·rw [if_pos c4] at H
     have c4b0:decide (x6_1 < (l0.length:Int)) = true:=decide_eq_true c4
     clear c4;by_cases c5:((rd_T60 l0 x6_1).f0) < a1
     ·rw [if_pos c5] at H
      have c5b0:decide (((rd_T60 l0 x6_1).f0) < a1) = true:=decide_eq_true c5
      clear c5;have H':=zM H;clear H;have p284:0 ≤ (x6_1:Int):=of_decide_eq_true (by first|(with_reducible assumption)|assumption)
      have q284:x6_1 < (l0.length:Int):=of_decide_eq_true (by first|(with_reducible assumption)|assumption)
      obtain ⟨ad284,e284,hx284_0,hx284_1⟩:=at_T60 HR0.out x6_1 p284 q284;cases e284
      replace hx284_0:=zS HB.out hx284_0;replace hx284_1:=zS HB.out hx284_1;replace p284:=eq_true p284;replace q284:=eq_true q284;go_wp2
      go_roundg k1
      case measure=>have:=HK1.out;omega
      case rel=>exact ⟨(wrap64 (x6_1 + 1)),(by first|rfl|(simp;done)|(simp [*];done)),H',⟨by have:=HK1.out;omega⟩,⟨by repeat (first|(with_reducible first|exact HB.out|apply zD|apply zE|apply zF)|exact HB.out)⟩⟩
     ·rw [if_neg c5] at H
      have c5b0:decide (((rd_T60 l0 x6_1).f0) < a1) = false:=decide_eq_false c5
      clear c5;obtain ⟨ji6,hji6⟩ : ∃ j_:Int,(wrap64 (x6_1 - 1)) = j_:=⟨_,rfl⟩
      replace H:(if 0 ≤ (ji6) then (if (ji6) < (l0.length:Int) then (some (wrap64 ((wrap64 (((rd_T60 l0 (ji6)).f1) * (wrap64 (((rd_T60 l0 x6_1).f0) - ((rd_T60 l0 (ji6)).f0))))) + (wrap64 ((wrap64 (((rd_T60 l0 x6_1).f1) - ((rd_T60 l0 (ji6)).f1))) * (wrap64 (a1 - ((rd_T60 l0 (ji6)).f0)))))),wrap64 (((rd_T60 l0 x6_1).f0) - ((rd_T60 l0 (ji6)).f0)))) else (none)) else (none)) = some (r1,r2):=by first|(rw [hji6] at H;exact H)|(simp only [hji6] at H ⊢;exact H)
      have hji6w:(IntKind.i64.wrap (x6_1 - 1)) = ji6:=(i64_w _).trans hji6
      by_cases c7:0 ≤ (ji6)
      ·rw [if_pos c7] at H
       have c7b0:decide (0 ≤ (ji6)) = true:=decide_eq_true c7
       clear c7;by_cases c8:(ji6) < (l0.length:Int)
       ·rw [if_pos c8] at H
        have c8b0:decide ((ji6) < (l0.length:Int)) = true:=decide_eq_true c8
        clear c8;simp only [Option.some.injEq,Prod.mk.injEq] at H
        obtain ⟨rfl,rfl⟩:=H;have p284:0 ≤ (x6_1:Int):=of_decide_eq_true (by first|(with_reducible assumption)|assumption)
        have q284:x6_1 < (l0.length:Int):=of_decide_eq_true (by first|(with_reducible assumption)|assumption)
        obtain ⟨ad284,e284,hx284_0,hx284_1⟩:=at_T60 HR0.out x6_1 p284 q284;cases e284
        replace hx284_0:=zS HB.out hx284_0;replace hx284_1:=zS HB.out hx284_1;replace p284:=eq_true p284;replace q284:=eq_true q284;try go_wp2
        have n0_:=zM (zF HB.out);clear HB;have HB:=n0_;clear n0_;have p285:0 ≤ ((ji6):Int):=of_decide_eq_true (by first|(with_reducible assumption)|assumption)
        have q285:(ji6) < (l0.length:Int):=of_decide_eq_true (by first|(with_reducible assumption)|assumption)
        obtain ⟨ad285,e285,hx285_0,hx285_1⟩:=at_T60 HR0.out (ji6) p285 q285;have hw285_1:=hx285_1;have hw285_0:=hx285_0;obtain rfl:ad284 = ad285:=(by injection e285)
        replace hx285_0:=zS HB.out hx285_0;replace hx285_1:=zS HB.out hx285_1;replace p285:=eq_true p285;replace q285:=eq_true q285;have p286:0 ≤ (x6_1:Int):=of_decide_eq_true (by first|(with_reducible assumption)|assumption)
        have q286:x6_1 < (l0.length:Int):=of_decide_eq_true (by first|(with_reducible assumption)|assumption)
        obtain ⟨ad286,e286,hx286_0,hx286_1⟩:=at_T60 HR0.out x6_1 p286 q286;have hw286_1:=hx286_1;have hw286_0:=hx286_0;obtain rfl:ad284 = ad286:=(by injection e286)
        replace hx286_0:=zS HB.out hx286_0;replace hx286_1:=zS HB.out hx286_1;replace p286:=eq_true p286;replace q286:=eq_true q286;refine start_ (n:=13) (S:=fun w'=>w'.cell? (ad284.add (((ji6)).toNat * 2)) = some (.int .i64 ((rd_T60 l0 (ji6)).f0)) ∧ w'.cell? ⟨(ad284.add (((ji6)).toNat * 2)).block,(ad284.add (((ji6)).toNat * 2)).off + 1,none⟩ = some (.int .i64 ((rd_T60 l0 (ji6)).f1)) ∧ w'.cell? (ad284.add ((x6_1).toNat * 2)) = some (.int .i64 ((rd_T60 l0 x6_1).f0)) ∧ w'.cell? ⟨(ad284.add ((x6_1).toNat * 2)).block,(ad284.add ((x6_1).toNat * 2)).off + 1,none⟩ = some (.int .i64 ((rd_T60 l0 x6_1).f1))) (ds:=[]) #[false,false,false,false,false,false,false,false,false,false,false,false,false] (by kernel_rfl) rfl rfl ⟨(zS HB.out hw285_0),(zS HB.out hw285_1),(zS HB.out hw286_0),(zS HB.out hw286_1)⟩ (fun hHeld=>?_);refine with_tabW impl_heightAt.tab4 impl_heightAt.bits4 (fun HT_ HW_=>?_)
        generalize wr.drew = w9 at HB hx285_0 hx285_1 hx286_0 hx286_1 hHeld ⊢
        refine pure_ (i:=0) (N:=some 19) (v:=?_) (a':=?_) #[true,false,false,false,false,false,false,false,false,false,false,false,false] rfl rfl (any_of HT_.out (by kernel_rfl)) (fun _ _ _ h=>h) (Or.inl ⟨by rfl,?_⟩) ?_ ?_
        rotate_left
        ·intro w'
         go_simp
         with_reducible rfl
        rotate_left
        ·simp only [Act.put,zT,zU,zV,i64_w,i32_w]
         rfl
        refine pure_ (i:=1) (N:=some 20) (v:=?_) (a':=?_) #[true,true,false,false,false,false,false,false,false,false,false,false,false] rfl rfl (any_of HT_.out (by kernel_rfl)) (fun _ _ _ h=>h) (Or.inl ⟨by rfl,?_⟩) ?_ ?_
        rotate_left
        ·intro w'
         go_simp
         with_reducible rfl
        rotate_left
        ·simp only [Act.put,zT,zU,zV,i64_w,i32_w]
         rfl
        refine pure_ (i:=2) (N:=some 21) (v:=?_) (a':=?_) #[true,true,true,false,false,false,false,false,false,false,false,false,false] rfl rfl (any_of HT_.out (by kernel_rfl)) (fun _ _ _ h=>h) (Or.inl ⟨by rfl,?_⟩) ?_ ?_
        rotate_left
        ·intro w'
         go_simp
         with_reducible rfl
        rotate_left
        ·simp only [Act.put,zT,zU,zV,i64_w,i32_w]
         rfl
        refine pure_ (i:=3) (N:=some 22) (v:=?_) (a':=?_) #[true,true,true,true,false,false,false,false,false,false,false,false,false] rfl rfl (any_of HT_.out (by kernel_rfl)) (fun _ _ _ h=>h) (Or.inl ⟨by rfl,?_⟩) ?_ ?_
        rotate_left
        ·intro w'
         go_simp
         with_reducible rfl
        rotate_left
        ·simp only [Act.put,zT,zU,zV,i64_w,i32_w]
         rfl
        refine pure_ (i:=5) (N:=some 24) (v:=?_) (a':=?_) #[true,true,true,true,false,true,false,false,false,false,false,false,false] rfl rfl (any_of HT_.out (by kernel_rfl)) (fun _ _ _ h=>h) (Or.inl ⟨by rfl,?_⟩) ?_ ?_
        rotate_left
        ·intro w'
         go_simp
         with_reducible rfl
        rotate_left
        ·simp only [Act.put,zT,zU,zV,i64_w,i32_w]
         rfl
        refine pure_ (i:=6) (N:=some 25) (v:=?_) (a':=?_) #[true,true,true,true,false,true,true,false,false,false,false,false,false] rfl rfl (any_of HT_.out (by kernel_rfl)) (fun _ _ _ h=>h) (Or.inl ⟨by rfl,?_⟩) ?_ ?_
        rotate_left
        ·intro w'
         go_simp
         with_reducible rfl
        rotate_left
        ·simp only [Act.put,zT,zU,zV,i64_w,i32_w]
         rfl
        refine pure_ (i:=7) (N:=some 26) (v:=?_) (a':=?_) #[true,true,true,true,false,true,true,true,false,false,false,false,false] rfl rfl (any_of HT_.out (by kernel_rfl)) (fun _ _ _ h=>h) (Or.inl ⟨by rfl,?_⟩) ?_ ?_
        rotate_left
        ·intro w'
         go_simp
         with_reducible rfl
        rotate_left
        ·simp only [Act.put,zT,zU,zV,i64_w,i32_w]
         rfl
        refine take_ (i:=4) (N:=some 23) (v:=?_) (a':=?_) #[true,true,true,true,true,true,true,true,false,false,false,false,false] rfl rfl (take_ofW HT_.out HW_.out (by kernel_rfl)) (fun _ _ _ h=>h) (Or.inl ⟨by rfl,?_⟩) hHeld ?_ ?_
        rotate_left
        ·rintro w' ⟨s0,s1,s2,s3⟩
         go_simp
         with_reducible rfl
        rotate_left
        ·simp only [Act.put,zT,zU,zV,i64_w,i32_w]
         rfl
        refine take_ (i:=8) (N:=some 27) (v:=?_) (a':=?_) #[true,true,true,true,true,true,true,true,true,false,false,false,false] rfl rfl (take_ofW HT_.out HW_.out (by kernel_rfl)) (fun _ _ _ h=>h) (Or.inl ⟨by rfl,?_⟩) hHeld ?_ ?_
        rotate_left
        ·rintro w' ⟨s0,s1,s2,s3⟩
         go_simp
         with_reducible rfl
        rotate_left
        ·simp only [Act.put,zT,zU,zV,i64_w,i32_w]
         rfl
        refine join_ (σ:=Nat × Nat) 2 #[true,true,true,true,true,true,true,true,true,true,true,false,false] (fun s_=>[(7,.pointer (some ⟨s_.1,0,none⟩)),(8,.pointer (some ⟨s_.2,0,none⟩))]) (fun s_ w'=>(w'.cell? (ad284.add (((ji6)).toNat * 2)) = some (.int .i64 ((rd_T60 l0 (ji6)).f0)) ∧ w'.cell? ⟨(ad284.add (((ji6)).toNat * 2)).block,(ad284.add (((ji6)).toNat * 2)).off + 1,none⟩ = some (.int .i64 ((rd_T60 l0 (ji6)).f1)) ∧ w'.cell? (ad284.add ((x6_1).toNat * 2)) = some (.int .i64 ((rd_T60 l0 x6_1).f0)) ∧ w'.cell? ⟨(ad284.add ((x6_1).toNat * 2)).block,(ad284.add ((x6_1).toNat * 2)).off + 1,none⟩ = some (.int .i64 ((rd_T60 l0 x6_1).f1))) ∧ (w'.heap[s_.1]? = some (.cells #[.int .i64 0,.int .i64 0] 60 (0,0))) ∧ (w'.heap[s_.2]? = some (.cells #[.int .i64 0,.int .i64 0] 60 (0,0))) ∧ (w.heap.size ≤ s_.1) ∧ (w.heap.size ≤ s_.1) ∧ (s_.2 ≠ s_.1) ∧ (s_.1 ≠ s_.2) ∧ (w.heap.size ≤ s_.2) ∧ (w.heap.size ≤ s_.2) ∧ (Below w.heap.size w w')) ?_ ?_
        rotate_left
        ·intro hCont
         refine two_ (i:=9) (j:=10) (Ni:=some 7) (Nj:=some 8) #[true,true,true,true,true,true,true,true,true,true,false,false,false] #[true,true,true,true,true,true,true,true,true,false,true,false,false] rfl rfl rfl rfl (two_of HT_.out (by kernel_rfl)) (by decide) (by decide) (fun K hK=>?_) (fun K hK=>?_)
         ·skip
          refine box_step ?hg (N:=7) ?hd (cs := #[.int .i64 0,.int .i64 0]) (t:=60) ?hr ?_;(case hd=>rfl);(case hg=>rfl);(case hr=>first|(go_simp;done)|(go_simp;rfl))
          intro gb287 hg w10 hbox hb;have n0_:=zM (zQ (by repeat (first|(with_reducible first|exact HB.out|apply zD|apply zE|apply zF)|exact HB.out)) hb)
          have n1_:=zM (hbox);have n2_:=zM ((by rw [hg];exact (zR (by repeat (first|(with_reducible first|exact HB.out|apply zD|apply zE|apply zF)|exact HB.out))):w.heap.size ≤ gb287))
          have n3_:=zM ((by rw [hg];exact (zR (by repeat (first|(with_reducible first|exact HB.out|apply zD|apply zE|apply zF)|exact HB.out))):w.heap.size ≤ gb287))
          clear HB;have HB:=n0_;have BK287:=n1_;have GW287:=n2_;have GE287:=n3_;clear n0_ n1_ n2_ n3_;clear hb hbox hg;refine hK.out _ _ ⟨(zS HB.out hw285_0),(zS HB.out hw285_1),(zS HB.out hw286_0),(zS HB.out hw286_1)⟩ (fun hHeld=>?_)
          clear hK K;refine norm_ (a':=?_) ?_ ?_
          rotate_left
          ·show Act.put _ (some 7) _ = _
           simp only [Act.put,zT,zU,zV,i64_w,i32_w]
           rfl
          refine one_ (i:=10) (N:=some 8) #[true,true,true,true,true,true,true,true,true,true,true,false,false] rfl rfl (one_of HT_.out (by kernel_rfl)) (by decide) (fun K hK=>?_)
          refine box_step ?hg (N:=8) ?hd (cs := #[.int .i64 0,.int .i64 0]) (t:=60) ?hr ?_;(case hd=>rfl);(case hg=>rfl);(case hr=>first|(go_simp;done)|(go_simp;rfl))
          intro gb288 hg w11 hbox hb;have n0_:=zM (blk_below (g:=gb287) (o := .cells #[.int .i64 0,.int .i64 0] 60 (0,0)) (by (with_reducible repeat (first|refine zJ ?_ _|refine zK ?_|refine zL ?_ _));exact BK287.out) hb)
          have n1_:=zM (zQ (by repeat (first|(with_reducible first|exact HB.out|apply zD|apply zE|apply zF|refine below_set ?_ GE287.out)|exact HB.out)) hb)
          have n2_:=zM (hbox);have n3_:=zM ((by rw [hg];exact (zR (by repeat (first|(with_reducible first|exact HB.out|apply zD|apply zE|apply zF|refine below_set ?_ GE287.out)|exact HB.out))):w.heap.size ≤ gb288))
          have n4_:=zM ((by rw [hg];exact (zR (by repeat (first|(with_reducible first|exact HB.out|apply zD|apply zE|apply zF|refine below_set ?_ GE287.out)|exact HB.out))):w.heap.size ≤ gb288))
          have n5_:=zM ((by rw [hg];exact Nat.ne_of_lt (blk_lt (g:=gb287) (o := .cells #[.int .i64 0,.int .i64 0] 60 (0,0)) (by (with_reducible repeat (first|refine zJ ?_ _|refine zK ?_|refine zL ?_ _));exact BK287.out)):gb287 ≠ gb288))
          have n6_:=zM ((by rw [hg];exact Nat.ne_of_gt (blk_lt (g:=gb287) (o := .cells #[.int .i64 0,.int .i64 0] 60 (0,0)) (by (with_reducible repeat (first|refine zJ ?_ _|refine zK ?_|refine zL ?_ _));exact BK287.out)):gb288 ≠ gb287))
          clear BK287;clear HB;have BK287:=n0_;have HB:=n1_;have BK288:=n2_;have GW288:=n3_;have GE288:=n4_;have NB287_288:=n5_;have NB288_287:=n6_;clear n0_ n1_ n2_ n3_ n4_ n5_ n6_;clear hb hbox hg;refine hK.out _ _ ⟨(zS HB.out hw285_0),(zS HB.out hw285_1),(zS HB.out hw286_0),(zS HB.out hw286_1)⟩ (fun hHeld=>?_)
          clear hK K;refine norm_ (a':=?_) ?_ ?_
          rotate_left
          ·show Act.put _ (some 8) _ = _
           simp only [Act.put,zT,zU,zV,i64_w,i32_w]
           rfl
          exact norm_ (by simp only [putAll,Act.put,List.setIfInBounds_toArray,List.set_cons_zero,List.set_cons_succ]) (hCont (gb287,gb288) _ ⟨hHeld,(by (with_reducible repeat (first|refine zJ ?_ _|refine zK ?_|refine zL ?_ _));exact BK287.out),(by (with_reducible repeat (first|refine zJ ?_ _|refine zK ?_|refine zL ?_ _));exact BK288.out),GW287.out,GE287.out,NB288_287.out,NB287_288.out,GW288.out,GE288.out,(by repeat (first|(with_reducible first|exact HB.out|apply zD|apply zE|apply zF|refine below_set ?_ GE287.out|refine below_set ?_ GE288.out)|exact HB.out))⟩)
         ·skip
          refine box_step ?hg (N:=8) ?hd (cs := #[.int .i64 0,.int .i64 0]) (t:=60) ?hr ?_;(case hd=>rfl);(case hg=>rfl);(case hr=>first|(go_simp;done)|(go_simp;rfl))
          intro gb288 hg w10 hbox hb;have n0_:=zM (zQ (by repeat (first|(with_reducible first|exact HB.out|apply zD|apply zE|apply zF)|exact HB.out)) hb)
          have n1_:=zM (hbox);have n2_:=zM ((by rw [hg];exact (zR (by repeat (first|(with_reducible first|exact HB.out|apply zD|apply zE|apply zF)|exact HB.out))):w.heap.size ≤ gb288))
          have n3_:=zM ((by rw [hg];exact (zR (by repeat (first|(with_reducible first|exact HB.out|apply zD|apply zE|apply zF)|exact HB.out))):w.heap.size ≤ gb288))
          clear HB;have HB:=n0_;have BK288:=n1_;have GW288:=n2_;have GE288:=n3_;clear n0_ n1_ n2_ n3_;clear hb hbox hg;refine hK.out _ _ ⟨(zS HB.out hw285_0),(zS HB.out hw285_1),(zS HB.out hw286_0),(zS HB.out hw286_1)⟩ (fun hHeld=>?_)
          clear hK K;refine norm_ (a':=?_) ?_ ?_
          rotate_left
          ·show Act.put _ (some 8) _ = _
           simp only [Act.put,zT,zU,zV,i64_w,i32_w]
           rfl
          refine one_ (i:=9) (N:=some 7) #[true,true,true,true,true,true,true,true,true,true,true,false,false] rfl rfl (one_of HT_.out (by kernel_rfl)) (by decide) (fun K hK=>?_)
          refine box_step ?hg (N:=7) ?hd (cs := #[.int .i64 0,.int .i64 0]) (t:=60) ?hr ?_;(case hd=>rfl);(case hg=>rfl);(case hr=>first|(go_simp;done)|(go_simp;rfl))
          intro gb287 hg w11 hbox hb;have n0_:=zM (blk_below (g:=gb288) (o := .cells #[.int .i64 0,.int .i64 0] 60 (0,0)) (by (with_reducible repeat (first|refine zJ ?_ _|refine zK ?_|refine zL ?_ _));exact BK288.out) hb)
          have n1_:=zM (zQ (by repeat (first|(with_reducible first|exact HB.out|apply zD|apply zE|apply zF|refine below_set ?_ GE288.out)|exact HB.out)) hb)
          have n2_:=zM (hbox);have n3_:=zM ((by rw [hg];exact (zR (by repeat (first|(with_reducible first|exact HB.out|apply zD|apply zE|apply zF|refine below_set ?_ GE288.out)|exact HB.out))):w.heap.size ≤ gb287))
          have n4_:=zM ((by rw [hg];exact (zR (by repeat (first|(with_reducible first|exact HB.out|apply zD|apply zE|apply zF|refine below_set ?_ GE288.out)|exact HB.out))):w.heap.size ≤ gb287))
          have n5_:=zM ((by rw [hg];exact Nat.ne_of_lt (blk_lt (g:=gb288) (o := .cells #[.int .i64 0,.int .i64 0] 60 (0,0)) (by (with_reducible repeat (first|refine zJ ?_ _|refine zK ?_|refine zL ?_ _));exact BK288.out)):gb288 ≠ gb287))
          have n6_:=zM ((by rw [hg];exact Nat.ne_of_gt (blk_lt (g:=gb288) (o := .cells #[.int .i64 0,.int .i64 0] 60 (0,0)) (by (with_reducible repeat (first|refine zJ ?_ _|refine zK ?_|refine zL ?_ _));exact BK288.out)):gb287 ≠ gb288))
          clear BK288;clear HB;have BK288:=n0_;have HB:=n1_;have BK287:=n2_;have GW287:=n3_;have GE287:=n4_;have NB288_287:=n5_;have NB287_288:=n6_;clear n0_ n1_ n2_ n3_ n4_ n5_ n6_;clear hb hbox hg;refine hK.out _ _ ⟨(zS HB.out hw285_0),(zS HB.out hw285_1),(zS HB.out hw286_0),(zS HB.out hw286_1)⟩ (fun hHeld=>?_)
          clear hK K;refine norm_ (a':=?_) ?_ ?_
          rotate_left
          ·show Act.put _ (some 7) _ = _
           simp only [Act.put,zT,zU,zV,i64_w,i32_w]
           rfl
          exact norm_ (by simp only [putAll,Act.put,List.setIfInBounds_toArray,List.set_cons_zero,List.set_cons_succ]) (hCont (gb287,gb288) _ ⟨hHeld,(by (with_reducible repeat (first|refine zJ ?_ _|refine zK ?_|refine zL ?_ _));exact BK287.out),(by (with_reducible repeat (first|refine zJ ?_ _|refine zK ?_|refine zL ?_ _));exact BK288.out),GW287.out,GE287.out,NB288_287.out,NB287_288.out,GW288.out,GE288.out,(by repeat (first|(with_reducible first|exact HB.out|apply zD|apply zE|apply zF|refine below_set ?_ GE288.out|refine below_set ?_ GE287.out)|exact HB.out))⟩)
        rintro ⟨gb287,gb288⟩ w12 ⟨hS_,h0_,h1_,h2_,h3_,h4_,h5_,h6_,h7_,h8_⟩
        have n0_:Aside0 (w12.heap[gb287]? = some (.cells #[.int .i64 0,.int .i64 0] 60 (0,0))):=⟨h0_⟩
        have n1_:Aside0 (w12.heap[gb288]? = some (.cells #[.int .i64 0,.int .i64 0] 60 (0,0))):=⟨h1_⟩
        have n2_:Aside0 (w.heap.size ≤ gb287):=⟨h2_⟩
        have n3_:Aside0 (w.heap.size ≤ gb287):=⟨h3_⟩
        have n4_:Aside0 (gb288 ≠ gb287):=⟨h4_⟩
        have n5_:Aside0 (gb287 ≠ gb288):=⟨h5_⟩
        have n6_:Aside0 (w.heap.size ≤ gb288):=⟨h6_⟩
        have n7_:Aside0 (w.heap.size ≤ gb288):=⟨h7_⟩
        have n8_:Aside0 (Below w.heap.size w w12):=⟨h8_⟩
        clear HB;clear h0_ h1_ h2_ h3_ h4_ h5_ h6_ h7_ h8_;have BK287:=n0_;have BK288:=n1_;have GW287:=n2_;have GE287:=n3_;have NB288_287:=n4_;have NB287_288:=n5_;have GW288:=n6_;have GE288:=n7_;have HB:=n8_;clear n0_ n1_ n2_ n3_ n4_ n5_ n6_ n7_ n8_;have hHeld:w12.cell? (ad284.add (((ji6)).toNat * 2)) = some (.int .i64 ((rd_T60 l0 (ji6)).f0)) ∧ w12.cell? ⟨(ad284.add (((ji6)).toNat * 2)).block,(ad284.add (((ji6)).toNat * 2)).off + 1,none⟩ = some (.int .i64 ((rd_T60 l0 (ji6)).f1)) ∧ w12.cell? (ad284.add ((x6_1).toNat * 2)) = some (.int .i64 ((rd_T60 l0 x6_1).f0)) ∧ w12.cell? ⟨(ad284.add ((x6_1).toNat * 2)).block,(ad284.add ((x6_1).toNat * 2)).off + 1,none⟩ = some (.int .i64 ((rd_T60 l0 x6_1).f1)):=hS_
        refine norm_ (a':=?_) ?_ ?_
        rotate_left
        ·simp only [putAll,Act.put,List.setIfInBounds_toArray,List.set_cons_zero,List.set_cons_succ]
         rfl
        refine one_ (i:=11) (N:=none) #[true,true,true,true,true,true,true,true,true,true,true,true,false] rfl rfl (one_of HT_.out (by kernel_rfl)) (by decide) (fun K hK=>?_)
        have hs13:w12.cell? ⟨gb287,0,none⟩ = some (.int .i64 0):=(blk_cell BK287.out 0).trans rfl
        have hfs13:=blk_frozen BK287.out 0;have hns13_1:=NB288_287.out;have hms13_1:=NB287_288.out;have hs14:w12.cell? ⟨gb287,1,none⟩ = some (.int .i64 0):=(blk_cell BK287.out 1).trans rfl
        have hfs14:=blk_frozen BK287.out 1;have hns14_1:=NB288_287.out;have hms14_1:=NB287_288.out;refine skip_ (w1:=?_) (by rfl) rfl ?_ ?_
        rotate_left
        ·go_simp
         rfl
        refine hK.out _ _ ⟨((cell_far (p:=⟨gb287,_,none⟩) (by first|exact Nat.ne_of_lt (Nat.lt_of_lt_of_le (by have:=World.block_lt_of_cell? _ _ hw285_0;first|rwa [add_block] at this|exact this) GW287.out)|(rw [add_block];exact Nat.ne_of_lt (Nat.lt_of_lt_of_le (by have:=World.block_lt_of_cell? _ _ hw285_0;first|rwa [add_block] at this|exact this) GW287.out))|(show (Addr.add _ _).block ≠ _;rw [add_block];exact Nat.ne_of_lt (Nat.lt_of_lt_of_le (by have:=World.block_lt_of_cell? _ _ hw285_0;first|rwa [add_block] at this|exact this) GW287.out))|(dsimp only;exact Nat.ne_of_lt (Nat.lt_of_lt_of_le (by have:=World.block_lt_of_cell? _ _ hw285_0;first|rwa [add_block] at this|exact this) GW287.out))) _).trans (((cell_far (p:=⟨gb287,_,none⟩) (by first|exact Nat.ne_of_lt (Nat.lt_of_lt_of_le (by have:=World.block_lt_of_cell? _ _ hw285_0;first|rwa [add_block] at this|exact this) GW287.out)|(rw [add_block];exact Nat.ne_of_lt (Nat.lt_of_lt_of_le (by have:=World.block_lt_of_cell? _ _ hw285_0;first|rwa [add_block] at this|exact this) GW287.out))|(show (Addr.add _ _).block ≠ _;rw [add_block];exact Nat.ne_of_lt (Nat.lt_of_lt_of_le (by have:=World.block_lt_of_cell? _ _ hw285_0;first|rwa [add_block] at this|exact this) GW287.out))|(dsimp only;exact Nat.ne_of_lt (Nat.lt_of_lt_of_le (by have:=World.block_lt_of_cell? _ _ hw285_0;first|rwa [add_block] at this|exact this) GW287.out))) _).trans (hHeld.1)))),((cell_far (p:=⟨gb287,_,none⟩) (by first|exact Nat.ne_of_lt (Nat.lt_of_lt_of_le (by have:=World.block_lt_of_cell? _ _ hw285_1;first|rwa [add_block] at this|exact this) GW287.out)|(rw [add_block];exact Nat.ne_of_lt (Nat.lt_of_lt_of_le (by have:=World.block_lt_of_cell? _ _ hw285_1;first|rwa [add_block] at this|exact this) GW287.out))|(show (Addr.add _ _).block ≠ _;rw [add_block];exact Nat.ne_of_lt (Nat.lt_of_lt_of_le (by have:=World.block_lt_of_cell? _ _ hw285_1;first|rwa [add_block] at this|exact this) GW287.out))|(dsimp only;exact Nat.ne_of_lt (Nat.lt_of_lt_of_le (by have:=World.block_lt_of_cell? _ _ hw285_1;first|rwa [add_block] at this|exact this) GW287.out))) _).trans (((cell_far (p:=⟨gb287,_,none⟩) (by first|exact Nat.ne_of_lt (Nat.lt_of_lt_of_le (by have:=World.block_lt_of_cell? _ _ hw285_1;first|rwa [add_block] at this|exact this) GW287.out)|(rw [add_block];exact Nat.ne_of_lt (Nat.lt_of_lt_of_le (by have:=World.block_lt_of_cell? _ _ hw285_1;first|rwa [add_block] at this|exact this) GW287.out))|(show (Addr.add _ _).block ≠ _;rw [add_block];exact Nat.ne_of_lt (Nat.lt_of_lt_of_le (by have:=World.block_lt_of_cell? _ _ hw285_1;first|rwa [add_block] at this|exact this) GW287.out))|(dsimp only;exact Nat.ne_of_lt (Nat.lt_of_lt_of_le (by have:=World.block_lt_of_cell? _ _ hw285_1;first|rwa [add_block] at this|exact this) GW287.out))) _).trans (hHeld.2.1)))),((cell_far (p:=⟨gb287,_,none⟩) (by first|exact Nat.ne_of_lt (Nat.lt_of_lt_of_le (by have:=World.block_lt_of_cell? _ _ hw286_0;first|rwa [add_block] at this|exact this) GW287.out)|(rw [add_block];exact Nat.ne_of_lt (Nat.lt_of_lt_of_le (by have:=World.block_lt_of_cell? _ _ hw286_0;first|rwa [add_block] at this|exact this) GW287.out))|(show (Addr.add _ _).block ≠ _;rw [add_block];exact Nat.ne_of_lt (Nat.lt_of_lt_of_le (by have:=World.block_lt_of_cell? _ _ hw286_0;first|rwa [add_block] at this|exact this) GW287.out))|(dsimp only;exact Nat.ne_of_lt (Nat.lt_of_lt_of_le (by have:=World.block_lt_of_cell? _ _ hw286_0;first|rwa [add_block] at this|exact this) GW287.out))) _).trans (((cell_far (p:=⟨gb287,_,none⟩) (by first|exact Nat.ne_of_lt (Nat.lt_of_lt_of_le (by have:=World.block_lt_of_cell? _ _ hw286_0;first|rwa [add_block] at this|exact this) GW287.out)|(rw [add_block];exact Nat.ne_of_lt (Nat.lt_of_lt_of_le (by have:=World.block_lt_of_cell? _ _ hw286_0;first|rwa [add_block] at this|exact this) GW287.out))|(show (Addr.add _ _).block ≠ _;rw [add_block];exact Nat.ne_of_lt (Nat.lt_of_lt_of_le (by have:=World.block_lt_of_cell? _ _ hw286_0;first|rwa [add_block] at this|exact this) GW287.out))|(dsimp only;exact Nat.ne_of_lt (Nat.lt_of_lt_of_le (by have:=World.block_lt_of_cell? _ _ hw286_0;first|rwa [add_block] at this|exact this) GW287.out))) _).trans (hHeld.2.2.1)))),((cell_far (p:=⟨gb287,_,none⟩) (by first|exact Nat.ne_of_lt (Nat.lt_of_lt_of_le (by have:=World.block_lt_of_cell? _ _ hw286_1;first|rwa [add_block] at this|exact this) GW287.out)|(rw [add_block];exact Nat.ne_of_lt (Nat.lt_of_lt_of_le (by have:=World.block_lt_of_cell? _ _ hw286_1;first|rwa [add_block] at this|exact this) GW287.out))|(show (Addr.add _ _).block ≠ _;rw [add_block];exact Nat.ne_of_lt (Nat.lt_of_lt_of_le (by have:=World.block_lt_of_cell? _ _ hw286_1;first|rwa [add_block] at this|exact this) GW287.out))|(dsimp only;exact Nat.ne_of_lt (Nat.lt_of_lt_of_le (by have:=World.block_lt_of_cell? _ _ hw286_1;first|rwa [add_block] at this|exact this) GW287.out))) _).trans (((cell_far (p:=⟨gb287,_,none⟩) (by first|exact Nat.ne_of_lt (Nat.lt_of_lt_of_le (by have:=World.block_lt_of_cell? _ _ hw286_1;first|rwa [add_block] at this|exact this) GW287.out)|(rw [add_block];exact Nat.ne_of_lt (Nat.lt_of_lt_of_le (by have:=World.block_lt_of_cell? _ _ hw286_1;first|rwa [add_block] at this|exact this) GW287.out))|(show (Addr.add _ _).block ≠ _;rw [add_block];exact Nat.ne_of_lt (Nat.lt_of_lt_of_le (by have:=World.block_lt_of_cell? _ _ hw286_1;first|rwa [add_block] at this|exact this) GW287.out))|(dsimp only;exact Nat.ne_of_lt (Nat.lt_of_lt_of_le (by have:=World.block_lt_of_cell? _ _ hw286_1;first|rwa [add_block] at this|exact this) GW287.out))) _).trans (hHeld.2.2.2))))⟩ (fun hHeld=>?_)
        clear hK K;refine one_ (i:=12) (N:=none) #[true,true,true,true,true,true,true,true,true,true,true,true,true] rfl rfl (one_of HT_.out (by kernel_rfl)) (by decide) (fun K hK=>?_)
        have hs15:w12.cell? ⟨gb288,0,none⟩ = some (.int .i64 0):=(blk_cell BK288.out 0).trans rfl
        have hfs15:=blk_frozen BK288.out 0;have hns15_0:=NB287_288.out;have hms15_0:=NB288_287.out;have hs16:w12.cell? ⟨gb288,1,none⟩ = some (.int .i64 0):=(blk_cell BK288.out 1).trans rfl
        have hfs16:=blk_frozen BK288.out 1;have hns16_0:=NB287_288.out;have hms16_0:=NB288_287.out;refine skip_ (w1:=?_) (by rfl) rfl ?_ ?_
        rotate_left
        ·go_simp
         rfl
        refine hK.out _ _ ⟨((cell_far (p:=⟨gb288,_,none⟩) (by first|exact Nat.ne_of_lt (Nat.lt_of_lt_of_le (by have:=World.block_lt_of_cell? _ _ hw285_0;first|rwa [add_block] at this|exact this) GW288.out)|(rw [add_block];exact Nat.ne_of_lt (Nat.lt_of_lt_of_le (by have:=World.block_lt_of_cell? _ _ hw285_0;first|rwa [add_block] at this|exact this) GW288.out))|(show (Addr.add _ _).block ≠ _;rw [add_block];exact Nat.ne_of_lt (Nat.lt_of_lt_of_le (by have:=World.block_lt_of_cell? _ _ hw285_0;first|rwa [add_block] at this|exact this) GW288.out))|(dsimp only;exact Nat.ne_of_lt (Nat.lt_of_lt_of_le (by have:=World.block_lt_of_cell? _ _ hw285_0;first|rwa [add_block] at this|exact this) GW288.out))) _).trans (((cell_far (p:=⟨gb288,_,none⟩) (by first|exact Nat.ne_of_lt (Nat.lt_of_lt_of_le (by have:=World.block_lt_of_cell? _ _ hw285_0;first|rwa [add_block] at this|exact this) GW288.out)|(rw [add_block];exact Nat.ne_of_lt (Nat.lt_of_lt_of_le (by have:=World.block_lt_of_cell? _ _ hw285_0;first|rwa [add_block] at this|exact this) GW288.out))|(show (Addr.add _ _).block ≠ _;rw [add_block];exact Nat.ne_of_lt (Nat.lt_of_lt_of_le (by have:=World.block_lt_of_cell? _ _ hw285_0;first|rwa [add_block] at this|exact this) GW288.out))|(dsimp only;exact Nat.ne_of_lt (Nat.lt_of_lt_of_le (by have:=World.block_lt_of_cell? _ _ hw285_0;first|rwa [add_block] at this|exact this) GW288.out))) _).trans (hHeld.1)))),((cell_far (p:=⟨gb288,_,none⟩) (by first|exact Nat.ne_of_lt (Nat.lt_of_lt_of_le (by have:=World.block_lt_of_cell? _ _ hw285_1;first|rwa [add_block] at this|exact this) GW288.out)|(rw [add_block];exact Nat.ne_of_lt (Nat.lt_of_lt_of_le (by have:=World.block_lt_of_cell? _ _ hw285_1;first|rwa [add_block] at this|exact this) GW288.out))|(show (Addr.add _ _).block ≠ _;rw [add_block];exact Nat.ne_of_lt (Nat.lt_of_lt_of_le (by have:=World.block_lt_of_cell? _ _ hw285_1;first|rwa [add_block] at this|exact this) GW288.out))|(dsimp only;exact Nat.ne_of_lt (Nat.lt_of_lt_of_le (by have:=World.block_lt_of_cell? _ _ hw285_1;first|rwa [add_block] at this|exact this) GW288.out))) _).trans (((cell_far (p:=⟨gb288,_,none⟩) (by first|exact Nat.ne_of_lt (Nat.lt_of_lt_of_le (by have:=World.block_lt_of_cell? _ _ hw285_1;first|rwa [add_block] at this|exact this) GW288.out)|(rw [add_block];exact Nat.ne_of_lt (Nat.lt_of_lt_of_le (by have:=World.block_lt_of_cell? _ _ hw285_1;first|rwa [add_block] at this|exact this) GW288.out))|(show (Addr.add _ _).block ≠ _;rw [add_block];exact Nat.ne_of_lt (Nat.lt_of_lt_of_le (by have:=World.block_lt_of_cell? _ _ hw285_1;first|rwa [add_block] at this|exact this) GW288.out))|(dsimp only;exact Nat.ne_of_lt (Nat.lt_of_lt_of_le (by have:=World.block_lt_of_cell? _ _ hw285_1;first|rwa [add_block] at this|exact this) GW288.out))) _).trans (hHeld.2.1)))),((cell_far (p:=⟨gb288,_,none⟩) (by first|exact Nat.ne_of_lt (Nat.lt_of_lt_of_le (by have:=World.block_lt_of_cell? _ _ hw286_0;first|rwa [add_block] at this|exact this) GW288.out)|(rw [add_block];exact Nat.ne_of_lt (Nat.lt_of_lt_of_le (by have:=World.block_lt_of_cell? _ _ hw286_0;first|rwa [add_block] at this|exact this) GW288.out))|(show (Addr.add _ _).block ≠ _;rw [add_block];exact Nat.ne_of_lt (Nat.lt_of_lt_of_le (by have:=World.block_lt_of_cell? _ _ hw286_0;first|rwa [add_block] at this|exact this) GW288.out))|(dsimp only;exact Nat.ne_of_lt (Nat.lt_of_lt_of_le (by have:=World.block_lt_of_cell? _ _ hw286_0;first|rwa [add_block] at this|exact this) GW288.out))) _).trans (((cell_far (p:=⟨gb288,_,none⟩) (by first|exact Nat.ne_of_lt (Nat.lt_of_lt_of_le (by have:=World.block_lt_of_cell? _ _ hw286_0;first|rwa [add_block] at this|exact this) GW288.out)|(rw [add_block];exact Nat.ne_of_lt (Nat.lt_of_lt_of_le (by have:=World.block_lt_of_cell? _ _ hw286_0;first|rwa [add_block] at this|exact this) GW288.out))|(show (Addr.add _ _).block ≠ _;rw [add_block];exact Nat.ne_of_lt (Nat.lt_of_lt_of_le (by have:=World.block_lt_of_cell? _ _ hw286_0;first|rwa [add_block] at this|exact this) GW288.out))|(dsimp only;exact Nat.ne_of_lt (Nat.lt_of_lt_of_le (by have:=World.block_lt_of_cell? _ _ hw286_0;first|rwa [add_block] at this|exact this) GW288.out))) _).trans (hHeld.2.2.1)))),((cell_far (p:=⟨gb288,_,none⟩) (by first|exact Nat.ne_of_lt (Nat.lt_of_lt_of_le (by have:=World.block_lt_of_cell? _ _ hw286_1;first|rwa [add_block] at this|exact this) GW288.out)|(rw [add_block];exact Nat.ne_of_lt (Nat.lt_of_lt_of_le (by have:=World.block_lt_of_cell? _ _ hw286_1;first|rwa [add_block] at this|exact this) GW288.out))|(show (Addr.add _ _).block ≠ _;rw [add_block];exact Nat.ne_of_lt (Nat.lt_of_lt_of_le (by have:=World.block_lt_of_cell? _ _ hw286_1;first|rwa [add_block] at this|exact this) GW288.out))|(dsimp only;exact Nat.ne_of_lt (Nat.lt_of_lt_of_le (by have:=World.block_lt_of_cell? _ _ hw286_1;first|rwa [add_block] at this|exact this) GW288.out))) _).trans (((cell_far (p:=⟨gb288,_,none⟩) (by first|exact Nat.ne_of_lt (Nat.lt_of_lt_of_le (by have:=World.block_lt_of_cell? _ _ hw286_1;first|rwa [add_block] at this|exact this) GW288.out)|(rw [add_block];exact Nat.ne_of_lt (Nat.lt_of_lt_of_le (by have:=World.block_lt_of_cell? _ _ hw286_1;first|rwa [add_block] at this|exact this) GW288.out))|(show (Addr.add _ _).block ≠ _;rw [add_block];exact Nat.ne_of_lt (Nat.lt_of_lt_of_le (by have:=World.block_lt_of_cell? _ _ hw286_1;first|rwa [add_block] at this|exact this) GW288.out))|(dsimp only;exact Nat.ne_of_lt (Nat.lt_of_lt_of_le (by have:=World.block_lt_of_cell? _ _ hw286_1;first|rwa [add_block] at this|exact this) GW288.out))) _).trans (hHeld.2.2.2))))⟩ (fun hHeld=>?_)
        clear hK K;refine done_ (done_of HT_.out (by kernel_rfl)) ?_
        have hnb17:=NB288_287.out;have hnc17:=NB287_288.out;have hcz18_0:w12.cell? ⟨gb288,0,none⟩ = some (.int .i64 0):=(blk_cell BK288.out 0).trans rfl
        have hcz18_1:w12.cell? ⟨gb288,1,none⟩ = some (.int .i64 0):=(blk_cell BK288.out 1).trans rfl
        have hfz18_0:=blk_frozen BK288.out 0;have hfz18_1:=blk_frozen BK288.out 1;have hcz19_0:w12.cell? ⟨gb287,0,none⟩ = some (.int .i64 0):=(blk_cell BK287.out 0).trans rfl
        have hcz19_1:w12.cell? ⟨gb287,1,none⟩ = some (.int .i64 0):=(blk_cell BK287.out 1).trans rfl
        have hfz19_0:=blk_frozen BK287.out 0;have hfz19_1:=blk_frozen BK287.out 1;try go_wp2
        go_ret2
        exact ⟨by first|rfl|(simp [errW_none,errW_some] <;> rfl)|(simp only [← hji6];first|rfl|(simp [errW_none,errW_some] <;> rfl))|(simp [*,errW_none,errW_some] <;> rfl),by repeat (first|(with_reducible first|exact HB.out|apply zD|apply zE|apply zF|refine below_set ?_ GE287.out|refine below_set ?_ GE288.out)|exact HB.out)⟩
       ·rw [if_neg c8] at H
        exact absurd H (by simp)
      ·rw [if_neg c7] at H
       exact absurd H (by simp)
    ·rw [if_neg c4] at H
     exact absurd H (by simp)
   ·rw [if_neg c3] at H
    exact absurd H (by simp)

end Go.Proofs.Ytbglkkepfddecaa.G
