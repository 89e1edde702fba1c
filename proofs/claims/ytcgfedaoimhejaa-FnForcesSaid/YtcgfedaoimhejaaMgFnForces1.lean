/- Texts of the proof of FnForces, joined in build order. -/
import Derived.Test.YtcgfedaoimhejaaProg
import Derived.Below
import Derived.Deep.Draws
import Derived.Deep.AppendLies
import Derived.Maps.AppendAt
import Derived.OwnWalk
import Derived.Laws.BytesArg
import Derived.Laws.MakeOwn
import Derived.Laws.OwnMore
import Derived.Deep.OwnRows
import Derived.Tactics
import Derived.Lib.ConvBytes
import Derived.Laws.Slices
import Derived.WalkKit
import Derived.KernelRfl
import Derived.RowKit3
import Derived.Deep.LoopGhost
import Derived.Deep.QuietTactic
import Derived.BigQuiet
import Derived.WideLaws
import Derived.Deep.DeepCutAuto
import Derived.Deep.CutBlock
import Derived.Deep.RegionHeld3
import Derived.Laws.Rows
import Derived.Lib.AppendStr
import Derived.ArgAppend
import Derived.Laws.IdiomCopy
import Derived.OrdersHeld
import Derived.Laws.BitsLemmas
import Derived.RowKit
import Derived.Test.YtcgfedaoimhejaaMgFnForces0
-- Written by wip/tools/gen.py out of the translation (the kit's printer, one namespace a seat). Lean checks it.
namespace Go.Proofs.Ytcgfedaoimhejaa.G
open Go.RowKit Go.Proofs.YtcgfedaoimhejaaW.PrintWords Go.Proofs.YtcgfedaoimhejaaW.PrintLast Go.Proofs.YtcgfedaoimhejaaW.PrintMore
attribute [local go_sem] max2_int min2_int max_two min_two max_three min_three max_four min_four   -- for this text's walks alone
set_option linter.unusedVariables false
set_option linter.unusedSimpArgs false



def errW : Option Int → Value
 | none => .nilIface
 | some c => .iface 0 (.int .i64 c)
theorem errW_none : errW none = .nilIface:=rfl
theorem errW_some (c : Int) : errW (some c) = .iface 0 (.int .i64 c):=rfl

theorem info3 : (Try.prog.info? 3).map (fun i=>(i.zero,i.size,i.bytes)) = some (some (.int .i64 0),1,8):=by kernel_rfl
theorem info4 : (Try.prog.info? 4).map (fun i=>(i.zero,i.size,i.bytes)) = some (some (.bool false),1,1):=by kernel_rfl
theorem info22 : (Try.prog.info? 22).map (fun i=>(i.zero,i.size,i.bytes)) = some (some (.slice none 0 0),1,24):=by kernel_rfl
-- the values' own types
def rd_L1 (xs : List (List Int)) (i : Int) : (List Int):=xs.getD i.toNat ([] : List Int)
theorem at_L1 {w : World} {A : Option Addr} {n : Nat} {xs : List (List Int)} (h : Kd.C (Kd.slice 3 (Kd.int .i64)) w A n xs) (i : Int) (h0 : 0 ≤ i) (h1 : i < n) : ∃ ad A0 c0,A = some ad ∧ w.cell? (ad.add i.toNat) = some (.slice A0 (rd_L1 xs i).length c0) ∧ (rd_L1 xs i).length ≤ c0 ∧ (Kd.int .i64).C w A0 (rd_L1 xs i).length (rd_L1 xs i):=by
 obtain ⟨ad,c,e,_,hK,hc0⟩:=Kd.C_get h ([] : List Int) i h0 h1
 have hc : ∀ j u,c[j]? = some u → w.cell? (ad.add (i.toNat * 1 + j)) = some u:=hc0
 obtain ⟨A0,c0,rfl,l0,g0⟩:=hK
 exact ⟨ad,A0,c0,e,by have hq:=hc 0 _ rfl;rwa [Nat.mul_one,Nat.add_zero] at hq,l0,g0⟩

/-! #### struct type 24 -/
structure S24 where
 f0 : Int
 f1 : Int
 f2 : Int
def z24 : S24:=⟨(0 : Int),(0 : Int),(0 : Int)⟩
def k24 : Kd S24:=Kd.iso (Kd.pair (Kd.int .i64) (Kd.pair (Kd.int .i64) (Kd.int .i64))) (fun x : S24=>(x.f0,x.f1,x.f2))
def rd_T24 (xs : List S24) (i : Int) : S24:=xs.getD i.toNat z24
def rd_L4 (xs : List (List (List Int))) (i : Int) : (List (List Int)):=xs.getD i.toNat ([] : List (List Int))
/-! #### struct type 28 -/
structure S28 where
 f0 : Int
 f1 : Int
 f2 : Int
def z28 : S28:=⟨(0 : Int),(0 : Int),(0 : Int)⟩
def k28 : Kd S28:=Kd.iso (Kd.pair (Kd.int .i64) (Kd.pair (Kd.int .i64) (Kd.int .i64))) (fun x : S28=>(x.f0,x.f1,x.f2))
def rd_T28 (xs : List S28) (i : Int) : S28:=xs.getD i.toNat z28
def rd_L7 (xs : List (List Int)) (i : Int) : (List Int):=xs.getD i.toNat ([] : List Int)
/-- What is known of such a value that came in. -/
def W24 (x : S24) : Prop:=(Lit.int .i64 x.f0).wf = true ∧ (Lit.int .i64 x.f1).wf = true ∧ (Lit.int .i64 x.f2).wf = true
end Go.Proofs.Ytcgfedaoimhejaa.G

namespace Go.Proofs.Ytcgfedaoimhejaa.G
open Go.RowKit Go.Proofs.YtcgfedaoimhejaaW.PrintWords Go.Proofs.YtcgfedaoimhejaaW.PrintLast Go.Proofs.YtcgfedaoimhejaaW.PrintMore
theorem zA {α : Type} {d : Kd α} {e : Nat} {w : World} {base : Nat} {ok : Nat → Prop} {v : Value} {xs : List α} (h : Kd.R d e w base ok v xs) (o : Obj) : Kd.R d e (w.alloc o) base ok v xs := Kd.R_alloc h o
theorem zB {α : Type} {d : Kd α} {e : Nat} {w : World} {base : Nat} {ok : Nat → Prop} {v : Value} {xs : List α} (h : Kd.R d e w base ok v xs) (m : Nat) : Kd.R d e (w.drewN m) base ok v xs := Kd.R_drewN h m
theorem zC {α : Type} {d : Kd α} {e : Nat} {w : World} {base : Nat} {ok : Nat → Prop} {v : Value} {xs : List α} (h : Kd.R d e w base ok v xs) : Kd.R d e w.drew base ok v xs := Kd.R_drew h
theorem zD {w W : World} (h : Below w.heap.size w W) (o : Obj) : Below w.heap.size w (W.alloc o) := below_alloc h o
theorem zE {B : Nat} {w W : World} (h : Below B w W) (n : Nat) : Below B w (W.drewN n) := pw_below_drewN h n
theorem zF {base : Nat} {w W : World} (h : Below base w W) : Below base w W.drew := below_drew1 h
theorem zG {α : Type} {d : Kd α} {w : World} {xs : List α} {A : Option Addr} {n : Nat} (h : Kd.C d w A n xs) (o : Obj) : Kd.C d (w.alloc o) A n xs := Kd.C_alloc h o
theorem zH {α : Type} {d : Kd α} {w : World} {xs : List α} {A : Option Addr} {n : Nat} (h : Kd.C d w A n xs) (m : Nat) : Kd.C d (w.drewN m) A n xs := Kd.C_drewN h m
theorem zI {α : Type} {d : Kd α} {w : World} {xs : List α} {A : Option Addr} {n : Nat} (h : Kd.C d w A n xs) : Kd.C d w.drew A n xs := Kd.C_drew h
theorem zJ {w : World} {g : Nat} {o : Obj} (h : w.heap[g]? = some o) (n : Nat) : (w.drewN n).heap[g]? = some o := blk_drewN h n
theorem zK {w : World} {g : Nat} {o : Obj} (h : w.heap[g]? = some o) : w.drew.heap[g]? = some o := blk_drew h
theorem zL {w : World} {g : Nat} {o : Obj} (h : w.heap[g]? = some o) (o' : Obj) : (w.alloc o').heap[g]? = some o := blk_alloc h o'
theorem zM {p : Prop} (h : p) : Aside0 p := ⟨h⟩
theorem zN {α : Type} {d : Kd α} {e : Nat} {w : World} {base : Nat} {ok : Nat → Prop} {xs : List α} {A : Option Addr} {n c : Nat} (h : Kd.R d e w base ok (.slice A n c) xs) : n = xs.length ∧ n ≤ c ∧ Kd.C d w A xs.length xs := Kd.R_reads' h
theorem zO {α : Type} {d : Kd α} {w w1 : World} {xs : List α} {A : Option Addr} {n : Nat} (h : Kd.C d w A n xs) (b : Below w.heap.size w w1) : Kd.C d w1 A n xs := Kd.C_below h b
theorem zP {α : Type} {d : Kd α} {e : Nat} {w w1 : World} {base : Nat} {ok : Nat → Prop} {v : Value} {xs : List α} (h : Kd.R d e w base ok v xs) (b : Below w.heap.size w w1) : Kd.R d e w1 base ok v xs := Kd.R_below h b
theorem zQ {w W w2 : World} (h : Below w.heap.size w W) (k : Below W.heap.size W w2) : Below w.heap.size w w2 := below_step h k
theorem zR {w W : World} (h : Below w.heap.size w W) : w.heap.size ≤ W.heap.size := below_size h
theorem zS {a b : World} {ad : Addr} {v : Value} (hB : Below a.heap.size a b) (h : a.cell? ad = some v) : b.cell? ad = some v := (hB.cell (World.block_lt_of_cell? a ad h)).trans h
theorem zT {α : Type} {l : List α} {i : Nat} {a : α} : l.toArray.setIfInBounds i a = (l.set i a).toArray := by simp
theorem zU {α : Type} {l : List α} {a b : α} : (a :: l).set 0 b = b :: l := rfl
theorem zV {α : Type} {l : List α} {a b : α} {n : Nat} : (a :: l).set (n + 1) b = a :: l.set n b := rfl
theorem zW (w : World) (a b c : Nat) : (w.drewN (a + b)).drewN c = w.drewN (a + (b + c)) := Eq.trans (World.drewN_drewN _ _ _) (congrArg (World.drewN _) (Nat.add_assoc _ _ _))
end Go.Proofs.Ytcgfedaoimhejaa.G

-- Written by wip/tools/gen.py out of the translation (the kit's printer, one namespace a seat). Lean checks it.
namespace Go.Proofs.Ytcgfedaoimhejaa.G
open Go.RowKit Go.Proofs.YtcgfedaoimhejaaW.PrintWords Go.Proofs.YtcgfedaoimhejaaW.PrintLast Go.Proofs.YtcgfedaoimhejaaW.PrintMore
attribute [local go_sem] max2_int min2_int max_two min_two max_three min_three max_four min_four   -- for this text's walks alone
set_option linter.unusedVariables false
set_option linter.unusedSimpArgs false

/-! ### spec_l1In: function 55 -/
def spec_l1In.f (a0:Int) (a1:Int) (a2:Int):Option (Bool):=if a0 ≥ a1 then (some (decide (a0 ≤ a2))) else (some false)
set_option maxHeartbeats 8000000 in
set_option maxRecDepth 100000 in
theorem spec_l1In.calls (a0:Int) (a1:Int) (a2:Int) (r:Bool) (w:World) (h:spec_l1In.f a0 a1 a2 = some r) :
  Calls Try.prog 55 #[.int .i64 a0,.int .i64 a1,.int .i64 a2] w fun e w'=>e = .returned (.bool r) ∧ Drawn0 w w':=by
 have H:(if a0 ≥ a1 then (some (decide (a0 ≤ a2))) else (some false)) = some r:=h
 clear h;by_cases c4:a0 ≥ a1
 ·rw [if_pos c4] at H
  have c4b0:decide (a1 ≤ a0) = true:=decide_eq_true c4
  clear c4;obtain rfl:=Option.some.inj H;go_enter Try.func55,Try.ntmps55
  go_wp2
  go_ret
  exact ⟨by first|rfl|(simp;done)|(simp [*];done),by repeat (first|exact Drawn0.refl _|apply Drawn0.step)⟩
 ·rw [if_neg c4] at H
  have c4b0:decide (a1 ≤ a0) = false:=decide_eq_false c4
  clear c4;obtain rfl:=Option.some.inj H;go_enter Try.func55,Try.ntmps55
  go_wp2
  go_ret
  exact ⟨by first|rfl|(simp;done)|(simp [*];done),by repeat (first|exact Drawn0.refl _|apply Drawn0.step)⟩



/-! ### spec_l12Weights: function 54 -/
def spec_l12Weights.l0:Nat → List Int → Int → Int → Option (Bool)
 | 0,_,_,_=>none
 | k + 1,x0,x1,x5=>if x5 < (x0.length:Int) then (if 0 ≤ x5 then ((spec_l1In.f (rd x0 x5) 1 32000).bind fun t111=>(if t111 = true then (spec_l12Weights.l0 k x0 x1 (wrap64 (x5 + 1))) else (some false))) else (none)) else (some (decide ((x0.length:Int) ≤ x1)))
def spec_l12Weights.f (k:Nat) (l0:List Int) (a1:Int):Option (Bool):=spec_l12Weights.l0 k l0 a1 0
set_option maxHeartbeats 8000000 in
set_option maxRecDepth 100000 in
theorem spec_l12Weights.calls (k:Nat) (A0:Option Addr) (c0:Nat) (l0:List Int) (a1:Int) (r:Bool) (w:World) (hr0:Kd.C (Kd.int .i64) w A0 l0.length l0) (hc0:l0.length ≤ c0) (h:spec_l12Weights.f k l0 a1 = some r) :
  Calls Try.prog 54 #[.slice A0 l0.length c0,.int .i64 a1] w fun e w'=>e = .returned (.bool r) ∧ Drawn0 w w':=by
 have HR0:=zM hr0;have HC0:=zM hc0;clear hr0 hc0;have H:(spec_l12Weights.l0 k l0 a1 0) = some r:=h
 clear h;have H':=zM H;clear H;go_enter Try.func54,Try.ntmps54
 go_wp2
 go_loopg [5] k (fun kq v5 w' => ∃ (x5_1:Int),v5 = .int .i64 x5_1 ∧ Aside0 (spec_l12Weights.l0 kq l0 a1 x5_1 = some r) ∧ Aside0 (kq ≤ k) ∧ Drawn0 w w')
 case atStart=>exact ⟨(0),(by first|rfl|(simp;done)|(simp [*];done)),H',⟨Nat.le_refl _⟩,by repeat (first|exact Drawn0.refl _|apply Drawn0.step)⟩
 case round =>
  clear H';(try clear p2);obtain ⟨x5_1,rfl,HA,HK1,⟨m1,rfl⟩⟩:=hrel;cases gk with
  | zero=>exact absurd HA.out (by simp [spec_l12Weights.l0])
  | succ k1 =>
   have H:=HA.out;clear HA;simp only [spec_l12Weights.l0] at H
   by_cases c3:x5_1 < (l0.length:Int)
   ·rw [if_pos c3] at H
    have c3b0:decide (x5_1 < (l0.length:Int)) = true:=decide_eq_true c3
    clear c3;by_cases c4:0 ≤ x5_1
    ·rw [if_pos c4] at H
     have c4b0:decide (0 ≤ x5_1) = true:=decide_eq_true c4
     clear c4;replace H:=Option.bind_eq_some_iff.mp H;obtain ⟨t111,A50,H⟩:=H;replace H:(if t111 = true then (spec_l12Weights.l0 k1 l0 a1 (wrap64 (x5_1 + 1))) else (some false)) = some r:=H
     have A5:=zM A50;clear A50;by_cases c6:t111 = true
     ·subst c6
      have H1:(spec_l12Weights.l0 k1 l0 a1 (wrap64 (x5_1 + 1))) = some r:=by rw [if_pos rfl] at H;exact H
      clear H;have H:=H1;clear H1;have H':=zM H;clear H;have p110:0 ≤ (x5_1:Int):=of_decide_eq_true (by first|(with_reducible assumption)|assumption)
      have q110:x5_1 < (l0.length:Int):=of_decide_eq_true (by first|(with_reducible assumption)|assumption)
      obtain ⟨ad110,e110,hx110_0⟩:=Kd.at_int HR0.out x5_1 p110 q110;cases e110
      replace p110:=eq_true p110;replace q110:=eq_true q110;go_wp2_with (first|((with_reducible refine gate_callee (f:=55) rfl ?_);refine goesL_ (some 16) rfl rfl Try.func55 (by kernel_rfl) rfl #[.int .i64 (rd l0 x5_1),.int .i64 1,.int .i64 32000] rfl (by (try simp only [List.map_toArray,List.map_cons,List.map_nil]);first|done|rfl|(simp only [List.length_drop,List.length_take];rfl)) ?_;(with_reducible refine (spec_l1In.calls (rd l0 x5_1) 1 32000 true _ A5.out).mono ?_);rintro e w' ⟨rfl,⟨nd,rfl⟩⟩;refine ⟨_,rfl,?_⟩))
      go_roundg k1
      case measure=>have:=HK1.out;omega
      case rel=>exact ⟨(wrap64 (x5_1 + 1)),(by first|rfl|(simp;done)|(simp [*];done)),H',⟨by have:=HK1.out;omega⟩,by repeat (first|exact Drawn0.refl _|apply Drawn0.step)⟩
     ·replace c6:=Bool.eq_false_iff.mpr c6
      subst c6;have H1:(some false) = some r:=by rw [if_neg (show ¬ (false = true) by decide)] at H;exact H
      clear H;have H:=H1;clear H1;obtain rfl:=Option.some.inj H;have p110:0 ≤ (x5_1:Int):=of_decide_eq_true (by first|(with_reducible assumption)|assumption)
      have q110:x5_1 < (l0.length:Int):=of_decide_eq_true (by first|(with_reducible assumption)|assumption)
      obtain ⟨ad110,e110,hx110_0⟩:=Kd.at_int HR0.out x5_1 p110 q110;cases e110
      replace p110:=eq_true p110;replace q110:=eq_true q110;go_wp2_with (first|((with_reducible refine gate_callee (f:=55) rfl ?_);refine goesL_ (some 16) rfl rfl Try.func55 (by kernel_rfl) rfl #[.int .i64 (rd l0 x5_1),.int .i64 1,.int .i64 32000] rfl (by (try simp only [List.map_toArray,List.map_cons,List.map_nil]);first|done|rfl|(simp only [List.length_drop,List.length_take];rfl)) ?_;(with_reducible refine (spec_l1In.calls (rd l0 x5_1) 1 32000 false _ A5.out).mono ?_);rintro e w' ⟨rfl,⟨nd,rfl⟩⟩;refine ⟨_,rfl,?_⟩))
      go_ret
      exact ⟨by first|rfl|(simp;done)|(simp [*];done),by repeat (first|exact Drawn0.refl _|apply Drawn0.step)⟩
    ·rw [if_neg c4] at H
     exact absurd H (by simp)
   ·rw [if_neg c3] at H
    have c3b0:decide (x5_1 < (l0.length:Int)) = false:=decide_eq_false c3
    clear c3;obtain rfl:=Option.some.inj H;go_wp2
    go_ret
    exact ⟨by first|rfl|(simp;done)|(simp [*];done),by repeat (first|exact Drawn0.refl _|apply Drawn0.step)⟩



/-! ### spec_l12Good: function 44 -/
def spec_l12Good.f (k:Nat) (l0:List Int):Option (Bool):=(spec_l12Weights.f k l0 4).bind fun t112=>(some t112)
set_option maxHeartbeats 8000000 in
set_option maxRecDepth 100000 in
theorem spec_l12Good.calls (k:Nat) (A0:Option Addr) (c0:Nat) (l0:List Int) (r:Bool) (w:World) (hr0:Kd.C (Kd.int .i64) w A0 l0.length l0) (hc0:l0.length ≤ c0) (h:spec_l12Good.f k l0 = some r) :
  Calls Try.prog 44 #[.slice A0 l0.length c0] w fun e w'=>e = .returned (.bool r) ∧ Drawn0 w w':=by
 have HR0:=zM hr0;have HC0:=zM hc0;clear hr0 hc0;have H:((spec_l12Weights.f k l0 4).bind fun t112=>(some t112)) = some r:=h
 clear h;replace H:=Option.bind_eq_some_iff.mp H;obtain ⟨t112,A20,H⟩:=H;replace H:(some t112) = some r:=H
 have A2:=zM A20;clear A20;obtain rfl:=Option.some.inj H;go_enter Try.func44,Try.ntmps44
 go_wp2_with (first|((with_reducible refine gate_callee (f:=54) rfl ?_);refine goesL_ (some 4) rfl rfl Try.func54 (by kernel_rfl) rfl #[.slice A0 l0.length c0,.int .i64 4] rfl (by (try simp only [List.map_toArray,List.map_cons,List.map_nil]);first|done|rfl|(simp only [List.length_drop,List.length_take];rfl)) ?_;(with_reducible refine (spec_l12Weights.calls k _ _ l0 4 t112 _ ?side1 ?side2 A2.out).mono ?_);(case side1=>repeat (first|exact HR0.out|(with_reducible first|refine zG ?_ _|refine zH ?_ _|refine zI ?_)));(case side2=>exact HC0.out);rintro e w' ⟨rfl,⟨nd,rfl⟩⟩;refine ⟨_,rfl,?_⟩))
 go_ret
 exact ⟨by first|rfl|(simp;done)|(simp [*];done),by repeat (first|exact Drawn0.refl _|apply Drawn0.step)⟩



/-! ### spec_l12Rules: function 45 -/
def spec_l12Rules.f (a0_0:Int) (a0_1:Int) (a0_2:Int):Option (Bool):=(spec_l1In.f a0_0 1 200000).bind fun t114=>(if t114 = true then ((spec_l1In.f a0_1 0 100).bind fun t115=>(if t115 = true then ((spec_l1In.f a0_2 1 100000).bind fun t116=>(some t116)) else (some false))) else (some false))
set_option maxHeartbeats 8000000 in
set_option maxRecDepth 100000 in
theorem spec_l12Rules.calls (a0_0:Int) (a0_1:Int) (a0_2:Int) (r:Bool) (w:World) (h:spec_l12Rules.f a0_0 a0_1 a0_2 = some r) :
  Calls Try.prog 45 #[.agg #[.int .i64 a0_0,.int .i64 a0_1,.int .i64 a0_2]] w fun e w'=>e = .returned (.bool r) ∧ Below w.heap.size w w':=by
 have hu28:=Try.underlying28;have HB:=zM (Below.refl w.heap.size w);have H:((spec_l1In.f a0_0 1 200000).bind fun t114=>(if t114 = true then ((spec_l1In.f a0_1 0 100).bind fun t115=>(if t115 = true then ((spec_l1In.f a0_2 1 100000).bind fun t116=>(some t116)) else (some false))) else (some false))) = some r:=h
 clear h;replace H:=Option.bind_eq_some_iff.mp H;obtain ⟨t114,A20,H⟩:=H;replace H:(if t114 = true then ((spec_l1In.f a0_1 0 100).bind fun t115=>(if t115 = true then ((spec_l1In.f a0_2 1 100000).bind fun t116=>(some t116)) else (some false))) else (some false)) = some r:=H
 have A2:=zM A20;clear A20;by_cases c3:t114 = true
 ·subst c3
  have H1:((spec_l1In.f a0_1 0 100).bind fun t115=>(if t115 = true then ((spec_l1In.f a0_2 1 100000).bind fun t116=>(some t116)) else (some false))) = some r:=by rw [if_pos rfl] at H;exact H
  clear H;have H:=H1;clear H1;replace H:=Option.bind_eq_some_iff.mp H;obtain ⟨t115,A40,H⟩:=H;replace H:(if t115 = true then ((spec_l1In.f a0_2 1 100000).bind fun t116=>(some t116)) else (some false)) = some r:=H
  have A4:=zM A40;clear A40;by_cases c5:t115 = true
  ·subst c5
   have H1:((spec_l1In.f a0_2 1 100000).bind fun t116=>(some t116)) = some r:=by rw [if_pos rfl] at H;exact H
   clear H;have H:=H1;clear H1;replace H:=Option.bind_eq_some_iff.mp H;obtain ⟨t116,A60,H⟩:=H;replace H:(some t116) = some r:=H
   have A6:=zM A60;clear A60;obtain rfl:=Option.some.inj H;go_enter Try.func45,Try.ntmps45
   go_wp2_with (first|((with_reducible refine gate_dst (N:=1) rfl ?_);refine box_event ?hg (N:=1) ?hd (cs := #[.int .i64 a0_0,.int .i64 a0_1,.int .i64 a0_2]) (t:=28) ?hr ?_;(case hd=>rfl);(case hg=>rfl);(case hr=>first|(go_simp;done)|(go_simp;rfl));intro gb113 hg w7 hbox hb;have n0_:=zM (zQ (by repeat (first|(with_reducible first|exact HB.out|apply zD|apply zE|apply zF)|exact HB.out)) hb);have n1_:=zM (hbox);have n2_:=zM ((by rw [hg];exact (zR (by repeat (first|(with_reducible first|exact HB.out|apply zD|apply zE|apply zF)|exact HB.out))):w.heap.size ≤ gb113));have n3_:=zM ((by rw [hg];exact (zR (by repeat (first|(with_reducible first|exact HB.out|apply zD|apply zE|apply zF)|exact HB.out))):w.heap.size ≤ gb113));clear HB;have HB:=n0_;have BK113:=n1_;have GW113:=n2_;have GE113:=n3_;clear n0_ n1_ n2_ n3_;clear hb hbox hg;have hcz8_0:w7.cell? ⟨gb113,0,none⟩ = some (.int .i64 a0_0):=(blk_cell BK113.out 0).trans rfl;have hcz8_1:w7.cell? ⟨gb113,1,none⟩ = some (.int .i64 a0_1):=(blk_cell BK113.out 1).trans rfl;have hcz8_2:w7.cell? ⟨gb113,2,none⟩ = some (.int .i64 a0_2):=(blk_cell BK113.out 2).trans rfl;have hfz8_0:=blk_frozen BK113.out 0;have hfz8_1:=blk_frozen BK113.out 1;have hfz8_2:=blk_frozen BK113.out 2)|((with_reducible refine gate_callee (f:=55) rfl ?_);refine goesL_ (some 5) rfl rfl Try.func55 (by kernel_rfl) rfl #[.int .i64 a0_0,.int .i64 1,.int .i64 200000] rfl (by (try simp only [List.map_toArray,List.map_cons,List.map_nil]);first|done|rfl|(simp only [List.length_drop,List.length_take];rfl)) ?_;(with_reducible refine (spec_l1In.calls a0_0 1 200000 true _ A2.out).mono ?_);rintro e w' ⟨rfl,⟨nd,rfl⟩⟩;refine ⟨_,rfl,?_⟩)|(go_at_call 55;(with_reducible refine (spec_l1In.calls a0_1 0 100 true _ A4.out).mono ?_);rintro e w' ⟨rfl,⟨nd,rfl⟩⟩)|(go_at_call 55;(with_reducible refine (spec_l1In.calls a0_2 1 100000 t116 _ A6.out).mono ?_);rintro e w' ⟨rfl,⟨nd,rfl⟩⟩))
   go_ret
   exact ⟨by first|rfl|(simp [errW_none,errW_some] <;> rfl)|(simp [*,errW_none,errW_some] <;> rfl),by repeat (first|(with_reducible first|exact HB.out|apply zD|apply zE|apply zF|refine below_set ?_ GE113.out)|exact HB.out)⟩
  ·replace c5:=Bool.eq_false_iff.mpr c5
   subst c5;have H1:(some false) = some r:=by rw [if_neg (show ¬ (false = true) by decide)] at H;exact H
   clear H;have H:=H1;clear H1;obtain rfl:=Option.some.inj H;go_enter Try.func45,Try.ntmps45
   go_wp2_with (first|((with_reducible refine gate_dst (N:=1) rfl ?_);refine box_event ?hg (N:=1) ?hd (cs := #[.int .i64 a0_0,.int .i64 a0_1,.int .i64 a0_2]) (t:=28) ?hr ?_;(case hd=>rfl);(case hg=>rfl);(case hr=>first|(go_simp;done)|(go_simp;rfl));intro gb113 hg w9 hbox hb;have n0_:=zM (zQ (by repeat (first|(with_reducible first|exact HB.out|apply zD|apply zE|apply zF)|exact HB.out)) hb);have n1_:=zM (hbox);have n2_:=zM ((by rw [hg];exact (zR (by repeat (first|(with_reducible first|exact HB.out|apply zD|apply zE|apply zF)|exact HB.out))):w.heap.size ≤ gb113));have n3_:=zM ((by rw [hg];exact (zR (by repeat (first|(with_reducible first|exact HB.out|apply zD|apply zE|apply zF)|exact HB.out))):w.heap.size ≤ gb113));clear HB;have HB:=n0_;have BK113:=n1_;have GW113:=n2_;have GE113:=n3_;clear n0_ n1_ n2_ n3_;clear hb hbox hg;have hcz10_0:w9.cell? ⟨gb113,0,none⟩ = some (.int .i64 a0_0):=(blk_cell BK113.out 0).trans rfl;have hcz10_1:w9.cell? ⟨gb113,1,none⟩ = some (.int .i64 a0_1):=(blk_cell BK113.out 1).trans rfl;have hcz10_2:w9.cell? ⟨gb113,2,none⟩ = some (.int .i64 a0_2):=(blk_cell BK113.out 2).trans rfl;have hfz10_0:=blk_frozen BK113.out 0;have hfz10_1:=blk_frozen BK113.out 1;have hfz10_2:=blk_frozen BK113.out 2)|((with_reducible refine gate_callee (f:=55) rfl ?_);refine goesL_ (some 5) rfl rfl Try.func55 (by kernel_rfl) rfl #[.int .i64 a0_0,.int .i64 1,.int .i64 200000] rfl (by (try simp only [List.map_toArray,List.map_cons,List.map_nil]);first|done|rfl|(simp only [List.length_drop,List.length_take];rfl)) ?_;(with_reducible refine (spec_l1In.calls a0_0 1 200000 true _ A2.out).mono ?_);rintro e w' ⟨rfl,⟨nd,rfl⟩⟩;refine ⟨_,rfl,?_⟩)|(go_at_call 55;(with_reducible refine (spec_l1In.calls a0_1 0 100 false _ A4.out).mono ?_);rintro e w' ⟨rfl,⟨nd,rfl⟩⟩))
   go_ret
   exact ⟨by first|rfl|(simp [errW_none,errW_some] <;> rfl)|(simp [*,errW_none,errW_some] <;> rfl),by repeat (first|(with_reducible first|exact HB.out|apply zD|apply zE|apply zF|refine below_set ?_ GE113.out)|exact HB.out)⟩
 ·replace c3:=Bool.eq_false_iff.mpr c3
  subst c3;have H1:(some false) = some r:=by rw [if_neg (show ¬ (false = true) by decide)] at H;exact H
  clear H;have H:=H1;clear H1;obtain rfl:=Option.some.inj H;go_enter Try.func45,Try.ntmps45
  go_wp2_with (first|((with_reducible refine gate_dst (N:=1) rfl ?_);refine box_event ?hg (N:=1) ?hd (cs := #[.int .i64 a0_0,.int .i64 a0_1,.int .i64 a0_2]) (t:=28) ?hr ?_;(case hd=>rfl);(case hg=>rfl);(case hr=>first|(go_simp;done)|(go_simp;rfl));intro gb113 hg w11 hbox hb;have n0_:=zM (zQ (by repeat (first|(with_reducible first|exact HB.out|apply zD|apply zE|apply zF)|exact HB.out)) hb);have n1_:=zM (hbox);have n2_:=zM ((by rw [hg];exact (zR (by repeat (first|(with_reducible first|exact HB.out|apply zD|apply zE|apply zF)|exact HB.out))):w.heap.size ≤ gb113));have n3_:=zM ((by rw [hg];exact (zR (by repeat (first|(with_reducible first|exact HB.out|apply zD|apply zE|apply zF)|exact HB.out))):w.heap.size ≤ gb113));clear HB;have HB:=n0_;have BK113:=n1_;have GW113:=n2_;have GE113:=n3_;clear n0_ n1_ n2_ n3_;clear hb hbox hg;have hcz12_0:w11.cell? ⟨gb113,0,none⟩ = some (.int .i64 a0_0):=(blk_cell BK113.out 0).trans rfl;have hcz12_1:w11.cell? ⟨gb113,1,none⟩ = some (.int .i64 a0_1):=(blk_cell BK113.out 1).trans rfl;have hcz12_2:w11.cell? ⟨gb113,2,none⟩ = some (.int .i64 a0_2):=(blk_cell BK113.out 2).trans rfl;have hfz12_0:=blk_frozen BK113.out 0;have hfz12_1:=blk_frozen BK113.out 1;have hfz12_2:=blk_frozen BK113.out 2)|((with_reducible refine gate_callee (f:=55) rfl ?_);refine goesL_ (some 5) rfl rfl Try.func55 (by kernel_rfl) rfl #[.int .i64 a0_0,.int .i64 1,.int .i64 200000] rfl (by (try simp only [List.map_toArray,List.map_cons,List.map_nil]);first|done|rfl|(simp only [List.length_drop,List.length_take];rfl)) ?_;(with_reducible refine (spec_l1In.calls a0_0 1 200000 false _ A2.out).mono ?_);rintro e w' ⟨rfl,⟨nd,rfl⟩⟩;refine ⟨_,rfl,?_⟩))
  go_ret
  exact ⟨by first|rfl|(simp [errW_none,errW_some] <;> rfl)|(simp [*,errW_none,errW_some] <;> rfl),by repeat (first|(with_reducible first|exact HB.out|apply zD|apply zE|apply zF|refine below_set ?_ GE113.out)|exact HB.out)⟩



/-! ### spec_l12Sum: function 51 -/
def spec_l12Sum.l0:Nat → List Int → Int → Int → Option (Int)
 | 0,_,_,_=>none
 | k + 1,x0,x5,x6=>if x6 < (x0.length:Int) then (if 0 ≤ x6 then (spec_l12Sum.l0 k x0 (wrap64 (x5 + (rd x0 x6))) (wrap64 (x6 + 1))) else (none)) else (some x5)
def spec_l12Sum.f (k:Nat) (l0:List Int) (a1:Int):Option (Int):=spec_l12Sum.l0 k l0 0 a1
set_option maxHeartbeats 8000000 in
set_option maxRecDepth 100000 in
theorem spec_l12Sum.calls (k:Nat) (A0:Option Addr) (c0:Nat) (l0:List Int) (a1:Int) (r:Int) (w:World) (hr0:Kd.C (Kd.int .i64) w A0 l0.length l0) (hc0:l0.length ≤ c0) (h:spec_l12Sum.f k l0 a1 = some r) :
  Calls Try.prog 51 #[.slice A0 l0.length c0,.int .i64 a1] w fun e w'=>e = .returned (.int .i64 r) ∧ Drawn0 w w':=by
 have HR0:=zM hr0;have HC0:=zM hc0;clear hr0 hc0;have H:(spec_l12Sum.l0 k l0 0 a1) = some r:=h
 clear h;have H':=zM H;clear H;go_enter Try.func51,Try.ntmps51
 go_wp2
 go_loopg [5,6] k (fun kq v5 v6 w' => ∃ (x5_1:Int) (x6_1:Int),v5 = .int .i64 x5_1 ∧ v6 = .int .i64 x6_1 ∧ Aside0 (spec_l12Sum.l0 kq l0 x5_1 x6_1 = some r) ∧ Aside0 (kq ≤ k) ∧ Drawn0 w w')
 case atStart=>exact ⟨(0),(a1),(by first|rfl|(simp;done)|(simp [*];done)),(by first|rfl|(simp;done)|(simp [*];done)),H',⟨Nat.le_refl _⟩,by repeat (first|exact Drawn0.refl _|apply Drawn0.step)⟩
 case round =>
  clear H';(try clear p2);obtain ⟨x5_1,x6_1,rfl,rfl,HA,HK1,⟨m1,rfl⟩⟩:=hrel;cases gk with
  | zero=>exact absurd HA.out (by simp [spec_l12Sum.l0])
  | succ k1 =>
   have H:=HA.out;clear HA;simp only [spec_l12Sum.l0] at H
   by_cases c3:x6_1 < (l0.length:Int)
   ·rw [if_pos c3] at H
    have c3b0:decide (x6_1 < (l0.length:Int)) = true:=decide_eq_true c3
    clear c3;by_cases c4:0 ≤ x6_1
    ·rw [if_pos c4] at H
     have c4b0:decide (0 ≤ x6_1) = true:=decide_eq_true c4
     clear c4;have H':=zM H;clear H;have p117:0 ≤ (x6_1:Int):=of_decide_eq_true (by first|(with_reducible assumption)|assumption)
     have q117:x6_1 < (l0.length:Int):=of_decide_eq_true (by first|(with_reducible assumption)|assumption)
     obtain ⟨ad117,e117,hx117_0⟩:=Kd.at_int HR0.out x6_1 p117 q117;cases e117
     replace p117:=eq_true p117;replace q117:=eq_true q117;go_wp2
     go_roundg k1
     case measure=>have:=HK1.out;omega
     case rel=>exact ⟨(wrap64 (x5_1 + (rd l0 x6_1))),(wrap64 (x6_1 + 1)),(by first|rfl|(simp;done)|(simp [*];done)),(by first|rfl|(simp;done)|(simp [*];done)),H',⟨by have:=HK1.out;omega⟩,by repeat (first|exact Drawn0.refl _|apply Drawn0.step)⟩
    ·rw [if_neg c4] at H
     exact absurd H (by simp)
   ·rw [if_neg c3] at H
    have c3b0:decide (x6_1 < (l0.length:Int)) = false:=decide_eq_false c3
    clear c3;obtain rfl:=Option.some.inj H;go_wp2
    go_ret
    exact ⟨by first|rfl|(simp;done)|(simp [*];done),by repeat (first|exact Drawn0.refl _|apply Drawn0.step)⟩



/-! ### spec_l12Forces: function 46 -/
def spec_l12Forces.l0:Nat → List Int → Int → List Int → Int → Option (List Int)
 | 0,_,_,_,_=>none
 | k + 1,x0,x1,x5,x6=>if x6 < (x0.length:Int) then ((spec_l12Sum.f k x0 x6).bind fun t121=>(if x5.length < 17592186044416 then (spec_l12Forces.l0 k x0 x1 (x5 ++ [wrap64 (Int.tdiv (wrap64 ((wrap64 (t121 * x1)) + 99)) 100)]) (wrap64 (x6 + 1))) else (none))) else (some x5)
def spec_l12Forces.f (k:Nat) (l0:List Int) (a1:Int):Option (List Int):=spec_l12Forces.l0 k l0 a1 (([]:List Int)) 0
set_option maxHeartbeats 8000000 in
set_option maxRecDepth 100000 in
theorem spec_l12Forces.calls (k:Nat) (A0:Option Addr) (c0:Nat) (l0:List Int) (a1:Int) (r:List Int) (w:World) (hr0:Kd.C (Kd.int .i64) w A0 l0.length l0) (hc0:l0.length ≤ c0) (h:spec_l12Forces.f k l0 a1 = some r) :
  Calls Try.prog 46 #[.slice A0 l0.length c0,.int .i64 a1] w fun e w' => ∃ v0_:Value,e = .returned (v0_) ∧ Kd.R (Kd.int .i64) 3 w' w.heap.size (fun _=>True) v0_ r ∧ Below w.heap.size w w':=by
 have HR0:=zM hr0;have HC0:=zM hc0;clear hr0 hc0;have HB:=zM (Below.refl w.heap.size w);have H:(spec_l12Forces.l0 k l0 a1 (([]:List Int)) 0) = some r:=h
 clear h;obtain ⟨y118,hy118⟩ : ∃ y_:List Int,y_ = (([]:List Int)):=⟨_,rfl⟩
 replace H:(spec_l12Forces.l0 k l0 a1 y118 0) = some r:=by first|(rw [hy118];with_reducible exact H)|(have H2_:=(Option.bind_some _ _).symm.trans H;rw [hy118];with_reducible exact H2_)|(have H2_:=(Option.bind_some _ _).symm.trans H;with_reducible exact H2_)|with_reducible exact H|(rw [hy118];exact H)|exact H
 have Ny118:=zM hy118;clear hy118;have H':=zM H;clear H;go_enter Try.func46,Try.ntmps46
 go_wp2_with (first|((with_reducible refine gate_dst (N:=7) rfl ?_);refine Kd.R_lit (Kd.int .i64) _ 3 ?hg (N:=7) ?hd (xs:=([]:List Int)) (inner:=[]) (ok:=fun _=>True) (okp:=fun _=>True) ?hr ?hp (fun _ hk=>hk) trivial (Below.refl _ _) (Nat.le_refl _) (by simp) ?_;(case hd=>rfl);(case hg=>rfl);(case hr=>first|(go_simp;done)|(go_simp;rfl));(case hp=>exact (Reps.none _ _));intro v119 w3 ho4 hb hg_ hnew_;clear hg_ hnew_;(first|rw [← Ny118.out] at ho4|(simp only [Int.reduceToNat] at ho4;rw [← Ny118.out] at ho4));have n0_:=zM (Kd.R_lower ho4 (zR (by repeat (first|(with_reducible first|exact HB.out|apply zD|apply zE|apply zF)|exact HB.out))));have n1_:=zM (zQ (by repeat (first|(with_reducible first|exact HB.out|apply zD|apply zE|apply zF)|exact HB.out)) hb);clear HB;have HO120:=n0_;have HB:=n1_;clear n0_ n1_;clear hb ho4))
 go_loopg [5,6] k (fun kq v5 v6 w' => ∃ (x5_1:List Int) (x6_1:Int),v6 = .int .i64 x6_1 ∧ Aside0 (spec_l12Forces.l0 kq l0 a1 x5_1 x6_1 = some r) ∧ Aside0 (kq ≤ k) ∧ Aside0 (Kd.R (Kd.int .i64) 3 w' w.heap.size (fun _=>True) v5 x5_1) ∧ Aside0 (Below w.heap.size w w'))
 case atStart=>exact ⟨(y118),(0),(by first|rfl|(simp;done)|(simp [*];done)),H',⟨Nat.le_refl _⟩,⟨by (with_reducible repeat (first|apply zA|apply zB|apply zC));exact HO120.out⟩,⟨by repeat (first|(with_reducible first|exact HB.out|apply zD|apply zE|apply zF)|exact HB.out)⟩⟩
 case round =>
  clear H';(try clear p2);(try clear c4);obtain ⟨x5_1,x6_1,rfl,HA,HK1,HO_5,HB⟩:=hrel;cases gk with
  | zero=>exact absurd HA.out (by simp [spec_l12Forces.l0])
  | succ k1 =>
   have H:=HA.out;clear HA;simp only [spec_l12Forces.l0] at H
   by_cases c5:x6_1 < (l0.length:Int)
   ·rw [if_pos c5] at H
    have c5b0:decide (x6_1 < (l0.length:Int)) = true:=decide_eq_true c5
    clear c5;replace H:=Option.bind_eq_some_iff.mp H;obtain ⟨t121,A60,H⟩:=H;replace H:(if x5_1.length < 17592186044416 then (spec_l12Forces.l0 k1 l0 a1 (x5_1 ++ [wrap64 (Int.tdiv (wrap64 ((wrap64 (t121 * a1)) + 99)) 100)]) (wrap64 (x6_1 + 1))) else (none)) = some r:=H
    have A6:=zM A60;clear A60;by_cases c7:x5_1.length < 17592186044416
    ·rw [if_pos c7] at H
     have LMc7:=zM c7;clear c7;obtain ⟨y122,hy122⟩ : ∃ y_:List Int,y_ = (x5_1 ++ [wrap64 (Int.tdiv (wrap64 ((wrap64 (t121 * a1)) + 99)) 100)]):=⟨_,rfl⟩
     replace H:(spec_l12Forces.l0 k1 l0 a1 y122 (wrap64 (x6_1 + 1))) = some r:=by first|(rw [hy122];with_reducible exact H)|(have H2_:=(Option.bind_some _ _).symm.trans H;rw [hy122];with_reducible exact H2_)|(have H2_:=(Option.bind_some _ _).symm.trans H;with_reducible exact H2_)|with_reducible exact H|(rw [hy122];exact H)|exact H
     have Ny122:=zM hy122;clear hy122;have H':=zM H;clear H;go_wp2_with (first|((with_reducible refine gate_callee (f:=51) rfl ?_);refine goesL_ (some 17) rfl rfl Try.func51 (by kernel_rfl) rfl #[.slice A0 l0.length c0,.int .i64 x6_1] rfl (by (try simp only [List.map_toArray,List.map_cons,List.map_nil]);first|done|rfl|(simp only [List.length_drop,List.length_take];rfl)) ?_;(with_reducible refine (spec_l12Sum.calls k1 _ _ l0 x6_1 t121 _ ?side1 ?side2 A6.out).mono ?_);(case side1=>repeat (first|exact (zO HR0.out HB.out)|(with_reducible first|refine zG ?_ _|refine zH ?_ _|refine zI ?_)));(case side2=>exact HC0.out);rintro e w' ⟨rfl,⟨nd,rfl⟩⟩;refine ⟨_,rfl,?_⟩)|((with_reducible refine gate_builtin (b := .append) (xs := #[.tmp 14,.tmp 22]) rfl ?_);at_builtin;refine Kd.R_append (Kd.int .i64) (w0:=w) w.heap.size rfl (.tmp 14) (.tmp 22) 22 3 (.int .i64 0) 8 rfl Try.underlying22 info3 rfl (by decide) (by omega) u5 x5_1 (wrap64 (Int.tdiv (wrap64 ((wrap64 (t121 * a1)) + 99)) 100)) [.int .i64 (wrap64 (Int.tdiv (wrap64 ((wrap64 (t121 * a1)) + 99)) 100))] (fun _=>True) (fun _=>False) rfl rfl ?aP (fun _ hk=>hk.elim) ?aF ?aO ?aB ?aS ?aL ?_;(case aP=>exact rfl);(case aB=>exact (by repeat (first|(with_reducible first|exact HB.out|apply zD|apply zE|apply zF)|exact HB.out)));(case aF=>exact (fun _ _=>trivial));(case aO=>exact (by (with_reducible repeat (first|apply zA|apply zB|apply zC));exact HO_5.out));(case aS=>exact (zR (by repeat (first|(with_reducible first|exact HB.out|apply zD|apply zE|apply zF)|exact HB.out))));(case aL=>have:=LMc7.out;omega);intro v123 w8 ho hb hg hat;rw [← Ny122.out] at ho;have n0_:=zM (hb);have n1_:=zM (ho);clear HB;clear HO_5;have HB:=n0_;have HO124:=n1_;clear n0_ n1_;clear ho hb hg hat))
     go_roundg k1
     case measure=>have:=HK1.out;omega
     case rel=>exact ⟨(y122),(wrap64 (x6_1 + 1)),(by first|rfl|(simp;done)|(simp [*];done)),H',⟨by have:=HK1.out;omega⟩,⟨by (with_reducible repeat (first|apply zA|apply zB|apply zC));exact HO124.out⟩,⟨by repeat (first|(with_reducible first|exact HB.out|apply zD|apply zE|apply zF)|exact HB.out)⟩⟩
    ·rw [if_neg c7] at H
     exact absurd H (by simp)
   ·rw [if_neg c5] at H
    have c5b0:decide (x6_1 < (l0.length:Int)) = false:=decide_eq_false c5
    clear c5;obtain rfl:=Option.some.inj H;go_wp2
    go_ret
    exact ⟨_,by first|rfl|(simp [errW_none,errW_some] <;> rfl)|(simp [*,errW_none,errW_some] <;> rfl),by (with_reducible repeat (first|apply zA|apply zB|apply zC));exact HO_5.out,by repeat (first|(with_reducible first|exact HB.out|apply zD|apply zE|apply zF)|exact HB.out)⟩



/-! ### spec_LashForces: function 12 -/
def spec_LashForces.f (k:Nat) (l0:List Int) (a1_0:Int) (a1_1:Int) (a1_2:Int):Option (List Int × Bool):=(spec_l12Good.f k l0).bind fun t126=>(if t126 = true then ((spec_l12Rules.f a1_0 a1_1 a1_2).bind fun t127=>(if t127 = true then ((spec_l12Forces.f k l0 a1_1).bind fun t128=>(some (t128,true))) else (some ((([]:List Int)),false)))) else (some ((([]:List Int)),false)))
set_option maxHeartbeats 8000000 in
set_option maxRecDepth 100000 in
theorem spec_LashForces.calls (k:Nat) (A0:Option Addr) (c0:Nat) (l0:List Int) (a1_0:Int) (a1_1:Int) (a1_2:Int) (r1:List Int) (r2:Bool) (w:World) (hr0:Kd.C (Kd.int .i64) w A0 l0.length l0) (hc0:l0.length ≤ c0) (h:spec_LashForces.f k l0 a1_0 a1_1 a1_2 = some (r1,r2)) :
  Calls Try.prog 12 #[.slice A0 l0.length c0,.agg #[.int .i64 a1_0,.int .i64 a1_1,.int .i64 a1_2]] w fun e w' => ∃ v0_:Value,e = .returned (.tuple #[v0_,.bool r2]) ∧ Kd.R (Kd.int .i64) 3 w' w.heap.size (fun _=>True) v0_ r1 ∧ Below w.heap.size w w':=by
 have hu28:=Try.underlying28;have HR0:=zM hr0;have HC0:=zM hc0;clear hr0 hc0;have HB:=zM (Below.refl w.heap.size w);have H:((spec_l12Good.f k l0).bind fun t126=>(if t126 = true then ((spec_l12Rules.f a1_0 a1_1 a1_2).bind fun t127=>(if t127 = true then ((spec_l12Forces.f k l0 a1_1).bind fun t128=>(some (t128,true))) else (some ((([]:List Int)),false)))) else (some ((([]:List Int)),false)))) = some (r1,r2):=h
 clear h;replace H:=Option.bind_eq_some_iff.mp H;obtain ⟨t126,A30,H⟩:=H;replace H:(if t126 = true then ((spec_l12Rules.f a1_0 a1_1 a1_2).bind fun t127=>(if t127 = true then ((spec_l12Forces.f k l0 a1_1).bind fun t128=>(some (t128,true))) else (some ((([]:List Int)),false)))) else (some ((([]:List Int)),false))) = some (r1,r2):=H
 have A3:=zM A30;clear A30;by_cases c4:t126 = true
 ·subst c4
  have H1:((spec_l12Rules.f a1_0 a1_1 a1_2).bind fun t127=>(if t127 = true then ((spec_l12Forces.f k l0 a1_1).bind fun t128=>(some (t128,true))) else (some ((([]:List Int)),false)))) = some (r1,r2):=by rw [if_pos rfl] at H;exact H
  clear H;have H:=H1;clear H1;replace H:=Option.bind_eq_some_iff.mp H;obtain ⟨t127,A50,H⟩:=H;replace H:(if t127 = true then ((spec_l12Forces.f k l0 a1_1).bind fun t128=>(some (t128,true))) else (some ((([]:List Int)),false))) = some (r1,r2):=H
  have A5:=zM A50;clear A50;by_cases c6:t127 = true
  ·subst c6
   have H1:((spec_l12Forces.f k l0 a1_1).bind fun t128=>(some (t128,true))) = some (r1,r2):=by rw [if_pos rfl] at H;exact H
   clear H;have H:=H1;clear H1;replace H:=Option.bind_eq_some_iff.mp H;obtain ⟨t128,A70,H⟩:=H;replace H:(some (t128,true)) = some (r1,r2):=H
   have A7:=zM A70;clear A70;simp only [Option.some.injEq,Prod.mk.injEq] at H
   obtain ⟨rfl,rfl⟩:=H;go_enter Try.func12,Try.ntmps12
   go_wp2_with (first|((with_reducible refine gate_dst (N:=3) rfl ?_);refine box_event ?hg (N:=3) ?hd (cs := #[.int .i64 a1_0,.int .i64 a1_1,.int .i64 a1_2]) (t:=28) ?hr ?_;(case hd=>rfl);(case hg=>rfl);(case hr=>first|(go_simp;done)|(go_simp;rfl));intro gb125 hg w8 hbox hb;have n0_:=zM (zQ (by repeat (first|(with_reducible first|exact HB.out|apply zD|apply zE|apply zF)|exact HB.out)) hb);have n1_:=zM (hbox);have n2_:=zM ((by rw [hg];exact (zR (by repeat (first|(with_reducible first|exact HB.out|apply zD|apply zE|apply zF)|exact HB.out))):w.heap.size ≤ gb125));have n3_:=zM ((by rw [hg];exact (zR (by repeat (first|(with_reducible first|exact HB.out|apply zD|apply zE|apply zF)|exact HB.out))):w.heap.size ≤ gb125));clear HB;have HB:=n0_;have BK125:=n1_;have GW125:=n2_;have GE125:=n3_;clear n0_ n1_ n2_ n3_;clear hb hbox hg)|((with_reducible refine gate_callee (f:=44) rfl ?_);refine goesL_ (some 7) rfl rfl Try.func44 (by kernel_rfl) rfl #[.slice A0 l0.length c0] rfl (by (try simp only [List.map_toArray,List.map_cons,List.map_nil]);first|done|rfl|(simp only [List.length_drop,List.length_take];rfl)) ?_;(with_reducible refine (spec_l12Good.calls k _ _ l0 true _ ?side1 ?side2 A3.out).mono ?_);(case side1=>repeat (first|exact (zO HR0.out HB.out)|(with_reducible first|refine zG ?_ _|refine zH ?_ _|refine zI ?_)));(case side2=>exact HC0.out);rintro e w' ⟨rfl,⟨nd,rfl⟩⟩;refine ⟨_,rfl,?_⟩;have hcz9_0:w8.cell? ⟨gb125,0,none⟩ = some (.int .i64 a1_0):=(blk_cell BK125.out 0).trans rfl;have hcz9_1:w8.cell? ⟨gb125,1,none⟩ = some (.int .i64 a1_1):=(blk_cell BK125.out 1).trans rfl;have hcz9_2:w8.cell? ⟨gb125,2,none⟩ = some (.int .i64 a1_2):=(blk_cell BK125.out 2).trans rfl;have hfz9_0:=blk_frozen BK125.out 0;have hfz9_1:=blk_frozen BK125.out 1;have hfz9_2:=blk_frozen BK125.out 2)|(go_at_call 45;(with_reducible refine (spec_l12Rules.calls a1_0 a1_1 a1_2 true _ A5.out).mono ?_);rintro e w10 ⟨rfl,hb⟩;have n0_:=zM (blk_below (g:=gb125) (o := .cells #[.int .i64 a1_0,.int .i64 a1_1,.int .i64 a1_2] 28 (0,0)) (by (with_reducible repeat (first|refine zJ ?_ _|refine zK ?_|refine zL ?_ _));exact BK125.out) hb);have n1_:=zM (zQ (by repeat (first|(with_reducible first|exact HB.out|apply zD|apply zE|apply zF|refine below_set ?_ GE125.out)|exact HB.out)) hb);clear BK125;clear HB;have BK125:=n0_;have HB:=n1_;clear n0_ n1_;(try clear hb);(try clear hb2);(try clear hk);(try clear hi);have hcz11_0:w10.cell? ⟨gb125,0,none⟩ = some (.int .i64 a1_0):=(blk_cell BK125.out 0).trans rfl;have hcz11_1:w10.cell? ⟨gb125,1,none⟩ = some (.int .i64 a1_1):=(blk_cell BK125.out 1).trans rfl;have hcz11_2:w10.cell? ⟨gb125,2,none⟩ = some (.int .i64 a1_2):=(blk_cell BK125.out 2).trans rfl;have hfz11_0:=blk_frozen BK125.out 0;have hfz11_1:=blk_frozen BK125.out 1;have hfz11_2:=blk_frozen BK125.out 2)|((with_reducible refine gate_callee (f:=46) rfl ?_);refine goesL_ (some 18) rfl rfl Try.func46 (by kernel_rfl) rfl #[.slice A0 l0.length c0,.int .i64 a1_1] rfl (by (try simp only [List.map_toArray,List.map_cons,List.map_nil]);first|done|rfl|(simp only [List.length_drop,List.length_take];rfl)) ?_;(with_reducible refine (spec_l12Forces.calls k _ _ l0 a1_1 t128 _ ?side1 ?side2 A7.out).mono ?_);(case side1=>repeat (first|exact (zO HR0.out HB.out)|(with_reducible first|refine zG ?_ _|refine zH ?_ _|refine zI ?_)));(case side2=>exact HC0.out);rintro e w12 ⟨v129,rfl,ho0,hb⟩;refine ⟨_,rfl,?_⟩;have n0_:=zM (Kd.R_lower ho0 (zR (by repeat (first|(with_reducible first|exact HB.out|apply zD|apply zE|apply zF|refine below_set ?_ GE125.out)|exact HB.out))));have n1_:=zM (blk_below (g:=gb125) (o := .cells #[.int .i64 a1_0,.int .i64 a1_1,.int .i64 a1_2] 28 (0,0)) (by (with_reducible repeat (first|refine zJ ?_ _|refine zK ?_|refine zL ?_ _));exact BK125.out) hb);have n2_:=zM (zQ (by repeat (first|(with_reducible first|exact HB.out|apply zD|apply zE|apply zF|refine below_set ?_ GE125.out)|exact HB.out)) hb);clear BK125;clear HB;have HO130:=n0_;have BK125:=n1_;have HB:=n2_;clear n0_ n1_ n2_;(try clear hb);(try clear hb2);(try clear hk);(try clear hi);(try clear ho0)))
   go_ret2
   exact ⟨_,by first|rfl|(simp [errW_none,errW_some] <;> rfl)|(simp [*,errW_none,errW_some] <;> rfl),by (with_reducible repeat (first|apply zA|apply zB|apply zC));exact HO130.out,by repeat (first|(with_reducible first|exact HB.out|apply zD|apply zE|apply zF|refine below_set ?_ GE125.out)|exact HB.out)⟩
  ·replace c6:=Bool.eq_false_iff.mpr c6
   subst c6;have H1:(some ((([]:List Int)),false)) = some (r1,r2):=by rw [if_neg (show ¬ (false = true) by decide)] at H;exact H
   clear H;have H:=H1;clear H1;obtain ⟨y131,hy131⟩ : ∃ y_:List Int,y_ = (([]:List Int)):=⟨_,rfl⟩
   replace H:(some (y131,false)) = some (r1,r2):=by first|(rw [hy131];with_reducible exact H)|(have H2_:=(Option.bind_some _ _).symm.trans H;rw [hy131];with_reducible exact H2_)|(have H2_:=(Option.bind_some _ _).symm.trans H;with_reducible exact H2_)|with_reducible exact H|(rw [hy131];exact H)|exact H
   have Ny131:=zM hy131;clear hy131;simp only [Option.some.injEq,Prod.mk.injEq] at H
   obtain ⟨rfl,rfl⟩:=H;go_enter Try.func12,Try.ntmps12
   go_wp2_with (first|((with_reducible refine gate_dst (N:=3) rfl ?_);refine box_event ?hg (N:=3) ?hd (cs := #[.int .i64 a1_0,.int .i64 a1_1,.int .i64 a1_2]) (t:=28) ?hr ?_;(case hd=>rfl);(case hg=>rfl);(case hr=>first|(go_simp;done)|(go_simp;rfl));intro gb125 hg w13 hbox hb;have n0_:=zM (zQ (by repeat (first|(with_reducible first|exact HB.out|apply zD|apply zE|apply zF)|exact HB.out)) hb);have n1_:=zM (hbox);have n2_:=zM ((by rw [hg];exact (zR (by repeat (first|(with_reducible first|exact HB.out|apply zD|apply zE|apply zF)|exact HB.out))):w.heap.size ≤ gb125));have n3_:=zM ((by rw [hg];exact (zR (by repeat (first|(with_reducible first|exact HB.out|apply zD|apply zE|apply zF)|exact HB.out))):w.heap.size ≤ gb125));clear HB;have HB:=n0_;have BK125:=n1_;have GW125:=n2_;have GE125:=n3_;clear n0_ n1_ n2_ n3_;clear hb hbox hg)|((with_reducible refine gate_callee (f:=44) rfl ?_);refine goesL_ (some 7) rfl rfl Try.func44 (by kernel_rfl) rfl #[.slice A0 l0.length c0] rfl (by (try simp only [List.map_toArray,List.map_cons,List.map_nil]);first|done|rfl|(simp only [List.length_drop,List.length_take];rfl)) ?_;(with_reducible refine (spec_l12Good.calls k _ _ l0 true _ ?side1 ?side2 A3.out).mono ?_);(case side1=>repeat (first|exact (zO HR0.out HB.out)|(with_reducible first|refine zG ?_ _|refine zH ?_ _|refine zI ?_)));(case side2=>exact HC0.out);rintro e w' ⟨rfl,⟨nd,rfl⟩⟩;refine ⟨_,rfl,?_⟩;have hcz14_0:w13.cell? ⟨gb125,0,none⟩ = some (.int .i64 a1_0):=(blk_cell BK125.out 0).trans rfl;have hcz14_1:w13.cell? ⟨gb125,1,none⟩ = some (.int .i64 a1_1):=(blk_cell BK125.out 1).trans rfl;have hcz14_2:w13.cell? ⟨gb125,2,none⟩ = some (.int .i64 a1_2):=(blk_cell BK125.out 2).trans rfl;have hfz14_0:=blk_frozen BK125.out 0;have hfz14_1:=blk_frozen BK125.out 1;have hfz14_2:=blk_frozen BK125.out 2)|(go_at_call 45;(with_reducible refine (spec_l12Rules.calls a1_0 a1_1 a1_2 false _ A5.out).mono ?_);rintro e w15 ⟨rfl,hb⟩;have n0_:=zM (blk_below (g:=gb125) (o := .cells #[.int .i64 a1_0,.int .i64 a1_1,.int .i64 a1_2] 28 (0,0)) (by (with_reducible repeat (first|refine zJ ?_ _|refine zK ?_|refine zL ?_ _));exact BK125.out) hb);have n1_:=zM (zQ (by repeat (first|(with_reducible first|exact HB.out|apply zD|apply zE|apply zF|refine below_set ?_ GE125.out)|exact HB.out)) hb);clear BK125;clear HB;have BK125:=n0_;have HB:=n1_;clear n0_ n1_;(try clear hb);(try clear hb2);(try clear hk);(try clear hi))|((with_reducible refine gate_dst (N:=14) rfl ?_);refine Kd.R_lit (Kd.int .i64) _ 3 ?hg (N:=14) ?hd (xs:=([]:List Int)) (inner:=[]) (ok:=fun _=>True) (okp:=fun _=>True) ?hr ?hp (fun _ hk=>hk) trivial (Below.refl _ _) (Nat.le_refl _) (by simp) ?_;(case hd=>rfl);(case hg=>rfl);(case hr=>first|(go_simp;done)|(go_simp;rfl));(case hp=>exact (Reps.none _ _));intro v132 w16 ho17 hb hg_ hnew_;clear hg_ hnew_;(first|rw [← Ny131.out] at ho17|(simp only [Int.reduceToNat] at ho17;rw [← Ny131.out] at ho17));have n0_:=zM (Kd.R_lower ho17 (zR (by repeat (first|(with_reducible first|exact HB.out|apply zD|apply zE|apply zF|refine below_set ?_ GE125.out)|exact HB.out))));have n1_:=zM (blk_below (g:=gb125) (o := .cells #[.int .i64 a1_0,.int .i64 a1_1,.int .i64 a1_2] 28 (0,0)) (by (with_reducible repeat (first|refine zJ ?_ _|refine zK ?_|refine zL ?_ _));exact BK125.out) hb);have n2_:=zM (zQ (by repeat (first|(with_reducible first|exact HB.out|apply zD|apply zE|apply zF|refine below_set ?_ GE125.out)|exact HB.out)) hb);clear BK125;clear HB;have HO133:=n0_;have BK125:=n1_;have HB:=n2_;clear n0_ n1_ n2_;clear hb ho17))
   go_ret2
   exact ⟨_,by first|rfl|(simp [errW_none,errW_some] <;> rfl)|(simp [*,errW_none,errW_some] <;> rfl),by (with_reducible repeat (first|apply zA|apply zB|apply zC));exact HO133.out,by repeat (first|(with_reducible first|exact HB.out|apply zD|apply zE|apply zF|refine below_set ?_ GE125.out)|exact HB.out)⟩
 ·replace c4:=Bool.eq_false_iff.mpr c4
  subst c4;have H1:(some ((([]:List Int)),false)) = some (r1,r2):=by rw [if_neg (show ¬ (false = true) by decide)] at H;exact H
  clear H;have H:=H1;clear H1;obtain ⟨y134,hy134⟩ : ∃ y_:List Int,y_ = (([]:List Int)):=⟨_,rfl⟩
  replace H:(some (y134,false)) = some (r1,r2):=by first|(rw [hy134];with_reducible exact H)|(have H2_:=(Option.bind_some _ _).symm.trans H;rw [hy134];with_reducible exact H2_)|(have H2_:=(Option.bind_some _ _).symm.trans H;with_reducible exact H2_)|with_reducible exact H|(rw [hy134];exact H)|exact H
  have Ny134:=zM hy134;clear hy134;simp only [Option.some.injEq,Prod.mk.injEq] at H
  obtain ⟨rfl,rfl⟩:=H;go_enter Try.func12,Try.ntmps12
  go_wp2_with (first|((with_reducible refine gate_dst (N:=3) rfl ?_);refine box_event ?hg (N:=3) ?hd (cs := #[.int .i64 a1_0,.int .i64 a1_1,.int .i64 a1_2]) (t:=28) ?hr ?_;(case hd=>rfl);(case hg=>rfl);(case hr=>first|(go_simp;done)|(go_simp;rfl));intro gb125 hg w18 hbox hb;have n0_:=zM (zQ (by repeat (first|(with_reducible first|exact HB.out|apply zD|apply zE|apply zF)|exact HB.out)) hb);have n1_:=zM (hbox);have n2_:=zM ((by rw [hg];exact (zR (by repeat (first|(with_reducible first|exact HB.out|apply zD|apply zE|apply zF)|exact HB.out))):w.heap.size ≤ gb125));have n3_:=zM ((by rw [hg];exact (zR (by repeat (first|(with_reducible first|exact HB.out|apply zD|apply zE|apply zF)|exact HB.out))):w.heap.size ≤ gb125));clear HB;have HB:=n0_;have BK125:=n1_;have GW125:=n2_;have GE125:=n3_;clear n0_ n1_ n2_ n3_;clear hb hbox hg)|((with_reducible refine gate_callee (f:=44) rfl ?_);refine goesL_ (some 7) rfl rfl Try.func44 (by kernel_rfl) rfl #[.slice A0 l0.length c0] rfl (by (try simp only [List.map_toArray,List.map_cons,List.map_nil]);first|done|rfl|(simp only [List.length_drop,List.length_take];rfl)) ?_;(with_reducible refine (spec_l12Good.calls k _ _ l0 false _ ?side1 ?side2 A3.out).mono ?_);(case side1=>repeat (first|exact (zO HR0.out HB.out)|(with_reducible first|refine zG ?_ _|refine zH ?_ _|refine zI ?_)));(case side2=>exact HC0.out);rintro e w' ⟨rfl,⟨nd,rfl⟩⟩;refine ⟨_,rfl,?_⟩)|((with_reducible refine gate_dst (N:=14) rfl ?_);refine Kd.R_lit (Kd.int .i64) _ 3 ?hg (N:=14) ?hd (xs:=([]:List Int)) (inner:=[]) (ok:=fun _=>True) (okp:=fun _=>True) ?hr ?hp (fun _ hk=>hk) trivial (Below.refl _ _) (Nat.le_refl _) (by simp) ?_;(case hd=>rfl);(case hg=>rfl);(case hr=>first|(go_simp;done)|(go_simp;rfl));(case hp=>exact (Reps.none _ _));intro v135 w19 ho20 hb hg_ hnew_;clear hg_ hnew_;(first|rw [← Ny134.out] at ho20|(simp only [Int.reduceToNat] at ho20;rw [← Ny134.out] at ho20));have n0_:=zM (Kd.R_lower ho20 (zR (by repeat (first|(with_reducible first|exact HB.out|apply zD|apply zE|apply zF|refine below_set ?_ GE125.out)|exact HB.out))));have n1_:=zM (blk_below (g:=gb125) (o := .cells #[.int .i64 a1_0,.int .i64 a1_1,.int .i64 a1_2] 28 (0,0)) (by (with_reducible repeat (first|refine zJ ?_ _|refine zK ?_|refine zL ?_ _));exact BK125.out) hb);have n2_:=zM (zQ (by repeat (first|(with_reducible first|exact HB.out|apply zD|apply zE|apply zF|refine below_set ?_ GE125.out)|exact HB.out)) hb);clear BK125;clear HB;have HO136:=n0_;have BK125:=n1_;have HB:=n2_;clear n0_ n1_ n2_;clear hb ho20))
  go_ret2
  exact ⟨_,by first|rfl|(simp [errW_none,errW_some] <;> rfl)|(simp [*,errW_none,errW_some] <;> rfl),by (with_reducible repeat (first|apply zA|apply zB|apply zC));exact HO136.out,by repeat (first|(with_reducible first|exact HB.out|apply zD|apply zE|apply zF|refine below_set ?_ GE125.out)|exact HB.out)⟩



/-! ### impl_within: function 58 -/
def impl_within.f (a0:Int) (a1:Int) (a2:Int):Option (Bool):=if a0 ≥ a1 then (some (decide (a0 ≤ a2))) else (some false)
set_option maxHeartbeats 8000000 in
set_option maxRecDepth 100000 in
theorem impl_within.calls (a0:Int) (a1:Int) (a2:Int) (r:Bool) (w:World) (h:impl_within.f a0 a1 a2 = some r) :
  Calls Try.prog 58 #[.int .i64 a0,.int .i64 a1,.int .i64 a2] w fun e w'=>e = .returned (.bool r) ∧ Drawn0 w w':=by
 have H:(if a0 ≥ a1 then (some (decide (a0 ≤ a2))) else (some false)) = some r:=h
 clear h;by_cases c4:a0 ≥ a1
 ·rw [if_pos c4] at H
  have c4b0:decide (a1 ≤ a0) = true:=decide_eq_true c4
  clear c4;obtain rfl:=Option.some.inj H;go_enter Try.func58,Try.ntmps58
  go_wp2
  go_ret
  exact ⟨by first|rfl|(simp;done)|(simp [*];done),by repeat (first|exact Drawn0.refl _|apply Drawn0.step)⟩
 ·rw [if_neg c4] at H
  have c4b0:decide (a1 ≤ a0) = false:=decide_eq_false c4
  clear c4;obtain rfl:=Option.some.inj H;go_enter Try.func58,Try.ntmps58
  go_wp2
  go_ret
  exact ⟨by first|rfl|(simp;done)|(simp [*];done),by repeat (first|exact Drawn0.refl _|apply Drawn0.step)⟩



/-! ### impl_IsValidColumn_1: function 76 -/
def impl_IsValidColumn_1.f (a0:Int):Option (Bool):=(impl_within.f a0 1 32000).bind fun t101=>(some (!t101))
set_option maxHeartbeats 8000000 in
set_option maxRecDepth 100000 in
theorem impl_IsValidColumn_1.calls (a0:Int) (r:Bool) (w:World) (h:impl_IsValidColumn_1.f a0 = some r) :
  Calls Try.prog 76 #[.int .i64 a0] w fun e w'=>e = .returned (.bool r) ∧ Drawn0 w w':=by
 have H:((impl_within.f a0 1 32000).bind fun t101=>(some (!t101))) = some r:=h
 clear h;replace H:=Option.bind_eq_some_iff.mp H;obtain ⟨t101,A20,H⟩:=H;replace H:(some (!t101)) = some r:=H
 have A2:=zM A20;clear A20;obtain rfl:=Option.some.inj H;go_enter Try.func76,Try.ntmps76
 go_wp2_with (first|((with_reducible refine gate_callee (f:=58) rfl ?_);refine goesL_ (some 4) rfl rfl Try.func58 (by kernel_rfl) rfl #[.int .i64 a0,.int .i64 1,.int .i64 32000] rfl (by (try simp only [List.map_toArray,List.map_cons,List.map_nil]);first|done|rfl|(simp only [List.length_drop,List.length_take];rfl)) ?_;(with_reducible refine (impl_within.calls a0 1 32000 t101 _ A2.out).mono ?_);rintro e w' ⟨rfl,⟨nd,rfl⟩⟩;refine ⟨_,rfl,?_⟩))
 go_ret
 exact ⟨by first|rfl|(simp;done)|(simp [*];done),by repeat (first|exact Drawn0.refl _|apply Drawn0.step)⟩

end Go.Proofs.Ytcgfedaoimhejaa.G

/- The contract of slices.ContainsFunc at the test of IsValidColumn. -/
namespace Go.Proofs.Ytcgfedaoimhejaa.G
open Go.RowKit Go.Proofs.YtcgfedaoimhejaaW.PrintWords Go.Proofs.YtcgfedaoimhejaaW.PrintLast
set_option linter.unusedVariables false
set_option linter.unusedSimpArgs false
theorem ret_int {k : IntKind} {a b : Int} (h : a = b) : Ending.returned (.int k a) = .returned (.int k b):=by rw [h]
theorem drawn_two {w w1 w2 : World} (h : Drawn0 w w1) (h2 : Drawn0 w1 w2) : Drawn0 w w2:=by
  obtain ⟨⟨n1,rfl⟩⟩:=h
  obtain ⟨⟨n2,rfl⟩⟩:=h2
  exact ⟨⟨n1 + n2,World.drewN_drewN ..⟩⟩
def good76 (n : Int) : Bool:=decide (1 ≤ n ∧ n ≤ 32000)
def bad76 (l : List Int) : Nat → Nat → Int
  | 0,_ => -1
  | d + 1,i=>if good76 (rd l i) then bad76 l d (i + 1) else i
theorem bad76_iff (l : List Int) : ∀ d i,bad76 l d i ≥ 0 ↔ ¬ ∀ j : Nat,i ≤ j → j < i + d → good76 (rd l j) = true:=by
  intro d
  induction d with
  | zero=>intro i;simp [bad76];omega
  | succ d ih =>
    intro i
    unfold bad76
    split
    · rename_i h
      rw [ih (i + 1)]
      constructor
      · intro h1 h2
        exact h1 fun j a b=>h2 j (by omega) (by omega)
      · intro h1 h2
        refine h1 fun j a b=>?_
        by_cases e : j = i
        · rw [e];exact h
        · exact h2 j (by omega) (by omega)
    · rename_i h
      constructor
      · intro _ h2
        exact h (h2 i (by omega) (by omega))
      · intro _;omega
theorem lit76_eq (n : Int) : impl_IsValidColumn_1.f n = some (!good76 n):=by
  unfold impl_IsValidColumn_1.f impl_within.f good76
  by_cases h : n ≥ 1
  · simp [h]
  · simp [h]
set_option maxHeartbeats 2000000 in
set_option maxRecDepth 100000 in
theorem idx76 (A0 : Option Addr) (c0 : Nat) (l0 : List Int) (w : World) (hr0 : Kd.C (Kd.int .i64) w A0 l0.length l0) (hc0 : l0.length ≤ c0) :
    Calls Try.prog 78 #[.slice A0 l0.length c0,.func (.func 76) #[] #[]] w fun e w'=>e = .returned (.int .i64 (bad76 l0 l0.length 0)) ∧ Drawn0 w w':=by
  have hn : l0.length ≤ 9223372036854775807:=hr0.2.1
  have HR:=Aside0.mk hr0
  clear hr0
  have HN : Aside0 (bad76 l0 l0.length 0 = bad76 l0 (l0.length - 0) 0):=Aside0.mk rfl
  go_enter Try.func78,Try.ntmps78
  go_wp2
  go_loopw [8] (fun i w' => ∃ k : Nat,k ≤ l0.length ∧ i = .int .i64 k ∧ Aside0 (bad76 l0 l0.length 0 = bad76 l0 (l0.length - k) k) ∧ Drawn0 w w') (fun i _=>l0.length - (intOf i).toNat)
  case atStart=>exact ⟨0,Nat.zero_le _,rfl,HN,Drawn0.refl _⟩
  case round =>
    obtain ⟨k,hk,rfl,hb,hd⟩:=hrel
    by_cases hlt : k < l0.length
    · obtain ⟨ad,rfl,hx⟩:=Kd.at_int (Kd.C_below HR.out hd.below) (k : Int) (by omega) (by omega)
      rw [Int.toNat_natCast] at hx
      by_cases hg : good76 (rd l0 k) = true
      · have hs : Aside0 (bad76 l0 l0.length 0 = bad76 l0 (l0.length - (k + 1)) (k + 1)):=Aside0.mk (by
          rw [hb.out,show l0.length - k = (l0.length - (k + 1)) + 1 from by omega]
          conv=>lhs;unfold bad76
          rw [if_pos hg])
        have hf : Aside0 (impl_IsValidColumn_1.f (rd l0 k) = some false):=Aside0.mk (by rw [lit76_eq,hg];rfl)
        clear hb hg
        go_wp2_with (go_at_call 76;refine (impl_IsValidColumn_1.calls _ false _ hf.out).mono ?_;rintro e w' ⟨rfl,hd2⟩)
        go_roundw
        case rel=>exact ⟨k + 1,by omega,by go_num,hs,drawn_two hd hd2⟩
        case measure=>simp [intOf];omega
      · have hs : Aside0 (bad76 l0 l0.length 0 = (k : Int)):=Aside0.mk (by
          rw [hb.out,show l0.length - k = (l0.length - (k + 1)) + 1 from by omega]
          conv=>lhs;unfold bad76
          rw [if_neg hg])
        have hf : Aside0 (impl_IsValidColumn_1.f (rd l0 k) = some true):=Aside0.mk (by rw [lit76_eq,Bool.eq_false_iff.2 hg];rfl)
        clear hb hg
        go_wp2_with (go_at_call 76;refine (impl_IsValidColumn_1.calls _ true _ hf.out).mono ?_;rintro e w' ⟨rfl,hd2⟩)
        go_ret
        exact ⟨ret_int hs.out.symm,drawn_two hd hd2⟩
    · have hs : Aside0 (bad76 l0 l0.length 0 = -1):=Aside0.mk (by
        rw [hb.out,show l0.length - k = 0 from by omega];rfl)
      clear hb
      go_wp2
      go_ret
      exact ⟨ret_int hs.out.symm,hd⟩
def slices_ContainsFunc_int_int_76.f (l0 : List Int) : Option Bool:=some (decide (bad76 l0 l0.length 0 ≥ 0))
set_option maxHeartbeats 2000000 in
set_option maxRecDepth 100000 in
theorem slices_ContainsFunc_int_int_76.calls (A0 : Option Addr) (c0 : Nat) (l0 : List Int) (r : Bool) (w : World) (hr0 : Kd.C (Kd.int .i64) w A0 l0.length l0) (hc0 : l0.length ≤ c0) (h : slices_ContainsFunc_int_int_76.f l0 = some r) :
    Calls Try.prog 59 #[.slice A0 l0.length c0,.func (.func 76) #[] #[]] w fun e w'=>e = .returned (.bool r) ∧ Drawn0 w w':=by
  obtain rfl : decide (bad76 l0 l0.length 0 ≥ 0) = r:=Option.some.inj h
  have HR:=Aside0.mk hr0
  clear hr0 h
  go_enter Try.func59,Try.ntmps59
  go_wp2_with (go_at_call 78;refine (idx76 A0 c0 l0 _ HR.out hc0).mono ?_;rintro e w' ⟨rfl,hd⟩)
  go_ret
  exact ⟨rfl,hd⟩
end Go.Proofs.Ytcgfedaoimhejaa.G

-- Written by wip/tools/gen.py out of the translation (the kit's printer, one namespace a seat). Lean checks it.
namespace Go.Proofs.Ytcgfedaoimhejaa.G
open Go.RowKit Go.Proofs.YtcgfedaoimhejaaW.PrintWords Go.Proofs.YtcgfedaoimhejaaW.PrintLast Go.Proofs.YtcgfedaoimhejaaW.PrintMore
attribute [local go_sem] max2_int min2_int max_two min_two max_three min_three max_four min_four   -- for this text's walks alone
set_option linter.unusedVariables false
set_option linter.unusedSimpArgs false

/-! ### impl_IsValidColumn: function 43 -/
def impl_IsValidColumn.f (l0:List Int):Option (Bool):=if (l0.length:Int) ≤ 4 then ((slices_ContainsFunc_int_int_76.f l0).bind fun t145=>(some (!t145))) else (some false)
set_option maxHeartbeats 8000000 in
set_option maxRecDepth 100000 in
theorem impl_IsValidColumn.calls (A0:Option Addr) (c0:Nat) (l0:List Int) (r:Bool) (w:World) (hr0:Kd.C (Kd.int .i64) w A0 l0.length l0) (hc0:l0.length ≤ c0) (h:impl_IsValidColumn.f l0 = some r) :
  Calls Try.prog 43 #[.slice A0 l0.length c0] w fun e w'=>e = .returned (.bool r) ∧ Drawn0 w w':=by
 have HR0:=zM hr0;have HC0:=zM hc0;clear hr0 hc0;have H:(if (l0.length:Int) ≤ 4 then ((slices_ContainsFunc_int_int_76.f l0).bind fun t145=>(some (!t145))) else (some false)) = some r:=h
 clear h;by_cases c2:(l0.length:Int) ≤ 4
 ·rw [if_pos c2] at H
  have c2b0:decide ((l0.length:Int) ≤ 4) = true:=decide_eq_true c2
  have c2b1:decide (l0.length ≤ 4) = true:=decide_eq_true (by omega)
  clear c2;replace H:=Option.bind_eq_some_iff.mp H;obtain ⟨t145,A30,H⟩:=H;replace H:(some (!t145)) = some r:=H
  have A3:=zM A30;clear A30;obtain rfl:=Option.some.inj H;go_enter Try.func43,Try.ntmps43
  go_wp2_with (first|(go_at_call 59;(with_reducible refine (slices_ContainsFunc_int_int_76.calls _ _ l0  t145 _ ?side1 ?side2 A3.out).mono ?_);(case side1=>repeat (first|exact HR0.out|(with_reducible first|refine zG ?_ _|refine zH ?_ _|refine zI ?_)));(case side2=>exact HC0.out);rintro e w' ⟨rfl,⟨nd,rfl⟩⟩))
  go_ret
  exact ⟨by first|rfl|(simp;done)|(simp [*];done),by repeat (first|exact Drawn0.refl _|apply Drawn0.step)⟩
 ·rw [if_neg c2] at H
  have c2b0:decide ((l0.length:Int) ≤ 4) = false:=decide_eq_false c2
  have c2b1:decide (l0.length ≤ 4) = false:=decide_eq_false (by omega)
  clear c2;obtain rfl:=Option.some.inj H;go_enter Try.func43,Try.ntmps43
  go_wp2
  go_ret
  exact ⟨by first|rfl|(simp;done)|(simp [*];done),by repeat (first|exact Drawn0.refl _|apply Drawn0.step)⟩



/-! ### impl_isLashed: function 47 -/
def impl_isLashed.f (l0:List Int) (a1_0:Int) (a1_1:Int) (a1_2:Int):Option (Bool):=(impl_IsValidColumn.f l0).bind fun t147=>(if t147 = true then ((impl_within.f a1_0 1 200000).bind fun t148=>(if t148 = true then ((impl_within.f a1_1 0 100).bind fun t149=>(if t149 = true then ((impl_within.f a1_2 1 100000).bind fun t150=>(some t150)) else (some false))) else (some false))) else (some false))
set_option maxHeartbeats 8000000 in
set_option maxRecDepth 100000 in
theorem impl_isLashed.calls (A0:Option Addr) (c0:Nat) (l0:List Int) (a1_0:Int) (a1_1:Int) (a1_2:Int) (r:Bool) (w:World) (hr0:Kd.C (Kd.int .i64) w A0 l0.length l0) (hc0:l0.length ≤ c0) (h:impl_isLashed.f l0 a1_0 a1_1 a1_2 = some r) :
  Calls Try.prog 47 #[.slice A0 l0.length c0,.agg #[.int .i64 a1_0,.int .i64 a1_1,.int .i64 a1_2]] w fun e w'=>e = .returned (.bool r) ∧ Below w.heap.size w w':=by
 have hu28:=Try.underlying28;have HR0:=zM hr0;have HC0:=zM hc0;clear hr0 hc0;have HB:=zM (Below.refl w.heap.size w);have H:((impl_IsValidColumn.f l0).bind fun t147=>(if t147 = true then ((impl_within.f a1_0 1 200000).bind fun t148=>(if t148 = true then ((impl_within.f a1_1 0 100).bind fun t149=>(if t149 = true then ((impl_within.f a1_2 1 100000).bind fun t150=>(some t150)) else (some false))) else (some false))) else (some false))) = some r:=h
 clear h;replace H:=Option.bind_eq_some_iff.mp H;obtain ⟨t147,A30,H⟩:=H;replace H:(if t147 = true then ((impl_within.f a1_0 1 200000).bind fun t148=>(if t148 = true then ((impl_within.f a1_1 0 100).bind fun t149=>(if t149 = true then ((impl_within.f a1_2 1 100000).bind fun t150=>(some t150)) else (some false))) else (some false))) else (some false)) = some r:=H
 have A3:=zM A30;clear A30;by_cases c4:t147 = true
 ·subst c4
  have H1:((impl_within.f a1_0 1 200000).bind fun t148=>(if t148 = true then ((impl_within.f a1_1 0 100).bind fun t149=>(if t149 = true then ((impl_within.f a1_2 1 100000).bind fun t150=>(some t150)) else (some false))) else (some false))) = some r:=by rw [if_pos rfl] at H;exact H
  clear H;have H:=H1;clear H1;replace H:=Option.bind_eq_some_iff.mp H;obtain ⟨t148,A50,H⟩:=H;replace H:(if t148 = true then ((impl_within.f a1_1 0 100).bind fun t149=>(if t149 = true then ((impl_within.f a1_2 1 100000).bind fun t150=>(some t150)) else (some false))) else (some false)) = some r:=H
  have A5:=zM A50;clear A50;by_cases c6:t148 = true
  ·subst c6
   have H1:((impl_within.f a1_1 0 100).bind fun t149=>(if t149 = true then ((impl_within.f a1_2 1 100000).bind fun t150=>(some t150)) else (some false))) = some r:=by rw [if_pos rfl] at H;exact H
   clear H;have H:=H1;clear H1;replace H:=Option.bind_eq_some_iff.mp H;obtain ⟨t149,A70,H⟩:=H;replace H:(if t149 = true then ((impl_within.f a1_2 1 100000).bind fun t150=>(some t150)) else (some false)) = some r:=H
   have A7:=zM A70;clear A70;by_cases c8:t149 = true
   ·subst c8
    have H1:((impl_within.f a1_2 1 100000).bind fun t150=>(some t150)) = some r:=by rw [if_pos rfl] at H;exact H
    clear H;have H:=H1;clear H1;replace H:=Option.bind_eq_some_iff.mp H;obtain ⟨t150,A90,H⟩:=H;replace H:(some t150) = some r:=H
    have A9:=zM A90;clear A90;obtain rfl:=Option.some.inj H;go_enter Try.func47,Try.ntmps47
    go_wp2_with (first|((with_reducible refine gate_dst (N:=3) rfl ?_);refine box_event ?hg (N:=3) ?hd (cs := #[.int .i64 a1_0,.int .i64 a1_1,.int .i64 a1_2]) (t:=28) ?hr ?_;(case hd=>rfl);(case hg=>rfl);(case hr=>first|(go_simp;done)|(go_simp;rfl));intro gb146 hg w10 hbox hb;have n0_:=zM (zQ (by repeat (first|(with_reducible first|exact HB.out|apply zD|apply zE|apply zF)|exact HB.out)) hb);have n1_:=zM (hbox);have n2_:=zM ((by rw [hg];exact (zR (by repeat (first|(with_reducible first|exact HB.out|apply zD|apply zE|apply zF)|exact HB.out))):w.heap.size ≤ gb146));have n3_:=zM ((by rw [hg];exact (zR (by repeat (first|(with_reducible first|exact HB.out|apply zD|apply zE|apply zF)|exact HB.out))):w.heap.size ≤ gb146));clear HB;have HB:=n0_;have BK146:=n1_;have GW146:=n2_;have GE146:=n3_;clear n0_ n1_ n2_ n3_;clear hb hbox hg)|((with_reducible refine gate_callee (f:=43) rfl ?_);refine goesL_ (some 6) rfl rfl Try.func43 (by kernel_rfl) rfl #[.slice A0 l0.length c0] rfl (by (try simp only [List.map_toArray,List.map_cons,List.map_nil]);first|done|rfl|(simp only [List.length_drop,List.length_take];rfl)) ?_;(with_reducible refine (impl_IsValidColumn.calls _ _ l0 true _ ?side1 ?side2 A3.out).mono ?_);(case side1=>repeat (first|exact (zO HR0.out HB.out)|(with_reducible first|refine zG ?_ _|refine zH ?_ _|refine zI ?_)));(case side2=>exact HC0.out);rintro e w' ⟨rfl,⟨nd,rfl⟩⟩;refine ⟨_,rfl,?_⟩;have hcz11_0:w10.cell? ⟨gb146,0,none⟩ = some (.int .i64 a1_0):=(blk_cell BK146.out 0).trans rfl;have hcz11_1:w10.cell? ⟨gb146,1,none⟩ = some (.int .i64 a1_1):=(blk_cell BK146.out 1).trans rfl;have hcz11_2:w10.cell? ⟨gb146,2,none⟩ = some (.int .i64 a1_2):=(blk_cell BK146.out 2).trans rfl;have hfz11_0:=blk_frozen BK146.out 0;have hfz11_1:=blk_frozen BK146.out 1;have hfz11_2:=blk_frozen BK146.out 2)|(go_at_call 58;(with_reducible refine (impl_within.calls a1_0 1 200000 true _ A5.out).mono ?_);rintro e w' ⟨rfl,⟨nd,rfl⟩⟩)|(go_at_call 58;(with_reducible refine (impl_within.calls a1_1 0 100 true _ A7.out).mono ?_);rintro e w' ⟨rfl,⟨nd,rfl⟩⟩)|(go_at_call 58;(with_reducible refine (impl_within.calls a1_2 1 100000 t150 _ A9.out).mono ?_);rintro e w' ⟨rfl,⟨nd,rfl⟩⟩))
    go_ret
    exact ⟨by first|rfl|(simp [errW_none,errW_some] <;> rfl)|(simp [*,errW_none,errW_some] <;> rfl),by repeat (first|(with_reducible first|exact HB.out|apply zD|apply zE|apply zF|refine below_set ?_ GE146.out)|exact HB.out)⟩
   ·replace c8:=Bool.eq_false_iff.mpr c8
    subst c8;have H1:(some false) = some r:=by rw [if_neg (show ¬ (false = true) by decide)] at H;exact H
    clear H;have H:=H1;clear H1;obtain rfl:=Option.some.inj H;go_enter Try.func47,Try.ntmps47
    go_wp2_with (first|((with_reducible refine gate_dst (N:=3) rfl ?_);refine box_event ?hg (N:=3) ?hd (cs := #[.int .i64 a1_0,.int .i64 a1_1,.int .i64 a1_2]) (t:=28) ?hr ?_;(case hd=>rfl);(case hg=>rfl);(case hr=>first|(go_simp;done)|(go_simp;rfl));intro gb146 hg w12 hbox hb;have n0_:=zM (zQ (by repeat (first|(with_reducible first|exact HB.out|apply zD|apply zE|apply zF)|exact HB.out)) hb);have n1_:=zM (hbox);have n2_:=zM ((by rw [hg];exact (zR (by repeat (first|(with_reducible first|exact HB.out|apply zD|apply zE|apply zF)|exact HB.out))):w.heap.size ≤ gb146));have n3_:=zM ((by rw [hg];exact (zR (by repeat (first|(with_reducible first|exact HB.out|apply zD|apply zE|apply zF)|exact HB.out))):w.heap.size ≤ gb146));clear HB;have HB:=n0_;have BK146:=n1_;have GW146:=n2_;have GE146:=n3_;clear n0_ n1_ n2_ n3_;clear hb hbox hg)|((with_reducible refine gate_callee (f:=43) rfl ?_);refine goesL_ (some 6) rfl rfl Try.func43 (by kernel_rfl) rfl #[.slice A0 l0.length c0] rfl (by (try simp only [List.map_toArray,List.map_cons,List.map_nil]);first|done|rfl|(simp only [List.length_drop,List.length_take];rfl)) ?_;(with_reducible refine (impl_IsValidColumn.calls _ _ l0 true _ ?side1 ?side2 A3.out).mono ?_);(case side1=>repeat (first|exact (zO HR0.out HB.out)|(with_reducible first|refine zG ?_ _|refine zH ?_ _|refine zI ?_)));(case side2=>exact HC0.out);rintro e w' ⟨rfl,⟨nd,rfl⟩⟩;refine ⟨_,rfl,?_⟩;have hcz13_0:w12.cell? ⟨gb146,0,none⟩ = some (.int .i64 a1_0):=(blk_cell BK146.out 0).trans rfl;have hcz13_1:w12.cell? ⟨gb146,1,none⟩ = some (.int .i64 a1_1):=(blk_cell BK146.out 1).trans rfl;have hcz13_2:w12.cell? ⟨gb146,2,none⟩ = some (.int .i64 a1_2):=(blk_cell BK146.out 2).trans rfl;have hfz13_0:=blk_frozen BK146.out 0;have hfz13_1:=blk_frozen BK146.out 1;have hfz13_2:=blk_frozen BK146.out 2)|(go_at_call 58;(with_reducible refine (impl_within.calls a1_0 1 200000 true _ A5.out).mono ?_);rintro e w' ⟨rfl,⟨nd,rfl⟩⟩)|(go_at_call 58;(with_reducible refine (impl_within.calls a1_1 0 100 false _ A7.out).mono ?_);rintro e w' ⟨rfl,⟨nd,rfl⟩⟩))
    go_ret
    exact ⟨by first|rfl|(simp [errW_none,errW_some] <;> rfl)|(simp [*,errW_none,errW_some] <;> rfl),by repeat (first|(with_reducible first|exact HB.out|apply zD|apply zE|apply zF|refine below_set ?_ GE146.out)|exact HB.out)⟩
  ·replace c6:=Bool.eq_false_iff.mpr c6
   subst c6;have H1:(some false) = some r:=by rw [if_neg (show ¬ (false = true) by decide)] at H;exact H
   clear H;have H:=H1;clear H1;obtain rfl:=Option.some.inj H;go_enter Try.func47,Try.ntmps47
   go_wp2_with (first|((with_reducible refine gate_dst (N:=3) rfl ?_);refine box_event ?hg (N:=3) ?hd (cs := #[.int .i64 a1_0,.int .i64 a1_1,.int .i64 a1_2]) (t:=28) ?hr ?_;(case hd=>rfl);(case hg=>rfl);(case hr=>first|(go_simp;done)|(go_simp;rfl));intro gb146 hg w14 hbox hb;have n0_:=zM (zQ (by repeat (first|(with_reducible first|exact HB.out|apply zD|apply zE|apply zF)|exact HB.out)) hb);have n1_:=zM (hbox);have n2_:=zM ((by rw [hg];exact (zR (by repeat (first|(with_reducible first|exact HB.out|apply zD|apply zE|apply zF)|exact HB.out))):w.heap.size ≤ gb146));have n3_:=zM ((by rw [hg];exact (zR (by repeat (first|(with_reducible first|exact HB.out|apply zD|apply zE|apply zF)|exact HB.out))):w.heap.size ≤ gb146));clear HB;have HB:=n0_;have BK146:=n1_;have GW146:=n2_;have GE146:=n3_;clear n0_ n1_ n2_ n3_;clear hb hbox hg)|((with_reducible refine gate_callee (f:=43) rfl ?_);refine goesL_ (some 6) rfl rfl Try.func43 (by kernel_rfl) rfl #[.slice A0 l0.length c0] rfl (by (try simp only [List.map_toArray,List.map_cons,List.map_nil]);first|done|rfl|(simp only [List.length_drop,List.length_take];rfl)) ?_;(with_reducible refine (impl_IsValidColumn.calls _ _ l0 true _ ?side1 ?side2 A3.out).mono ?_);(case side1=>repeat (first|exact (zO HR0.out HB.out)|(with_reducible first|refine zG ?_ _|refine zH ?_ _|refine zI ?_)));(case side2=>exact HC0.out);rintro e w' ⟨rfl,⟨nd,rfl⟩⟩;refine ⟨_,rfl,?_⟩;have hcz15_0:w14.cell? ⟨gb146,0,none⟩ = some (.int .i64 a1_0):=(blk_cell BK146.out 0).trans rfl;have hcz15_1:w14.cell? ⟨gb146,1,none⟩ = some (.int .i64 a1_1):=(blk_cell BK146.out 1).trans rfl;have hcz15_2:w14.cell? ⟨gb146,2,none⟩ = some (.int .i64 a1_2):=(blk_cell BK146.out 2).trans rfl;have hfz15_0:=blk_frozen BK146.out 0;have hfz15_1:=blk_frozen BK146.out 1;have hfz15_2:=blk_frozen BK146.out 2)|(go_at_call 58;(with_reducible refine (impl_within.calls a1_0 1 200000 false _ A5.out).mono ?_);rintro e w' ⟨rfl,⟨nd,rfl⟩⟩))
   go_ret
   exact ⟨by first|rfl|(simp [errW_none,errW_some] <;> rfl)|(simp [*,errW_none,errW_some] <;> rfl),by repeat (first|(with_reducible first|exact HB.out|apply zD|apply zE|apply zF|refine below_set ?_ GE146.out)|exact HB.out)⟩
 ·replace c4:=Bool.eq_false_iff.mpr c4
  subst c4;have H1:(some false) = some r:=by rw [if_neg (show ¬ (false = true) by decide)] at H;exact H
  clear H;have H:=H1;clear H1;obtain rfl:=Option.some.inj H;go_enter Try.func47,Try.ntmps47
  go_wp2_with (first|((with_reducible refine gate_dst (N:=3) rfl ?_);refine box_event ?hg (N:=3) ?hd (cs := #[.int .i64 a1_0,.int .i64 a1_1,.int .i64 a1_2]) (t:=28) ?hr ?_;(case hd=>rfl);(case hg=>rfl);(case hr=>first|(go_simp;done)|(go_simp;rfl));intro gb146 hg w16 hbox hb;have n0_:=zM (zQ (by repeat (first|(with_reducible first|exact HB.out|apply zD|apply zE|apply zF)|exact HB.out)) hb);have n1_:=zM (hbox);have n2_:=zM ((by rw [hg];exact (zR (by repeat (first|(with_reducible first|exact HB.out|apply zD|apply zE|apply zF)|exact HB.out))):w.heap.size ≤ gb146));have n3_:=zM ((by rw [hg];exact (zR (by repeat (first|(with_reducible first|exact HB.out|apply zD|apply zE|apply zF)|exact HB.out))):w.heap.size ≤ gb146));clear HB;have HB:=n0_;have BK146:=n1_;have GW146:=n2_;have GE146:=n3_;clear n0_ n1_ n2_ n3_;clear hb hbox hg)|((with_reducible refine gate_callee (f:=43) rfl ?_);refine goesL_ (some 6) rfl rfl Try.func43 (by kernel_rfl) rfl #[.slice A0 l0.length c0] rfl (by (try simp only [List.map_toArray,List.map_cons,List.map_nil]);first|done|rfl|(simp only [List.length_drop,List.length_take];rfl)) ?_;(with_reducible refine (impl_IsValidColumn.calls _ _ l0 false _ ?side1 ?side2 A3.out).mono ?_);(case side1=>repeat (first|exact (zO HR0.out HB.out)|(with_reducible first|refine zG ?_ _|refine zH ?_ _|refine zI ?_)));(case side2=>exact HC0.out);rintro e w' ⟨rfl,⟨nd,rfl⟩⟩;refine ⟨_,rfl,?_⟩))
  go_ret
  exact ⟨by first|rfl|(simp [errW_none,errW_some] <;> rfl)|(simp [*,errW_none,errW_some] <;> rfl),by repeat (first|(with_reducible first|exact HB.out|apply zD|apply zE|apply zF|refine below_set ?_ GE146.out)|exact HB.out)⟩



/-! ### impl_ceiling: function 49 -/
def impl_ceiling.f (a0:Int) (a1:Int):Option (Int):=if a1 = 0 then (none) else (some (wrap64 (Int.tdiv (wrap64 ((wrap64 (a0 + a1)) - 1)) a1)))
set_option maxHeartbeats 8000000 in
set_option maxRecDepth 100000 in
theorem impl_ceiling.calls (a0:Int) (a1:Int) (r:Int) (w:World) (h:impl_ceiling.f a0 a1 = some r) :
  Calls Try.prog 49 #[.int .i64 a0,.int .i64 a1] w fun e w'=>e = .returned (.int .i64 r) ∧ Drawn0 w w':=by
 have H:(if a1 = 0 then (none) else (some (wrap64 (Int.tdiv (wrap64 ((wrap64 (a0 + a1)) - 1)) a1)))) = some r:=h
 clear h;by_cases c3:a1 = 0
 ·rw [if_pos c3] at H
  exact absurd H (by simp)
 ·rw [if_neg c3] at H
  have c3b0:(a1 == 0) = false:=beq_eq_false_iff_ne.mpr c3
  have c3b1:(a1 != 0) = true:=bne_iff_ne.mpr c3
  obtain rfl:=Option.some.inj H;go_enter Try.func49,Try.ntmps49
  go_wp2
  go_ret
  exact ⟨by first|rfl|(simp;done)|(simp [*];done),by repeat (first|exact Drawn0.refl _|apply Drawn0.step)⟩



/-! ### impl_sumOf: function 53 -/
def impl_sumOf.l0:Nat → Int → List Int → Int → Int → Option (Int)
 | 0,_,_,_,_=>none
 | k + 1,x3,x6,x7,x8=>if x8 < x7 then (if 0 ≤ x8 then (if x8 < (x6.length:Int) then (impl_sumOf.l0 k (wrap64 (x3 + (rd x6 x8))) x6 x7 (wrap64 (x8 + 1))) else (none)) else (none)) else (some x3)
def impl_sumOf.f (k:Nat) (l0:List Int):Option (Int):=impl_sumOf.l0 k 0 l0 (l0.length:Int) 0
set_option maxHeartbeats 8000000 in
set_option maxRecDepth 100000 in
theorem impl_sumOf.calls (k:Nat) (A0:Option Addr) (c0:Nat) (l0:List Int) (r:Int) (w:World) (hr0:Kd.C (Kd.int .i64) w A0 l0.length l0) (hc0:l0.length ≤ c0) (h:impl_sumOf.f k l0 = some r) :
  Calls Try.prog 53 #[.slice A0 l0.length c0] w fun e w'=>e = .returned (.int .i64 r) ∧ Drawn0 w w':=by
 have HR0:=zM hr0;have HC0:=zM hc0;clear hr0 hc0;have H:(impl_sumOf.l0 k 0 l0 (l0.length:Int) 0) = some r:=h
 clear h;have H':=zM H;clear H;go_enter Try.func53,Try.ntmps53
 go_wp2
 go_loopg [3,8] k (fun kq v3 v8 w' => ∃ (x3_1:Int) (x8_1:Int),v3 = .int .i64 x3_1 ∧ v8 = .int .i64 x8_1 ∧ Aside0 (impl_sumOf.l0 kq x3_1 l0 (l0.length:Int) x8_1 = some r) ∧ Aside0 (kq ≤ k) ∧ Drawn0 w w')
 case atStart=>exact ⟨(0),(0),(by first|rfl|(simp;done)|(simp [*];done)),(by first|rfl|(simp;done)|(simp [*];done)),H',⟨Nat.le_refl _⟩,by repeat (first|exact Drawn0.refl _|apply Drawn0.step)⟩
 case round =>
  clear H';obtain ⟨x3_1,x8_1,rfl,rfl,HA,HK1,⟨m1,rfl⟩⟩:=hrel;cases gk with
  | zero=>exact absurd HA.out (by simp [impl_sumOf.l0])
  | succ k1 =>
   have H:=HA.out;clear HA;simp only [impl_sumOf.l0] at H
   by_cases c2:x8_1 < (l0.length:Int)
   ·rw [if_pos c2] at H
    have c2b0:decide (x8_1 < (l0.length:Int)) = true:=decide_eq_true c2
    clear c2;by_cases c3:0 ≤ x8_1
    ·rw [if_pos c3] at H
     have c3b0:decide (0 ≤ x8_1) = true:=decide_eq_true c3
     clear c3;by_cases c4:x8_1 < (l0.length:Int)
     ·rw [if_pos c4] at H
      have c4b0:decide (x8_1 < (l0.length:Int)) = true:=decide_eq_true c4
      clear c4;have H':=zM H;clear H;have p151:0 ≤ (x8_1:Int):=of_decide_eq_true (by first|(with_reducible assumption)|assumption)
      have q151:x8_1 < (l0.length:Int):=of_decide_eq_true (by first|(with_reducible assumption)|assumption)
      obtain ⟨ad151,e151,hx151_0⟩:=Kd.at_int HR0.out x8_1 p151 q151;cases e151
      replace p151:=eq_true p151;replace q151:=eq_true q151;go_wp2
      go_roundg k1
      case measure=>have:=HK1.out;omega
      case rel=>exact ⟨(wrap64 (x3_1 + (rd l0 x8_1))),(wrap64 (x8_1 + 1)),(by first|rfl|(simp;done)|(simp [*];done)),(by first|rfl|(simp;done)|(simp [*];done)),H',⟨by have:=HK1.out;omega⟩,by repeat (first|exact Drawn0.refl _|apply Drawn0.step)⟩
     ·rw [if_neg c4] at H
      exact absurd H (by simp)
    ·rw [if_neg c3] at H
     exact absurd H (by simp)
   ·rw [if_neg c2] at H
    have c2b0:decide (x8_1 < (l0.length:Int)) = false:=decide_eq_false c2
    clear c2;obtain rfl:=Option.some.inj H;go_wp2
    go_ret
    exact ⟨by first|rfl|(simp;done)|(simp [*];done),by repeat (first|exact Drawn0.refl _|apply Drawn0.step)⟩



/-! ### impl_forcesOf: function 48 -/
def impl_forcesOf.l0:Nat → List Int → List Int → Int → Int → Int → Int → Int → Option (List Int)
 | 0,_,_,_,_,_,_,_=>none
 | k + 1,x0,x5,x9,x10,x153000,x153001,x153002=>if x10 < x9 then (if 0 ≤ x10 then (if x10 ≤ (x0.length:Int) then ((impl_sumOf.f k (x0.drop (x10:Int).toNat)).bind fun t157=>((impl_ceiling.f (wrap64 (x153001 * t157)) 100).bind fun t158=>(if x5.length < 17592186044416 then (impl_forcesOf.l0 k x0 (x5 ++ [t158]) x9 (wrap64 (x10 + 1)) x153000 x153001 x153002) else (none)))) else (none)) else (none)) else (some x5)
def impl_forcesOf.f (k:Nat) (l0:List Int) (a1_0:Int) (a1_1:Int) (a1_2:Int):Option (List Int):=impl_forcesOf.l0 k l0 (([]:List Int)) (l0.length:Int) 0 a1_0 a1_1 a1_2
def impl_forcesOf.T5:Bool × List (List Nat × List Nat):=(true,[([],[]),([],[]),([1],[1]),([],[]),([],[]),([3,4],[3,4]),([5],[5]),([2,6],[2,6]),([7,6],[7]),([8],[8]),([0,9,8],[0,9]),([10,10,0,1,2,3,4,5,6,7,8,9,10],[0,10])])
def impl_forcesOf.B5:List Nat:=[0,0,2,0,0,24,56,126,254,510,1023,2047]
theorem impl_forcesOf.tab5:rtab .any (opsOf Try.f48 5) = impl_forcesOf.T5:=by kernel_rfl
theorem impl_forcesOf.bits5:waitsOk impl_forcesOf.T5.2 impl_forcesOf.B5 = true:=by kernel_rfl
set_option maxHeartbeats 8000000 in
set_option maxRecDepth 100000 in
theorem impl_forcesOf.calls (k:Nat) (A0:Option Addr) (c0:Nat) (l0:List Int) (a1_0:Int) (a1_1:Int) (a1_2:Int) (r:List Int) (w:World) (hr0:Kd.C (Kd.int .i64) w A0 l0.length l0) (hc0:l0.length ≤ c0) (h:impl_forcesOf.f k l0 a1_0 a1_1 a1_2 = some r) :
  Calls Try.prog 48 #[.slice A0 l0.length c0,.agg #[.int .i64 a1_0,.int .i64 a1_1,.int .i64 a1_2]] w fun e w' => ∃ v0_:Value,e = .returned (v0_) ∧ Kd.R (Kd.int .i64) 3 w' w.heap.size (fun _=>True) v0_ r ∧ Below w.heap.size w w':=by
 have hu28:=Try.underlying28;have HR0:=zM hr0;have HC0:=zM hc0;clear hr0 hc0;have HB:=zM (Below.refl w.heap.size w);have H:(impl_forcesOf.l0 k l0 (([]:List Int)) (l0.length:Int) 0 a1_0 a1_1 a1_2) = some r:=h
 clear h;obtain ⟨y153,hy153⟩ : ∃ y_:List Int,y_ = (([]:List Int)):=⟨_,rfl⟩
 replace H:(impl_forcesOf.l0 k l0 y153 (l0.length:Int) 0 a1_0 a1_1 a1_2) = some r:=by first|(rw [hy153];with_reducible exact H)|(have H2_:=(Option.bind_some _ _).symm.trans H;rw [hy153];with_reducible exact H2_)|(have H2_:=(Option.bind_some _ _).symm.trans H;with_reducible exact H2_)|with_reducible exact H|(rw [hy153];exact H)|exact H
 have Ny153:=zM hy153;clear hy153;have H':=zM H;clear H;go_enter Try.func48,Try.ntmps48
 go_wp2_with (first|((with_reducible refine gate_dst (N:=3) rfl ?_);refine box_event ?hg (N:=3) ?hd (cs := #[.int .i64 a1_0,.int .i64 a1_1,.int .i64 a1_2]) (t:=28) ?hr ?_;(case hd=>rfl);(case hg=>rfl);(case hr=>first|(go_simp;done)|(go_simp;rfl));intro gb152 hg w3 hbox hb;have n0_:=zM (zQ (by repeat (first|(with_reducible first|exact HB.out|apply zD|apply zE|apply zF)|exact HB.out)) hb);have n1_:=zM (hbox);have n2_:=zM ((by rw [hg];exact (zR (by repeat (first|(with_reducible first|exact HB.out|apply zD|apply zE|apply zF)|exact HB.out))):w.heap.size ≤ gb152));have n3_:=zM ((by rw [hg];exact (zR (by repeat (first|(with_reducible first|exact HB.out|apply zD|apply zE|apply zF)|exact HB.out))):w.heap.size ≤ gb152));clear HB;have HB:=n0_;have BK152:=n1_;have GW152:=n2_;have GE152:=n3_;clear n0_ n1_ n2_ n3_;clear hb hbox hg)|((with_reducible refine gate_dst (N:=7) rfl ?_);refine Kd.R_lit (Kd.int .i64) _ 3 ?hg (N:=7) ?hd (xs:=([]:List Int)) (inner:=[]) (ok:=fun _=>True) (okp:=fun _=>True) ?hr ?hp (fun _ hk=>hk) trivial (Below.refl _ _) (Nat.le_refl _) (by simp) ?_;(case hd=>rfl);(case hg=>rfl);(case hr=>first|(go_simp;done)|(go_simp;rfl));(case hp=>exact (Reps.none _ _));intro v154 w4 ho5 hb hg_ hnew_;clear hg_ hnew_;(first|rw [← Ny153.out] at ho5|(simp only [Int.reduceToNat] at ho5;rw [← Ny153.out] at ho5));have n0_:=zM (Kd.R_lower ho5 (zR (by repeat (first|(with_reducible first|exact HB.out|apply zD|apply zE|apply zF|refine below_set ?_ GE152.out)|exact HB.out))));have n1_:=zM (blk_below (g:=gb152) (o := .cells #[.int .i64 a1_0,.int .i64 a1_1,.int .i64 a1_2] 28 (0,0)) (by (with_reducible repeat (first|refine zJ ?_ _|refine zK ?_|refine zL ?_ _));exact BK152.out) hb);have n2_:=zM (zQ (by repeat (first|(with_reducible first|exact HB.out|apply zD|apply zE|apply zF|refine below_set ?_ GE152.out)|exact HB.out)) hb);clear BK152;clear HB;have HO155:=n0_;have BK152:=n1_;have HB:=n2_;clear n0_ n1_ n2_;clear hb ho5))
 go_loopg [5,10] k (fun kq v5 v10 w' => ∃ (x5_1:List Int) (x10_1:Int),v10 = .int .i64 x10_1 ∧ Aside0 (impl_forcesOf.l0 kq l0 x5_1 (l0.length:Int) x10_1 a1_0 a1_1 a1_2 = some r) ∧ Aside0 (kq ≤ k) ∧ Aside0 (Kd.R (Kd.int .i64) 3 w' w.heap.size (fun _=>True) v5 x5_1) ∧ Aside0 (w'.heap[gb152]? = some (.cells #[.int .i64 a1_0,.int .i64 a1_1,.int .i64 a1_2] 28 (0,0))) ∧ Aside0 (Below w.heap.size w w'))
 case atStart=>exact ⟨(y153),(0),(by first|rfl|(simp;done)|(simp [*];done)),H',⟨Nat.le_refl _⟩,⟨by (with_reducible repeat (first|apply zA|apply zB|apply zC));exact HO155.out⟩,⟨by (with_reducible repeat (first|refine zJ ?_ _|refine zK ?_|refine zL ?_ _));exact BK152.out⟩,⟨by repeat (first|(with_reducible first|exact HB.out|apply zD|apply zE|apply zF|refine below_set ?_ GE152.out)|exact HB.out)⟩⟩
 case round =>
  clear H';(try clear p2);(try clear c4);obtain ⟨x5_1,x10_1,rfl,HA,HK1,HO_5,BK152,HB⟩:=hrel;cases gk with
  | zero=>exact absurd HA.out (by simp [impl_forcesOf.l0])
  | succ k1 =>
   have H:=HA.out;clear HA;simp only [impl_forcesOf.l0] at H
   by_cases c6:x10_1 < (l0.length:Int)
   ·rw [if_pos c6] at H
    have c6b0:decide (x10_1 < (l0.length:Int)) = true:=decide_eq_true c6
    clear c6;by_cases c7:0 ≤ x10_1
    ·rw [if_pos c7] at H
     have c7b0:=eq_true c7;have c7b1:decide (0 ≤ x10_1) = true:=decide_eq_true c7
     clear c7;by_cases c8:x10_1 ≤ (l0.length:Int)
     ·rw [if_pos c8] at H
      have c8b0:=eq_true c8;have c8b1:decide (x10_1 ≤ (l0.length:Int)) = true:=decide_eq_true c8
      clear c8;replace H:=Option.bind_eq_some_iff.mp H;obtain ⟨t157,A90,H⟩:=H;replace H:((impl_ceiling.f (wrap64 (a1_1 * t157)) 100).bind fun t158=>(if x5_1.length < 17592186044416 then (impl_forcesOf.l0 k1 l0 (x5_1 ++ [t158]) (l0.length:Int) (wrap64 (x10_1 + 1)) a1_0 a1_1 a1_2) else (none))) = some r:=H
      have A9:=zM A90;clear A90;replace H:=Option.bind_eq_some_iff.mp H;obtain ⟨t158,A100,H⟩:=H;replace H:(if x5_1.length < 17592186044416 then (impl_forcesOf.l0 k1 l0 (x5_1 ++ [t158]) (l0.length:Int) (wrap64 (x10_1 + 1)) a1_0 a1_1 a1_2) else (none)) = some r:=H
      have A10:=zM A100;clear A100;by_cases c11:x5_1.length < 17592186044416
      ·rw [if_pos c11] at H
       have LMc11:=zM c11;clear c11;obtain ⟨y159,hy159⟩ : ∃ y_:List Int,y_ = (x5_1 ++ [t158]):=⟨_,rfl⟩
       replace H:(impl_forcesOf.l0 k1 l0 y159 (l0.length:Int) (wrap64 (x10_1 + 1)) a1_0 a1_1 a1_2) = some r:=by first|(rw [hy159];with_reducible exact H)|(have H2_:=(Option.bind_some _ _).symm.trans H;rw [hy159];with_reducible exact H2_)|(have H2_:=(Option.bind_some _ _).symm.trans H;with_reducible exact H2_)|with_reducible exact H|(rw [hy159];exact H)|exact H
       have Ny159:=zM hy159;clear hy159;have H':=zM H;clear H;try go_wp2
       have n0_:=zM (zC HO_5.out);have n1_:=zM (zK BK152.out);have n2_:=zM (zF HB.out);clear HO_5;clear BK152;clear HB;have HO_5:=n0_;have BK152:=n1_;have HB:=n2_;clear n0_ n1_ n2_;obtain ⟨i013,hi013,_,hsz13,_⟩:=info_parts info3;obtain ⟨A13,hcut13,hA13,hC13⟩:=print_drop_of (P:=Try.prog) (Value.int .i64) 0 22 3 .i64 Try.underlying22 hi013 hsz13 A0 c0 l0 x10_1 (of_decide_eq_true (by first|(with_reducible assumption)|assumption)) (of_decide_eq_true (by first|(with_reducible assumption)|assumption)) HC0.out
       have HR156:=zM (Kd.C_of_reads (h1:=fun _=>rfl) (hA13 _ (Kd.reads_of_C HR0.out)))
       have HC156:=zM hC13;clear hA13 hC13 hi013 hsz13;refine start_ (n:=12) (S:=fun w'=>w'.cell? ⟨gb152,0,none⟩ = some (.int .i64 a1_0) ∧ w'.cell? ⟨gb152,1,none⟩ = some (.int .i64 a1_1) ∧ w'.cell? ⟨gb152,2,none⟩ = some (.int .i64 a1_2)) (ds:=[]) #[false,false,false,false,false,false,false,false,false,false,false,false] (by kernel_rfl) rfl rfl ⟨(blk_cell BK152.out 0).trans rfl,(blk_cell BK152.out 1).trans rfl,(blk_cell BK152.out 2).trans rfl⟩ (fun hHeld=>?_);refine with_tabW impl_forcesOf.tab5 impl_forcesOf.bits5 (fun HT_ HW_=>?_)
       generalize wr.drew = w12 at HO_5 BK152 HB HR156 hHeld ⊢
       refine pure_ (i:=0) (N:=some 13) (v:=?_) (a':=?_) #[true,false,false,false,false,false,false,false,false,false,false,false] rfl rfl (any_of HT_.out (by kernel_rfl)) (fun _ _ _ h=>h) (Or.inl ⟨by rfl,?_⟩) ?_ ?_
       rotate_left
       ·intro w'
        go_simp
        with_reducible rfl
       rotate_left
       ·simp only [Act.put,zT,zU,zV,i64_w,i32_w]
        rfl
       refine pure_ (i:=1) (N:=some 14) (v:=?_) (a':=?_) #[true,true,false,false,false,false,false,false,false,false,false,false] rfl rfl (any_of HT_.out (by kernel_rfl)) (fun _ _ _ h=>h) (Or.inl ⟨by rfl,?_⟩) ?_ ?_
       rotate_left
       ·intro w'
        go_simp
        with_reducible rfl
       rotate_left
       ·simp only [Act.put,zT,zU,zV,i64_w,i32_w]
        rfl
       refine pure_ (i:=3) (N:=some 16) (v:=?_) (a':=?_) #[true,true,false,true,false,false,false,false,false,false,false,false] rfl rfl (any_of HT_.out (by kernel_rfl)) (fun _ _ _ h=>h) (Or.inl ⟨by rfl,?_⟩) ?_ ?_
       rotate_left
       ·intro w'
        go_simp
        with_reducible rfl
       rotate_left
       ·simp only [Act.put,zT,zU,zV,i64_w,i32_w]
        rfl
       refine pure_ (i:=4) (N:=some 17) (v:=?_) (a':=?_) #[true,true,false,true,true,false,false,false,false,false,false,false] rfl rfl (any_of HT_.out (by kernel_rfl)) (fun _ _ _ h=>h) (Or.inl ⟨by rfl,?_⟩) ?_ ?_
       rotate_left
       ·intro w'
        go_simp
        with_reducible rfl
       rotate_left
       ·simp only [Act.put,zT,zU,zV,i64_w,i32_w]
        rfl
       refine pure_ (i:=5) (N:=some 18) (v:=?_) (a':=?_) #[true,true,false,true,true,true,false,false,false,false,false,false] rfl rfl (any_of HT_.out (by kernel_rfl)) (fun _ _ _ h=>h) (Or.inl ⟨by rfl,?_⟩) ?_ ?_
       rotate_left
       ·intro w'
        go_simp
        with_reducible rfl
       rotate_left
       ·simp only [Act.put,zT,zU,zV,i64_w,i32_w]
        rfl
       refine take_ (i:=2) (N:=some 15) (v:=?_) (a':=?_) #[true,true,true,true,true,true,false,false,false,false,false,false] rfl rfl (take_ofW HT_.out HW_.out (by kernel_rfl)) (fun _ _ _ h=>h) (Or.inl ⟨by rfl,?_⟩) hHeld ?_ ?_
       rotate_left
       ·rintro w' ⟨s0,s1,s2⟩
        go_simp
        with_reducible rfl
       rotate_left
       ·simp only [Act.put,zT,zU,zV,i64_w,i32_w]
        rfl
       refine one_ (i:=6) (N:=some 19) #[true,true,true,true,true,true,true,false,false,false,false,false] rfl rfl (one_of HT_.out (by kernel_rfl)) (by decide) (fun K hK=>?_)
       refine goes_ Try.func53 (by kernel_rfl) rfl #[.slice A13 (l0.drop (x10_1:Int).toNat).length (c0 - x10_1.toNat)] (by rfl) rfl rfl (by (try simp only [List.map_toArray,List.map_cons,List.map_nil]);first|done|(rw [show (l0.drop (x10_1:Int).toNat).length = (l0.length - x10_1.toNat) from List.length_drop] <;> rfl)|rfl|(simp only [List.length_drop,List.length_take];rfl)) ?_
       with_reducible refine (impl_sumOf.calls k1 _ _ (l0.drop (x10_1:Int).toNat) t157 _ ?side1 ?side2 A9.out).mono ?_
       (case side1=>repeat (first|exact (zO HR156.out HB.out)|(with_reducible first|refine zG ?_ _|refine zH ?_ _|refine zI ?_)))
       (case side2=>exact HC156.out)
       rintro e w' ⟨rfl,⟨nd,rfl⟩⟩
       refine ⟨_,rfl,?_⟩
       refine hK.out _ _ ⟨(blk_cell BK152.out 0).trans rfl,(blk_cell BK152.out 1).trans rfl,(blk_cell BK152.out 2).trans rfl⟩ (fun hHeld=>?_)
       clear hK K;refine norm_ (a':=?_) ?_ ?_
       rotate_left
       ·show Act.put _ (some 19) _ = _
        simp only [Act.put,zT,zU,zV,i64_w,i32_w]
        rfl
       refine pure_ (i:=7) (N:=some 20) (v:=?_) (a':=?_) #[true,true,true,true,true,true,true,true,false,false,false,false] rfl rfl (any_of HT_.out (by kernel_rfl)) (fun _ _ _ h=>h) (Or.inl ⟨by rfl,?_⟩) ?_ ?_
       rotate_left
       ·intro w'
        go_simp
        with_reducible rfl
       rotate_left
       ·simp only [Act.put,zT,zU,zV,i64_w,i32_w]
        rfl
       refine one_ (i:=8) (N:=some 21) #[true,true,true,true,true,true,true,true,true,false,false,false] rfl rfl (one_of HT_.out (by kernel_rfl)) (by decide) (fun K hK=>?_)
       refine goes_ Try.func49 (by kernel_rfl) rfl #[.int .i64 (wrap64 (a1_1 * t157)),.int .i64 100] (by rfl) rfl rfl (by (try simp only [List.map_toArray,List.map_cons,List.map_nil]);first|done|rfl|(simp only [List.length_drop,List.length_take];rfl)) ?_
       with_reducible refine (impl_ceiling.calls (wrap64 (a1_1 * t157)) 100 t158 _ A10.out).mono ?_
       rintro e w' ⟨rfl,⟨nd,rfl⟩⟩
       refine ⟨_,rfl,?_⟩
       refine hK.out _ _ ⟨(blk_cell BK152.out 0).trans rfl,(blk_cell BK152.out 1).trans rfl,(blk_cell BK152.out 2).trans rfl⟩ (fun hHeld=>?_)
       clear hK K;refine norm_ (a':=?_) ?_ ?_
       rotate_left
       ·show Act.put _ (some 21) _ = _
        simp only [Act.put,zT,zU,zV,i64_w,i32_w]
        rfl
       refine one_ (i:=9) (N:=some 22) #[true,true,true,true,true,true,true,true,true,true,false,false] rfl rfl (one_of HT_.out (by kernel_rfl)) (by decide) (fun K hK=>?_)
       refine value_ (w1:=?_) (v:=?_) (by rfl) rfl ?_ ?_
       rotate_left 2
       ·go_simp
        constructor
        ·rfl
        ·rfl
       refine hK.out _ _ ⟨(blk_cell (zL BK152.out _) 0).trans rfl,(blk_cell (zL BK152.out _) 1).trans rfl,(blk_cell (zL BK152.out _) 2).trans rfl⟩ (fun hHeld=>?_)
       clear hK K;refine norm_ (a':=?_) ?_ ?_
       rotate_left
       ·show Act.put _ (some 22) _ = _
        simp only [Act.put,zT,zU,zV,i64_w,i32_w]
        rfl
       refine one_ (i:=10) (N:=some 23) #[true,true,true,true,true,true,true,true,true,true,true,false] rfl rfl (one_of HT_.out (by kernel_rfl)) (by decide) (fun K hK=>?_)
       refine Kd.R_append_step (Kd.int .i64) (w0:=w) w.heap.size (by rfl) (.tmp 13) (.tmp 22) 22 3 (.int .i64 0) 8 rfl Try.underlying22 info3 rfl (by decide) (by omega) u5 x5_1 t158 [.int .i64 t158] (fun _=>True) (fun _=>False) rfl rfl ?aP (fun _ hk=>hk.elim) ?aF ?aO ?aB ?aS ?aL ?_
       (case aP=>exact rfl)
       (case aB=>exact (by repeat (first|(with_reducible first|exact HB.out|apply zD|apply zE|apply zF|refine below_set ?_ GE152.out)|exact HB.out)))
       (case aF=>exact (fun _ _=>trivial))
       (case aO=>exact (by (with_reducible repeat (first|apply zA|apply zB|apply zC));exact HO_5.out))
       (case aS=>exact (zR (by repeat (first|(with_reducible first|exact HB.out|apply zD|apply zE|apply zF|refine below_set ?_ GE152.out)|exact HB.out))))
       (case aL=>have:=LMc11.out;omega)
       intro v160 w14 ho hb hg hat;rw [← Ny159.out] at ho;have n0_:=zM (blk_grown (g:=gb152) (o := .cells #[.int .i64 a1_0,.int .i64 a1_1,.int .i64 a1_2] 28 (0,0)) (by (with_reducible repeat (first|refine zJ ?_ _|refine zK ?_|refine zL ?_ _));exact BK152.out) hg (Kd.R_ne HO_5.out BK152.out (by decide)))
       have n1_:=zM (hb);have n2_:=zM (ho);clear BK152;clear HB;clear HO_5;have BK152:=n0_;have HB:=n1_;have HO161:=n2_;clear n0_ n1_ n2_;clear ho hb hg hat;refine hK.out _ _ ⟨(blk_cell BK152.out 0).trans rfl,(blk_cell BK152.out 1).trans rfl,(blk_cell BK152.out 2).trans rfl⟩ (fun hHeld=>?_)
       clear hK K;refine norm_ (a':=?_) ?_ ?_
       rotate_left
       ·show Act.put _ (some 23) _ = _
        simp only [Act.put,zT,zU,zV,i64_w,i32_w]
        rfl
       refine pure_ (i:=11) (N:=some 5) (v:=?_) (a':=?_) #[true,true,true,true,true,true,true,true,true,true,true,true] rfl rfl (any_of HT_.out (by kernel_rfl)) (fun _ _ _ h=>h) (Or.inl ⟨by rfl,?_⟩) ?_ ?_
       rotate_left
       ·intro w'
        go_simp
        with_reducible rfl
       rotate_left
       ·simp only [Act.put,zT,zU,zV,i64_w,i32_w]
        rfl
       refine done_ (done_of HT_.out (by kernel_rfl)) ?_
       try go_wp2
       go_roundg k1
       case measure=>have:=HK1.out;omega
       case rel=>exact ⟨(y159),(wrap64 (x10_1 + 1)),(by first|rfl|(simp;done)|(simp [*];done)),H',⟨by have:=HK1.out;omega⟩,⟨by (with_reducible repeat (first|apply zA|apply zB|apply zC));exact HO161.out⟩,⟨by (with_reducible repeat (first|refine zJ ?_ _|refine zK ?_|refine zL ?_ _));exact BK152.out⟩,⟨by repeat (first|(with_reducible first|exact HB.out|apply zD|apply zE|apply zF|refine below_set ?_ GE152.out)|exact HB.out)⟩⟩
      ·rw [if_neg c11] at H
       exact absurd H (by simp)
     ·rw [if_neg c8] at H
      exact absurd H (by simp)
    ·rw [if_neg c7] at H
     exact absurd H (by simp)
   ·rw [if_neg c6] at H
    have c6b0:decide (x10_1 < (l0.length:Int)) = false:=decide_eq_false c6
    clear c6;obtain rfl:=Option.some.inj H;go_wp2
    go_ret
    exact ⟨_,by first|rfl|(simp [errW_none,errW_some] <;> rfl)|(simp [*,errW_none,errW_some] <;> rfl),by (with_reducible repeat (first|apply zA|apply zB|apply zC));exact HO_5.out,by repeat (first|(with_reducible first|exact HB.out|apply zD|apply zE|apply zF|refine below_set ?_ GE152.out)|exact HB.out)⟩



/-! ### impl_LashForces: function 15 -/
def impl_LashForces.f (k:Nat) (l0:List Int) (a1_0:Int) (a1_1:Int) (a1_2:Int):Option (List Int × Bool):=(impl_isLashed.f l0 a1_0 a1_1 a1_2).bind fun t163=>(if t163 = true then ((impl_forcesOf.f k l0 a1_0 a1_1 a1_2).bind fun t164=>(some (t164,true))) else (some (([]:List Int),false)))
set_option maxHeartbeats 8000000 in
set_option maxRecDepth 100000 in
theorem impl_LashForces.calls (k:Nat) (A0:Option Addr) (c0:Nat) (l0:List Int) (a1_0:Int) (a1_1:Int) (a1_2:Int) (r1:List Int) (r2:Bool) (w:World) (hr0:Kd.C (Kd.int .i64) w A0 l0.length l0) (hc0:l0.length ≤ c0) (h:impl_LashForces.f k l0 a1_0 a1_1 a1_2 = some (r1,r2)) :
  Calls Try.prog 15 #[.slice A0 l0.length c0,.agg #[.int .i64 a1_0,.int .i64 a1_1,.int .i64 a1_2]] w fun e w' => ∃ v0_:Value,e = .returned (.tuple #[v0_,.bool r2]) ∧ Kd.R (Kd.int .i64) 3 w' w.heap.size (fun _=>True) v0_ r1 ∧ Below w.heap.size w w':=by
 have hu28:=Try.underlying28;have HR0:=zM hr0;have HC0:=zM hc0;clear hr0 hc0;have HB:=zM (Below.refl w.heap.size w);have H:((impl_isLashed.f l0 a1_0 a1_1 a1_2).bind fun t163=>(if t163 = true then ((impl_forcesOf.f k l0 a1_0 a1_1 a1_2).bind fun t164=>(some (t164,true))) else (some (([]:List Int),false)))) = some (r1,r2):=h
 clear h;replace H:=Option.bind_eq_some_iff.mp H;obtain ⟨t163,A30,H⟩:=H;replace H:(if t163 = true then ((impl_forcesOf.f k l0 a1_0 a1_1 a1_2).bind fun t164=>(some (t164,true))) else (some (([]:List Int),false))) = some (r1,r2):=H
 have A3:=zM A30;clear A30;by_cases c4:t163 = true
 ·subst c4
  have H1:((impl_forcesOf.f k l0 a1_0 a1_1 a1_2).bind fun t164=>(some (t164,true))) = some (r1,r2):=by rw [if_pos rfl] at H;exact H
  clear H;have H:=H1;clear H1;replace H:=Option.bind_eq_some_iff.mp H;obtain ⟨t164,A50,H⟩:=H;replace H:(some (t164,true)) = some (r1,r2):=H
  have A5:=zM A50;clear A50;simp only [Option.some.injEq,Prod.mk.injEq] at H
  obtain ⟨rfl,rfl⟩:=H;go_enter Try.func15,Try.ntmps15
  go_wp2_with (first|((with_reducible refine gate_dst (N:=3) rfl ?_);refine box_event ?hg (N:=3) ?hd (cs := #[.int .i64 a1_0,.int .i64 a1_1,.int .i64 a1_2]) (t:=28) ?hr ?_;(case hd=>rfl);(case hg=>rfl);(case hr=>first|(go_simp;done)|(go_simp;rfl));intro gb162 hg w6 hbox hb;have n0_:=zM (zQ (by repeat (first|(with_reducible first|exact HB.out|apply zD|apply zE|apply zF)|exact HB.out)) hb);have n1_:=zM (hbox);have n2_:=zM ((by rw [hg];exact (zR (by repeat (first|(with_reducible first|exact HB.out|apply zD|apply zE|apply zF)|exact HB.out))):w.heap.size ≤ gb162));have n3_:=zM ((by rw [hg];exact (zR (by repeat (first|(with_reducible first|exact HB.out|apply zD|apply zE|apply zF)|exact HB.out))):w.heap.size ≤ gb162));clear HB;have HB:=n0_;have BK162:=n1_;have GW162:=n2_;have GE162:=n3_;clear n0_ n1_ n2_ n3_;clear hb hbox hg;have hcz7_0:w6.cell? ⟨gb162,0,none⟩ = some (.int .i64 a1_0):=(blk_cell BK162.out 0).trans rfl;have hcz7_1:w6.cell? ⟨gb162,1,none⟩ = some (.int .i64 a1_1):=(blk_cell BK162.out 1).trans rfl;have hcz7_2:w6.cell? ⟨gb162,2,none⟩ = some (.int .i64 a1_2):=(blk_cell BK162.out 2).trans rfl;have hfz7_0:=blk_frozen BK162.out 0;have hfz7_1:=blk_frozen BK162.out 1;have hfz7_2:=blk_frozen BK162.out 2)|((with_reducible refine gate_callee (f:=47) rfl ?_);refine goesL_ (some 8) rfl rfl Try.func47 (by kernel_rfl) rfl #[.slice A0 l0.length c0,.agg #[.int .i64 a1_0,.int .i64 a1_1,.int .i64 a1_2]] rfl (by (try simp only [List.map_toArray,List.map_cons,List.map_nil]);first|done|rfl|(simp only [List.length_drop,List.length_take];rfl)) ?_;(with_reducible refine (impl_isLashed.calls _ _ l0 a1_0 a1_1 a1_2 true _ ?side1 ?side2 A3.out).mono ?_);(case side1=>repeat (first|exact (zO HR0.out HB.out)|(with_reducible first|refine zG ?_ _|refine zH ?_ _|refine zI ?_)));(case side2=>exact HC0.out);rintro e w8 ⟨rfl,hb⟩;refine ⟨_,rfl,?_⟩;have n0_:=zM (blk_below (g:=gb162) (o := .cells #[.int .i64 a1_0,.int .i64 a1_1,.int .i64 a1_2] 28 (0,0)) (by (with_reducible repeat (first|refine zJ ?_ _|refine zK ?_|refine zL ?_ _));exact BK162.out) hb);have n1_:=zM (zQ (by repeat (first|(with_reducible first|exact HB.out|apply zD|apply zE|apply zF|refine below_set ?_ GE162.out)|exact HB.out)) hb);clear BK162;clear HB;have BK162:=n0_;have HB:=n1_;clear n0_ n1_;(try clear hb);(try clear hb2);(try clear hk);(try clear hi);have hcz9_0:w8.cell? ⟨gb162,0,none⟩ = some (.int .i64 a1_0):=(blk_cell BK162.out 0).trans rfl;have hcz9_1:w8.cell? ⟨gb162,1,none⟩ = some (.int .i64 a1_1):=(blk_cell BK162.out 1).trans rfl;have hcz9_2:w8.cell? ⟨gb162,2,none⟩ = some (.int .i64 a1_2):=(blk_cell BK162.out 2).trans rfl;have hfz9_0:=blk_frozen BK162.out 0;have hfz9_1:=blk_frozen BK162.out 1;have hfz9_2:=blk_frozen BK162.out 2)|((with_reducible refine gate_callee (f:=48) rfl ?_);refine goesL_ (some 12) rfl rfl Try.func48 (by kernel_rfl) rfl #[.slice A0 l0.length c0,.agg #[.int .i64 a1_0,.int .i64 a1_1,.int .i64 a1_2]] rfl (by (try simp only [List.map_toArray,List.map_cons,List.map_nil]);first|done|rfl|(simp only [List.length_drop,List.length_take];rfl)) ?_;(with_reducible refine (impl_forcesOf.calls k _ _ l0 a1_0 a1_1 a1_2 t164 _ ?side1 ?side2 A5.out).mono ?_);(case side1=>repeat (first|exact (zO HR0.out HB.out)|(with_reducible first|refine zG ?_ _|refine zH ?_ _|refine zI ?_)));(case side2=>exact HC0.out);rintro e w10 ⟨v165,rfl,ho0,hb⟩;refine ⟨_,rfl,?_⟩;have n0_:=zM (Kd.R_lower ho0 (zR (by repeat (first|(with_reducible first|exact HB.out|apply zD|apply zE|apply zF|refine below_set ?_ GE162.out)|exact HB.out))));have n1_:=zM (blk_below (g:=gb162) (o := .cells #[.int .i64 a1_0,.int .i64 a1_1,.int .i64 a1_2] 28 (0,0)) (by (with_reducible repeat (first|refine zJ ?_ _|refine zK ?_|refine zL ?_ _));exact BK162.out) hb);have n2_:=zM (zQ (by repeat (first|(with_reducible first|exact HB.out|apply zD|apply zE|apply zF|refine below_set ?_ GE162.out)|exact HB.out)) hb);clear BK162;clear HB;have HO166:=n0_;have BK162:=n1_;have HB:=n2_;clear n0_ n1_ n2_;(try clear hb);(try clear hb2);(try clear hk);(try clear hi);(try clear ho0)))
  go_ret2
  exact ⟨_,by first|rfl|(simp [errW_none,errW_some] <;> rfl)|(simp [*,errW_none,errW_some] <;> rfl),by (with_reducible repeat (first|apply zA|apply zB|apply zC));exact HO166.out,by repeat (first|(with_reducible first|exact HB.out|apply zD|apply zE|apply zF|refine below_set ?_ GE162.out)|exact HB.out)⟩
 ·replace c4:=Bool.eq_false_iff.mpr c4
  subst c4;have H1:(some (([]:List Int),false)) = some (r1,r2):=by rw [if_neg (show ¬ (false = true) by decide)] at H;exact H
  clear H;have H:=H1;clear H1;simp only [Option.some.injEq,Prod.mk.injEq] at H
  obtain ⟨rfl,rfl⟩:=H;go_enter Try.func15,Try.ntmps15
  go_wp2_with (first|((with_reducible refine gate_dst (N:=3) rfl ?_);refine box_event ?hg (N:=3) ?hd (cs := #[.int .i64 a1_0,.int .i64 a1_1,.int .i64 a1_2]) (t:=28) ?hr ?_;(case hd=>rfl);(case hg=>rfl);(case hr=>first|(go_simp;done)|(go_simp;rfl));intro gb162 hg w11 hbox hb;have n0_:=zM (zQ (by repeat (first|(with_reducible first|exact HB.out|apply zD|apply zE|apply zF)|exact HB.out)) hb);have n1_:=zM (hbox);have n2_:=zM ((by rw [hg];exact (zR (by repeat (first|(with_reducible first|exact HB.out|apply zD|apply zE|apply zF)|exact HB.out))):w.heap.size ≤ gb162));have n3_:=zM ((by rw [hg];exact (zR (by repeat (first|(with_reducible first|exact HB.out|apply zD|apply zE|apply zF)|exact HB.out))):w.heap.size ≤ gb162));clear HB;have HB:=n0_;have BK162:=n1_;have GW162:=n2_;have GE162:=n3_;clear n0_ n1_ n2_ n3_;clear hb hbox hg;have hcz12_0:w11.cell? ⟨gb162,0,none⟩ = some (.int .i64 a1_0):=(blk_cell BK162.out 0).trans rfl;have hcz12_1:w11.cell? ⟨gb162,1,none⟩ = some (.int .i64 a1_1):=(blk_cell BK162.out 1).trans rfl;have hcz12_2:w11.cell? ⟨gb162,2,none⟩ = some (.int .i64 a1_2):=(blk_cell BK162.out 2).trans rfl;have hfz12_0:=blk_frozen BK162.out 0;have hfz12_1:=blk_frozen BK162.out 1;have hfz12_2:=blk_frozen BK162.out 2)|((with_reducible refine gate_callee (f:=47) rfl ?_);refine goesL_ (some 8) rfl rfl Try.func47 (by kernel_rfl) rfl #[.slice A0 l0.length c0,.agg #[.int .i64 a1_0,.int .i64 a1_1,.int .i64 a1_2]] rfl (by (try simp only [List.map_toArray,List.map_cons,List.map_nil]);first|done|rfl|(simp only [List.length_drop,List.length_take];rfl)) ?_;(with_reducible refine (impl_isLashed.calls _ _ l0 a1_0 a1_1 a1_2 false _ ?side1 ?side2 A3.out).mono ?_);(case side1=>repeat (first|exact (zO HR0.out HB.out)|(with_reducible first|refine zG ?_ _|refine zH ?_ _|refine zI ?_)));(case side2=>exact HC0.out);rintro e w13 ⟨rfl,hb⟩;refine ⟨_,rfl,?_⟩;have n0_:=zM (blk_below (g:=gb162) (o := .cells #[.int .i64 a1_0,.int .i64 a1_1,.int .i64 a1_2] 28 (0,0)) (by (with_reducible repeat (first|refine zJ ?_ _|refine zK ?_|refine zL ?_ _));exact BK162.out) hb);have n1_:=zM (zQ (by repeat (first|(with_reducible first|exact HB.out|apply zD|apply zE|apply zF|refine below_set ?_ GE162.out)|exact HB.out)) hb);clear BK162;clear HB;have BK162:=n0_;have HB:=n1_;clear n0_ n1_;(try clear hb);(try clear hb2);(try clear hk);(try clear hi)))
  go_ret2
  exact ⟨_,by first|rfl|(simp [errW_none,errW_some] <;> rfl)|(simp [*,errW_none,errW_some] <;> rfl),by first|exact Kd.R_nil _ _ _ _ _|exact Kd.N_nil _ _ _ _ _|exact Kd.V_nil _ _ _ _ _|exact Kd.Q_nil _ _ _ _ _|exact Kd.S_nil _ _ _ _ _,by repeat (first|(with_reducible first|exact HB.out|apply zD|apply zE|apply zF|refine below_set ?_ GE162.out)|exact HB.out)⟩



/-! ### spec_LashingsNeeded: function 19 -/
mutual
def spec_LashingsNeeded.j0:Nat → List Int → List Int → Bool → Int → Int → Int → Option (List Int × Bool)
 | 0,_,_,_,_,_,_=>none
 | k + 1,x0,x6,x18,x216000,x216001,x216002=>if x18 = true then (some (x6,false)) else ((spec_l12Forces.f k x0 x216001).bind fun t221=>(spec_LashingsNeeded.l0 k x6 t221 0 x216000 x216001 x216002))
def spec_LashingsNeeded.l0:Nat → List Int → List Int → Int → Int → Int → Int → Option (List Int × Bool)
 | 0,_,_,_,_,_,_=>none
 | k + 1,x6,x7,x8,x216000,x216001,x216002=>if x8 < (x7.length:Int) then (if 0 ≤ x8 then (if x216002 = 0 then (none) else (if (wrap64 (Int.tdiv (wrap64 ((wrap64 ((rd x7 x8) + x216002)) - 1)) x216002)) > 4 then (some ((([]:List Int)),false)) else (if x6.length < 17592186044416 then (spec_LashingsNeeded.l0 k (x6 ++ [wrap64 (Int.tdiv (wrap64 ((wrap64 ((rd x7 x8) + x216002)) - 1)) x216002)]) x7 (wrap64 (x8 + 1)) x216000 x216001 x216002) else (none)))) else (none)) else (some (x6,true))
end
def spec_LashingsNeeded.f (k:Nat) (l0:List Int) (a1_0:Int) (a1_1:Int) (a1_2:Int):Option (List Int × Bool):=(some (([]:List Int):List Int)).bind fun y216=>((spec_l12Good.f k l0).bind fun t219=>(if t219 = true then ((spec_l12Rules.f a1_0 a1_1 a1_2).bind fun t220=>(spec_LashingsNeeded.j0 k l0 y216 (!t220) a1_0 a1_1 a1_2)) else (spec_LashingsNeeded.j0 k l0 y216 true a1_0 a1_1 a1_2)))
set_option maxHeartbeats 8000000 in
set_option maxRecDepth 100000 in
theorem spec_LashingsNeeded.calls (k:Nat) (A0:Option Addr) (c0:Nat) (l0:List Int) (a1_0:Int) (a1_1:Int) (a1_2:Int) (r1:List Int) (r2:Bool) (w:World) (hr0:Kd.C (Kd.int .i64) w A0 l0.length l0) (hc0:l0.length ≤ c0) (h:spec_LashingsNeeded.f k l0 a1_0 a1_1 a1_2 = some (r1,r2)) :
  Calls Try.prog 19 #[.slice A0 l0.length c0,.agg #[.int .i64 a1_0,.int .i64 a1_1,.int .i64 a1_2]] w fun e w' => ∃ v0_:Value,e = .returned (.tuple #[v0_,.bool r2]) ∧ Kd.R (Kd.int .i64) 3 w' w.heap.size (fun _=>True) v0_ r1 ∧ Below w.heap.size w w':=by
 have hu28:=Try.underlying28;have HR0:=zM hr0;have HC0:=zM hc0;clear hr0 hc0;have HB:=zM (Below.refl w.heap.size w);have H:((some (([]:List Int):List Int)).bind fun y216=>((spec_l12Good.f k l0).bind fun t219=>(if t219 = true then ((spec_l12Rules.f a1_0 a1_1 a1_2).bind fun t220=>(spec_LashingsNeeded.j0 k l0 y216 (!t220) a1_0 a1_1 a1_2)) else (spec_LashingsNeeded.j0 k l0 y216 true a1_0 a1_1 a1_2)))) = some (r1,r2):=h
 clear h;obtain ⟨y216,hy216⟩ : ∃ y_:List Int,y_ = (([]:List Int)):=⟨_,rfl⟩
 replace H:((spec_l12Good.f k l0).bind fun t219=>(if t219 = true then ((spec_l12Rules.f a1_0 a1_1 a1_2).bind fun t220=>(spec_LashingsNeeded.j0 k l0 y216 (!t220) a1_0 a1_1 a1_2)) else (spec_LashingsNeeded.j0 k l0 y216 true a1_0 a1_1 a1_2))) = some (r1,r2):=by first|(rw [hy216];with_reducible exact H)|(have H2_:=(Option.bind_some _ _).symm.trans H;rw [hy216];with_reducible exact H2_)|(have H2_:=(Option.bind_some _ _).symm.trans H;with_reducible exact H2_)|with_reducible exact H|(rw [hy216];exact H)|exact H
 have Ny216:=zM hy216;clear hy216;have HC3:=zM H;clear H;go_enter Try.func19,Try.ntmps19
 go_upto_region 2 with (first|((with_reducible refine gate_dst (N:=3) rfl ?_);refine box_event ?hg (N:=3) ?hd (cs := #[.int .i64 a1_0,.int .i64 a1_1,.int .i64 a1_2]) (t:=28) ?hr ?_;(case hd=>rfl);(case hg=>rfl);(case hr=>first|(go_simp;done)|(go_simp;rfl));intro gb215 hg w4 hbox hb;have n0_:=zM (zQ (by repeat (first|(with_reducible first|exact HB.out|apply zD|apply zE|apply zF)|exact HB.out)) hb);have n1_:=zM (hbox);have n2_:=zM ((by rw [hg];exact (zR (by repeat (first|(with_reducible first|exact HB.out|apply zD|apply zE|apply zF)|exact HB.out))):w.heap.size ≤ gb215));have n3_:=zM ((by rw [hg];exact (zR (by repeat (first|(with_reducible first|exact HB.out|apply zD|apply zE|apply zF)|exact HB.out))):w.heap.size ≤ gb215));clear HB;have HB:=n0_;have BK215:=n1_;have GW215:=n2_;have GE215:=n3_;clear n0_ n1_ n2_ n3_;clear hb hbox hg)|((with_reducible refine gate_dst (N:=10) rfl ?_);refine Kd.R_lit (Kd.int .i64) _ 3 ?hg (N:=10) ?hd (xs:=([]:List Int)) (inner:=[]) (ok:=fun _=>True) (okp:=fun _=>True) ?hr ?hp (fun _ hk=>hk) trivial (Below.refl _ _) (Nat.le_refl _) (by simp) ?_;(case hd=>rfl);(case hg=>rfl);(case hr=>first|(go_simp;done)|(go_simp;rfl));(case hp=>exact (Reps.none _ _));intro v217 w5 ho6 hb hg_ hnew_;clear hg_ hnew_;(first|rw [← Ny216.out] at ho6|(simp only [Int.reduceToNat] at ho6;rw [← Ny216.out] at ho6));have n0_:=zM (Kd.R_lower ho6 (zR (by repeat (first|(with_reducible first|exact HB.out|apply zD|apply zE|apply zF|refine below_set ?_ GE215.out)|exact HB.out))));have n1_:=zM (blk_below (g:=gb215) (o := .cells #[.int .i64 a1_0,.int .i64 a1_1,.int .i64 a1_2] 28 (0,0)) (by (with_reducible repeat (first|refine zJ ?_ _|refine zK ?_|refine zL ?_ _));exact BK215.out) hb);have n2_:=zM (zQ (by repeat (first|(with_reducible first|exact HB.out|apply zD|apply zE|apply zF|refine below_set ?_ GE215.out)|exact HB.out)) hb);clear BK215;clear HB;have HO218:=n0_;have BK215:=n1_;have HB:=n2_;clear n0_ n1_ n2_;clear hb ho6))
 repeat (go_quiet (first|((with_reducible refine gate_dst (N:=3) rfl ?_);refine box_event ?hg (N:=3) ?hd (cs := #[.int .i64 a1_0,.int .i64 a1_1,.int .i64 a1_2]) (t:=28) ?hr ?_;(case hd=>rfl);(case hg=>rfl);(case hr=>first|(go_simp;done)|(go_simp;rfl));intro gb215 hg w4 hbox hb;have n0_:=zM (zQ (by repeat (first|(with_reducible first|exact HB.out|apply zD|apply zE|apply zF)|exact HB.out)) hb);have n1_:=zM (hbox);have n2_:=zM ((by rw [hg];exact (zR (by repeat (first|(with_reducible first|exact HB.out|apply zD|apply zE|apply zF)|exact HB.out))):w.heap.size ≤ gb215));have n3_:=zM ((by rw [hg];exact (zR (by repeat (first|(with_reducible first|exact HB.out|apply zD|apply zE|apply zF)|exact HB.out))):w.heap.size ≤ gb215));clear HB;have HB:=n0_;have BK215:=n1_;have GW215:=n2_;have GE215:=n3_;clear n0_ n1_ n2_ n3_;clear hb hbox hg)|((with_reducible refine gate_dst (N:=10) rfl ?_);refine Kd.R_lit (Kd.int .i64) _ 3 ?hg (N:=10) ?hd (xs:=([]:List Int)) (inner:=[]) (ok:=fun _=>True) (okp:=fun _=>True) ?hr ?hp (fun _ hk=>hk) trivial (Below.refl _ _) (Nat.le_refl _) (by simp) ?_;(case hd=>rfl);(case hg=>rfl);(case hr=>first|(go_simp;done)|(go_simp;rfl));(case hp=>exact (Reps.none _ _));intro v217 w5 ho6 hb hg_ hnew_;clear hg_ hnew_;(first|rw [← Ny216.out] at ho6|(simp only [Int.reduceToNat] at ho6;rw [← Ny216.out] at ho6));have n0_:=zM (Kd.R_lower ho6 (zR (by repeat (first|(with_reducible first|exact HB.out|apply zD|apply zE|apply zF|refine below_set ?_ GE215.out)|exact HB.out))));have n1_:=zM (blk_below (g:=gb215) (o := .cells #[.int .i64 a1_0,.int .i64 a1_1,.int .i64 a1_2] 28 (0,0)) (by (with_reducible repeat (first|refine zJ ?_ _|refine zK ?_|refine zL ?_ _));exact BK215.out) hb);have n2_:=zM (zQ (by repeat (first|(with_reducible first|exact HB.out|apply zD|apply zE|apply zF|refine below_set ?_ GE215.out)|exact HB.out)) hb);clear BK215;clear HB;have HO218:=n0_;have BK215:=n1_;have HB:=n2_;clear n0_ n1_ n2_;clear hb ho6));go_upto_region 2 with (first|((with_reducible refine gate_dst (N:=3) rfl ?_);refine box_event ?hg (N:=3) ?hd (cs := #[.int .i64 a1_0,.int .i64 a1_1,.int .i64 a1_2]) (t:=28) ?hr ?_;(case hd=>rfl);(case hg=>rfl);(case hr=>first|(go_simp;done)|(go_simp;rfl));intro gb215 hg w4 hbox hb;have n0_:=zM (zQ (by repeat (first|(with_reducible first|exact HB.out|apply zD|apply zE|apply zF)|exact HB.out)) hb);have n1_:=zM (hbox);have n2_:=zM ((by rw [hg];exact (zR (by repeat (first|(with_reducible first|exact HB.out|apply zD|apply zE|apply zF)|exact HB.out))):w.heap.size ≤ gb215));have n3_:=zM ((by rw [hg];exact (zR (by repeat (first|(with_reducible first|exact HB.out|apply zD|apply zE|apply zF)|exact HB.out))):w.heap.size ≤ gb215));clear HB;have HB:=n0_;have BK215:=n1_;have GW215:=n2_;have GE215:=n3_;clear n0_ n1_ n2_ n3_;clear hb hbox hg)|((with_reducible refine gate_dst (N:=10) rfl ?_);refine Kd.R_lit (Kd.int .i64) _ 3 ?hg (N:=10) ?hd (xs:=([]:List Int)) (inner:=[]) (ok:=fun _=>True) (okp:=fun _=>True) ?hr ?hp (fun _ hk=>hk) trivial (Below.refl _ _) (Nat.le_refl _) (by simp) ?_;(case hd=>rfl);(case hg=>rfl);(case hr=>first|(go_simp;done)|(go_simp;rfl));(case hp=>exact (Reps.none _ _));intro v217 w5 ho6 hb hg_ hnew_;clear hg_ hnew_;(first|rw [← Ny216.out] at ho6|(simp only [Int.reduceToNat] at ho6;rw [← Ny216.out] at ho6));have n0_:=zM (Kd.R_lower ho6 (zR (by repeat (first|(with_reducible first|exact HB.out|apply zD|apply zE|apply zF|refine below_set ?_ GE215.out)|exact HB.out))));have n1_:=zM (blk_below (g:=gb215) (o := .cells #[.int .i64 a1_0,.int .i64 a1_1,.int .i64 a1_2] 28 (0,0)) (by (with_reducible repeat (first|refine zJ ?_ _|refine zK ?_|refine zL ?_ _));exact BK215.out) hb);have n2_:=zM (zQ (by repeat (first|(with_reducible first|exact HB.out|apply zD|apply zE|apply zF|refine below_set ?_ GE215.out)|exact HB.out)) hb);clear BK215;clear HB;have HO218:=n0_;have BK215:=n1_;have HB:=n2_;clear n0_ n1_ n2_;clear hb ho6)))
 (try simp only [Act.put,zT,zU,zV])
 go_cut [18] (fun v18 wc => ∃ (kq:Nat) (x18_2:Bool),v18 = .bool x18_2 ∧ Aside0 (spec_LashingsNeeded.j0 kq l0 y216 x18_2 a1_0 a1_1 a1_2 = some (r1,r2)) ∧ Aside0 (kq ≤ k) ∧ Aside0 (Kd.R (Kd.int .i64) 3 wc w.heap.size (fun _=>True) v217 y216) ∧ Aside0 (wc.heap[gb215]? = some (.cells #[.int .i64 a1_0,.int .i64 a1_1,.int .i64 a1_2] 28 (0,0))) ∧ Aside0 (Below w.heap.size w wc))
 case first =>
  have H:=HC3.out;clear HC3;replace H:=Option.bind_eq_some_iff.mp H;obtain ⟨t219,A70,H⟩:=H;replace H:(if t219 = true then ((spec_l12Rules.f a1_0 a1_1 a1_2).bind fun t220=>(spec_LashingsNeeded.j0 k l0 y216 (!t220) a1_0 a1_1 a1_2)) else (spec_LashingsNeeded.j0 k l0 y216 true a1_0 a1_1 a1_2)) = some (r1,r2):=H
  have A7:=zM A70;clear A70;by_cases c8:t219 = true
  ·subst c8
   have H1:((spec_l12Rules.f a1_0 a1_1 a1_2).bind fun t220=>(spec_LashingsNeeded.j0 k l0 y216 (!t220) a1_0 a1_1 a1_2)) = some (r1,r2):=by rw [if_pos rfl] at H;exact H
   clear H;have H:=H1;clear H1;replace H:=Option.bind_eq_some_iff.mp H;obtain ⟨t220,A90,H⟩:=H;replace H:(spec_LashingsNeeded.j0 k l0 y216 (!t220) a1_0 a1_1 a1_2) = some (r1,r2):=H
   have A9:=zM A90;clear A90;have H':=zM H;clear H;go_wp2_with (first|(go_at_call 44;(with_reducible refine (spec_l12Good.calls k _ _ l0 true _ ?side1 ?side2 A7.out).mono ?_);(case side1=>repeat (first|exact (zO HR0.out HB.out)|(with_reducible first|refine zG ?_ _|refine zH ?_ _|refine zI ?_)));(case side2=>exact HC0.out);rintro e w' ⟨rfl,⟨nd,rfl⟩⟩;(try first|exact ⟨rfl,_,World.drewN_drewN _ _ _⟩|exact ⟨rfl,_,zW _ _ _ _⟩);have hcz10_0:w5.cell? ⟨gb215,0,none⟩ = some (.int .i64 a1_0):=(blk_cell BK215.out 0).trans rfl;have hcz10_1:w5.cell? ⟨gb215,1,none⟩ = some (.int .i64 a1_1):=(blk_cell BK215.out 1).trans rfl;have hcz10_2:w5.cell? ⟨gb215,2,none⟩ = some (.int .i64 a1_2):=(blk_cell BK215.out 2).trans rfl;have hfz10_0:=blk_frozen BK215.out 0;have hfz10_1:=blk_frozen BK215.out 1;have hfz10_2:=blk_frozen BK215.out 2)|(go_at_call 45;(with_reducible refine (spec_l12Rules.calls a1_0 a1_1 a1_2 t220 _ A9.out).mono ?_);rintro e w11 ⟨rfl,hb⟩;have n0_:=zM (zP (by (with_reducible repeat (first|apply zA|apply zB|apply zC));exact HO218.out) hb);have n1_:=zM (blk_below (g:=gb215) (o := .cells #[.int .i64 a1_0,.int .i64 a1_1,.int .i64 a1_2] 28 (0,0)) (by (with_reducible repeat (first|refine zJ ?_ _|refine zK ?_|refine zL ?_ _));exact BK215.out) hb);have n2_:=zM (zQ (by repeat (first|(with_reducible first|exact HB.out|apply zD|apply zE|apply zF|refine below_set ?_ GE215.out)|exact HB.out)) hb);clear HO218;clear BK215;clear HB;have HO218:=n0_;have BK215:=n1_;have HB:=n2_;clear n0_ n1_ n2_;(try clear hb);(try clear hb2);(try clear hk);(try clear hi)))
   repeat (go_quiet (first|(go_at_call 44;(with_reducible refine (spec_l12Good.calls k _ _ l0 true _ ?side1 ?side2 A7.out).mono ?_);(case side1=>repeat (first|exact (zO HR0.out HB.out)|(with_reducible first|refine zG ?_ _|refine zH ?_ _|refine zI ?_)));(case side2=>exact HC0.out);rintro e w' ⟨rfl,⟨nd,rfl⟩⟩;(try first|exact ⟨rfl,_,World.drewN_drewN _ _ _⟩|exact ⟨rfl,_,zW _ _ _ _⟩);have hcz10_0:w5.cell? ⟨gb215,0,none⟩ = some (.int .i64 a1_0):=(blk_cell BK215.out 0).trans rfl;have hcz10_1:w5.cell? ⟨gb215,1,none⟩ = some (.int .i64 a1_1):=(blk_cell BK215.out 1).trans rfl;have hcz10_2:w5.cell? ⟨gb215,2,none⟩ = some (.int .i64 a1_2):=(blk_cell BK215.out 2).trans rfl;have hfz10_0:=blk_frozen BK215.out 0;have hfz10_1:=blk_frozen BK215.out 1;have hfz10_2:=blk_frozen BK215.out 2)|(go_at_call 45;(with_reducible refine (spec_l12Rules.calls a1_0 a1_1 a1_2 t220 _ A9.out).mono ?_);rintro e w11 ⟨rfl,hb⟩;have n0_:=zM (zP (by (with_reducible repeat (first|apply zA|apply zB|apply zC));exact HO218.out) hb);have n1_:=zM (blk_below (g:=gb215) (o := .cells #[.int .i64 a1_0,.int .i64 a1_1,.int .i64 a1_2] 28 (0,0)) (by (with_reducible repeat (first|refine zJ ?_ _|refine zK ?_|refine zL ?_ _));exact BK215.out) hb);have n2_:=zM (zQ (by repeat (first|(with_reducible first|exact HB.out|apply zD|apply zE|apply zF|refine below_set ?_ GE215.out)|exact HB.out)) hb);clear HO218;clear BK215;clear HB;have HO218:=n0_;have BK215:=n1_;have HB:=n2_;clear n0_ n1_ n2_;(try clear hb);(try clear hb2);(try clear hk);(try clear hi)));try go_wp2_with (first|(go_at_call 44;(with_reducible refine (spec_l12Good.calls k _ _ l0 true _ ?side1 ?side2 A7.out).mono ?_);(case side1=>repeat (first|exact (zO HR0.out HB.out)|(with_reducible first|refine zG ?_ _|refine zH ?_ _|refine zI ?_)));(case side2=>exact HC0.out);rintro e w' ⟨rfl,⟨nd,rfl⟩⟩;(try first|exact ⟨rfl,_,World.drewN_drewN _ _ _⟩|exact ⟨rfl,_,zW _ _ _ _⟩);have hcz10_0:w5.cell? ⟨gb215,0,none⟩ = some (.int .i64 a1_0):=(blk_cell BK215.out 0).trans rfl;have hcz10_1:w5.cell? ⟨gb215,1,none⟩ = some (.int .i64 a1_1):=(blk_cell BK215.out 1).trans rfl;have hcz10_2:w5.cell? ⟨gb215,2,none⟩ = some (.int .i64 a1_2):=(blk_cell BK215.out 2).trans rfl;have hfz10_0:=blk_frozen BK215.out 0;have hfz10_1:=blk_frozen BK215.out 1;have hfz10_2:=blk_frozen BK215.out 2)|(go_at_call 45;(with_reducible refine (spec_l12Rules.calls a1_0 a1_1 a1_2 t220 _ A9.out).mono ?_);rintro e w11 ⟨rfl,hb⟩;have n0_:=zM (zP (by (with_reducible repeat (first|apply zA|apply zB|apply zC));exact HO218.out) hb);have n1_:=zM (blk_below (g:=gb215) (o := .cells #[.int .i64 a1_0,.int .i64 a1_1,.int .i64 a1_2] 28 (0,0)) (by (with_reducible repeat (first|refine zJ ?_ _|refine zK ?_|refine zL ?_ _));exact BK215.out) hb);have n2_:=zM (zQ (by repeat (first|(with_reducible first|exact HB.out|apply zD|apply zE|apply zF|refine below_set ?_ GE215.out)|exact HB.out)) hb);clear HO218;clear BK215;clear HB;have HO218:=n0_;have BK215:=n1_;have HB:=n2_;clear n0_ n1_ n2_;(try clear hb);(try clear hb2);(try clear hk);(try clear hi))))
   go_meet
   case rel=>exact ⟨_,(!t220),(by first|rfl|(simp;done)|(simp [*];done)),H',⟨by first|omega|exact Nat.le_refl _⟩,⟨by (with_reducible repeat (first|apply zA|apply zB|apply zC));exact HO218.out⟩,⟨by (with_reducible repeat (first|refine zJ ?_ _|refine zK ?_|refine zL ?_ _));exact BK215.out⟩,⟨by repeat (first|(with_reducible first|exact HB.out|apply zD|apply zE|apply zF|refine below_set ?_ GE215.out)|exact HB.out)⟩⟩
  ·replace c8:=Bool.eq_false_iff.mpr c8
   subst c8;have H1:(spec_LashingsNeeded.j0 k l0 y216 true a1_0 a1_1 a1_2) = some (r1,r2):=by rw [if_neg (show ¬ (false = true) by decide)] at H;exact H
   clear H;have H:=H1;clear H1;have H':=zM H;clear H;go_wp2_with (first|(go_at_call 44;(with_reducible refine (spec_l12Good.calls k _ _ l0 false _ ?side1 ?side2 A7.out).mono ?_);(case side1=>repeat (first|exact (zO HR0.out HB.out)|(with_reducible first|refine zG ?_ _|refine zH ?_ _|refine zI ?_)));(case side2=>exact HC0.out);rintro e w' ⟨rfl,⟨nd,rfl⟩⟩;(try first|exact ⟨rfl,_,World.drewN_drewN _ _ _⟩|exact ⟨rfl,_,zW _ _ _ _⟩)))
   repeat (go_quiet (first|(go_at_call 44;(with_reducible refine (spec_l12Good.calls k _ _ l0 false _ ?side1 ?side2 A7.out).mono ?_);(case side1=>repeat (first|exact (zO HR0.out HB.out)|(with_reducible first|refine zG ?_ _|refine zH ?_ _|refine zI ?_)));(case side2=>exact HC0.out);rintro e w' ⟨rfl,⟨nd,rfl⟩⟩;(try first|exact ⟨rfl,_,World.drewN_drewN _ _ _⟩|exact ⟨rfl,_,zW _ _ _ _⟩)));try go_wp2_with (first|(go_at_call 44;(with_reducible refine (spec_l12Good.calls k _ _ l0 false _ ?side1 ?side2 A7.out).mono ?_);(case side1=>repeat (first|exact (zO HR0.out HB.out)|(with_reducible first|refine zG ?_ _|refine zH ?_ _|refine zI ?_)));(case side2=>exact HC0.out);rintro e w' ⟨rfl,⟨nd,rfl⟩⟩;(try first|exact ⟨rfl,_,World.drewN_drewN _ _ _⟩|exact ⟨rfl,_,zW _ _ _ _⟩))))
   go_meet
   case rel=>exact ⟨_,(true),(by first|rfl|(simp;done)|(simp [*];done)),H',⟨by first|omega|exact Nat.le_refl _⟩,⟨by (with_reducible repeat (first|apply zA|apply zB|apply zC));exact HO218.out⟩,⟨by (with_reducible repeat (first|refine zJ ?_ _|refine zK ?_|refine zL ?_ _));exact BK215.out⟩,⟨by repeat (first|(with_reducible first|exact HB.out|apply zD|apply zE|apply zF|refine below_set ?_ GE215.out)|exact HB.out)⟩⟩
 case rest =>
  clear HC3;(try clear c1);(try clear p2);(try clear c8);(try clear hcz10_0);(try clear hcz10_1);(try clear hcz10_2);(try clear hfz10_0);(try clear hfz10_1);(try clear hfz10_2);obtain ⟨kq,x18_2,rfl,HA,HJ2,HO_6,BK215,HB⟩:=hcut;cases kq with
  | zero=>exact absurd HA.out (by simp [spec_LashingsNeeded.j0])
  | succ kj2 =>
   have H:=HA.out;clear HA;simp only [spec_LashingsNeeded.j0] at H
   by_cases c12:x18_2 = true
   ·subst c12
    have H1:(some (y216,false)) = some (r1,r2):=by rw [if_pos rfl] at H;exact H
    clear H;have H:=H1;clear H1;simp only [Option.some.injEq,Prod.mk.injEq] at H
    obtain ⟨rfl,rfl⟩:=H;go_wp2
    repeat (go_quiet (fail);try go_wp2)
    go_ret2
    exact ⟨_,by first|rfl|(simp [errW_none,errW_some] <;> rfl)|(simp [*,errW_none,errW_some] <;> rfl),by (with_reducible repeat (first|apply zA|apply zB|apply zC));exact HO_6.out,by repeat (first|(with_reducible first|exact HB.out|apply zD|apply zE|apply zF|refine below_set ?_ GE215.out)|exact HB.out)⟩
   ·replace c12:=Bool.eq_false_iff.mpr c12
    subst c12;have H1:((spec_l12Forces.f kj2 l0 a1_1).bind fun t221=>(spec_LashingsNeeded.l0 kj2 y216 t221 0 a1_0 a1_1 a1_2)) = some (r1,r2):=by rw [if_neg (show ¬ (false = true) by decide)] at H;exact H
    clear H;have H:=H1;clear H1;replace H:=Option.bind_eq_some_iff.mp H;obtain ⟨t221,A130,H⟩:=H;replace H:(spec_LashingsNeeded.l0 kj2 y216 t221 0 a1_0 a1_1 a1_2) = some (r1,r2):=H
    have A13:=zM A130;clear A130;have H':=zM H;clear H;have hcz14_0:wc.cell? ⟨gb215,0,none⟩ = some (.int .i64 a1_0):=(blk_cell BK215.out 0).trans rfl
    have hcz14_1:wc.cell? ⟨gb215,1,none⟩ = some (.int .i64 a1_1):=(blk_cell BK215.out 1).trans rfl
    have hcz14_2:wc.cell? ⟨gb215,2,none⟩ = some (.int .i64 a1_2):=(blk_cell BK215.out 2).trans rfl
    have hfz14_0:=blk_frozen BK215.out 0;have hfz14_1:=blk_frozen BK215.out 1;have hfz14_2:=blk_frozen BK215.out 2;go_wp2_with (first|(go_at_call 46;(with_reducible refine (spec_l12Forces.calls kj2 _ _ l0 a1_1 t221 _ ?side1 ?side2 A13.out).mono ?_);(case side1=>repeat (first|exact (zO HR0.out HB.out)|(with_reducible first|refine zG ?_ _|refine zH ?_ _|refine zI ?_)));(case side2=>exact HC0.out);rintro e w15 ⟨v222,rfl,ho0,hb⟩;have n0_:=zM (Kd.R_elder' (by (with_reducible repeat (first|apply zA|apply zB|apply zC));exact HO_6.out) (Kd.R_base ho0) hb);have n1_:=zM (Kd.R_lower (Kd.R_new' ho0 (Kd.R_lt (by (with_reducible repeat (first|apply zA|apply zB|apply zC));exact HO_6.out))) (zR (by repeat (first|(with_reducible first|exact HB.out|apply zD|apply zE|apply zF|refine below_set ?_ GE215.out)|exact HB.out))));have n2_:=zM (blk_below (g:=gb215) (o := .cells #[.int .i64 a1_0,.int .i64 a1_1,.int .i64 a1_2] 28 (0,0)) (by (with_reducible repeat (first|refine zJ ?_ _|refine zK ?_|refine zL ?_ _));exact BK215.out) hb);have n3_:=zM (zQ (by repeat (first|(with_reducible first|exact HB.out|apply zD|apply zE|apply zF|refine below_set ?_ GE215.out)|exact HB.out)) hb);clear HO_6;clear BK215;clear HB;have HO_6:=n0_;have HO223:=n1_;have BK215:=n2_;have HB:=n3_;clear n0_ n1_ n2_ n3_;(try clear hb);(try clear hb2);(try clear hk);(try clear hi);(try clear ho0)))
    repeat (go_quiet (first|(go_at_call 46;(with_reducible refine (spec_l12Forces.calls kj2 _ _ l0 a1_1 t221 _ ?side1 ?side2 A13.out).mono ?_);(case side1=>repeat (first|exact (zO HR0.out HB.out)|(with_reducible first|refine zG ?_ _|refine zH ?_ _|refine zI ?_)));(case side2=>exact HC0.out);rintro e w15 ⟨v222,rfl,ho0,hb⟩;have n0_:=zM (Kd.R_elder' (by (with_reducible repeat (first|apply zA|apply zB|apply zC));exact HO_6.out) (Kd.R_base ho0) hb);have n1_:=zM (Kd.R_lower (Kd.R_new' ho0 (Kd.R_lt (by (with_reducible repeat (first|apply zA|apply zB|apply zC));exact HO_6.out))) (zR (by repeat (first|(with_reducible first|exact HB.out|apply zD|apply zE|apply zF|refine below_set ?_ GE215.out)|exact HB.out))));have n2_:=zM (blk_below (g:=gb215) (o := .cells #[.int .i64 a1_0,.int .i64 a1_1,.int .i64 a1_2] 28 (0,0)) (by (with_reducible repeat (first|refine zJ ?_ _|refine zK ?_|refine zL ?_ _));exact BK215.out) hb);have n3_:=zM (zQ (by repeat (first|(with_reducible first|exact HB.out|apply zD|apply zE|apply zF|refine below_set ?_ GE215.out)|exact HB.out)) hb);clear HO_6;clear BK215;clear HB;have HO_6:=n0_;have HO223:=n1_;have BK215:=n2_;have HB:=n3_;clear n0_ n1_ n2_ n3_;(try clear hb);(try clear hb2);(try clear hk);(try clear hi);(try clear ho0)));try go_wp2_with (first|(go_at_call 46;(with_reducible refine (spec_l12Forces.calls kj2 _ _ l0 a1_1 t221 _ ?side1 ?side2 A13.out).mono ?_);(case side1=>repeat (first|exact (zO HR0.out HB.out)|(with_reducible first|refine zG ?_ _|refine zH ?_ _|refine zI ?_)));(case side2=>exact HC0.out);rintro e w15 ⟨v222,rfl,ho0,hb⟩;have n0_:=zM (Kd.R_elder' (by (with_reducible repeat (first|apply zA|apply zB|apply zC));exact HO_6.out) (Kd.R_base ho0) hb);have n1_:=zM (Kd.R_lower (Kd.R_new' ho0 (Kd.R_lt (by (with_reducible repeat (first|apply zA|apply zB|apply zC));exact HO_6.out))) (zR (by repeat (first|(with_reducible first|exact HB.out|apply zD|apply zE|apply zF|refine below_set ?_ GE215.out)|exact HB.out))));have n2_:=zM (blk_below (g:=gb215) (o := .cells #[.int .i64 a1_0,.int .i64 a1_1,.int .i64 a1_2] 28 (0,0)) (by (with_reducible repeat (first|refine zJ ?_ _|refine zK ?_|refine zL ?_ _));exact BK215.out) hb);have n3_:=zM (zQ (by repeat (first|(with_reducible first|exact HB.out|apply zD|apply zE|apply zF|refine below_set ?_ GE215.out)|exact HB.out)) hb);clear HO_6;clear BK215;clear HB;have HO_6:=n0_;have HO223:=n1_;have BK215:=n2_;have HB:=n3_;clear n0_ n1_ n2_ n3_;(try clear hb);(try clear hb2);(try clear hk);(try clear hi);(try clear ho0))))
    go_loopg [6,8] kj2 (fun kq v6 v8 w' => ∃ (x6_2:List Int) (x8_2:Int),v8 = .int .i64 x8_2 ∧ Aside0 (spec_LashingsNeeded.l0 kq x6_2 t221 x8_2 a1_0 a1_1 a1_2 = some (r1,r2)) ∧ Aside0 (kq ≤ kj2) ∧ Aside0 (Kd.R (Kd.int .i64) 3 w' w.heap.size (fun k_=>some k_ ≠ (v222:Value).ownBlock) v6 x6_2) ∧ Aside0 (Kd.R (Kd.int .i64) 3 w' w.heap.size (fun k_=>some k_ ≠ (v6:Value).ownBlock) v222 t221) ∧ Aside0 (w'.heap[gb215]? = some (.cells #[.int .i64 a1_0,.int .i64 a1_1,.int .i64 a1_2] 28 (0,0))) ∧ Aside0 (Below w.heap.size w w'))
    case atStart=>exact ⟨(y216),(0),(by first|rfl|(simp;done)|(simp [*];done)),H',⟨Nat.le_refl _⟩,⟨by (with_reducible repeat (first|apply zA|apply zB|apply zC));exact Kd.R_mono HO_6.out (fun _ hk=>hk.2)⟩,⟨by (with_reducible repeat (first|apply zA|apply zB|apply zC));exact Kd.R_mono HO223.out (fun _ hk=>hk.2)⟩,⟨by (with_reducible repeat (first|refine zJ ?_ _|refine zK ?_|refine zL ?_ _));exact BK215.out⟩,⟨by repeat (first|(with_reducible first|exact HB.out|apply zD|apply zE|apply zF|refine below_set ?_ GE215.out)|exact HB.out)⟩⟩
    case round =>
     clear H';(try clear c1);(try clear p2);(try clear c8);(try clear c12);(try clear hcz10_0);(try clear hcz10_1);(try clear hcz10_2);(try clear hcz14_0);(try clear hcz14_1);(try clear hcz14_2);(try clear hfz10_0);(try clear hfz10_1);(try clear hfz10_2);(try clear hfz14_0);(try clear hfz14_1);(try clear hfz14_2);(try clear p2);obtain ⟨x6_2,x8_2,rfl,HA,HK2,HO_6,HO_7,BK215,HB⟩:=hrel;cases gk with
     | zero=>exact absurd HA.out (by simp [spec_LashingsNeeded.l0])
     | succ k2 =>
      have H:=HA.out;clear HA;simp only [spec_LashingsNeeded.l0] at H
      by_cases c16:x8_2 < (t221.length:Int)
      ·rw [if_pos c16] at H
       have c16b0:decide (x8_2 < (t221.length:Int)) = true:=decide_eq_true c16
       clear c16;by_cases c17:0 ≤ x8_2
       ·rw [if_pos c17] at H
        have c17b0:decide (0 ≤ x8_2) = true:=decide_eq_true c17
        clear c17;by_cases c18:a1_2 = 0
        ·rw [if_pos c18] at H
         exact absurd H (by simp)
        ·rw [if_neg c18] at H
         have c18b0:(a1_2 == 0) = false:=beq_eq_false_iff_ne.mpr c18
         have c18b1:(a1_2 != 0) = true:=bne_iff_ne.mpr c18
         by_cases c19:(wrap64 (Int.tdiv (wrap64 ((wrap64 ((rd t221 x8_2) + a1_2)) - 1)) a1_2)) > 4
         ·rw [if_pos c19] at H
          have c19b0:decide (4 < (wrap64 (Int.tdiv (wrap64 ((wrap64 ((rd t221 x8_2) + a1_2)) - 1)) a1_2))) = true:=decide_eq_true c19
          clear c19;obtain ⟨y225,hy225⟩ : ∃ y_:List Int,y_ = (([]:List Int)):=⟨_,rfl⟩
          replace H:(some (y225,false)) = some (r1,r2):=by first|(rw [hy225];with_reducible exact H)|(have H2_:=(Option.bind_some _ _).symm.trans H;rw [hy225];with_reducible exact H2_)|(have H2_:=(Option.bind_some _ _).symm.trans H;with_reducible exact H2_)|with_reducible exact H|(rw [hy225];exact H)|exact H
          have Ny225:=zM hy225;clear hy225;simp only [Option.some.injEq,Prod.mk.injEq] at H
          obtain ⟨rfl,rfl⟩:=H;obtain ⟨Ao20,co20,eo20⟩:=Kd.R_slice HO_7.out;subst eo20;have p224:0 ≤ (x8_2:Int):=of_decide_eq_true (by first|(with_reducible assumption)|assumption)
          have q224:x8_2 < (t221.length:Int):=of_decide_eq_true (by first|(with_reducible assumption)|assumption)
          obtain ⟨ad224,e224,hx224_0⟩:=Kd.at_int (zN HO_7.out).2.2 x8_2 p224 q224;cases e224
          replace p224:=eq_true p224;replace q224:=eq_true q224;have hcz21_0:wr.cell? ⟨gb215,0,none⟩ = some (.int .i64 a1_0):=(blk_cell BK215.out 0).trans rfl
          have hcz21_1:wr.cell? ⟨gb215,1,none⟩ = some (.int .i64 a1_1):=(blk_cell BK215.out 1).trans rfl
          have hcz21_2:wr.cell? ⟨gb215,2,none⟩ = some (.int .i64 a1_2):=(blk_cell BK215.out 2).trans rfl
          have hfz21_0:=blk_frozen BK215.out 0;have hfz21_1:=blk_frozen BK215.out 1;have hfz21_2:=blk_frozen BK215.out 2;go_wp2_with (first|((with_reducible refine gate_dst (N:=43) rfl ?_);refine Kd.R_lit (Kd.int .i64) _ 3 ?hg (N:=43) ?hd (xs:=([]:List Int)) (inner:=[]) (ok:=fun _=>True) (okp:=fun _=>True) ?hr ?hp (fun _ hk=>hk) trivial (Below.refl _ _) (Nat.le_refl _) (by simp) ?_;(case hd=>rfl);(case hg=>rfl);(case hr=>first|(go_simp;done)|(go_simp;rfl));(case hp=>exact (Reps.none _ _));intro v226 w22 ho23 hb hg_ hnew_;clear hg_ hnew_;(first|rw [← Ny225.out] at ho23|(simp only [Int.reduceToNat] at ho23;rw [← Ny225.out] at ho23));have n0_:=zM (Kd.R_elder' (by (with_reducible repeat (first|apply zA|apply zB|apply zC));exact HO_6.out) (Kd.R_base ho23) hb);have n1_:=zM (Kd.R_elder' (by (with_reducible repeat (first|apply zA|apply zB|apply zC));exact HO_7.out) (Kd.R_base ho23) hb);have n2_:=zM (Kd.R_lower (Kd.R_new' (Kd.R_new' ho23 (Kd.R_lt (by (with_reducible repeat (first|apply zA|apply zB|apply zC));exact HO_6.out))) (Kd.R_lt (by (with_reducible repeat (first|apply zA|apply zB|apply zC));exact HO_7.out))) (zR (by repeat (first|(with_reducible first|exact HB.out|apply zD|apply zE|apply zF|refine below_set ?_ GE215.out)|exact HB.out))));have n3_:=zM (blk_below (g:=gb215) (o := .cells #[.int .i64 a1_0,.int .i64 a1_1,.int .i64 a1_2] 28 (0,0)) (by (with_reducible repeat (first|refine zJ ?_ _|refine zK ?_|refine zL ?_ _));exact BK215.out) hb);have n4_:=zM (zQ (by repeat (first|(with_reducible first|exact HB.out|apply zD|apply zE|apply zF|refine below_set ?_ GE215.out)|exact HB.out)) hb);clear HO_6;clear HO_7;clear BK215;clear HB;have HO_6:=n0_;have HO_7:=n1_;have HO227:=n2_;have BK215:=n3_;have HB:=n4_;clear n0_ n1_ n2_ n3_ n4_;clear hb ho23))
          repeat (go_quiet (first|((with_reducible refine gate_dst (N:=43) rfl ?_);refine Kd.R_lit (Kd.int .i64) _ 3 ?hg (N:=43) ?hd (xs:=([]:List Int)) (inner:=[]) (ok:=fun _=>True) (okp:=fun _=>True) ?hr ?hp (fun _ hk=>hk) trivial (Below.refl _ _) (Nat.le_refl _) (by simp) ?_;(case hd=>rfl);(case hg=>rfl);(case hr=>first|(go_simp;done)|(go_simp;rfl));(case hp=>exact (Reps.none _ _));intro v226 w22 ho23 hb hg_ hnew_;clear hg_ hnew_;(first|rw [← Ny225.out] at ho23|(simp only [Int.reduceToNat] at ho23;rw [← Ny225.out] at ho23));have n0_:=zM (Kd.R_elder' (by (with_reducible repeat (first|apply zA|apply zB|apply zC));exact HO_6.out) (Kd.R_base ho23) hb);have n1_:=zM (Kd.R_elder' (by (with_reducible repeat (first|apply zA|apply zB|apply zC));exact HO_7.out) (Kd.R_base ho23) hb);have n2_:=zM (Kd.R_lower (Kd.R_new' (Kd.R_new' ho23 (Kd.R_lt (by (with_reducible repeat (first|apply zA|apply zB|apply zC));exact HO_6.out))) (Kd.R_lt (by (with_reducible repeat (first|apply zA|apply zB|apply zC));exact HO_7.out))) (zR (by repeat (first|(with_reducible first|exact HB.out|apply zD|apply zE|apply zF|refine below_set ?_ GE215.out)|exact HB.out))));have n3_:=zM (blk_below (g:=gb215) (o := .cells #[.int .i64 a1_0,.int .i64 a1_1,.int .i64 a1_2] 28 (0,0)) (by (with_reducible repeat (first|refine zJ ?_ _|refine zK ?_|refine zL ?_ _));exact BK215.out) hb);have n4_:=zM (zQ (by repeat (first|(with_reducible first|exact HB.out|apply zD|apply zE|apply zF|refine below_set ?_ GE215.out)|exact HB.out)) hb);clear HO_6;clear HO_7;clear BK215;clear HB;have HO_6:=n0_;have HO_7:=n1_;have HO227:=n2_;have BK215:=n3_;have HB:=n4_;clear n0_ n1_ n2_ n3_ n4_;clear hb ho23));try go_wp2_with (first|((with_reducible refine gate_dst (N:=43) rfl ?_);refine Kd.R_lit (Kd.int .i64) _ 3 ?hg (N:=43) ?hd (xs:=([]:List Int)) (inner:=[]) (ok:=fun _=>True) (okp:=fun _=>True) ?hr ?hp (fun _ hk=>hk) trivial (Below.refl _ _) (Nat.le_refl _) (by simp) ?_;(case hd=>rfl);(case hg=>rfl);(case hr=>first|(go_simp;done)|(go_simp;rfl));(case hp=>exact (Reps.none _ _));intro v226 w22 ho23 hb hg_ hnew_;clear hg_ hnew_;(first|rw [← Ny225.out] at ho23|(simp only [Int.reduceToNat] at ho23;rw [← Ny225.out] at ho23));have n0_:=zM (Kd.R_elder' (by (with_reducible repeat (first|apply zA|apply zB|apply zC));exact HO_6.out) (Kd.R_base ho23) hb);have n1_:=zM (Kd.R_elder' (by (with_reducible repeat (first|apply zA|apply zB|apply zC));exact HO_7.out) (Kd.R_base ho23) hb);have n2_:=zM (Kd.R_lower (Kd.R_new' (Kd.R_new' ho23 (Kd.R_lt (by (with_reducible repeat (first|apply zA|apply zB|apply zC));exact HO_6.out))) (Kd.R_lt (by (with_reducible repeat (first|apply zA|apply zB|apply zC));exact HO_7.out))) (zR (by repeat (first|(with_reducible first|exact HB.out|apply zD|apply zE|apply zF|refine below_set ?_ GE215.out)|exact HB.out))));have n3_:=zM (blk_below (g:=gb215) (o := .cells #[.int .i64 a1_0,.int .i64 a1_1,.int .i64 a1_2] 28 (0,0)) (by (with_reducible repeat (first|refine zJ ?_ _|refine zK ?_|refine zL ?_ _));exact BK215.out) hb);have n4_:=zM (zQ (by repeat (first|(with_reducible first|exact HB.out|apply zD|apply zE|apply zF|refine below_set ?_ GE215.out)|exact HB.out)) hb);clear HO_6;clear HO_7;clear BK215;clear HB;have HO_6:=n0_;have HO_7:=n1_;have HO227:=n2_;have BK215:=n3_;have HB:=n4_;clear n0_ n1_ n2_ n3_ n4_;clear hb ho23)))
          go_ret2
          exact ⟨_,by first|rfl|(simp [errW_none,errW_some] <;> rfl)|(simp [*,errW_none,errW_some] <;> rfl),by (with_reducible repeat (first|apply zA|apply zB|apply zC));exact Kd.R_mono HO227.out (fun _ hk=>trivial),by repeat (first|(with_reducible first|exact HB.out|apply zD|apply zE|apply zF|refine below_set ?_ GE215.out)|exact HB.out)⟩
         ·rw [if_neg c19] at H
          have c19b0:decide (4 < (wrap64 (Int.tdiv (wrap64 ((wrap64 ((rd t221 x8_2) + a1_2)) - 1)) a1_2))) = false:=decide_eq_false c19
          clear c19;by_cases c24:x6_2.length < 17592186044416
          ·rw [if_pos c24] at H
           have LMc24:=zM c24;clear c24;obtain ⟨y228,hy228⟩ : ∃ y_:List Int,y_ = (x6_2 ++ [wrap64 (Int.tdiv (wrap64 ((wrap64 ((rd t221 x8_2) + a1_2)) - 1)) a1_2)]):=⟨_,rfl⟩
           replace H:(spec_LashingsNeeded.l0 k2 y228 t221 (wrap64 (x8_2 + 1)) a1_0 a1_1 a1_2) = some (r1,r2):=by first|(rw [hy228];with_reducible exact H)|(have H2_:=(Option.bind_some _ _).symm.trans H;rw [hy228];with_reducible exact H2_)|(have H2_:=(Option.bind_some _ _).symm.trans H;with_reducible exact H2_)|with_reducible exact H|(rw [hy228];exact H)|exact H
           have Ny228:=zM hy228;clear hy228;have H':=zM H;clear H;obtain ⟨Ao25,co25,eo25⟩:=Kd.R_slice HO_7.out;subst eo25;have p224:0 ≤ (x8_2:Int):=of_decide_eq_true (by first|(with_reducible assumption)|assumption)
           have q224:x8_2 < (t221.length:Int):=of_decide_eq_true (by first|(with_reducible assumption)|assumption)
           obtain ⟨ad224,e224,hx224_0⟩:=Kd.at_int (zN HO_7.out).2.2 x8_2 p224 q224;cases e224
           replace p224:=eq_true p224;replace q224:=eq_true q224;have hcz26_0:wr.cell? ⟨gb215,0,none⟩ = some (.int .i64 a1_0):=(blk_cell BK215.out 0).trans rfl
           have hcz26_1:wr.cell? ⟨gb215,1,none⟩ = some (.int .i64 a1_1):=(blk_cell BK215.out 1).trans rfl
           have hcz26_2:wr.cell? ⟨gb215,2,none⟩ = some (.int .i64 a1_2):=(blk_cell BK215.out 2).trans rfl
           have hfz26_0:=blk_frozen BK215.out 0;have hfz26_1:=blk_frozen BK215.out 1;have hfz26_2:=blk_frozen BK215.out 2;go_wp2_with (first|((with_reducible refine gate_builtin (b := .append) (xs := #[.tmp 44,.tmp 46]) rfl ?_);at_builtin;refine Kd.R_append (Kd.int .i64) (w0:=w) w.heap.size rfl (.tmp 44) (.tmp 46) 22 3 (.int .i64 0) 8 rfl Try.underlying22 info3 rfl (by decide) (by omega) u6 x6_2 (wrap64 (Int.tdiv (wrap64 ((wrap64 ((rd t221 x8_2) + a1_2)) - 1)) a1_2)) [.int .i64 (wrap64 (Int.tdiv (wrap64 ((wrap64 ((rd t221 x8_2) + a1_2)) - 1)) a1_2))] (fun k_=>some k_ ≠ (.slice (some ad224) t221.length co25:Value).ownBlock) (fun _=>False) rfl rfl ?aP (fun _ hk=>hk.elim) ?aF ?aO ?aB ?aS ?aL ?_;(case aP=>exact rfl);(case aB=>exact (by repeat (first|(with_reducible first|exact HB.out|apply zD|apply zE|apply zF|refine below_set ?_ GE215.out)|exact HB.out)));(case aF=>exact (fun k_ hk=>Kd.fresh' (Kd.R_lt (by (with_reducible repeat (first|apply zA|apply zB|apply zC));exact HO_7.out)) k_ hk));(case aO=>exact (by (with_reducible repeat (first|apply zA|apply zB|apply zC));exact HO_6.out));(case aS=>exact (zR (by repeat (first|(with_reducible first|exact HB.out|apply zD|apply zE|apply zF|refine below_set ?_ GE215.out)|exact HB.out))));(case aL=>have:=LMc24.out;omega);intro v229 w27 ho hb hg hat;rw [← Ny228.out] at ho;have n0_:=zM (Kd.R_after (ok:=(fun _=>True)) (by (with_reducible repeat (first|apply zA|apply zB|apply zC));exact Kd.R_mono HO_7.out (fun _ hk=>⟨trivial,hk⟩)) hg hat);have n1_:=zM (blk_grown (g:=gb215) (o := .cells #[.int .i64 a1_0,.int .i64 a1_1,.int .i64 a1_2] 28 (0,0)) (by (with_reducible repeat (first|refine zJ ?_ _|refine zK ?_|refine zL ?_ _));exact BK215.out) hg (Kd.R_ne HO_6.out BK215.out (by decide)));have n2_:=zM (hb);have n3_:=zM (ho);clear HO_7;clear BK215;clear HB;clear HO_6;have HO_7:=n0_;have BK215:=n1_;have HB:=n2_;have HO230:=n3_;clear n0_ n1_ n2_ n3_;clear ho hb hg hat))
           repeat (go_quiet (first|((with_reducible refine gate_builtin (b := .append) (xs := #[.tmp 44,.tmp 46]) rfl ?_);at_builtin;refine Kd.R_append (Kd.int .i64) (w0:=w) w.heap.size rfl (.tmp 44) (.tmp 46) 22 3 (.int .i64 0) 8 rfl Try.underlying22 info3 rfl (by decide) (by omega) u6 x6_2 (wrap64 (Int.tdiv (wrap64 ((wrap64 ((rd t221 x8_2) + a1_2)) - 1)) a1_2)) [.int .i64 (wrap64 (Int.tdiv (wrap64 ((wrap64 ((rd t221 x8_2) + a1_2)) - 1)) a1_2))] (fun k_=>some k_ ≠ (.slice (some ad224) t221.length co25:Value).ownBlock) (fun _=>False) rfl rfl ?aP (fun _ hk=>hk.elim) ?aF ?aO ?aB ?aS ?aL ?_;(case aP=>exact rfl);(case aB=>exact (by repeat (first|(with_reducible first|exact HB.out|apply zD|apply zE|apply zF|refine below_set ?_ GE215.out)|exact HB.out)));(case aF=>exact (fun k_ hk=>Kd.fresh' (Kd.R_lt (by (with_reducible repeat (first|apply zA|apply zB|apply zC));exact HO_7.out)) k_ hk));(case aO=>exact (by (with_reducible repeat (first|apply zA|apply zB|apply zC));exact HO_6.out));(case aS=>exact (zR (by repeat (first|(with_reducible first|exact HB.out|apply zD|apply zE|apply zF|refine below_set ?_ GE215.out)|exact HB.out))));(case aL=>have:=LMc24.out;omega);intro v229 w27 ho hb hg hat;rw [← Ny228.out] at ho;have n0_:=zM (Kd.R_after (ok:=(fun _=>True)) (by (with_reducible repeat (first|apply zA|apply zB|apply zC));exact Kd.R_mono HO_7.out (fun _ hk=>⟨trivial,hk⟩)) hg hat);have n1_:=zM (blk_grown (g:=gb215) (o := .cells #[.int .i64 a1_0,.int .i64 a1_1,.int .i64 a1_2] 28 (0,0)) (by (with_reducible repeat (first|refine zJ ?_ _|refine zK ?_|refine zL ?_ _));exact BK215.out) hg (Kd.R_ne HO_6.out BK215.out (by decide)));have n2_:=zM (hb);have n3_:=zM (ho);clear HO_7;clear BK215;clear HB;clear HO_6;have HO_7:=n0_;have BK215:=n1_;have HB:=n2_;have HO230:=n3_;clear n0_ n1_ n2_ n3_;clear ho hb hg hat));try go_wp2_with (first|((with_reducible refine gate_builtin (b := .append) (xs := #[.tmp 44,.tmp 46]) rfl ?_);at_builtin;refine Kd.R_append (Kd.int .i64) (w0:=w) w.heap.size rfl (.tmp 44) (.tmp 46) 22 3 (.int .i64 0) 8 rfl Try.underlying22 info3 rfl (by decide) (by omega) u6 x6_2 (wrap64 (Int.tdiv (wrap64 ((wrap64 ((rd t221 x8_2) + a1_2)) - 1)) a1_2)) [.int .i64 (wrap64 (Int.tdiv (wrap64 ((wrap64 ((rd t221 x8_2) + a1_2)) - 1)) a1_2))] (fun k_=>some k_ ≠ (.slice (some ad224) t221.length co25:Value).ownBlock) (fun _=>False) rfl rfl ?aP (fun _ hk=>hk.elim) ?aF ?aO ?aB ?aS ?aL ?_;(case aP=>exact rfl);(case aB=>exact (by repeat (first|(with_reducible first|exact HB.out|apply zD|apply zE|apply zF|refine below_set ?_ GE215.out)|exact HB.out)));(case aF=>exact (fun k_ hk=>Kd.fresh' (Kd.R_lt (by (with_reducible repeat (first|apply zA|apply zB|apply zC));exact HO_7.out)) k_ hk));(case aO=>exact (by (with_reducible repeat (first|apply zA|apply zB|apply zC));exact HO_6.out));(case aS=>exact (zR (by repeat (first|(with_reducible first|exact HB.out|apply zD|apply zE|apply zF|refine below_set ?_ GE215.out)|exact HB.out))));(case aL=>have:=LMc24.out;omega);intro v229 w27 ho hb hg hat;rw [← Ny228.out] at ho;have n0_:=zM (Kd.R_after (ok:=(fun _=>True)) (by (with_reducible repeat (first|apply zA|apply zB|apply zC));exact Kd.R_mono HO_7.out (fun _ hk=>⟨trivial,hk⟩)) hg hat);have n1_:=zM (blk_grown (g:=gb215) (o := .cells #[.int .i64 a1_0,.int .i64 a1_1,.int .i64 a1_2] 28 (0,0)) (by (with_reducible repeat (first|refine zJ ?_ _|refine zK ?_|refine zL ?_ _));exact BK215.out) hg (Kd.R_ne HO_6.out BK215.out (by decide)));have n2_:=zM (hb);have n3_:=zM (ho);clear HO_7;clear BK215;clear HB;clear HO_6;have HO_7:=n0_;have BK215:=n1_;have HB:=n2_;have HO230:=n3_;clear n0_ n1_ n2_ n3_;clear ho hb hg hat)))
           go_roundg k2
           case measure=>have:=HJ2.out;have:=HK2.out;omega
           case rel=>exact ⟨(y228),(wrap64 (x8_2 + 1)),(by first|rfl|(simp;done)|(simp [*];done)),H',⟨by have:=HJ2.out;have:=HK2.out;omega⟩,⟨by (with_reducible repeat (first|apply zA|apply zB|apply zC));exact HO230.out⟩,⟨by (with_reducible repeat (first|apply zA|apply zB|apply zC));exact Kd.R_mono HO_7.out (fun _ hk=>hk.2)⟩,⟨by (with_reducible repeat (first|refine zJ ?_ _|refine zK ?_|refine zL ?_ _));exact BK215.out⟩,⟨by repeat (first|(with_reducible first|exact HB.out|apply zD|apply zE|apply zF|refine below_set ?_ GE215.out)|exact HB.out)⟩⟩
          ·rw [if_neg c24] at H
           exact absurd H (by simp)
       ·rw [if_neg c17] at H
        exact absurd H (by simp)
      ·rw [if_neg c16] at H
       have c16b0:decide (x8_2 < (t221.length:Int)) = false:=decide_eq_false c16
       clear c16;simp only [Option.some.injEq,Prod.mk.injEq] at H
       obtain ⟨rfl,rfl⟩:=H;obtain ⟨Ao28,co28,eo28⟩:=Kd.R_slice HO_7.out;subst eo28;go_wp2
       repeat (go_quiet (fail);try go_wp2)
       go_ret2
       exact ⟨_,by first|rfl|(simp [errW_none,errW_some] <;> rfl)|(simp [*,errW_none,errW_some] <;> rfl),by (with_reducible repeat (first|apply zA|apply zB|apply zC));exact Kd.R_mono HO_6.out (fun _ hk=>trivial),by repeat (first|(with_reducible first|exact HB.out|apply zD|apply zE|apply zF|refine below_set ?_ GE215.out)|exact HB.out)⟩



/-! ### impl_LashingsNeeded: function 20 -/
def impl_LashingsNeeded.l0:Nat → List Int → List Int → Int → Int → Int → Int → Int → Option (List Int × Bool)
 | 0,_,_,_,_,_,_,_=>none
 | k + 1,x6,x17,x18,x19,x232000,x232001,x232002=>if x19 < x18 then (if 0 ≤ x19 then (if x19 < (x17.length:Int) then ((impl_ceiling.f (rd x17 x19) x232002).bind fun t240=>(if t240 > 4 then (some (([]:List Int),false)) else (if x6.length < 17592186044416 then (impl_LashingsNeeded.l0 k (x6 ++ [t240]) x17 x18 (wrap64 (x19 + 1)) x232000 x232001 x232002) else (none)))) else (none)) else (none)) else (some (x6,true))
def impl_LashingsNeeded.f (k:Nat) (l0:List Int) (a1_0:Int) (a1_1:Int) (a1_2:Int):Option (List Int × Bool):=(impl_isLashed.f l0 a1_0 a1_1 a1_2).bind fun t232=>(if t232 = true then ((impl_forcesOf.f k l0 a1_0 a1_1 a1_2).bind fun t236=>(impl_LashingsNeeded.l0 k (([]:List Int)) t236 (t236.length:Int) 0 a1_0 a1_1 a1_2)) else (some (([]:List Int),false)))
set_option maxHeartbeats 8000000 in
set_option maxRecDepth 100000 in
theorem impl_LashingsNeeded.calls (k:Nat) (A0:Option Addr) (c0:Nat) (l0:List Int) (a1_0:Int) (a1_1:Int) (a1_2:Int) (r1:List Int) (r2:Bool) (w:World) (hr0:Kd.C (Kd.int .i64) w A0 l0.length l0) (hc0:l0.length ≤ c0) (h:impl_LashingsNeeded.f k l0 a1_0 a1_1 a1_2 = some (r1,r2)) :
  Calls Try.prog 20 #[.slice A0 l0.length c0,.agg #[.int .i64 a1_0,.int .i64 a1_1,.int .i64 a1_2]] w fun e w' => ∃ v0_:Value,e = .returned (.tuple #[v0_,.bool r2]) ∧ Kd.R (Kd.int .i64) 3 w' w.heap.size (fun _=>True) v0_ r1 ∧ Below w.heap.size w w':=by
 have hu28:=Try.underlying28;have HR0:=zM hr0;have HC0:=zM hc0;clear hr0 hc0;have HB:=zM (Below.refl w.heap.size w);have H:((impl_isLashed.f l0 a1_0 a1_1 a1_2).bind fun t232=>(if t232 = true then ((impl_forcesOf.f k l0 a1_0 a1_1 a1_2).bind fun t236=>(impl_LashingsNeeded.l0 k (([]:List Int)) t236 (t236.length:Int) 0 a1_0 a1_1 a1_2)) else (some (([]:List Int),false)))) = some (r1,r2):=h
 clear h;replace H:=Option.bind_eq_some_iff.mp H;obtain ⟨t232,A30,H⟩:=H;replace H:(if t232 = true then ((impl_forcesOf.f k l0 a1_0 a1_1 a1_2).bind fun t236=>(impl_LashingsNeeded.l0 k (([]:List Int)) t236 (t236.length:Int) 0 a1_0 a1_1 a1_2)) else (some (([]:List Int),false))) = some (r1,r2):=H
 have A3:=zM A30;clear A30;by_cases c4:t232 = true
 ·subst c4
  have H1:((impl_forcesOf.f k l0 a1_0 a1_1 a1_2).bind fun t236=>(impl_LashingsNeeded.l0 k (([]:List Int)) t236 (t236.length:Int) 0 a1_0 a1_1 a1_2)) = some (r1,r2):=by rw [if_pos rfl] at H;exact H
  clear H;have H:=H1;clear H1;obtain ⟨y233,hy233⟩ : ∃ y_:List Int,y_ = (([]:List Int)):=⟨_,rfl⟩
  replace H:((impl_forcesOf.f k l0 a1_0 a1_1 a1_2).bind fun t236=>(impl_LashingsNeeded.l0 k y233 t236 (t236.length:Int) 0 a1_0 a1_1 a1_2)) = some (r1,r2):=by first|(rw [hy233];with_reducible exact H)|(have H2_:=(Option.bind_some _ _).symm.trans H;rw [hy233];with_reducible exact H2_)|(have H2_:=(Option.bind_some _ _).symm.trans H;with_reducible exact H2_)|with_reducible exact H|(rw [hy233];exact H)|exact H
  have Ny233:=zM hy233;clear hy233;replace H:=Option.bind_eq_some_iff.mp H;obtain ⟨t236,A50,H⟩:=H;replace H:(impl_LashingsNeeded.l0 k y233 t236 (t236.length:Int) 0 a1_0 a1_1 a1_2) = some (r1,r2):=H
  have A5:=zM A50;clear A50;have H':=zM H;clear H;go_enter Try.func20,Try.ntmps20
  go_wp2_with (first|((with_reducible refine gate_dst (N:=3) rfl ?_);refine box_event ?hg (N:=3) ?hd (cs := #[.int .i64 a1_0,.int .i64 a1_1,.int .i64 a1_2]) (t:=28) ?hr ?_;(case hd=>rfl);(case hg=>rfl);(case hr=>first|(go_simp;done)|(go_simp;rfl));intro gb231 hg w6 hbox hb;have n0_:=zM (zQ (by repeat (first|(with_reducible first|exact HB.out|apply zD|apply zE|apply zF)|exact HB.out)) hb);have n1_:=zM (hbox);have n2_:=zM ((by rw [hg];exact (zR (by repeat (first|(with_reducible first|exact HB.out|apply zD|apply zE|apply zF)|exact HB.out))):w.heap.size ≤ gb231));have n3_:=zM ((by rw [hg];exact (zR (by repeat (first|(with_reducible first|exact HB.out|apply zD|apply zE|apply zF)|exact HB.out))):w.heap.size ≤ gb231));clear HB;have HB:=n0_;have BK231:=n1_;have GW231:=n2_;have GE231:=n3_;clear n0_ n1_ n2_ n3_;clear hb hbox hg;have hcz7_0:w6.cell? ⟨gb231,0,none⟩ = some (.int .i64 a1_0):=(blk_cell BK231.out 0).trans rfl;have hcz7_1:w6.cell? ⟨gb231,1,none⟩ = some (.int .i64 a1_1):=(blk_cell BK231.out 1).trans rfl;have hcz7_2:w6.cell? ⟨gb231,2,none⟩ = some (.int .i64 a1_2):=(blk_cell BK231.out 2).trans rfl;have hfz7_0:=blk_frozen BK231.out 0;have hfz7_1:=blk_frozen BK231.out 1;have hfz7_2:=blk_frozen BK231.out 2)|((with_reducible refine gate_callee (f:=47) rfl ?_);refine goesL_ (some 12) rfl rfl Try.func47 (by kernel_rfl) rfl #[.slice A0 l0.length c0,.agg #[.int .i64 a1_0,.int .i64 a1_1,.int .i64 a1_2]] rfl (by (try simp only [List.map_toArray,List.map_cons,List.map_nil]);first|done|rfl|(simp only [List.length_drop,List.length_take];rfl)) ?_;(with_reducible refine (impl_isLashed.calls _ _ l0 a1_0 a1_1 a1_2 true _ ?side1 ?side2 A3.out).mono ?_);(case side1=>repeat (first|exact (zO HR0.out HB.out)|(with_reducible first|refine zG ?_ _|refine zH ?_ _|refine zI ?_)));(case side2=>exact HC0.out);rintro e w8 ⟨rfl,hb⟩;refine ⟨_,rfl,?_⟩;have n0_:=zM (blk_below (g:=gb231) (o := .cells #[.int .i64 a1_0,.int .i64 a1_1,.int .i64 a1_2] 28 (0,0)) (by (with_reducible repeat (first|refine zJ ?_ _|refine zK ?_|refine zL ?_ _));exact BK231.out) hb);have n1_:=zM (zQ (by repeat (first|(with_reducible first|exact HB.out|apply zD|apply zE|apply zF|refine below_set ?_ GE231.out)|exact HB.out)) hb);clear BK231;clear HB;have BK231:=n0_;have HB:=n1_;clear n0_ n1_;(try clear hb);(try clear hb2);(try clear hk);(try clear hi))|((with_reducible refine gate_dst (N:=14) rfl ?_);refine Kd.R_lit (Kd.int .i64) _ 3 ?hg (N:=14) ?hd (xs:=([]:List Int)) (inner:=[]) (ok:=fun _=>True) (okp:=fun _=>True) ?hr ?hp (fun _ hk=>hk) trivial (Below.refl _ _) (Nat.le_refl _) (by simp) ?_;(case hd=>rfl);(case hg=>rfl);(case hr=>first|(go_simp;done)|(go_simp;rfl));(case hp=>exact (Reps.none _ _));intro v234 w9 ho10 hb hg_ hnew_;clear hg_ hnew_;(first|rw [← Ny233.out] at ho10|(simp only [Int.reduceToNat] at ho10;rw [← Ny233.out] at ho10));have n0_:=zM (Kd.R_lower ho10 (zR (by repeat (first|(with_reducible first|exact HB.out|apply zD|apply zE|apply zF|refine below_set ?_ GE231.out)|exact HB.out))));have n1_:=zM (blk_below (g:=gb231) (o := .cells #[.int .i64 a1_0,.int .i64 a1_1,.int .i64 a1_2] 28 (0,0)) (by (with_reducible repeat (first|refine zJ ?_ _|refine zK ?_|refine zL ?_ _));exact BK231.out) hb);have n2_:=zM (zQ (by repeat (first|(with_reducible first|exact HB.out|apply zD|apply zE|apply zF|refine below_set ?_ GE231.out)|exact HB.out)) hb);clear BK231;clear HB;have HO235:=n0_;have BK231:=n1_;have HB:=n2_;clear n0_ n1_ n2_;clear hb ho10;have hcz11_0:w9.cell? ⟨gb231,0,none⟩ = some (.int .i64 a1_0):=(blk_cell BK231.out 0).trans rfl;have hcz11_1:w9.cell? ⟨gb231,1,none⟩ = some (.int .i64 a1_1):=(blk_cell BK231.out 1).trans rfl;have hcz11_2:w9.cell? ⟨gb231,2,none⟩ = some (.int .i64 a1_2):=(blk_cell BK231.out 2).trans rfl;have hfz11_0:=blk_frozen BK231.out 0;have hfz11_1:=blk_frozen BK231.out 1;have hfz11_2:=blk_frozen BK231.out 2)|((with_reducible refine gate_callee (f:=48) rfl ?_);refine goesL_ (some 17) rfl rfl Try.func48 (by kernel_rfl) rfl #[.slice A0 l0.length c0,.agg #[.int .i64 a1_0,.int .i64 a1_1,.int .i64 a1_2]] rfl (by (try simp only [List.map_toArray,List.map_cons,List.map_nil]);first|done|rfl|(simp only [List.length_drop,List.length_take];rfl)) ?_;(with_reducible refine (impl_forcesOf.calls k _ _ l0 a1_0 a1_1 a1_2 t236 _ ?side1 ?side2 A5.out).mono ?_);(case side1=>repeat (first|exact (zO HR0.out HB.out)|(with_reducible first|refine zG ?_ _|refine zH ?_ _|refine zI ?_)));(case side2=>exact HC0.out);rintro e w12 ⟨v237,rfl,ho0,hb⟩;refine ⟨_,rfl,?_⟩;have n0_:=zM (Kd.R_elder' (by (with_reducible repeat (first|apply zA|apply zB|apply zC));exact HO235.out) (Kd.R_base ho0) hb);have n1_:=zM (Kd.R_lower (Kd.R_new' ho0 (Kd.R_lt (by (with_reducible repeat (first|apply zA|apply zB|apply zC));exact HO235.out))) (zR (by repeat (first|(with_reducible first|exact HB.out|apply zD|apply zE|apply zF|refine below_set ?_ GE231.out)|exact HB.out))));have n2_:=zM (blk_below (g:=gb231) (o := .cells #[.int .i64 a1_0,.int .i64 a1_1,.int .i64 a1_2] 28 (0,0)) (by (with_reducible repeat (first|refine zJ ?_ _|refine zK ?_|refine zL ?_ _));exact BK231.out) hb);have n3_:=zM (zQ (by repeat (first|(with_reducible first|exact HB.out|apply zD|apply zE|apply zF|refine below_set ?_ GE231.out)|exact HB.out)) hb);clear HO235;clear BK231;clear HB;have HO235:=n0_;have HO238:=n1_;have BK231:=n2_;have HB:=n3_;clear n0_ n1_ n2_ n3_;(try clear hb);(try clear hb2);(try clear hk);(try clear hi);(try clear ho0);obtain ⟨Ao13,co13,eo13⟩:=Kd.R_slice HO238.out;subst eo13))
  go_loopg [6,19] k (fun kq v6 v19 w' => ∃ (x6_1:List Int) (x19_1:Int),v19 = .int .i64 x19_1 ∧ Aside0 (impl_LashingsNeeded.l0 kq x6_1 t236 (t236.length:Int) x19_1 a1_0 a1_1 a1_2 = some (r1,r2)) ∧ Aside0 (kq ≤ k) ∧ Aside0 (Kd.R (Kd.int .i64) 3 w' w.heap.size (fun k_=>some k_ ≠ ((.slice Ao13 t236.length co13):Value).ownBlock) v6 x6_1) ∧ Aside0 (Kd.R (Kd.int .i64) 3 w' w.heap.size (fun k_=>some k_ ≠ (v6:Value).ownBlock) (.slice Ao13 t236.length co13) t236) ∧ Aside0 (w'.heap[gb231]? = some (.cells #[.int .i64 a1_0,.int .i64 a1_1,.int .i64 a1_2] 28 (0,0))) ∧ Aside0 (Below w.heap.size w w'))
  case atStart=>exact ⟨(y233),(0),(by first|rfl|(simp;done)|(simp [*];done)),H',⟨Nat.le_refl _⟩,⟨by (with_reducible repeat (first|apply zA|apply zB|apply zC));exact Kd.R_mono HO235.out (fun _ hk=>hk.2)⟩,⟨by (with_reducible repeat (first|apply zA|apply zB|apply zC));exact Kd.R_mono HO238.out (fun _ hk=>hk.2)⟩,⟨by (with_reducible repeat (first|refine zJ ?_ _|refine zK ?_|refine zL ?_ _));exact BK231.out⟩,⟨by repeat (first|(with_reducible first|exact HB.out|apply zD|apply zE|apply zF|refine below_set ?_ GE231.out)|exact HB.out)⟩⟩
  case round =>
   clear H';(try clear c2);(try clear p2);(try clear c4);(try clear hcz11_0);(try clear hcz11_1);(try clear hcz11_2);(try clear hcz7_0);(try clear hcz7_1);(try clear hcz7_2);(try clear hfz11_0);(try clear hfz11_1);(try clear hfz11_2);(try clear hfz7_0);(try clear hfz7_1);(try clear hfz7_2);obtain ⟨x6_1,x19_1,rfl,HA,HK1,HO_6,HO_17,BK231,HB⟩:=hrel;cases gk with
   | zero=>exact absurd HA.out (by simp [impl_LashingsNeeded.l0])
   | succ k1 =>
    have H:=HA.out;clear HA;simp only [impl_LashingsNeeded.l0] at H
    by_cases c14:x19_1 < (t236.length:Int)
    ·rw [if_pos c14] at H
     have c14b0:decide (x19_1 < (t236.length:Int)) = true:=decide_eq_true c14
     clear c14;by_cases c15:0 ≤ x19_1
     ·rw [if_pos c15] at H
      have c15b0:decide (0 ≤ x19_1) = true:=decide_eq_true c15
      clear c15;by_cases c16:x19_1 < (t236.length:Int)
      ·rw [if_pos c16] at H
       have c16b0:decide (x19_1 < (t236.length:Int)) = true:=decide_eq_true c16
       clear c16;replace H:=Option.bind_eq_some_iff.mp H;obtain ⟨t240,A170,H⟩:=H;replace H:(if t240 > 4 then (some (([]:List Int),false)) else (if x6_1.length < 17592186044416 then (impl_LashingsNeeded.l0 k1 (x6_1 ++ [t240]) t236 (t236.length:Int) (wrap64 (x19_1 + 1)) a1_0 a1_1 a1_2) else (none))) = some (r1,r2):=H
       have A17:=zM A170;clear A170;by_cases c18:t240 > 4
       ·rw [if_pos c18] at H
        have c18b0:decide (4 < t240) = true:=decide_eq_true c18
        clear c18;simp only [Option.some.injEq,Prod.mk.injEq] at H
        obtain ⟨rfl,rfl⟩:=H;have p239:0 ≤ (x19_1:Int):=of_decide_eq_true (by first|(with_reducible assumption)|assumption)
        have q239:x19_1 < (t236.length:Int):=of_decide_eq_true (by first|(with_reducible assumption)|assumption)
        obtain ⟨ad239,e239,hx239_0⟩:=Kd.at_int (zN HO_17.out).2.2 x19_1 p239 q239;cases e239
        replace p239:=eq_true p239;replace q239:=eq_true q239;have hcz19_0:wr.cell? ⟨gb231,0,none⟩ = some (.int .i64 a1_0):=(blk_cell BK231.out 0).trans rfl
        have hcz19_1:wr.cell? ⟨gb231,1,none⟩ = some (.int .i64 a1_1):=(blk_cell BK231.out 1).trans rfl
        have hcz19_2:wr.cell? ⟨gb231,2,none⟩ = some (.int .i64 a1_2):=(blk_cell BK231.out 2).trans rfl
        have hfz19_0:=blk_frozen BK231.out 0;have hfz19_1:=blk_frozen BK231.out 1;have hfz19_2:=blk_frozen BK231.out 2;go_wp2_with (first|((with_reducible refine gate_callee (f:=49) rfl ?_);refine goesL_ (some 26) rfl rfl Try.func49 (by kernel_rfl) rfl #[.int .i64 (rd t236 x19_1),.int .i64 a1_2] rfl (by (try simp only [List.map_toArray,List.map_cons,List.map_nil]);first|done|rfl|(simp only [List.length_drop,List.length_take];rfl)) ?_;(with_reducible refine (impl_ceiling.calls (rd t236 x19_1) a1_2 t240 _ A17.out).mono ?_);rintro e w' ⟨rfl,⟨nd,rfl⟩⟩;refine ⟨_,rfl,?_⟩))
        go_ret2
        exact ⟨_,by first|rfl|(simp [errW_none,errW_some] <;> rfl)|(simp [*,errW_none,errW_some] <;> rfl),by first|exact Kd.R_nil _ _ _ _ _|exact Kd.N_nil _ _ _ _ _|exact Kd.V_nil _ _ _ _ _|exact Kd.Q_nil _ _ _ _ _|exact Kd.S_nil _ _ _ _ _,by repeat (first|(with_reducible first|exact HB.out|apply zD|apply zE|apply zF|refine below_set ?_ GE231.out)|exact HB.out)⟩
       ·rw [if_neg c18] at H
        have c18b0:decide (4 < t240) = false:=decide_eq_false c18
        clear c18;by_cases c20:x6_1.length < 17592186044416
        ·rw [if_pos c20] at H
         have LMc20:=zM c20;clear c20;obtain ⟨y241,hy241⟩ : ∃ y_:List Int,y_ = (x6_1 ++ [t240]):=⟨_,rfl⟩
         replace H:(impl_LashingsNeeded.l0 k1 y241 t236 (t236.length:Int) (wrap64 (x19_1 + 1)) a1_0 a1_1 a1_2) = some (r1,r2):=by first|(rw [hy241];with_reducible exact H)|(have H2_:=(Option.bind_some _ _).symm.trans H;rw [hy241];with_reducible exact H2_)|(have H2_:=(Option.bind_some _ _).symm.trans H;with_reducible exact H2_)|with_reducible exact H|(rw [hy241];exact H)|exact H
         have Ny241:=zM hy241;clear hy241;have H':=zM H;clear H;have p239:0 ≤ (x19_1:Int):=of_decide_eq_true (by first|(with_reducible assumption)|assumption)
         have q239:x19_1 < (t236.length:Int):=of_decide_eq_true (by first|(with_reducible assumption)|assumption)
         obtain ⟨ad239,e239,hx239_0⟩:=Kd.at_int (zN HO_17.out).2.2 x19_1 p239 q239;cases e239
         replace p239:=eq_true p239;replace q239:=eq_true q239;have hcz21_0:wr.cell? ⟨gb231,0,none⟩ = some (.int .i64 a1_0):=(blk_cell BK231.out 0).trans rfl
         have hcz21_1:wr.cell? ⟨gb231,1,none⟩ = some (.int .i64 a1_1):=(blk_cell BK231.out 1).trans rfl
         have hcz21_2:wr.cell? ⟨gb231,2,none⟩ = some (.int .i64 a1_2):=(blk_cell BK231.out 2).trans rfl
         have hfz21_0:=blk_frozen BK231.out 0;have hfz21_1:=blk_frozen BK231.out 1;have hfz21_2:=blk_frozen BK231.out 2;go_wp2_with (first|((with_reducible refine gate_callee (f:=49) rfl ?_);refine goesL_ (some 26) rfl rfl Try.func49 (by kernel_rfl) rfl #[.int .i64 (rd t236 x19_1),.int .i64 a1_2] rfl (by (try simp only [List.map_toArray,List.map_cons,List.map_nil]);first|done|rfl|(simp only [List.length_drop,List.length_take];rfl)) ?_;(with_reducible refine (impl_ceiling.calls (rd t236 x19_1) a1_2 t240 _ A17.out).mono ?_);rintro e w' ⟨rfl,⟨nd,rfl⟩⟩;refine ⟨_,rfl,?_⟩)|((with_reducible refine gate_builtin (b := .append) (xs := #[.tmp 29,.tmp 31]) rfl ?_);at_builtin;refine Kd.R_append (Kd.int .i64) (w0:=w) w.heap.size rfl (.tmp 29) (.tmp 31) 22 3 (.int .i64 0) 8 rfl Try.underlying22 info3 rfl (by decide) (by omega) u6 x6_1 t240 [.int .i64 t240] (fun k_=>some k_ ≠ (.slice (some ad239) t236.length co13:Value).ownBlock) (fun _=>False) rfl rfl ?aP (fun _ hk=>hk.elim) ?aF ?aO ?aB ?aS ?aL ?_;(case aP=>exact rfl);(case aB=>exact (by repeat (first|(with_reducible first|exact HB.out|apply zD|apply zE|apply zF|refine below_set ?_ GE231.out)|exact HB.out)));(case aF=>exact (fun k_ hk=>Kd.fresh' (Kd.R_lt (by (with_reducible repeat (first|apply zA|apply zB|apply zC));exact HO_17.out)) k_ hk));(case aO=>exact (by (with_reducible repeat (first|apply zA|apply zB|apply zC));exact HO_6.out));(case aS=>exact (zR (by repeat (first|(with_reducible first|exact HB.out|apply zD|apply zE|apply zF|refine below_set ?_ GE231.out)|exact HB.out))));(case aL=>have:=LMc20.out;omega);intro v242 w22 ho hb hg hat;rw [← Ny241.out] at ho;have n0_:=zM (Kd.R_after (ok:=(fun _=>True)) (by (with_reducible repeat (first|apply zA|apply zB|apply zC));exact Kd.R_mono HO_17.out (fun _ hk=>⟨trivial,hk⟩)) hg hat);have n1_:=zM (blk_grown (g:=gb231) (o := .cells #[.int .i64 a1_0,.int .i64 a1_1,.int .i64 a1_2] 28 (0,0)) (by (with_reducible repeat (first|refine zJ ?_ _|refine zK ?_|refine zL ?_ _));exact BK231.out) hg (Kd.R_ne HO_6.out BK231.out (by decide)));have n2_:=zM (hb);have n3_:=zM (ho);clear HO_17;clear BK231;clear HB;clear HO_6;have HO_17:=n0_;have BK231:=n1_;have HB:=n2_;have HO243:=n3_;clear n0_ n1_ n2_ n3_;clear ho hb hg hat))
         go_roundg k1
         case measure=>have:=HK1.out;omega
         case rel=>exact ⟨(y241),(wrap64 (x19_1 + 1)),(by first|rfl|(simp;done)|(simp [*];done)),H',⟨by have:=HK1.out;omega⟩,⟨by (with_reducible repeat (first|apply zA|apply zB|apply zC));exact HO243.out⟩,⟨by (with_reducible repeat (first|apply zA|apply zB|apply zC));exact Kd.R_mono HO_17.out (fun _ hk=>hk.2)⟩,⟨by (with_reducible repeat (first|refine zJ ?_ _|refine zK ?_|refine zL ?_ _));exact BK231.out⟩,⟨by repeat (first|(with_reducible first|exact HB.out|apply zD|apply zE|apply zF|refine below_set ?_ GE231.out)|exact HB.out)⟩⟩
        ·rw [if_neg c20] at H
         exact absurd H (by simp)
      ·rw [if_neg c16] at H
       exact absurd H (by simp)
     ·rw [if_neg c15] at H
      exact absurd H (by simp)
    ·rw [if_neg c14] at H
     have c14b0:decide (x19_1 < (t236.length:Int)) = false:=decide_eq_false c14
     clear c14;simp only [Option.some.injEq,Prod.mk.injEq] at H
     obtain ⟨rfl,rfl⟩:=H;go_wp2
     go_ret2
     exact ⟨_,by first|rfl|(simp [errW_none,errW_some] <;> rfl)|(simp [*,errW_none,errW_some] <;> rfl),by (with_reducible repeat (first|apply zA|apply zB|apply zC));exact Kd.R_mono HO_6.out (fun _ hk=>trivial),by repeat (first|(with_reducible first|exact HB.out|apply zD|apply zE|apply zF|refine below_set ?_ GE231.out)|exact HB.out)⟩
 ·replace c4:=Bool.eq_false_iff.mpr c4
  subst c4;have H1:(some (([]:List Int),false)) = some (r1,r2):=by rw [if_neg (show ¬ (false = true) by decide)] at H;exact H
  clear H;have H:=H1;clear H1;simp only [Option.some.injEq,Prod.mk.injEq] at H
  obtain ⟨rfl,rfl⟩:=H;go_enter Try.func20,Try.ntmps20
  go_wp2_with (first|((with_reducible refine gate_dst (N:=3) rfl ?_);refine box_event ?hg (N:=3) ?hd (cs := #[.int .i64 a1_0,.int .i64 a1_1,.int .i64 a1_2]) (t:=28) ?hr ?_;(case hd=>rfl);(case hg=>rfl);(case hr=>first|(go_simp;done)|(go_simp;rfl));intro gb231 hg w23 hbox hb;have n0_:=zM (zQ (by repeat (first|(with_reducible first|exact HB.out|apply zD|apply zE|apply zF)|exact HB.out)) hb);have n1_:=zM (hbox);have n2_:=zM ((by rw [hg];exact (zR (by repeat (first|(with_reducible first|exact HB.out|apply zD|apply zE|apply zF)|exact HB.out))):w.heap.size ≤ gb231));have n3_:=zM ((by rw [hg];exact (zR (by repeat (first|(with_reducible first|exact HB.out|apply zD|apply zE|apply zF)|exact HB.out))):w.heap.size ≤ gb231));clear HB;have HB:=n0_;have BK231:=n1_;have GW231:=n2_;have GE231:=n3_;clear n0_ n1_ n2_ n3_;clear hb hbox hg;have hcz24_0:w23.cell? ⟨gb231,0,none⟩ = some (.int .i64 a1_0):=(blk_cell BK231.out 0).trans rfl;have hcz24_1:w23.cell? ⟨gb231,1,none⟩ = some (.int .i64 a1_1):=(blk_cell BK231.out 1).trans rfl;have hcz24_2:w23.cell? ⟨gb231,2,none⟩ = some (.int .i64 a1_2):=(blk_cell BK231.out 2).trans rfl;have hfz24_0:=blk_frozen BK231.out 0;have hfz24_1:=blk_frozen BK231.out 1;have hfz24_2:=blk_frozen BK231.out 2)|((with_reducible refine gate_callee (f:=47) rfl ?_);refine goesL_ (some 12) rfl rfl Try.func47 (by kernel_rfl) rfl #[.slice A0 l0.length c0,.agg #[.int .i64 a1_0,.int .i64 a1_1,.int .i64 a1_2]] rfl (by (try simp only [List.map_toArray,List.map_cons,List.map_nil]);first|done|rfl|(simp only [List.length_drop,List.length_take];rfl)) ?_;(with_reducible refine (impl_isLashed.calls _ _ l0 a1_0 a1_1 a1_2 false _ ?side1 ?side2 A3.out).mono ?_);(case side1=>repeat (first|exact (zO HR0.out HB.out)|(with_reducible first|refine zG ?_ _|refine zH ?_ _|refine zI ?_)));(case side2=>exact HC0.out);rintro e w25 ⟨rfl,hb⟩;refine ⟨_,rfl,?_⟩;have n0_:=zM (blk_below (g:=gb231) (o := .cells #[.int .i64 a1_0,.int .i64 a1_1,.int .i64 a1_2] 28 (0,0)) (by (with_reducible repeat (first|refine zJ ?_ _|refine zK ?_|refine zL ?_ _));exact BK231.out) hb);have n1_:=zM (zQ (by repeat (first|(with_reducible first|exact HB.out|apply zD|apply zE|apply zF|refine below_set ?_ GE231.out)|exact HB.out)) hb);clear BK231;clear HB;have BK231:=n0_;have HB:=n1_;clear n0_ n1_;(try clear hb);(try clear hb2);(try clear hk);(try clear hi)))
  go_ret2
  exact ⟨_,by first|rfl|(simp [errW_none,errW_some] <;> rfl)|(simp [*,errW_none,errW_some] <;> rfl),by first|exact Kd.R_nil _ _ _ _ _|exact Kd.N_nil _ _ _ _ _|exact Kd.V_nil _ _ _ _ _|exact Kd.Q_nil _ _ _ _ _|exact Kd.S_nil _ _ _ _ _,by repeat (first|(with_reducible first|exact HB.out|apply zD|apply zE|apply zF|refine below_set ?_ GE231.out)|exact HB.out)⟩



/-! ### spec_l1Own: function 50 -/
def spec_l1Own.f (l0:List Int):Option (List Int):=(some (([]:List Int):List Int)).bind fun y288=>(if y288.length + l0.length < 17592186044416 then (some (y288 ++ l0)) else (none))
set_option maxHeartbeats 8000000 in
set_option maxRecDepth 100000 in
theorem spec_l1Own.calls (A0:Option Addr) (c0:Nat) (l0:List Int) (r:List Int) (w:World) (hr0:Kd.C (Kd.int .i64) w A0 l0.length l0) (hc0:l0.length ≤ c0) (h:spec_l1Own.f l0 = some r) :
  Calls Try.prog 50 #[.slice A0 l0.length c0] w fun e w' => ∃ v0_:Value,e = .returned (v0_) ∧ Kd.R (Kd.int .i64) 3 w' w.heap.size (fun _=>True) v0_ r ∧ Below w.heap.size w w':=by
 have HR0:=zM hr0;have HC0:=zM hc0;clear hr0 hc0;have HB:=zM (Below.refl w.heap.size w);have H:((some (([]:List Int):List Int)).bind fun y288=>(if y288.length + l0.length < 17592186044416 then (some (y288 ++ l0)) else (none))) = some r:=h
 clear h;obtain ⟨y288,hy288⟩ : ∃ y_:List Int,y_ = (([]:List Int)):=⟨_,rfl⟩
 replace H:(if y288.length + l0.length < 17592186044416 then (some (y288 ++ l0)) else (none)) = some r:=by first|(rw [hy288];with_reducible exact H)|(have H2_:=(Option.bind_some _ _).symm.trans H;rw [hy288];with_reducible exact H2_)|(have H2_:=(Option.bind_some _ _).symm.trans H;with_reducible exact H2_)|with_reducible exact H|(rw [hy288];exact H)|exact H
 have Ny288:=zM hy288;clear hy288;by_cases c2:y288.length + l0.length < 17592186044416
 ·rw [if_pos c2] at H
  have LMc2:=zM c2;clear c2;obtain ⟨y291,hy291⟩ : ∃ y_:List Int,y_ = (y288 ++ l0):=⟨_,rfl⟩
  replace H:(some y291) = some r:=by first|(rw [hy291];with_reducible exact H)|(have H2_:=(Option.bind_some _ _).symm.trans H;rw [hy291];with_reducible exact H2_)|(have H2_:=(Option.bind_some _ _).symm.trans H;with_reducible exact H2_)|with_reducible exact H|(rw [hy291];exact H)|exact H
  have Ny291:=zM hy291;clear hy291;obtain rfl:=Option.some.inj H;go_enter Try.func50,Try.ntmps50
  go_wp2_with (first|((with_reducible refine gate_dst (N:=3) rfl ?_);refine Kd.R_lit (Kd.int .i64) _ 3 ?hg (N:=3) ?hd (xs:=([]:List Int)) (inner:=[]) (ok:=fun _=>True) (okp:=fun _=>True) ?hr ?hp (fun _ hk=>hk) trivial (Below.refl _ _) (Nat.le_refl _) (by simp) ?_;(case hd=>rfl);(case hg=>rfl);(case hr=>first|(go_simp;done)|(go_simp;rfl));(case hp=>exact (Reps.none _ _));intro v289 w3 ho4 hb hg_ hnew_;clear hg_ hnew_;(first|rw [← Ny288.out] at ho4|(simp only [Int.reduceToNat] at ho4;rw [← Ny288.out] at ho4));have n0_:=zM (Kd.R_lower ho4 (zR (by repeat (first|(with_reducible first|exact HB.out|apply zD|apply zE|apply zF)|exact HB.out))));have n1_:=zM (zQ (by repeat (first|(with_reducible first|exact HB.out|apply zD|apply zE|apply zF)|exact HB.out)) hb);clear HB;have HO290:=n0_;have HB:=n1_;clear n0_ n1_;clear hb ho4)|((with_reducible refine gate_builtin (b := .append) (xs := #[.tmp 3,.tmp 4]) rfl ?_);at_builtin;refine Kd.R_append_rows (Kd.int .i64) (w0:=w) w.heap.size rfl (.tmp 3) (.tmp 4) 22 3 (.int .i64 0) 8 rfl Try.underlying22 info3 rfl (by decide) (by omega) v289 y288 l0 _ _ _ (fun _=>True) (fun _=>False) rfl rfl ?aO ?aR (fun _ _ h=>h) (fun _ h=>h.elim) ?aF ?aB ?aS ?aL ?_;(case aR=>repeat (first|exact (zO HR0.out HB.out)|(with_reducible first|refine zG ?_ _|refine zH ?_ _|refine zI ?_)));(case aB=>exact (by repeat (first|(with_reducible first|exact HB.out|apply zD|apply zE|apply zF)|exact HB.out)));(case aF=>exact (fun _ _=>trivial));(case aO=>exact (by (with_reducible repeat (first|apply zA|apply zB|apply zC));exact HO290.out));(case aS=>exact (zR (by repeat (first|(with_reducible first|exact HB.out|apply zD|apply zE|apply zF)|exact HB.out))));(case aL=>have:=LMc2.out;omega);intro v292 w5 ho hb hg hat;rw [← Ny291.out] at ho;have n0_:=zM (hb);have n1_:=zM (ho);clear HB;clear HO290;have HB:=n0_;have HO293:=n1_;clear n0_ n1_;clear ho hb hg hat))
  go_ret
  exact ⟨_,by first|rfl|(simp [errW_none,errW_some] <;> rfl)|(simp [*,errW_none,errW_some] <;> rfl),by (with_reducible repeat (first|apply zA|apply zB|apply zC));exact HO293.out,by repeat (first|(with_reducible first|exact HB.out|apply zD|apply zE|apply zF)|exact HB.out)⟩
 ·rw [if_neg c2] at H
  exact absurd H (by simp)



/-! ### spec_l12Orders: function 63 -/
mutual
def spec_l12Orders.l0:Nat → List Int → List Bool → List Int → List (List Int) → Int → Option ((List (List Int)))
 | 0,_,_,_,_,_=>none
 | k + 1,x0,x1,x2,x7,x8=>if x8 < (x0.length:Int) then (if 0 ≤ x8 then (if x8 < (x1.length:Int) then (if rdOf false x1 x8 = true then (spec_l12Orders.l0 k x0 x1 x2 x7 (wrap64 (x8 + 1))) else ((some (([]:List Bool):List Bool)).bind fun y474=>(if y474.length + x1.length < 140737488355328 then ((some (y474 ++ x1:List Bool)).bind fun y477=>(if x8 < (y477.length:Int) then ((spec_l1Own.f x2).bind fun t481=>((some (([rd x0 x8]:List Int):List Int)).bind fun y485=>(if t481.length + y485.length < 17592186044416 then ((spec_l12Orders.f k x0 (y477.set (x8:Int).toNat true) (t481 ++ y485)).bind fun t491=>(if x7.length + t491.length < 5864062014805 then (spec_l12Orders.l0 k x0 x1 x2 (x7 ++ t491) (wrap64 (x8 + 1))) else (none))) else (none)))) else (none))) else (none)))) else (none)) else (none)) else (some x7)
def spec_l12Orders.f:Nat → List Int → List Bool → List Int → Option ((List (List Int)))
 | 0,_,_,_=>none
 | k + 1,l0,l1,l2=>if (l2.length:Int) = (l0.length:Int) then (some (([l2]:List (List Int)))) else (spec_l12Orders.l0 k l0 l1 l2 (([]:List (List Int))) 0)
end
def spec_l12Orders.T10:Bool × List (List Nat × List Nat):=(true,[([],[]),([],[]),([],[]),([],[]),([3],[3]),([],[]),([],[]),([5,6],[5,6]),([7],[7]),([8],[8]),([4,9,4],[4,9]),([1,2,10,10],[1,2,10]),([0,11,11],[0,11]),([12,12,0,1,2,3,4,5,6,7,8,9,10,11,12],[0,12])])
def spec_l12Orders.B10:List Nat:=[0,0,0,0,8,0,0,96,224,480,1016,2046,4095,8191]
theorem spec_l12Orders.tab10:rtab .any (opsOf Try.f63 10) = spec_l12Orders.T10:=by kernel_rfl
theorem spec_l12Orders.bits10:waitsOk spec_l12Orders.T10.2 spec_l12Orders.B10 = true:=by kernel_rfl
set_option maxHeartbeats 8000000 in
set_option maxRecDepth 100000 in
theorem spec_l12Orders.calls (k:Nat):∀ (A0:Option Addr) (c0:Nat) (l0:List Int) (A1:Option Addr) (c1:Nat) (l1:List Bool) (P2_:Nat → Prop) (A2:Option Addr) (c2:Nat) (l2:List Int) (r:List (List Int)) (w:World) (hr0:Kd.C (Kd.int .i64) w A0 l0.length l0) (hc0:l0.length ≤ c0) (hr1:Kd.C Kd.bool w A1 l1.length l1) (hc1:l1.length ≤ c1) (hs2:Kd.V (Kd.int .i64) 3 w w.heap.size (fun k_=>P2_ k_) (.slice A2 l2.length c2) l2) (h:spec_l12Orders.f k l0 l1 l2 = some r),
  Calls Try.prog 63 #[.slice A0 l0.length c0,.slice A1 l1.length c1,.slice A2 l2.length c2] w fun e w' => ∃ v0_:Value,e = .returned (v0_) ∧ Kd.N (Kd.slice 3 (Kd.int .i64)) 22 w' w.heap.size (fun k_=>(P2_ k_ ∨ w.heap.size ≤ k_)) v0_ r ∧ Below w.heap.size w w':=by
 induction k using Nat.strongRecOn with
 | _ k ih =>
 intro A0 c0 l0 A1 c1 l1 P2_ A2 c2 l2 r w hr0 hc0 hr1 hc1 hs2 h;cases k with
 | zero=>exact absurd h (by simp [spec_l12Orders.f])
 | succ k =>
 simp only [spec_l12Orders.f] at h
 have HR0:=zM hr0;have HC0:=zM hc0;clear hr0 hc0;have HR1:=zM hr1;have HC1:=zM hc1;clear hr1 hc1;have HO2:=zM (show Kd.V (Kd.int .i64) 3 w w.heap.size (fun k_=>(P2_ k_ ∨ w.heap.size ≤ k_)) (.slice A2 l2.length c2) l2 from Kd.V_mono hs2 (fun k_ hk => .inl hk))
 have HB:=zM (Below.refl w.heap.size w);have H:(if (l2.length:Int) = (l0.length:Int) then (some (([l2]:List (List Int)))) else (spec_l12Orders.l0 k l0 l1 l2 (([]:List (List Int))) 0)) = some r:=h
 clear h;by_cases c4:(l2.length:Int) = (l0.length:Int)
 ·rw [if_pos c4] at H
  have c4b0:((l2.length:Int) == (l0.length:Int)) = true:=beq_iff_eq.mpr c4
  have c4b1:((l2.length:Int) != (l0.length:Int)) = false:=bne_eq_false_iff_eq.mpr c4
  have c4b2:(l2.length == l0.length) = true:=by first|simpa using c4|(simp at c4 ⊢;omega)
  clear c4;obtain ⟨y467,hy467⟩ : ∃ y_:List (List Int),y_ = (([l2]:List (List Int))):=⟨_,rfl⟩
  replace H:(some y467) = some r:=by first|(rw [hy467];with_reducible exact H)|(have H2_:=(Option.bind_some _ _).symm.trans H;rw [hy467];with_reducible exact H2_)|(have H2_:=(Option.bind_some _ _).symm.trans H;with_reducible exact H2_)|with_reducible exact H|(rw [hy467];exact H)|exact H
  have Ny467:=zM hy467;clear hy467;obtain rfl:=Option.some.inj H;go_enter Try.func63,Try.ntmps63
  go_wp2_with (first|((with_reducible refine gate_dst (N:=16) rfl ?_);refine Kd.N_lit (Kd.slice 3 (Kd.int .i64)) _ 22 ?hg (N':=16) ?hd (xs:=([l2]:List (List Int))) (inner:=[.slice A2 l2.length c2]) (ok:=(fun k_=>(P2_ k_ ∨ w.heap.size ≤ k_))) (okp:=(fun k_=>(P2_ k_ ∨ w.heap.size ≤ k_))) ?hr ?hp (fun _ hk=>hk) ((show ∀ k_,w.heap.size ≤ k_ → (fun k_=>(P2_ k_ ∨ w.heap.size ≤ k_)) k_ from fun k_ hk=>(.inr (Nat.le_trans (zR (by repeat (first|(with_reducible first|exact HB.out|apply zD|apply zE|apply zF)|exact HB.out))) hk))) _ (Nat.le_refl _)) (Below.refl _ _) (Nat.le_refl _) (by simp) ?_;(case hd=>rfl);(case hg=>rfl);(case hr=>first|(go_simp;done)|(go_simp;rfl));(case hp=>exact (Reps.one (show Kd.FK (Kd.slice 3 (Kd.int .i64)) _ _ l2 [.slice A2 l2.length c2] from (Kd.FK_slice_mk (Kd.V_reads' (Kd.V_mono (ok':=(fun k_=>(P2_ k_ ∨ w.heap.size ≤ k_))) (HO2.out) (fun k_ hk=>hk))).2.1 (Kd.V_F (Kd.V_mono (ok':=(fun k_=>(P2_ k_ ∨ w.heap.size ≤ k_))) (HO2.out) (fun k_ hk=>hk))))) (Reps.none _ _)));intro v468 w5 ho6 hb hg_ hnew_;clear hg_ hnew_;(first|rw [← Ny467.out] at ho6|(simp only [Int.reduceToNat] at ho6;rw [← Ny467.out] at ho6));have n0_:=zM (Kd.V_elder' (by (with_reducible repeat (first|apply Kd.V_alloc|apply Kd.V_drewN|apply Kd.V_drew));exact HO2.out) (Kd.N_base ho6) hb);have n1_:=zM (Kd.N_lower ho6 (zR (by repeat (first|(with_reducible first|exact HB.out|apply zD|apply zE|apply zF)|exact HB.out))));have n2_:=zM (zQ (by repeat (first|(with_reducible first|exact HB.out|apply zD|apply zE|apply zF)|exact HB.out)) hb);clear HO2;clear HB;have HO2:=n0_;have HO469:=n1_;have HB:=n2_;clear n0_ n1_ n2_;clear hb ho6))
  go_ret
  exact ⟨_,by first|rfl|(simp [errW_none,errW_some] <;> rfl)|(simp [*,errW_none,errW_some] <;> rfl),by (with_reducible repeat (first|apply Kd.N_alloc|apply Kd.N_drewN|apply Kd.N_drew));exact HO469.out,by repeat (first|(with_reducible first|exact HB.out|apply zD|apply zE|apply zF)|exact HB.out)⟩
 ·rw [if_neg c4] at H
  have c4b0:((l2.length:Int) == (l0.length:Int)) = false:=beq_eq_false_iff_ne.mpr c4
  have c4b1:((l2.length:Int) != (l0.length:Int)) = true:=bne_iff_ne.mpr c4
  have c4b2:(l2.length == l0.length) = false:=by first|simpa using c4|(simp at c4 ⊢;omega)
  obtain ⟨y470,hy470⟩ : ∃ y_:List (List Int),y_ = (([]:List (List Int))):=⟨_,rfl⟩
  replace H:(spec_l12Orders.l0 k l0 l1 l2 y470 0) = some r:=by first|(rw [hy470];with_reducible exact H)|(have H2_:=(Option.bind_some _ _).symm.trans H;rw [hy470];with_reducible exact H2_)|(have H2_:=(Option.bind_some _ _).symm.trans H;with_reducible exact H2_)|with_reducible exact H|(rw [hy470];exact H)|exact H
  have Ny470:=zM hy470;clear hy470;have H':=zM H;clear H;go_enter Try.func63,Try.ntmps63
  go_wp2_with (first|((with_reducible refine gate_dst (N:=17) rfl ?_);refine Kd.N_lit (Kd.slice 3 (Kd.int .i64)) _ 22 ?hg (N':=17) ?hd (xs:=([]:List (List Int))) (inner:=[]) (ok:=(fun k_=>(P2_ k_ ∨ w.heap.size ≤ k_))) (okp:=(fun k_=>(P2_ k_ ∨ w.heap.size ≤ k_))) ?hr ?hp (fun _ hk=>hk) ((show ∀ k_,w.heap.size ≤ k_ → (fun k_=>(P2_ k_ ∨ w.heap.size ≤ k_)) k_ from fun k_ hk=>(.inr (Nat.le_trans (zR (by repeat (first|(with_reducible first|exact HB.out|apply zD|apply zE|apply zF)|exact HB.out))) hk))) _ (Nat.le_refl _)) (Below.refl _ _) (Nat.le_refl _) (by simp) ?_;(case hd=>rfl);(case hg=>rfl);(case hr=>first|(go_simp;done)|(go_simp;rfl));(case hp=>exact (Reps.none _ _));intro v471 w7 ho8 hb hg_ hnew_;clear hg_ hnew_;(first|rw [← Ny470.out] at ho8|(simp only [Int.reduceToNat] at ho8;rw [← Ny470.out] at ho8));have n0_:=zM (Kd.V_elder' (by (with_reducible repeat (first|apply Kd.V_alloc|apply Kd.V_drewN|apply Kd.V_drew));exact HO2.out) (Kd.N_base ho8) hb);have n1_:=zM (Kd.N_lower ho8 (zR (by repeat (first|(with_reducible first|exact HB.out|apply zD|apply zE|apply zF)|exact HB.out))));have n2_:=zM (zQ (by repeat (first|(with_reducible first|exact HB.out|apply zD|apply zE|apply zF)|exact HB.out)) hb);clear HO2;clear HB;have HO2:=n0_;have HO472:=n1_;have HB:=n2_;clear n0_ n1_ n2_;clear hb ho8))
  go_loopg [7,8] k (fun kq v7 v8 w' => ∃ (x7_1:List (List Int)) (x8_1:Int),v8 = .int .i64 x8_1 ∧ Aside0 (spec_l12Orders.l0 kq l0 l1 l2 x7_1 x8_1 = some r) ∧ Aside0 (kq ≤ k) ∧ Aside0 (Kd.V (Kd.int .i64) 3 w' w.heap.size (fun k_=>(P2_ k_ ∨ w.heap.size ≤ k_) ∧ some k_ ≠ (v7:Value).ownBlock) (.slice A2 l2.length c2) l2) ∧ Aside0 (Kd.N (Kd.slice 3 (Kd.int .i64)) 22 w' w.heap.size (fun k_=>(P2_ k_ ∨ w.heap.size ≤ k_)) v7 x7_1) ∧ Aside0 (Below w.heap.size w w'))
  case atStart=>exact ⟨(y470),(0),(by first|rfl|(simp;done)|(simp [*];done)),H',⟨Nat.le_refl _⟩,⟨by (with_reducible repeat (first|apply Kd.V_alloc|apply Kd.V_drewN|apply Kd.V_drew));exact HO2.out⟩,⟨by (with_reducible repeat (first|apply Kd.N_alloc|apply Kd.N_drewN|apply Kd.N_drew));exact HO472.out⟩,⟨by repeat (first|(with_reducible first|exact HB.out|apply zD|apply zE|apply zF)|exact HB.out)⟩⟩
  case round =>
   clear H';(try clear c1);(try clear c2);(try clear p2);(try clear c4);(try clear c4b0);(try clear c4b1);(try clear c4b2);(try clear c6);obtain ⟨x7_1,x8_1,rfl,HA,HK1,HO_2,HO_7,HB⟩:=hrel;cases gk with
   | zero=>exact absurd HA.out (by simp [spec_l12Orders.l0])
   | succ k1 =>
    have H:=HA.out;clear HA;simp only [spec_l12Orders.l0] at H
    by_cases c9:x8_1 < (l0.length:Int)
    ·rw [if_pos c9] at H
     have c9b0:decide (x8_1 < (l0.length:Int)) = true:=decide_eq_true c9
     clear c9;by_cases c10:0 ≤ x8_1
     ·rw [if_pos c10] at H
      have c10b0:decide (0 ≤ x8_1) = true:=decide_eq_true c10
      clear c10;by_cases c11:x8_1 < (l1.length:Int)
      ·rw [if_pos c11] at H
       have c11b0:decide (x8_1 < (l1.length:Int)) = true:=decide_eq_true c11
       clear c11;obtain ⟨bq12,hbq12⟩ : ∃ b_:Bool,b_ = (rdOf false l1 x8_1):=⟨_,rfl⟩
       replace H:(if bq12 = true then (spec_l12Orders.l0 k1 l0 l1 l2 x7_1 (wrap64 (x8_1 + 1))) else ((some (([]:List Bool):List Bool)).bind fun y474=>(if y474.length + l1.length < 140737488355328 then ((some (y474 ++ l1:List Bool)).bind fun y477=>(if x8_1 < (y477.length:Int) then ((spec_l1Own.f l2).bind fun t481=>((some (([rd l0 x8_1]:List Int):List Int)).bind fun y485=>(if t481.length + y485.length < 17592186044416 then ((spec_l12Orders.f k1 l0 (y477.set (x8_1:Int).toNat true) (t481 ++ y485)).bind fun t491=>(if x7_1.length + t491.length < 5864062014805 then (spec_l12Orders.l0 k1 l0 l1 l2 (x7_1 ++ t491) (wrap64 (x8_1 + 1))) else (none))) else (none)))) else (none))) else (none)))) = some r:=by rw [← hbq12] at H;exact H
       have Nbq12:=zM hbq12;clear hbq12;by_cases c13:bq12 = true
       ·subst c13
        have H1:(spec_l12Orders.l0 k1 l0 l1 l2 x7_1 (wrap64 (x8_1 + 1))) = some r:=by rw [if_pos rfl] at H;exact H
        clear H;have H:=H1;clear H1;have H':=zM H;clear H;have p473:0 ≤ (x8_1:Int):=of_decide_eq_true (by first|(with_reducible assumption)|assumption)
        have q473:x8_1 < (l1.length:Int):=of_decide_eq_true (by first|(with_reducible assumption)|assumption)
        obtain ⟨ad473,e473,hx473_0⟩:=Kd.at_bool HR1.out x8_1 p473 q473;(try rw [← Nbq12.out] at hx473_0)
        cases e473
        replace hx473_0:=zS HB.out hx473_0;replace p473:=eq_true p473;replace q473:=eq_true q473;go_wp2
        go_roundg k1
        case measure=>have:=HK1.out;omega
        case rel=>exact ⟨(x7_1),(wrap64 (x8_1 + 1)),(by first|rfl|(simp;done)|(simp [*];done)),H',⟨by have:=HK1.out;omega⟩,⟨by (with_reducible repeat (first|apply Kd.V_alloc|apply Kd.V_drewN|apply Kd.V_drew));exact HO_2.out⟩,⟨by (with_reducible repeat (first|apply Kd.N_alloc|apply Kd.N_drewN|apply Kd.N_drew));exact HO_7.out⟩,⟨by repeat (first|(with_reducible first|exact HB.out|apply zD|apply zE|apply zF)|exact HB.out)⟩⟩
       ·replace c13:=Bool.eq_false_iff.mpr c13
        subst c13;have H1:((some (([]:List Bool):List Bool)).bind fun y474=>(if y474.length + l1.length < 140737488355328 then ((some (y474 ++ l1:List Bool)).bind fun y477=>(if x8_1 < (y477.length:Int) then ((spec_l1Own.f l2).bind fun t481=>((some (([rd l0 x8_1]:List Int):List Int)).bind fun y485=>(if t481.length + y485.length < 17592186044416 then ((spec_l12Orders.f k1 l0 (y477.set (x8_1:Int).toNat true) (t481 ++ y485)).bind fun t491=>(if x7_1.length + t491.length < 5864062014805 then (spec_l12Orders.l0 k1 l0 l1 l2 (x7_1 ++ t491) (wrap64 (x8_1 + 1))) else (none))) else (none)))) else (none))) else (none))) = some r:=by rw [if_neg (show ¬ (false = true) by decide)] at H;exact H
        clear H;have H:=H1;clear H1;obtain ⟨y474,hy474⟩ : ∃ y_:List Bool,y_ = (([]:List Bool)):=⟨_,rfl⟩
        replace H:(if y474.length + l1.length < 140737488355328 then ((some (y474 ++ l1:List Bool)).bind fun y477=>(if x8_1 < (y477.length:Int) then ((spec_l1Own.f l2).bind fun t481=>((some (([rd l0 x8_1]:List Int):List Int)).bind fun y485=>(if t481.length + y485.length < 17592186044416 then ((spec_l12Orders.f k1 l0 (y477.set (x8_1:Int).toNat true) (t481 ++ y485)).bind fun t491=>(if x7_1.length + t491.length < 5864062014805 then (spec_l12Orders.l0 k1 l0 l1 l2 (x7_1 ++ t491) (wrap64 (x8_1 + 1))) else (none))) else (none)))) else (none))) else (none)) = some r:=by first|(rw [hy474];with_reducible exact H)|(have H2_:=(Option.bind_some _ _).symm.trans H;rw [hy474];with_reducible exact H2_)|(have H2_:=(Option.bind_some _ _).symm.trans H;with_reducible exact H2_)|with_reducible exact H|(rw [hy474];exact H)|exact H
        have Ny474:=zM hy474;clear hy474;by_cases c14:y474.length + l1.length < 140737488355328
        ·rw [if_pos c14] at H
         have LMc14:=zM c14;clear c14;obtain ⟨y477,hy477⟩ : ∃ y_:List Bool,y_ = (y474 ++ l1):=⟨_,rfl⟩
         replace H:(if x8_1 < (y477.length:Int) then ((spec_l1Own.f l2).bind fun t481=>((some (([rd l0 x8_1]:List Int):List Int)).bind fun y485=>(if t481.length + y485.length < 17592186044416 then ((spec_l12Orders.f k1 l0 (y477.set (x8_1:Int).toNat true) (t481 ++ y485)).bind fun t491=>(if x7_1.length + t491.length < 5864062014805 then (spec_l12Orders.l0 k1 l0 l1 l2 (x7_1 ++ t491) (wrap64 (x8_1 + 1))) else (none))) else (none)))) else (none)) = some r:=by first|(rw [hy477];with_reducible exact H)|(have H2_:=(Option.bind_some _ _).symm.trans H;rw [hy477];with_reducible exact H2_)|(have H2_:=(Option.bind_some _ _).symm.trans H;with_reducible exact H2_)|with_reducible exact H|(rw [hy477];exact H)|exact H
         have Ny477:=zM hy477;clear hy477;by_cases c15:x8_1 < (y477.length:Int)
         ·rw [if_pos c15] at H
          have c15b0:decide (x8_1 < (y477.length:Int)) = true:=decide_eq_true c15
          clear c15;obtain ⟨y480,hy480⟩ : ∃ y_:List Bool,y_ = (y477.set (x8_1:Int).toNat true):=⟨_,rfl⟩
          replace H:((spec_l1Own.f l2).bind fun t481=>((some (([rd l0 x8_1]:List Int):List Int)).bind fun y485=>(if t481.length + y485.length < 17592186044416 then ((spec_l12Orders.f k1 l0 y480 (t481 ++ y485)).bind fun t491=>(if x7_1.length + t491.length < 5864062014805 then (spec_l12Orders.l0 k1 l0 l1 l2 (x7_1 ++ t491) (wrap64 (x8_1 + 1))) else (none))) else (none)))) = some r:=by first|(rw [hy480];with_reducible exact H)|(have H2_:=(Option.bind_some _ _).symm.trans H;rw [hy480];with_reducible exact H2_)|(have H2_:=(Option.bind_some _ _).symm.trans H;with_reducible exact H2_)|with_reducible exact H|(rw [hy480];exact H)|exact H
          have Ny480:=zM hy480;clear hy480;replace H:=Option.bind_eq_some_iff.mp H;obtain ⟨t481,A170,H⟩:=H;replace H:((some (([rd l0 x8_1]:List Int):List Int)).bind fun y485=>(if t481.length + y485.length < 17592186044416 then ((spec_l12Orders.f k1 l0 y480 (t481 ++ y485)).bind fun t491=>(if x7_1.length + t491.length < 5864062014805 then (spec_l12Orders.l0 k1 l0 l1 l2 (x7_1 ++ t491) (wrap64 (x8_1 + 1))) else (none))) else (none))) = some r:=H
          have A17:=zM A170;clear A170;obtain ⟨y485,hy485⟩ : ∃ y_:List Int,y_ = (([rd l0 x8_1]:List Int)):=⟨_,rfl⟩
          replace H:(if t481.length + y485.length < 17592186044416 then ((spec_l12Orders.f k1 l0 y480 (t481 ++ y485)).bind fun t491=>(if x7_1.length + t491.length < 5864062014805 then (spec_l12Orders.l0 k1 l0 l1 l2 (x7_1 ++ t491) (wrap64 (x8_1 + 1))) else (none))) else (none)) = some r:=by first|(rw [hy485];with_reducible exact H)|(have H2_:=(Option.bind_some _ _).symm.trans H;rw [hy485];with_reducible exact H2_)|(have H2_:=(Option.bind_some _ _).symm.trans H;with_reducible exact H2_)|with_reducible exact H|(rw [hy485];exact H)|exact H
          have Ny485:=zM hy485;clear hy485;by_cases c18:t481.length + y485.length < 17592186044416
          ·rw [if_pos c18] at H
           have LMc18:=zM c18;clear c18;obtain ⟨y488,hy488⟩ : ∃ y_:List Int,y_ = (t481 ++ y485):=⟨_,rfl⟩
           replace H:((spec_l12Orders.f k1 l0 y480 y488).bind fun t491=>(if x7_1.length + t491.length < 5864062014805 then (spec_l12Orders.l0 k1 l0 l1 l2 (x7_1 ++ t491) (wrap64 (x8_1 + 1))) else (none))) = some r:=by first|(rw [hy488];with_reducible exact H)|(have H2_:=(Option.bind_some _ _).symm.trans H;rw [hy488];with_reducible exact H2_)|(have H2_:=(Option.bind_some _ _).symm.trans H;with_reducible exact H2_)|with_reducible exact H|(rw [hy488];exact H)|exact H
           have Ny488:=zM hy488;clear hy488;replace H:=Option.bind_eq_some_iff.mp H;obtain ⟨t491,A190,H⟩:=H;replace H:(if x7_1.length + t491.length < 5864062014805 then (spec_l12Orders.l0 k1 l0 l1 l2 (x7_1 ++ t491) (wrap64 (x8_1 + 1))) else (none)) = some r:=H
           have A19:=zM A190;clear A190;by_cases c20:x7_1.length + t491.length < 5864062014805
           ·rw [if_pos c20] at H
            have LMc20:=zM c20;clear c20;obtain ⟨y494,hy494⟩ : ∃ y_:List (List Int),y_ = (x7_1 ++ t491):=⟨_,rfl⟩
            replace H:(spec_l12Orders.l0 k1 l0 l1 l2 y494 (wrap64 (x8_1 + 1))) = some r:=by first|(rw [hy494];with_reducible exact H)|(have H2_:=(Option.bind_some _ _).symm.trans H;rw [hy494];with_reducible exact H2_)|(have H2_:=(Option.bind_some _ _).symm.trans H;with_reducible exact H2_)|with_reducible exact H|(rw [hy494];exact H)|exact H
            have Ny494:=zM hy494;clear hy494;have H':=zM H;clear H;have p473:0 ≤ (x8_1:Int):=of_decide_eq_true (by first|(with_reducible assumption)|assumption)
            have q473:x8_1 < (l1.length:Int):=of_decide_eq_true (by first|(with_reducible assumption)|assumption)
            obtain ⟨ad473,e473,hx473_0⟩:=Kd.at_bool HR1.out x8_1 p473 q473;(try rw [← Nbq12.out] at hx473_0)
            cases e473
            replace hx473_0:=zS HB.out hx473_0;replace p473:=eq_true p473;replace q473:=eq_true q473;try go_wp2_with (first|((with_reducible refine gate_dst (N:=28) rfl ?_);refine Kd.R_lit Kd.bool _ 4 ?hg (N:=28) ?hd (xs:=([]:List Bool)) (inner:=[]) (ok:=fun _=>True) (okp:=fun _=>True) ?hr ?hp (fun _ hk=>hk) trivial (Below.refl _ _) (Nat.le_refl _) (by simp) ?_;(case hd=>rfl);(case hg=>rfl);(case hr=>first|(go_simp;done)|(go_simp;rfl));(case hp=>exact (Reps.none _ _));intro v475 w21 ho22 hb hg_ hnew_;clear hg_ hnew_;(first|rw [← Ny474.out] at ho22|(simp only [Int.reduceToNat] at ho22;rw [← Ny474.out] at ho22));have n0_:=zM (Kd.V_elder' (by (with_reducible repeat (first|apply Kd.V_alloc|apply Kd.V_drewN|apply Kd.V_drew));exact HO_2.out) (Kd.R_base ho22) hb);have n1_:=zM (Kd.N_elder' (by (with_reducible repeat (first|apply Kd.N_alloc|apply Kd.N_drewN|apply Kd.N_drew));exact HO_7.out) (Kd.R_base ho22) hb);have n2_:=zM (Kd.R_lower (Kd.R_newM (M:=fun k_=>(w.heap.size ≤ k_)) ho22 (zR (by repeat (first|(with_reducible first|exact HB.out|apply zD|apply zE|apply zF)|exact HB.out))) (fun k_ h_=>h_)) (zR (by repeat (first|(with_reducible first|exact HB.out|apply zD|apply zE|apply zF)|exact HB.out))));have n3_:=zM (zQ (by repeat (first|(with_reducible first|exact HB.out|apply zD|apply zE|apply zF)|exact HB.out)) hb);clear HO_2;clear HO_7;clear HB;have HO_2:=n0_;have HO_7:=n1_;have HO476:=n2_;have HB:=n3_;clear n0_ n1_ n2_ n3_;clear hb ho22)|((with_reducible refine gate_builtin (b := .append) (xs := #[.tmp 28,.tmp 29]) rfl ?_);at_builtin;refine Kd.R_append_rows Kd.bool (w0:=w) w.heap.size rfl (.tmp 28) (.tmp 29) 71 4 (.bool false) 1 rfl Try.underlying71 info4 rfl (by decide) (by omega) v475 y474 l1 _ _ _ (fun k_=>(w.heap.size ≤ k_)) (fun _=>False) rfl rfl ?aO ?aR (fun _ _ h=>h) (fun _ h=>h.elim) ?aF ?aB ?aS ?aL ?_;(case aR=>repeat (first|exact (zO HR1.out HB.out)|(with_reducible first|refine zG ?_ _|refine zH ?_ _|refine zI ?_)));(case aB=>exact (by repeat (first|(with_reducible first|exact HB.out|apply zD|apply zE|apply zF)|exact HB.out)));(case aF=>exact (fun k_ hk=>(Nat.le_trans (zR (by repeat (first|(with_reducible first|exact HB.out|apply zD|apply zE|apply zF)|exact HB.out))) hk)));(case aO=>exact (by (with_reducible repeat (first|apply zA|apply zB|apply zC));exact Kd.R_mono HO476.out (fun _ hk=>hk.1)));(case aS=>exact (zR (by repeat (first|(with_reducible first|exact HB.out|apply zD|apply zE|apply zF)|exact HB.out))));(case aL=>have:=LMc14.out;omega);intro v478 w23 ho hb hg hat;rw [← Ny477.out] at ho;have n0_:=zM (Kd.V_afterv (ok:=(fun k_=>(P2_ k_ ∨ w.heap.size ≤ k_) ∧ some k_ ≠ (u7:Value).ownBlock)) (by (with_reducible repeat (first|apply Kd.V_alloc|apply Kd.V_drewN|apply Kd.V_drew));exact HO_2.out) hg hat);have n1_:=zM (Kd.N_afterv (ok:=(fun k_=>(P2_ k_ ∨ w.heap.size ≤ k_))) (by (with_reducible repeat (first|apply Kd.N_alloc|apply Kd.N_drewN|apply Kd.N_drew));exact HO_7.out) hg hat);have n2_:=zM (hb);have n3_:=zM (ho);clear HO_2;clear HO_7;clear HB;clear HO476;have HO_2:=n0_;have HO_7:=n1_;have HB:=n2_;have HO479:=n3_;clear n0_ n1_ n2_ n3_;clear ho hb hg hat;have p16:0 ≤ (x8_1:Int):=of_decide_eq_true (by first|(with_reducible assumption)|assumption);have q16:(x8_1:Int) < ((y477.length:Int):Int):=of_decide_eq_true (by first|(with_reducible assumption)|assumption);obtain ⟨go16,co16,eo16,gb16,gl16,cl16,HG16⟩:=Kd.R_form HO479.out (by omega);(first|cases eo16|(injection eo16 with ea_ en_ ec_;(first|subst ea_|(injection ea_ with ea_;subst ea_));subst ec_;clear en_));have GB16:=zM gb16;have GG16:=zM HG16;clear gb16 gl16 HG16;obtain ⟨hx16_0,hf16_0⟩:=Kd.R_celln false HO479.out (x8_1:Int) p16 q16;replace p16:=eq_true p16;replace q16:=eq_true q16;obtain ⟨hy24_,hz24_⟩:=Kd.R_celln false HO479.out (x8_1:Int) (of_decide_eq_true (by first|(with_reducible assumption)|assumption)) (of_decide_eq_true (by first|(with_reducible assumption)|assumption));have HP24:=Kd.R_putg HO479.out (x8_1:Int) true)|((with_reducible refine gate_store (t:=4) (p:=33) rfl ?_);refine store_event (t:=4) (p:=33) (v:=?vo_w25) (w1:=(w23.setCell ⟨go16,(x8_1:Int).toNat,none⟩ (.bool true))) ?hg ?ho ?hn ?hr ?_;(case ho=>rfl);(case hg=>rfl);(case hn=>rfl);(case hr=>first|(go_simp;done)|(go_simp;rfl));intro w25 hw;have hg:w23.grownBy w25 (some go16):=(by rw [hw];exact HP24.2);have hp_:Kd.R Kd.bool 4 w25 w.heap.size (fun k_=>(w.heap.size ≤ k_)) (.slice (some ⟨go16,0,none⟩) y477.length co16) y480:=(by rw [hw,Ny480.out];exact HP24.1);clear HP24;have n0_:=zM (Kd.V_afterv (v:=(.slice (some ⟨go16,0,none⟩) y477.length co16)) (v1:=(.slice (some ⟨go16,0,none⟩) y477.length co16)) (ok:=(fun k_=>(P2_ k_ ∨ w.heap.size ≤ k_) ∧ some k_ ≠ (u7:Value).ownBlock)) (by (with_reducible repeat (first|apply Kd.V_alloc|apply Kd.V_drewN|apply Kd.V_drew));exact HO_2.out) hg (.inl rfl));have n1_:=zM (Kd.N_afterv (v:=(.slice (some ⟨go16,0,none⟩) y477.length co16)) (v1:=(.slice (some ⟨go16,0,none⟩) y477.length co16)) (ok:=(fun k_=>(P2_ k_ ∨ w.heap.size ≤ k_))) (by (with_reducible repeat (first|apply Kd.N_alloc|apply Kd.N_drewN|apply Kd.N_drew));exact HO_7.out) hg (.inl rfl));have n2_:=zM (hp_);have n3_:=zM ((by rw [hw];exact below_set (HB.out) GB16.out:Below w.heap.size w w25));clear HO_2;clear HO_7;clear HO479;clear HB;have HO_2:=n0_;have HO_7:=n1_;have HO479:=n2_;have HB:=n3_;clear n0_ n1_ n2_ n3_;clear hg hw hp_;obtain ⟨Ao26,co26,eo26⟩:=Kd.N_slice HO_7.out;subst eo26))
            have n0_:=zM (Kd.V_drew HO_2.out);have n1_:=zM (Kd.N_drew HO_7.out);have n2_:=zM (zC HO479.out);have n3_:=zM (zF HB.out);clear HO_2;clear HO_7;clear HO479;clear HB;have HO_2:=n0_;have HO_7:=n1_;have HO479:=n2_;have HB:=n3_;clear n0_ n1_ n2_ n3_;have p484:0 ≤ (x8_1:Int):=of_decide_eq_true (by first|(with_reducible assumption)|assumption)
            have q484:x8_1 < (l0.length:Int):=of_decide_eq_true (by first|(with_reducible assumption)|assumption)
            obtain ⟨ad484,e484,hx484_0⟩:=Kd.at_int HR0.out x8_1 p484 q484;have hw484_0:=hx484_0;cases e484
            replace hx484_0:=zS HB.out hx484_0;replace p484:=eq_true p484;replace q484:=eq_true q484;refine start_ (n:=14) (S:=fun w'=>w'.cell? (ad484.add (x8_1).toNat) = some (.int .i64 (rd l0 x8_1))) (ds:=[]) #[false,false,false,false,false,false,false,false,false,false,false,false,false,false] (by kernel_rfl) rfl rfl ((zS HB.out hw484_0)) (fun hHeld=>?_);refine with_tabW spec_l12Orders.tab10 spec_l12Orders.bits10 (fun HT_ HW_=>?_)
            generalize w25.drew = w27 at HO_2 HO_7 HO479 HB hx484_0 hHeld ⊢
            refine pure_ (i:=0) (N:=some 34) (v:=?_) (a':=?_) #[true,false,false,false,false,false,false,false,false,false,false,false,false,false] rfl rfl (any_of HT_.out (by kernel_rfl)) (fun _ _ _ h=>h) (Or.inl ⟨by rfl,?_⟩) ?_ ?_
            rotate_left
            ·intro w'
             go_simp
             with_reducible rfl
            rotate_left
            ·simp only [Act.put,zT,zU,zV,i64_w,i32_w]
             rfl
            refine pure_ (i:=1) (N:=some 35) (v:=?_) (a':=?_) #[true,true,false,false,false,false,false,false,false,false,false,false,false,false] rfl rfl (any_of HT_.out (by kernel_rfl)) (fun _ _ _ h=>h) (Or.inl ⟨by rfl,?_⟩) ?_ ?_
            rotate_left
            ·intro w'
             go_simp
             with_reducible rfl
            rotate_left
            ·simp only [Act.put,zT,zU,zV,i64_w,i32_w]
             rfl
            refine pure_ (i:=2) (N:=some 36) (v:=?_) (a':=?_) #[true,true,true,false,false,false,false,false,false,false,false,false,false,false] rfl rfl (any_of HT_.out (by kernel_rfl)) (fun _ _ _ h=>h) (Or.inl ⟨by rfl,?_⟩) ?_ ?_
            rotate_left
            ·intro w'
             go_simp
             with_reducible rfl
            rotate_left
            ·simp only [Act.put,zT,zU,zV,i64_w,i32_w]
             rfl
            refine pure_ (i:=3) (N:=some 37) (v:=?_) (a':=?_) #[true,true,true,true,false,false,false,false,false,false,false,false,false,false] rfl rfl (any_of HT_.out (by kernel_rfl)) (fun _ _ _ h=>h) (Or.inl ⟨by rfl,?_⟩) ?_ ?_
            rotate_left
            ·intro w'
             go_simp
             with_reducible rfl
            rotate_left
            ·simp only [Act.put,zT,zU,zV,i64_w,i32_w]
             rfl
            refine pure_ (i:=5) (N:=some 39) (v:=?_) (a':=?_) #[true,true,true,true,false,true,false,false,false,false,false,false,false,false] rfl rfl (any_of HT_.out (by kernel_rfl)) (fun _ _ _ h=>h) (Or.inl ⟨by rfl,?_⟩) ?_ ?_
            rotate_left
            ·intro w'
             go_simp
             with_reducible rfl
            rotate_left
            ·simp only [Act.put,zT,zU,zV,i64_w,i32_w]
             rfl
            refine pure_ (i:=6) (N:=some 40) (v:=?_) (a':=?_) #[true,true,true,true,false,true,true,false,false,false,false,false,false,false] rfl rfl (any_of HT_.out (by kernel_rfl)) (fun _ _ _ h=>h) (Or.inl ⟨by rfl,?_⟩) ?_ ?_
            rotate_left
            ·intro w'
             go_simp
             with_reducible rfl
            rotate_left
            ·simp only [Act.put,zT,zU,zV,i64_w,i32_w]
             rfl
            refine pure_ (i:=7) (N:=some 41) (v:=?_) (a':=?_) #[true,true,true,true,false,true,true,true,false,false,false,false,false,false] rfl rfl (any_of HT_.out (by kernel_rfl)) (fun _ _ _ h=>h) (Or.inl ⟨by rfl,?_⟩) ?_ ?_
            rotate_left
            ·intro w'
             go_simp
             with_reducible rfl
            rotate_left
            ·simp only [Act.put,zT,zU,zV,i64_w,i32_w]
             rfl
            refine take_ (i:=8) (N:=some 42) (v:=?_) (a':=?_) #[true,true,true,true,false,true,true,true,true,false,false,false,false,false] rfl rfl (take_ofW HT_.out HW_.out (by kernel_rfl)) (fun _ _ _ h=>h) (Or.inl ⟨by rfl,?_⟩) hHeld ?_ ?_
            rotate_left
            ·intro w' s0
             go_simp
             with_reducible rfl
            rotate_left
            ·simp only [Act.put,zT,zU,zV,i64_w,i32_w]
             rfl
            refine join_ (σ:=Value × Value) 4 #[true,true,true,true,true,true,true,true,true,true,false,false,false,false] (fun s_=>[(38,s_.1),(43,s_.2)]) (fun s_ w'=>(w'.cell? (ad484.add (x8_1).toNat) = some (.int .i64 (rd l0 x8_1))) ∧ (Kd.R Kd.bool 4 w' w.heap.size (fun k_=>(w.heap.size ≤ k_)) (.slice (some ⟨go16,0,none⟩) y477.length co16) y480) ∧ (Kd.R (Kd.int .i64) 3 w' w.heap.size (fun k_=>(w.heap.size ≤ k_) ∧ some k_ ≠ (s_.2:Value).ownBlock) s_.1 t481) ∧ (Kd.R (Kd.int .i64) 3 w' w.heap.size (fun k_=>(w.heap.size ≤ k_) ∧ some k_ ≠ (s_.1:Value).ownBlock) s_.2 y485) ∧ (Kd.V (Kd.int .i64) 3 w' w.heap.size (fun k_=>(P2_ k_ ∨ w.heap.size ≤ k_) ∧ some k_ ≠ (.slice (some ⟨go16,0,none⟩) y477.length co16:Value).ownBlock ∧ some k_ ≠ (s_.1:Value).ownBlock ∧ some k_ ≠ (s_.2:Value).ownBlock ∧ some k_ ≠ (.slice Ao26 x7_1.length co26:Value).ownBlock) (.slice A2 l2.length c2) l2) ∧ (Kd.N (Kd.slice 3 (Kd.int .i64)) 22 w' w.heap.size (fun k_=>(P2_ k_ ∨ w.heap.size ≤ k_) ∧ some k_ ≠ (.slice (some ⟨go16,0,none⟩) y477.length co16:Value).ownBlock ∧ some k_ ≠ (s_.1:Value).ownBlock ∧ some k_ ≠ (s_.2:Value).ownBlock) (.slice Ao26 x7_1.length co26) x7_1) ∧ (Below w.heap.size w w')) ?_ ?_
            rotate_left
            ·intro hCont
             refine two_ (i:=4) (j:=9) (Ni:=some 38) (Nj:=some 43) #[true,true,true,true,true,true,true,true,true,false,false,false,false,false] #[true,true,true,true,false,true,true,true,true,true,false,false,false,false] rfl rfl rfl rfl (two_of HT_.out (by kernel_rfl)) (by decide) (by decide) (fun K hK=>?_) (fun K hK=>?_)
             ·skip
              refine goes_ Try.func50 (by kernel_rfl) rfl #[.slice A2 l2.length c2] (by rfl) rfl rfl (by (try simp only [List.map_toArray,List.map_cons,List.map_nil]);first|done|rfl|(simp only [List.length_drop,List.length_take];rfl)) ?_
              with_reducible refine (spec_l1Own.calls _ _ l2 t481 _ ?side1 ?side2 A17.out).mono ?_
              (case side1=>repeat (first|exact (Kd.V_reads' HO_2.out).2.2|(with_reducible first|refine zG ?_ _|refine zH ?_ _|refine zI ?_)))
              (case side2=>exact (Kd.V_reads' HO_2.out).2.1)
              rintro e w28 ⟨v482,rfl,ho0,hb⟩
              refine ⟨_,rfl,?_⟩
              have n0_:=zM (Kd.V_elder' (by (with_reducible repeat (first|apply Kd.V_alloc|apply Kd.V_drewN|apply Kd.V_drew));exact HO_2.out) (Kd.R_base ho0) hb)
              have n1_:=zM (Kd.N_elder' (by (with_reducible repeat (first|apply Kd.N_alloc|apply Kd.N_drewN|apply Kd.N_drew));exact HO_7.out) (Kd.R_base ho0) hb)
              have n2_:=zM (zP (by (with_reducible repeat (first|apply zA|apply zB|apply zC));exact HO479.out) hb)
              have n3_:=zM (Kd.R_lower (Kd.R_newM (M:=fun k_=>(w.heap.size ≤ k_)) ho0 (zR (by repeat (first|(with_reducible first|exact HB.out|apply zD|apply zE|apply zF)|exact HB.out))) (fun k_ h_=>h_)) (zR (by repeat (first|(with_reducible first|exact HB.out|apply zD|apply zE|apply zF)|exact HB.out))))
              have n4_:=zM (zQ (by repeat (first|(with_reducible first|exact HB.out|apply zD|apply zE|apply zF)|exact HB.out)) hb)
              clear HO_2;clear HO_7;clear HO479;clear HB;have HO_2:=n0_;have HO_7:=n1_;have HO479:=n2_;have HO483:=n3_;have HB:=n4_;clear n0_ n1_ n2_ n3_ n4_;(try clear hb)
              (try clear hb2)
              (try clear hk)
              (try clear hi)
              (try clear ho0)
              refine hK.out _ _ ((zS HB.out hw484_0)) (fun hHeld=>?_)
              clear hK K;refine norm_ (a':=?_) ?_ ?_
              rotate_left
              ·show Act.put _ (some 38) _ = _
               simp only [Act.put,zT,zU,zV,i64_w,i32_w]
               rfl
              refine one_ (i:=9) (N:=some 43) #[true,true,true,true,true,true,true,true,true,true,false,false,false,false] rfl rfl (one_of HT_.out (by kernel_rfl)) (by decide) (fun K hK=>?_)
              refine Kd.R_lit_step (Kd.int .i64) _ 3 ?hg (N:=43) ?hd (xs:=([rd l0 x8_1]:List Int)) (inner:=[.int .i64 (rd l0 x8_1)]) (ok:=fun _=>True) (okp:=fun _=>True) ?hr ?hp (fun _ hk=>hk) trivial (Below.refl _ _) (Nat.le_refl _) (by simp) ?_;(case hd=>rfl);(case hg=>rfl);(case hr=>first|(go_simp;done)|(go_simp;rfl));(case hp=>exact (Reps.one (show Kd.M (Kd.int .i64) _ _ _ (rd l0 x8_1) [.int .i64 (rd l0 x8_1)] from rfl) (Reps.none _ _)))
              intro v486 w29 ho30 hb hg_ hnew_;clear hg_ hnew_;(first|rw [← Ny485.out] at ho30|(simp only [Int.reduceToNat] at ho30;rw [← Ny485.out] at ho30))
              have n0_:=zM (Kd.V_elder' (by (with_reducible repeat (first|apply Kd.V_alloc|apply Kd.V_drewN|apply Kd.V_drew));exact HO_2.out) (Kd.R_base ho30) hb)
              have n1_:=zM (Kd.N_elder' (by (with_reducible repeat (first|apply Kd.N_alloc|apply Kd.N_drewN|apply Kd.N_drew));exact HO_7.out) (Kd.R_base ho30) hb)
              have n2_:=zM (zP (by (with_reducible repeat (first|apply zA|apply zB|apply zC));exact HO479.out) hb)
              have n3_:=zM (Kd.R_elder' (by (with_reducible repeat (first|apply zA|apply zB|apply zC));exact HO483.out) (Kd.R_base ho30) hb)
              have n4_:=zM (Kd.R_lower (Kd.R_new' (Kd.R_newM (M:=fun k_=>(w.heap.size ≤ k_)) ho30 (zR (by repeat (first|(with_reducible first|exact HB.out|apply zD|apply zE|apply zF)|exact HB.out))) (fun k_ h_=>h_)) (Kd.R_lt (by (with_reducible repeat (first|apply zA|apply zB|apply zC));exact HO483.out))) (zR (by repeat (first|(with_reducible first|exact HB.out|apply zD|apply zE|apply zF)|exact HB.out))))
              have n5_:=zM (zQ (by repeat (first|(with_reducible first|exact HB.out|apply zD|apply zE|apply zF)|exact HB.out)) hb)
              clear HO_2;clear HO_7;clear HO479;clear HO483;clear HB;have HO_2:=n0_;have HO_7:=n1_;have HO479:=n2_;have HO483:=n3_;have HO487:=n4_;have HB:=n5_;clear n0_ n1_ n2_ n3_ n4_ n5_;clear hb ho30;refine hK.out _ _ ((zS HB.out hw484_0)) (fun hHeld=>?_)
              clear hK K;refine norm_ (a':=?_) ?_ ?_
              rotate_left
              ·show Act.put _ (some 43) _ = _
               simp only [Act.put,zT,zU,zV,i64_w,i32_w]
               rfl
              exact norm_ (by simp only [putAll,Act.put,List.setIfInBounds_toArray,List.set_cons_zero,List.set_cons_succ]) (hCont (v482,v486) _ ⟨hHeld,(by (with_reducible repeat (first|apply zA|apply zB|apply zC));exact HO479.out),(by (with_reducible repeat (first|apply zA|apply zB|apply zC));exact Kd.R_mono HO483.out (fun _ hk=>⟨hk.1.1,hk.2⟩)),(by (with_reducible repeat (first|apply zA|apply zB|apply zC));exact Kd.R_mono HO487.out (fun _ hk=>⟨hk.1.1,hk.2⟩)),(by (with_reducible repeat (first|apply Kd.V_alloc|apply Kd.V_drewN|apply Kd.V_drew));exact Kd.V_mono HO_2.out (fun _ hk=>⟨hk.1.1.1.1,⟨hk.1.1.2,⟨hk.1.2,⟨hk.2,hk.1.1.1.2⟩⟩⟩⟩)),(by (with_reducible repeat (first|apply Kd.N_alloc|apply Kd.N_drewN|apply Kd.N_drew));exact Kd.N_mono HO_7.out (fun _ hk=>⟨hk.1.1.1,⟨hk.1.1.2,⟨hk.1.2,hk.2⟩⟩⟩)),(by repeat (first|(with_reducible first|exact HB.out|apply zD|apply zE|apply zF)|exact HB.out))⟩)
             ·skip
              refine Kd.R_lit_step (Kd.int .i64) _ 3 ?hg (N:=43) ?hd (xs:=([rd l0 x8_1]:List Int)) (inner:=[.int .i64 (rd l0 x8_1)]) (ok:=fun _=>True) (okp:=fun _=>True) ?hr ?hp (fun _ hk=>hk) trivial (Below.refl _ _) (Nat.le_refl _) (by simp) ?_;(case hd=>rfl);(case hg=>rfl);(case hr=>first|(go_simp;done)|(go_simp;rfl));(case hp=>exact (Reps.one (show Kd.M (Kd.int .i64) _ _ _ (rd l0 x8_1) [.int .i64 (rd l0 x8_1)] from rfl) (Reps.none _ _)))
              intro v486 w28 ho29 hb hg_ hnew_;clear hg_ hnew_;(first|rw [← Ny485.out] at ho29|(simp only [Int.reduceToNat] at ho29;rw [← Ny485.out] at ho29))
              have n0_:=zM (Kd.V_elder' (by (with_reducible repeat (first|apply Kd.V_alloc|apply Kd.V_drewN|apply Kd.V_drew));exact HO_2.out) (Kd.R_base ho29) hb)
              have n1_:=zM (Kd.N_elder' (by (with_reducible repeat (first|apply Kd.N_alloc|apply Kd.N_drewN|apply Kd.N_drew));exact HO_7.out) (Kd.R_base ho29) hb)
              have n2_:=zM (zP (by (with_reducible repeat (first|apply zA|apply zB|apply zC));exact HO479.out) hb)
              have n3_:=zM (Kd.R_lower (Kd.R_newM (M:=fun k_=>(w.heap.size ≤ k_)) ho29 (zR (by repeat (first|(with_reducible first|exact HB.out|apply zD|apply zE|apply zF)|exact HB.out))) (fun k_ h_=>h_)) (zR (by repeat (first|(with_reducible first|exact HB.out|apply zD|apply zE|apply zF)|exact HB.out))))
              have n4_:=zM (zQ (by repeat (first|(with_reducible first|exact HB.out|apply zD|apply zE|apply zF)|exact HB.out)) hb)
              clear HO_2;clear HO_7;clear HO479;clear HB;have HO_2:=n0_;have HO_7:=n1_;have HO479:=n2_;have HO487:=n3_;have HB:=n4_;clear n0_ n1_ n2_ n3_ n4_;clear hb ho29;refine hK.out _ _ ((zS HB.out hw484_0)) (fun hHeld=>?_)
              clear hK K;refine norm_ (a':=?_) ?_ ?_
              rotate_left
              ·show Act.put _ (some 43) _ = _
               simp only [Act.put,zT,zU,zV,i64_w,i32_w]
               rfl
              refine one_ (i:=4) (N:=some 38) #[true,true,true,true,true,true,true,true,true,true,false,false,false,false] rfl rfl (one_of HT_.out (by kernel_rfl)) (by decide) (fun K hK=>?_)
              refine goes_ Try.func50 (by kernel_rfl) rfl #[.slice A2 l2.length c2] (by rfl) rfl rfl (by (try simp only [List.map_toArray,List.map_cons,List.map_nil]);first|done|rfl|(simp only [List.length_drop,List.length_take];rfl)) ?_
              with_reducible refine (spec_l1Own.calls _ _ l2 t481 _ ?side1 ?side2 A17.out).mono ?_
              (case side1=>repeat (first|exact (Kd.V_reads' HO_2.out).2.2|(with_reducible first|refine zG ?_ _|refine zH ?_ _|refine zI ?_)))
              (case side2=>exact (Kd.V_reads' HO_2.out).2.1)
              rintro e w30 ⟨v482,rfl,ho0,hb⟩
              refine ⟨_,rfl,?_⟩
              have n0_:=zM (Kd.V_elder' (by (with_reducible repeat (first|apply Kd.V_alloc|apply Kd.V_drewN|apply Kd.V_drew));exact HO_2.out) (Kd.R_base ho0) hb)
              have n1_:=zM (Kd.N_elder' (by (with_reducible repeat (first|apply Kd.N_alloc|apply Kd.N_drewN|apply Kd.N_drew));exact HO_7.out) (Kd.R_base ho0) hb)
              have n2_:=zM (zP (by (with_reducible repeat (first|apply zA|apply zB|apply zC));exact HO479.out) hb)
              have n3_:=zM (Kd.R_elder' (by (with_reducible repeat (first|apply zA|apply zB|apply zC));exact HO487.out) (Kd.R_base ho0) hb)
              have n4_:=zM (Kd.R_lower (Kd.R_new' (Kd.R_newM (M:=fun k_=>(w.heap.size ≤ k_)) ho0 (zR (by repeat (first|(with_reducible first|exact HB.out|apply zD|apply zE|apply zF)|exact HB.out))) (fun k_ h_=>h_)) (Kd.R_lt (by (with_reducible repeat (first|apply zA|apply zB|apply zC));exact HO487.out))) (zR (by repeat (first|(with_reducible first|exact HB.out|apply zD|apply zE|apply zF)|exact HB.out))))
              have n5_:=zM (zQ (by repeat (first|(with_reducible first|exact HB.out|apply zD|apply zE|apply zF)|exact HB.out)) hb)
              clear HO_2;clear HO_7;clear HO479;clear HO487;clear HB;have HO_2:=n0_;have HO_7:=n1_;have HO479:=n2_;have HO487:=n3_;have HO483:=n4_;have HB:=n5_;clear n0_ n1_ n2_ n3_ n4_ n5_;(try clear hb)
              (try clear hb2)
              (try clear hk)
              (try clear hi)
              (try clear ho0)
              refine hK.out _ _ ((zS HB.out hw484_0)) (fun hHeld=>?_)
              clear hK K;refine norm_ (a':=?_) ?_ ?_
              rotate_left
              ·show Act.put _ (some 38) _ = _
               simp only [Act.put,zT,zU,zV,i64_w,i32_w]
               rfl
              exact norm_ (by simp only [putAll,Act.put,List.setIfInBounds_toArray,List.set_cons_zero,List.set_cons_succ]) (hCont (v482,v486) _ ⟨hHeld,(by (with_reducible repeat (first|apply zA|apply zB|apply zC));exact HO479.out),(by (with_reducible repeat (first|apply zA|apply zB|apply zC));exact Kd.R_mono HO483.out (fun _ hk=>⟨hk.1.1,hk.2⟩)),(by (with_reducible repeat (first|apply zA|apply zB|apply zC));exact Kd.R_mono HO487.out (fun _ hk=>⟨hk.1.1,hk.2⟩)),(by (with_reducible repeat (first|apply Kd.V_alloc|apply Kd.V_drewN|apply Kd.V_drew));exact Kd.V_mono HO_2.out (fun _ hk=>⟨hk.1.1.1.1,⟨hk.1.1.2,⟨hk.2,⟨hk.1.2,hk.1.1.1.2⟩⟩⟩⟩)),(by (with_reducible repeat (first|apply Kd.N_alloc|apply Kd.N_drewN|apply Kd.N_drew));exact Kd.N_mono HO_7.out (fun _ hk=>⟨hk.1.1.1,⟨hk.1.1.2,⟨hk.2,hk.1.2⟩⟩⟩)),(by repeat (first|(with_reducible first|exact HB.out|apply zD|apply zE|apply zF)|exact HB.out))⟩)
            rintro ⟨v482,v486⟩ w31 ⟨hS_,h0_,h1_,h2_,h3_,h4_,h5_⟩
            have n0_:Aside0 (Kd.R Kd.bool 4 w31 w.heap.size (fun k_=>(w.heap.size ≤ k_)) (.slice (some ⟨go16,0,none⟩) y477.length co16) y480):=⟨h0_⟩
            have n1_:Aside0 (Kd.R (Kd.int .i64) 3 w31 w.heap.size (fun k_=>(w.heap.size ≤ k_) ∧ some k_ ≠ (v486:Value).ownBlock) v482 t481):=⟨h1_⟩
            have n2_:Aside0 (Kd.R (Kd.int .i64) 3 w31 w.heap.size (fun k_=>(w.heap.size ≤ k_) ∧ some k_ ≠ (v482:Value).ownBlock) v486 y485):=⟨h2_⟩
            have n3_:Aside0 (Kd.V (Kd.int .i64) 3 w31 w.heap.size (fun k_=>(P2_ k_ ∨ w.heap.size ≤ k_) ∧ some k_ ≠ (.slice (some ⟨go16,0,none⟩) y477.length co16:Value).ownBlock ∧ some k_ ≠ (v482:Value).ownBlock ∧ some k_ ≠ (v486:Value).ownBlock ∧ some k_ ≠ (.slice Ao26 x7_1.length co26:Value).ownBlock) (.slice A2 l2.length c2) l2):=⟨h3_⟩
            have n4_:Aside0 (Kd.N (Kd.slice 3 (Kd.int .i64)) 22 w31 w.heap.size (fun k_=>(P2_ k_ ∨ w.heap.size ≤ k_) ∧ some k_ ≠ (.slice (some ⟨go16,0,none⟩) y477.length co16:Value).ownBlock ∧ some k_ ≠ (v482:Value).ownBlock ∧ some k_ ≠ (v486:Value).ownBlock) (.slice Ao26 x7_1.length co26) x7_1):=⟨h4_⟩
            have n5_:Aside0 (Below w.heap.size w w31):=⟨h5_⟩
            clear HO_2;clear HO_7;clear HO479;clear HB;clear h0_ h1_ h2_ h3_ h4_ h5_;have HO479:=n0_;have HO483:=n1_;have HO487:=n2_;have HO_2:=n3_;have HO_7:=n4_;have HB:=n5_;clear n0_ n1_ n2_ n3_ n4_ n5_;have hHeld:w31.cell? (ad484.add (x8_1).toNat) = some (.int .i64 (rd l0 x8_1)):=hS_
            obtain ⟨Ao33,co33,eo33⟩:=Kd.R_slice HO487.out;(first|subst eo33|(injection eo33 with f1_ f2_ f3_;have f4_:=f1_.symm;have f5_:=f3_.symm;clear f1_ f2_ f3_;subst f4_;subst f5_))
            refine norm_ (a':=?_) ?_ ?_
            rotate_left
            ·simp only [putAll,Act.put,List.setIfInBounds_toArray,List.set_cons_zero,List.set_cons_succ]
             rfl
            refine one_ (i:=10) (N:=some 44) #[true,true,true,true,true,true,true,true,true,true,true,false,false,false] rfl rfl (one_of HT_.out (by kernel_rfl)) (by decide) (fun K hK=>?_)
            refine Kd.R_append_rows_step (Kd.int .i64) (w0:=w) w.heap.size (by rfl) (.tmp 38) (.tmp 43) 22 3 (.int .i64 0) 8 rfl Try.underlying22 info3 rfl (by decide) (by omega) v482 t481 y485 _ _ _ (fun k_=>(w.heap.size ≤ k_) ∧ some k_ ≠ (.slice Ao33 y485.length co33:Value).ownBlock) (fun _=>False) rfl rfl ?aO ?aR (fun _ _ h=>h) (fun _ h=>h.elim) ?aF ?aB ?aS ?aL ?_
            (case aR=>repeat (first|exact (zN HO487.out).2.2|(with_reducible first|refine zG ?_ _|refine zH ?_ _|refine zI ?_)))
            (case aB=>exact (by repeat (first|(with_reducible first|exact HB.out|apply zD|apply zE|apply zF)|exact HB.out)))
            (case aF=>exact (fun k_ hk=>⟨(Nat.le_trans (zR (by repeat (first|(with_reducible first|exact HB.out|apply zD|apply zE|apply zF)|exact HB.out))) hk),Kd.fresh' (Kd.R_lt (by (with_reducible repeat (first|apply zA|apply zB|apply zC));exact HO487.out)) k_ hk⟩))
            (case aO=>exact (by (with_reducible repeat (first|apply zA|apply zB|apply zC));exact HO483.out))
            (case aS=>exact (zR (by repeat (first|(with_reducible first|exact HB.out|apply zD|apply zE|apply zF)|exact HB.out))))
            (case aL=>have:=LMc18.out;omega)
            intro v489 w32 ho hb hg hat;rw [← Ny488.out] at ho;have n0_:=zM (Kd.V_afterv (ok:=(fun k_=>(P2_ k_ ∨ w.heap.size ≤ k_) ∧ some k_ ≠ (.slice Ao26 x7_1.length co26:Value).ownBlock ∧ some k_ ≠ (.slice (some ⟨go16,0,none⟩) y477.length co16:Value).ownBlock ∧ some k_ ≠ (.slice Ao33 y485.length co33:Value).ownBlock)) (by (with_reducible repeat (first|apply Kd.V_alloc|apply Kd.V_drewN|apply Kd.V_drew));exact Kd.V_mono HO_2.out (fun _ hk=>⟨⟨hk.1,⟨hk.2.2.2.2,⟨hk.2.1,hk.2.2.2.1⟩⟩⟩,hk.2.2.1⟩)) hg hat)
            have n1_:=zM (Kd.N_afterv (ok:=(fun k_=>(P2_ k_ ∨ w.heap.size ≤ k_) ∧ some k_ ≠ (.slice (some ⟨go16,0,none⟩) y477.length co16:Value).ownBlock ∧ some k_ ≠ (.slice Ao33 y485.length co33:Value).ownBlock)) (by (with_reducible repeat (first|apply Kd.N_alloc|apply Kd.N_drewN|apply Kd.N_drew));exact Kd.N_mono HO_7.out (fun _ hk=>⟨⟨hk.1,⟨hk.2.1,hk.2.2.2⟩⟩,hk.2.2.1⟩)) hg hat)
            have n2_:=zM (Kd.R_over' (by (with_reducible repeat (first|apply zA|apply zB|apply zC));exact HO479.out) (Kd.R_typed (by (with_reducible repeat (first|apply zA|apply zB|apply zC));exact HO483.out)) (by decide) hg)
            have n3_:=zM (Kd.R_after (ok:=(fun k_=>(w.heap.size ≤ k_))) (by (with_reducible repeat (first|apply zA|apply zB|apply zC));exact HO487.out) hg hat)
            have n4_:=zM (hb);have n5_:=zM (ho);clear HO_2;clear HO_7;clear HO479;clear HO487;clear HB;clear HO483;have HO_2:=n0_;have HO_7:=n1_;have HO479:=n2_;have HO487:=n3_;have HB:=n4_;have HO490:=n5_;clear n0_ n1_ n2_ n3_ n4_ n5_;clear ho hb hg hat;obtain ⟨Ao34,co34,eo34⟩:=Kd.R_slice HO490.out;(first|subst eo34|(injection eo34 with f1_ f2_ f3_;have f4_:=f1_.symm;have f5_:=f3_.symm;clear f1_ f2_ f3_;subst f4_;subst f5_))
            refine hK.out _ _ ((zS HB.out hw484_0)) (fun hHeld=>?_)
            clear hK K;refine norm_ (a':=?_) ?_ ?_
            rotate_left
            ·show Act.put _ (some 44) _ = _
             simp only [Act.put,zT,zU,zV,i64_w,i32_w]
             rfl
            refine one_ (i:=11) (N:=some 45) #[true,true,true,true,true,true,true,true,true,true,true,true,false,false] rfl rfl (one_of HT_.out (by kernel_rfl)) (by decide) (fun K hK=>?_)
            refine goes_ Try.func63 (by kernel_rfl) rfl #[.slice (some ad484) l0.length c0,.slice (some ⟨go16,0,none⟩) y480.length co16,.slice Ao34 y488.length co34] (by rfl) rfl rfl (by (try simp only [List.map_toArray,List.map_cons,List.map_nil]);first|done|(rw [show y480.length = y477.length from (zN HO479.out).1.symm] <;> rfl)|rfl|(simp only [List.length_drop,List.length_take];rfl)) ?_
            with_reducible refine (ih k1 (by have:=HK1.out;omega) _ _ l0 _ _ y480 (fun k_=>some k_ = (.slice Ao34 y488.length co34:Value).ownBlock) _ _ y488 t491 _ ?side1 ?side2 ?side3 ?side4 ?side5 A19.out).mono ?_
            (case side1=>repeat (first|exact (zO HR0.out HB.out)|(with_reducible first|refine zG ?_ _|refine zH ?_ _|refine zI ?_)))
            (case side2=>exact HC0.out)
            (case side3=>repeat (first|exact (zN HO479.out).2.2|(with_reducible first|refine zG ?_ _|refine zH ?_ _|refine zI ?_)))
            (case side4=>rw [show y480.length = y477.length from (zN HO479.out).1.symm];exact (zN HO479.out).2.1)
            (case side5=>exact Kd.R_V (Kd.R_tight rfl (Kd.R_apart' (Kd.R_apart' (HO490.out) (Kd.N_typed HO_7.out) (by decide)) (Kd.R_typed HO479.out) (by decide))))
            rintro e w35 ⟨v492,rfl,ho0,hb⟩
            refine ⟨_,rfl,?_⟩
            have n0_:=zM (Kd.V_elder' (by (with_reducible repeat (first|apply Kd.V_alloc|apply Kd.V_drewN|apply Kd.V_drew));exact HO_2.out) (Kd.N_base ho0) hb)
            have n1_:=zM (Kd.N_elder' (by (with_reducible repeat (first|apply Kd.N_alloc|apply Kd.N_drewN|apply Kd.N_drew));exact HO_7.out) (Kd.N_base ho0) hb)
            have n2_:=zM (zP (by (with_reducible repeat (first|apply zA|apply zB|apply zC));exact HO479.out) hb)
            have n3_:=zM (zP (by (with_reducible repeat (first|apply zA|apply zB|apply zC));exact HO487.out) hb)
            have n4_:=zM (zP (by (with_reducible repeat (first|apply zA|apply zB|apply zC));exact HO490.out) hb)
            have n5_:=zM (Kd.N_lower (Kd.N_mono (ok':=fun k_=>(P2_ k_ ∨ w.heap.size ≤ k_) ∧ some k_ ≠ (.slice Ao26 x7_1.length co26:Value).ownBlock ∧ some k_ ≠ (.slice (some ⟨go16,0,none⟩) y477.length co16:Value).ownBlock ∧ some k_ ≠ (.slice Ao33 y485.length co33:Value).ownBlock) ho0 (fun k_ hk_=>⟨Or.elim hk_ (fun hs_=>(.inr (((Kd.R_apart' (Kd.R_apart' (HO490.out) (Kd.N_typed HO_7.out) (by decide)) (Kd.R_typed HO479.out) (by decide)).1 k_ hs_.symm).1.1.1))) (fun hn_=>(.inr (Nat.le_trans (zR (by repeat (first|(with_reducible first|exact HB.out|apply zD|apply zE|apply zF)|exact HB.out))) hn_))),Or.elim hk_ (fun hs_=>((Kd.R_apart' (Kd.R_apart' (HO490.out) (Kd.N_typed HO_7.out) (by decide)) (Kd.R_typed HO479.out) (by decide)).1 k_ hs_.symm).1.2) (fun hn_=>(Kd.fresh' (Kd.N_lt (by (with_reducible repeat (first|apply Kd.N_alloc|apply Kd.N_drewN|apply Kd.N_drew));exact HO_7.out)) k_ hn_)),Or.elim hk_ (fun hs_=>((Kd.R_apart' (Kd.R_apart' (HO490.out) (Kd.N_typed HO_7.out) (by decide)) (Kd.R_typed HO479.out) (by decide)).1 k_ hs_.symm).2) (fun hn_=>(Kd.fresh' (Kd.R_lt (by (with_reducible repeat (first|apply zA|apply zB|apply zC));exact HO479.out)) k_ hn_)),Or.elim hk_ (fun hs_=>((Kd.R_apart' (Kd.R_apart' (HO490.out) (Kd.N_typed HO_7.out) (by decide)) (Kd.R_typed HO479.out) (by decide)).1 k_ hs_.symm).1.1.2) (fun hn_=>(Kd.fresh' (Kd.R_lt (by (with_reducible repeat (first|apply zA|apply zB|apply zC));exact HO487.out)) k_ hn_))⟩)) (zR (by repeat (first|(with_reducible first|exact HB.out|apply zD|apply zE|apply zF)|exact HB.out))))
            have n6_:=zM (zQ (by repeat (first|(with_reducible first|exact HB.out|apply zD|apply zE|apply zF)|exact HB.out)) hb)
            clear HO_2;clear HO_7;clear HO479;clear HO487;clear HO490;clear HB;have HO_2:=n0_;have HO_7:=n1_;have HO479:=n2_;have HO487:=n3_;have HO490:=n4_;have HO493:=n5_;have HB:=n6_;clear n0_ n1_ n2_ n3_ n4_ n5_ n6_;(try clear hb)
            (try clear hb2)
            (try clear hk)
            (try clear hi)
            (try clear ho0)
            obtain ⟨Ao37,co37,eo37⟩:=Kd.N_slice HO493.out;(first|subst eo37|(injection eo37 with f1_ f2_ f3_;have f4_:=f1_.symm;have f5_:=f3_.symm;clear f1_ f2_ f3_;subst f4_;subst f5_))
            refine hK.out _ _ ((zS HB.out hw484_0)) (fun hHeld=>?_)
            clear hK K;refine norm_ (a':=?_) ?_ ?_
            rotate_left
            ·show Act.put _ (some 45) _ = _
             simp only [Act.put,zT,zU,zV,i64_w,i32_w]
             rfl
            refine one_ (i:=12) (N:=some 46) #[true,true,true,true,true,true,true,true,true,true,true,true,true,false] rfl rfl (one_of HT_.out (by kernel_rfl)) (by decide) (fun K hK=>?_)
            refine Kd.N_append_rows_step (Kd.slice 3 (Kd.int .i64)) (w0:=w) w.heap.size (by rfl) (.tmp 34) (.tmp 45) 37 22 (.slice none 0 0) 24 rfl Try.underlying37 info22 rfl (by decide) (by omega) (.slice Ao26 x7_1.length co26) x7_1 t491 _ _ _ (fun k_=>(P2_ k_ ∨ w.heap.size ≤ k_) ∧ some k_ ≠ (.slice (some ⟨go16,0,none⟩) y477.length co16:Value).ownBlock ∧ some k_ ≠ (.slice Ao33 y485.length co33:Value).ownBlock) (fun k_=>((fun k_=>(P2_ k_ ∨ w.heap.size ≤ k_) ∧ some k_ ≠ (.slice (some ⟨go16,0,none⟩) y477.length co16:Value).ownBlock ∧ some k_ ≠ (.slice Ao33 y485.length co33:Value).ownBlock)) k_ ∧ some k_ ≠ (.slice Ao26 x7_1.length co26:Value).ownBlock) rfl rfl ?aO ?aR (fun _ hk=>hk) ?aF ?aB ?aS ?aL ?_
            (case aR=>exact (by skip;exact Kd.N_F (Kd.N_mono (ok':=(fun k_=>((fun k_=>(P2_ k_ ∨ w.heap.size ≤ k_) ∧ some k_ ≠ (.slice (some ⟨go16,0,none⟩) y477.length co16:Value).ownBlock ∧ some k_ ≠ (.slice Ao33 y485.length co33:Value).ownBlock)) k_ ∧ some k_ ≠ (.slice Ao26 x7_1.length co26:Value).ownBlock)) (HO493.out) (fun k_ hk=>⟨⟨hk.1,⟨hk.2.2.1,hk.2.2.2⟩⟩,hk.2.1⟩))))
            (case aB=>exact (by repeat (first|(with_reducible first|exact HB.out|apply zD|apply zE|apply zF)|exact HB.out)))
            (case aF=>exact (fun k_ hk=>⟨(.inr (Nat.le_trans (zR (by repeat (first|(with_reducible first|exact HB.out|apply zD|apply zE|apply zF)|exact HB.out))) hk)),Kd.fresh' (Kd.R_lt (by (with_reducible repeat (first|apply zA|apply zB|apply zC));exact HO479.out)) k_ hk,Kd.fresh' (Kd.R_lt (by (with_reducible repeat (first|apply zA|apply zB|apply zC));exact HO487.out)) k_ hk⟩))
            (case aO=>exact (by (with_reducible repeat (first|apply Kd.N_alloc|apply Kd.N_drewN|apply Kd.N_drew));exact Kd.N_mono HO_7.out (fun _ hk=>⟨hk.1.1.1,⟨hk.1.1.2.1,hk.1.1.2.2⟩⟩)))
            (case aS=>exact (zR (by repeat (first|(with_reducible first|exact HB.out|apply zD|apply zE|apply zF)|exact HB.out))))
            (case aL=>have:=LMc20.out;omega)
            intro v495 w36 ho hb hg hat;rw [← Ny494.out] at ho;have n0_:=zM (Kd.V_afterv (ok:=(fun k_=>(P2_ k_ ∨ w.heap.size ≤ k_) ∧ some k_ ≠ (.slice (some ⟨go16,0,none⟩) y477.length co16:Value).ownBlock ∧ some k_ ≠ (.slice Ao33 y485.length co33:Value).ownBlock ∧ some k_ ≠ (.slice Ao34 y488.length co34:Value).ownBlock ∧ some k_ ≠ (.slice Ao37 t491.length co37:Value).ownBlock)) (by (with_reducible repeat (first|apply Kd.V_alloc|apply Kd.V_drewN|apply Kd.V_drew));exact Kd.V_mono HO_2.out (fun _ hk=>⟨⟨hk.1.1.1,⟨hk.1.1.2.2.1,⟨hk.1.1.2.2.2,⟨hk.1.2,hk.2⟩⟩⟩⟩,hk.1.1.2.1⟩)) hg hat)
            have n1_:=zM (Kd.R_over' (by (with_reducible repeat (first|apply zA|apply zB|apply zC));exact HO479.out) (Kd.N_typed (by (with_reducible repeat (first|apply Kd.N_alloc|apply Kd.N_drewN|apply Kd.N_drew));exact HO_7.out)) (by decide) hg)
            have n2_:=zM (Kd.R_over' (by (with_reducible repeat (first|apply zA|apply zB|apply zC));exact HO487.out) (Kd.N_typed (by (with_reducible repeat (first|apply Kd.N_alloc|apply Kd.N_drewN|apply Kd.N_drew));exact HO_7.out)) (by decide) hg)
            have n3_:=zM (Kd.R_over' (by (with_reducible repeat (first|apply zA|apply zB|apply zC));exact HO490.out) (Kd.N_typed (by (with_reducible repeat (first|apply Kd.N_alloc|apply Kd.N_drewN|apply Kd.N_drew));exact HO_7.out)) (by decide) hg)
            have n4_:=zM (Kd.N_afterv (ok:=(fun k_=>(P2_ k_ ∨ w.heap.size ≤ k_) ∧ some k_ ≠ (.slice (some ⟨go16,0,none⟩) y477.length co16:Value).ownBlock ∧ some k_ ≠ (.slice Ao33 y485.length co33:Value).ownBlock)) (by (with_reducible repeat (first|apply Kd.N_alloc|apply Kd.N_drewN|apply Kd.N_drew));exact Kd.N_mono HO493.out (fun _ hk=>⟨⟨hk.1,⟨hk.2.2.1,hk.2.2.2⟩⟩,hk.2.1⟩)) hg hat)
            have n5_:=zM (hb);have n6_:=zM (ho);clear HO_2;clear HO479;clear HO487;clear HO490;clear HO493;clear HB;clear HO_7;have HO_2:=n0_;have HO479:=n1_;have HO487:=n2_;have HO490:=n3_;have HO493:=n4_;have HB:=n5_;have HO496:=n6_;clear n0_ n1_ n2_ n3_ n4_ n5_ n6_;clear ho hb hg hat;refine hK.out _ _ ((zS HB.out hw484_0)) (fun hHeld=>?_)
            clear hK K;refine norm_ (a':=?_) ?_ ?_
            rotate_left
            ·show Act.put _ (some 46) _ = _
             simp only [Act.put,zT,zU,zV,i64_w,i32_w]
             rfl
            refine pure_ (i:=13) (N:=some 7) (v:=?_) (a':=?_) #[true,true,true,true,true,true,true,true,true,true,true,true,true,true] rfl rfl (any_of HT_.out (by kernel_rfl)) (fun _ _ _ h=>h) (Or.inl ⟨by rfl,?_⟩) ?_ ?_
            rotate_left
            ·intro w'
             go_simp
             with_reducible rfl
            rotate_left
            ·simp only [Act.put,zT,zU,zV,i64_w,i32_w]
             rfl
            refine done_ (done_of HT_.out (by kernel_rfl)) ?_
            try go_wp2
            go_roundg k1
            case measure=>have:=HK1.out;omega
            case rel=>exact ⟨(y494),(wrap64 (x8_1 + 1)),(by first|rfl|(simp;done)|(simp [*];done)),H',⟨by have:=HK1.out;omega⟩,⟨by (with_reducible repeat (first|apply Kd.V_alloc|apply Kd.V_drewN|apply Kd.V_drew));exact Kd.V_mono HO_2.out (fun _ hk=>⟨hk.1.1,hk.2⟩)⟩,⟨by (with_reducible repeat (first|apply Kd.N_alloc|apply Kd.N_drewN|apply Kd.N_drew));exact Kd.N_mono HO496.out (fun _ hk=>hk.1)⟩,⟨by repeat (first|(with_reducible first|exact HB.out|apply zD|apply zE|apply zF)|exact HB.out)⟩⟩
           ·rw [if_neg c20] at H
            exact absurd H (by simp)
          ·rw [if_neg c18] at H
           exact absurd H (by simp)
         ·rw [if_neg c15] at H
          exact absurd H (by simp)
        ·rw [if_neg c14] at H
         exact absurd H (by simp)
      ·rw [if_neg c11] at H
       exact absurd H (by simp)
     ·rw [if_neg c10] at H
      exact absurd H (by simp)
    ·rw [if_neg c9] at H
     have c9b0:decide (x8_1 < (l0.length:Int)) = false:=decide_eq_false c9
     clear c9;obtain rfl:=Option.some.inj H;go_wp2
     go_ret
     exact ⟨_,by first|rfl|(simp [errW_none,errW_some] <;> rfl)|(simp [*,errW_none,errW_some] <;> rfl),by (with_reducible repeat (first|apply Kd.N_alloc|apply Kd.N_drewN|apply Kd.N_drew));exact HO_7.out,by repeat (first|(with_reducible first|exact HB.out|apply zD|apply zE|apply zF)|exact HB.out)⟩



/-! ### spec_l12Before: function 64 -/
def spec_l12Before.l0:Nat → List Int → List Int → Int → Option (Bool)
 | 0,_,_,_=>none
 | k + 1,x0,x1,x5=>if x5 < (x0.length:Int) then (if 0 ≤ x5 then (if x5 < (x1.length:Int) then (if (rd x0 x5) = (rd x1 x5) then (spec_l12Before.l0 k x0 x1 (wrap64 (x5 + 1))) else (some (decide ((rd x0 x5) < (rd x1 x5))))) else (none)) else (none)) else (some false)
def spec_l12Before.f (k:Nat) (l0:List Int) (l1:List Int):Option (Bool):=spec_l12Before.l0 k l0 l1 0
set_option maxHeartbeats 8000000 in
set_option maxRecDepth 100000 in
theorem spec_l12Before.calls (k:Nat) (A0:Option Addr) (c0:Nat) (l0:List Int) (A1:Option Addr) (c1:Nat) (l1:List Int) (r:Bool) (w:World) (hr0:Kd.C (Kd.int .i64) w A0 l0.length l0) (hc0:l0.length ≤ c0) (hr1:Kd.C (Kd.int .i64) w A1 l1.length l1) (hc1:l1.length ≤ c1) (h:spec_l12Before.f k l0 l1 = some r) :
  Calls Try.prog 64 #[.slice A0 l0.length c0,.slice A1 l1.length c1] w fun e w'=>e = .returned (.bool r) ∧ Drawn0 w w':=by
 have HR0:=zM hr0;have HC0:=zM hc0;clear hr0 hc0;have HR1:=zM hr1;have HC1:=zM hc1;clear hr1 hc1;have H:(spec_l12Before.l0 k l0 l1 0) = some r:=h
 clear h;have H':=zM H;clear H;go_enter Try.func64,Try.ntmps64
 go_wp2
 repeat (go_quiet (fail);try go_wp2)
 go_loopg [5] k (fun kq v5 w' => ∃ (x5_1:Int),v5 = .int .i64 x5_1 ∧ Aside0 (spec_l12Before.l0 kq l0 l1 x5_1 = some r) ∧ Aside0 (kq ≤ k) ∧ Drawn0 w w')
 case atStart=>exact ⟨(0),(by first|rfl|(simp;done)|(simp [*];done)),H',⟨Nat.le_refl _⟩,by repeat (first|exact Drawn0.refl _|apply Drawn0.step)⟩
 case round =>
  clear H';(try clear c1);(try clear p2);obtain ⟨x5_1,rfl,HA,HK1,⟨m1,rfl⟩⟩:=hrel;cases gk with
  | zero=>exact absurd HA.out (by simp [spec_l12Before.l0])
  | succ k1 =>
   have H:=HA.out;clear HA;simp only [spec_l12Before.l0] at H
   by_cases c3:x5_1 < (l0.length:Int)
   ·rw [if_pos c3] at H
    have c3b0:decide (x5_1 < (l0.length:Int)) = true:=decide_eq_true c3
    clear c3;by_cases c4:0 ≤ x5_1
    ·rw [if_pos c4] at H
     have c4b0:decide (0 ≤ x5_1) = true:=decide_eq_true c4
     clear c4;by_cases c5:x5_1 < (l1.length:Int)
     ·rw [if_pos c5] at H
      have c5b0:decide (x5_1 < (l1.length:Int)) = true:=decide_eq_true c5
      clear c5;by_cases c6:(rd l0 x5_1) = (rd l1 x5_1)
      ·rw [if_pos c6] at H
       have c6b0:((rd l0 x5_1) == (rd l1 x5_1)) = true:=beq_iff_eq.mpr c6
       have c6b1:((rd l0 x5_1) != (rd l1 x5_1)) = false:=bne_eq_false_iff_eq.mpr c6
       clear c6;have H':=zM H;clear H;have p497:0 ≤ (x5_1:Int):=of_decide_eq_true (by first|(with_reducible assumption)|assumption)
       have q497:x5_1 < (l0.length:Int):=of_decide_eq_true (by first|(with_reducible assumption)|assumption)
       obtain ⟨ad497,e497,hx497_0⟩:=Kd.at_int HR0.out x5_1 p497 q497;cases e497
       replace p497:=eq_true p497;replace q497:=eq_true q497;have p498:0 ≤ (x5_1:Int):=of_decide_eq_true (by first|(with_reducible assumption)|assumption)
       have q498:x5_1 < (l1.length:Int):=of_decide_eq_true (by first|(with_reducible assumption)|assumption)
       obtain ⟨ad498,e498,hx498_0⟩:=Kd.at_int HR1.out x5_1 p498 q498;cases e498
       replace p498:=eq_true p498;replace q498:=eq_true q498;go_wp2
       repeat (go_quiet (fail);try go_wp2)
       go_roundg k1
       case measure=>have:=HK1.out;omega
       case rel=>exact ⟨(wrap64 (x5_1 + 1)),(by first|rfl|(simp;done)|(simp [*];done)),H',⟨by have:=HK1.out;omega⟩,by repeat (first|exact Drawn0.refl _|apply Drawn0.step)⟩
      ·rw [if_neg c6] at H
       have c6b0:((rd l0 x5_1) == (rd l1 x5_1)) = false:=beq_eq_false_iff_ne.mpr c6
       have c6b1:((rd l0 x5_1) != (rd l1 x5_1)) = true:=bne_iff_ne.mpr c6
       obtain rfl:=Option.some.inj H;have p497:0 ≤ (x5_1:Int):=of_decide_eq_true (by first|(with_reducible assumption)|assumption)
       have q497:x5_1 < (l0.length:Int):=of_decide_eq_true (by first|(with_reducible assumption)|assumption)
       obtain ⟨ad497,e497,hx497_0⟩:=Kd.at_int HR0.out x5_1 p497 q497;cases e497
       replace p497:=eq_true p497;replace q497:=eq_true q497;have p498:0 ≤ (x5_1:Int):=of_decide_eq_true (by first|(with_reducible assumption)|assumption)
       have q498:x5_1 < (l1.length:Int):=of_decide_eq_true (by first|(with_reducible assumption)|assumption)
       obtain ⟨ad498,e498,hx498_0⟩:=Kd.at_int HR1.out x5_1 p498 q498;cases e498
       replace p498:=eq_true p498;replace q498:=eq_true q498;have p499:0 ≤ (x5_1:Int):=of_decide_eq_true (by first|(with_reducible assumption)|assumption)
       have q499:x5_1 < (l0.length:Int):=of_decide_eq_true (by first|(with_reducible assumption)|assumption)
       obtain ⟨ad499,e499,hx499_0⟩:=Kd.at_int HR0.out x5_1 p499 q499;obtain rfl:ad497 = ad499:=(by injection e499)
       replace p499:=eq_true p499;replace q499:=eq_true q499;have p500:0 ≤ (x5_1:Int):=of_decide_eq_true (by first|(with_reducible assumption)|assumption)
       have q500:x5_1 < (l1.length:Int):=of_decide_eq_true (by first|(with_reducible assumption)|assumption)
       obtain ⟨ad500,e500,hx500_0⟩:=Kd.at_int HR1.out x5_1 p500 q500;obtain rfl:ad498 = ad500:=(by injection e500)
       replace p500:=eq_true p500;replace q500:=eq_true q500;go_wp2
       repeat (go_quiet (fail);try go_wp2)
       go_ret
       exact ⟨by first|rfl|(simp;done)|(simp [*];done),by repeat (first|exact Drawn0.refl _|apply Drawn0.step)⟩
     ·rw [if_neg c5] at H
      exact absurd H (by simp)
    ·rw [if_neg c4] at H
     exact absurd H (by simp)
   ·rw [if_neg c3] at H
    have c3b0:decide (x5_1 < (l0.length:Int)) = false:=decide_eq_false c3
    clear c3;obtain rfl:=Option.some.inj H;go_wp2
    repeat (go_quiet (fail);try go_wp2)
    go_ret
    exact ⟨by first|rfl|(simp;done)|(simp [*];done),by repeat (first|exact Drawn0.refl _|apply Drawn0.step)⟩

end Go.Proofs.Ytcgfedaoimhejaa.G
