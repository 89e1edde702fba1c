/- Texts of the proof of FnColumns, joined in build order. -/
import Derived.Test.YtcgfedaoimhejaaProg
import Derived.Below
import Derived.Deep.Draws
import Derived.Deep.AppendLies
import Derived.Maps.AppendAt
import Derived.OwnWalk
import Derived.Laws.BytesArg
import Derived.Laws.MakeOwn
import Derived.Laws.OwnMore
import Derived.Deep.OwnRows
import Derived.Tactics
import Derived.Lib.ConvBytes
import Derived.Laws.Slices
import Derived.WalkKit
import Derived.KernelRfl
import Derived.RowKit3
import Derived.Deep.LoopGhost
import Derived.Deep.QuietTactic
import Derived.BigQuiet
import Derived.WideLaws
import Derived.Deep.DeepCutAuto
import Derived.Deep.CutBlock
import Derived.Deep.RegionHeld3
import Derived.Laws.Rows
import Derived.Lib.AppendStr
import Derived.ArgAppend
import Derived.Laws.IdiomCopy
import Derived.OrdersHeld
import Derived.Laws.BitsLemmas
import Derived.RowKit
import Derived.Test.YtcgfedaoimhejaaMgFnColumns0
import Derived.WalkSpells
-- Written by wip/tools/gen.py out of the translation (the kit's printer, one namespace a seat). Lean checks it.
namespace Go.Proofs.Ytcgfedaoimhejaa.G
open Go.RowKit Go.Proofs.YtcgfedaoimhejaaW.PrintWords Go.Proofs.YtcgfedaoimhejaaW.PrintLast Go.Proofs.YtcgfedaoimhejaaW.PrintMore
attribute [local go_sem] max2_int min2_int max_two min_two max_three min_three max_four min_four   -- for this text's walks alone
set_option linter.unusedVariables false
set_option linter.unusedSimpArgs false



def errW : Option Int → Value
 | none => .nilIface
 | some c => .iface 0 (.int .i64 c)
theorem errW_none : errW none = .nilIface:=rfl
theorem errW_some (c : Int) : errW (some c) = .iface 0 (.int .i64 c):=rfl

theorem info3 : (Try.prog.info? 3).map (fun i=>(i.zero,i.size,i.bytes)) = some (some (.int .i64 0),1,8):=by kernel_rfl
theorem info22 : (Try.prog.info? 22).map (fun i=>(i.zero,i.size,i.bytes)) = some (some (.slice none 0 0),1,24):=by kernel_rfl
-- the values' own types
def rd_L1 (xs : List (List Int)) (i : Int) : (List Int):=xs.getD i.toNat ([] : List Int)
theorem at_L1 {w : World} {A : Option Addr} {n : Nat} {xs : List (List Int)} (h : Kd.C (Kd.slice 3 (Kd.int .i64)) w A n xs) (i : Int) (h0 : 0 ≤ i) (h1 : i < n) : ∃ ad A0 c0,A = some ad ∧ w.cell? (ad.add i.toNat) = some (.slice A0 (rd_L1 xs i).length c0) ∧ (rd_L1 xs i).length ≤ c0 ∧ (Kd.int .i64).C w A0 (rd_L1 xs i).length (rd_L1 xs i):=by
 obtain ⟨ad,c,e,_,hK,hc0⟩:=Kd.C_get h ([] : List Int) i h0 h1
 have hc : ∀ j u,c[j]? = some u → w.cell? (ad.add (i.toNat * 1 + j)) = some u:=hc0
 obtain ⟨A0,c0,rfl,l0,g0⟩:=hK
 exact ⟨ad,A0,c0,e,by have hq:=hc 0 _ rfl;rwa [Nat.mul_one,Nat.add_zero] at hq,l0,g0⟩

/-! #### struct type 24 -/
structure S24 where
 f0 : Int
 f1 : Int
 f2 : Int
def z24 : S24:=⟨(0 : Int),(0 : Int),(0 : Int)⟩
def k24 : Kd S24:=Kd.iso (Kd.pair (Kd.int .i64) (Kd.pair (Kd.int .i64) (Kd.int .i64))) (fun x : S24=>(x.f0,x.f1,x.f2))
def rd_T24 (xs : List S24) (i : Int) : S24:=xs.getD i.toNat z24
def rd_L4 (xs : List (List (List Int))) (i : Int) : (List (List Int)):=xs.getD i.toNat ([] : List (List Int))
/-! #### struct type 28 -/
structure S28 where
 f0 : Int
 f1 : Int
 f2 : Int
def z28 : S28:=⟨(0 : Int),(0 : Int),(0 : Int)⟩
def k28 : Kd S28:=Kd.iso (Kd.pair (Kd.int .i64) (Kd.pair (Kd.int .i64) (Kd.int .i64))) (fun x : S28=>(x.f0,x.f1,x.f2))
def rd_T28 (xs : List S28) (i : Int) : S28:=xs.getD i.toNat z28
def rd_L7 (xs : List (List Int)) (i : Int) : (List Int):=xs.getD i.toNat ([] : List Int)
/-- What is known of such a value that came in. -/
def W24 (x : S24) : Prop:=(Lit.int .i64 x.f0).wf = true ∧ (Lit.int .i64 x.f1).wf = true ∧ (Lit.int .i64 x.f2).wf = true
end Go.Proofs.Ytcgfedaoimhejaa.G

namespace Go.Proofs.Ytcgfedaoimhejaa.G
open Go.RowKit Go.Proofs.YtcgfedaoimhejaaW.PrintWords Go.Proofs.YtcgfedaoimhejaaW.PrintLast Go.Proofs.YtcgfedaoimhejaaW.PrintMore
theorem zA {α : Type} {d : Kd α} {e : Nat} {w : World} {base : Nat} {ok : Nat → Prop} {v : Value} {xs : List α} (h : Kd.R d e w base ok v xs) (o : Obj) : Kd.R d e (w.alloc o) base ok v xs := Kd.R_alloc h o
theorem zB {α : Type} {d : Kd α} {e : Nat} {w : World} {base : Nat} {ok : Nat → Prop} {v : Value} {xs : List α} (h : Kd.R d e w base ok v xs) (m : Nat) : Kd.R d e (w.drewN m) base ok v xs := Kd.R_drewN h m
theorem zC {α : Type} {d : Kd α} {e : Nat} {w : World} {base : Nat} {ok : Nat → Prop} {v : Value} {xs : List α} (h : Kd.R d e w base ok v xs) : Kd.R d e w.drew base ok v xs := Kd.R_drew h
theorem zD {w W : World} (h : Below w.heap.size w W) (o : Obj) : Below w.heap.size w (W.alloc o) := below_alloc h o
theorem zE {B : Nat} {w W : World} (h : Below B w W) (n : Nat) : Below B w (W.drewN n) := pw_below_drewN h n
theorem zF {base : Nat} {w W : World} (h : Below base w W) : Below base w W.drew := below_drew1 h
theorem zG {α : Type} {d : Kd α} {w : World} {xs : List α} {A : Option Addr} {n : Nat} (h : Kd.C d w A n xs) (o : Obj) : Kd.C d (w.alloc o) A n xs := Kd.C_alloc h o
theorem zH {α : Type} {d : Kd α} {w : World} {xs : List α} {A : Option Addr} {n : Nat} (h : Kd.C d w A n xs) (m : Nat) : Kd.C d (w.drewN m) A n xs := Kd.C_drewN h m
theorem zI {α : Type} {d : Kd α} {w : World} {xs : List α} {A : Option Addr} {n : Nat} (h : Kd.C d w A n xs) : Kd.C d w.drew A n xs := Kd.C_drew h
theorem zJ {w : World} {g : Nat} {o : Obj} (h : w.heap[g]? = some o) (n : Nat) : (w.drewN n).heap[g]? = some o := blk_drewN h n
theorem zK {w : World} {g : Nat} {o : Obj} (h : w.heap[g]? = some o) : w.drew.heap[g]? = some o := blk_drew h
theorem zL {w : World} {g : Nat} {o : Obj} (h : w.heap[g]? = some o) (o' : Obj) : (w.alloc o').heap[g]? = some o := blk_alloc h o'
theorem zM {p : Prop} (h : p) : Aside0 p := ⟨h⟩
theorem zN {α : Type} {d : Kd α} {e : Nat} {w : World} {base : Nat} {ok : Nat → Prop} {xs : List α} {A : Option Addr} {n c : Nat} (h : Kd.R d e w base ok (.slice A n c) xs) : n = xs.length ∧ n ≤ c ∧ Kd.C d w A xs.length xs := Kd.R_reads' h
theorem zO {α : Type} {d : Kd α} {w w1 : World} {xs : List α} {A : Option Addr} {n : Nat} (h : Kd.C d w A n xs) (b : Below w.heap.size w w1) : Kd.C d w1 A n xs := Kd.C_below h b
theorem zP {α : Type} {d : Kd α} {e : Nat} {w w1 : World} {base : Nat} {ok : Nat → Prop} {v : Value} {xs : List α} (h : Kd.R d e w base ok v xs) (b : Below w.heap.size w w1) : Kd.R d e w1 base ok v xs := Kd.R_below h b
theorem zQ {w W w2 : World} (h : Below w.heap.size w W) (k : Below W.heap.size W w2) : Below w.heap.size w w2 := below_step h k
theorem zR {w W : World} (h : Below w.heap.size w W) : w.heap.size ≤ W.heap.size := below_size h
theorem zS {a b : World} {ad : Addr} {v : Value} (hB : Below a.heap.size a b) (h : a.cell? ad = some v) : b.cell? ad = some v := (hB.cell (World.block_lt_of_cell? a ad h)).trans h
theorem zT {α : Type} {l : List α} {i : Nat} {a : α} : l.toArray.setIfInBounds i a = (l.set i a).toArray := by simp
theorem zU {α : Type} {l : List α} {a b : α} : (a :: l).set 0 b = b :: l := rfl
theorem zV {α : Type} {l : List α} {a b : α} {n : Nat} : (a :: l).set (n + 1) b = a :: l.set n b := rfl
theorem zW (w : World) (a b c : Nat) : (w.drewN (a + b)).drewN c = w.drewN (a + (b + c)) := Eq.trans (World.drewN_drewN _ _ _) (congrArg (World.drewN _) (Nat.add_assoc _ _ _))
end Go.Proofs.Ytcgfedaoimhejaa.G

-- Written by wip/tools/gen.py out of the translation (the kit's printer, one namespace a seat). Lean checks it.
namespace Go.Proofs.Ytcgfedaoimhejaa.G
open Go.RowKit Go.Proofs.YtcgfedaoimhejaaW.PrintWords Go.Proofs.YtcgfedaoimhejaaW.PrintLast Go.Proofs.YtcgfedaoimhejaaW.PrintMore
attribute [local go_sem] max2_int min2_int max_two min_two max_three min_three max_four min_four   -- for this text's walks alone
set_option linter.unusedVariables false
set_option linter.unusedSimpArgs false

/-! ### spec_l1In: function 55 -/
def spec_l1In.f (a0:Int) (a1:Int) (a2:Int):Option (Bool):=if a0 ≥ a1 then (some (decide (a0 ≤ a2))) else (some false)
set_option maxHeartbeats 8000000 in
set_option maxRecDepth 100000 in
theorem spec_l1In.calls (a0:Int) (a1:Int) (a2:Int) (r:Bool) (w:World) (h:spec_l1In.f a0 a1 a2 = some r) :
  Calls Try.prog 55 #[.int .i64 a0,.int .i64 a1,.int .i64 a2] w fun e w'=>e = .returned (.bool r) ∧ Drawn0 w w':=by
 have H:(if a0 ≥ a1 then (some (decide (a0 ≤ a2))) else (some false)) = some r:=h
 clear h;by_cases c4:a0 ≥ a1
 ·rw [if_pos c4] at H
  have c4b0:decide (a1 ≤ a0) = true:=decide_eq_true c4
  clear c4;obtain rfl:=Option.some.inj H;go_enter Try.func55,Try.ntmps55
  go_wp2
  go_ret
  exact ⟨by first|rfl|(simp;done)|(simp [*];done),by repeat (first|exact Drawn0.refl _|apply Drawn0.step)⟩
 ·rw [if_neg c4] at H
  have c4b0:decide (a1 ≤ a0) = false:=decide_eq_false c4
  clear c4;obtain rfl:=Option.some.inj H;go_enter Try.func55,Try.ntmps55
  go_wp2
  go_ret
  exact ⟨by first|rfl|(simp;done)|(simp [*];done),by repeat (first|exact Drawn0.refl _|apply Drawn0.step)⟩



/-! ### spec_l12Weights: function 54 -/
def spec_l12Weights.l0:Nat → List Int → Int → Int → Option (Bool)
 | 0,_,_,_=>none
 | k + 1,x0,x1,x5=>if x5 < (x0.length:Int) then (if 0 ≤ x5 then ((spec_l1In.f (rd x0 x5) 1 32000).bind fun t111=>(if t111 = true then (spec_l12Weights.l0 k x0 x1 (wrap64 (x5 + 1))) else (some false))) else (none)) else (some (decide ((x0.length:Int) ≤ x1)))
def spec_l12Weights.f (k:Nat) (l0:List Int) (a1:Int):Option (Bool):=spec_l12Weights.l0 k l0 a1 0
set_option maxHeartbeats 8000000 in
set_option maxRecDepth 100000 in
theorem spec_l12Weights.calls (k:Nat) (A0:Option Addr) (c0:Nat) (l0:List Int) (a1:Int) (r:Bool) (w:World) (hr0:Kd.C (Kd.int .i64) w A0 l0.length l0) (hc0:l0.length ≤ c0) (h:spec_l12Weights.f k l0 a1 = some r) :
  Calls Try.prog 54 #[.slice A0 l0.length c0,.int .i64 a1] w fun e w'=>e = .returned (.bool r) ∧ Drawn0 w w':=by
 have HR0:=zM hr0;have HC0:=zM hc0;clear hr0 hc0;have H:(spec_l12Weights.l0 k l0 a1 0) = some r:=h
 clear h;have H':=zM H;clear H;go_enter Try.func54,Try.ntmps54
 go_wp2
 go_loopg [5] k (fun kq v5 w' => ∃ (x5_1:Int),v5 = .int .i64 x5_1 ∧ Aside0 (spec_l12Weights.l0 kq l0 a1 x5_1 = some r) ∧ Aside0 (kq ≤ k) ∧ Drawn0 w w')
 case atStart=>exact ⟨(0),(by first|rfl|(simp;done)|(simp [*];done)),H',⟨Nat.le_refl _⟩,by repeat (first|exact Drawn0.refl _|apply Drawn0.step)⟩
 case round =>
  clear H';(try clear p2);obtain ⟨x5_1,rfl,HA,HK1,⟨m1,rfl⟩⟩:=hrel;cases gk with
  | zero=>exact absurd HA.out (by simp [spec_l12Weights.l0])
  | succ k1 =>
   have H:=HA.out;clear HA;simp only [spec_l12Weights.l0] at H
   by_cases c3:x5_1 < (l0.length:Int)
   ·rw [if_pos c3] at H
    have c3b0:decide (x5_1 < (l0.length:Int)) = true:=decide_eq_true c3
    clear c3;by_cases c4:0 ≤ x5_1
    ·rw [if_pos c4] at H
     have c4b0:decide (0 ≤ x5_1) = true:=decide_eq_true c4
     clear c4;replace H:=Option.bind_eq_some_iff.mp H;obtain ⟨t111,A50,H⟩:=H;replace H:(if t111 = true then (spec_l12Weights.l0 k1 l0 a1 (wrap64 (x5_1 + 1))) else (some false)) = some r:=H
     have A5:=zM A50;clear A50;by_cases c6:t111 = true
     ·subst c6
      have H1:(spec_l12Weights.l0 k1 l0 a1 (wrap64 (x5_1 + 1))) = some r:=by rw [if_pos rfl] at H;exact H
      clear H;have H:=H1;clear H1;have H':=zM H;clear H;have p110:0 ≤ (x5_1:Int):=of_decide_eq_true (by first|(with_reducible assumption)|assumption)
      have q110:x5_1 < (l0.length:Int):=of_decide_eq_true (by first|(with_reducible assumption)|assumption)
      obtain ⟨ad110,e110,hx110_0⟩:=Kd.at_int HR0.out x5_1 p110 q110;cases e110
      replace p110:=eq_true p110;replace q110:=eq_true q110;go_wp2_with (first|((with_reducible refine gate_callee (f:=55) rfl ?_);refine goesL_ (some 16) rfl rfl Try.func55 (by kernel_rfl) rfl #[.int .i64 (rd l0 x5_1),.int .i64 1,.int .i64 32000] rfl (by (try simp only [List.map_toArray,List.map_cons,List.map_nil]);first|done|rfl|(simp only [List.length_drop,List.length_take];rfl)) ?_;(with_reducible refine (spec_l1In.calls (rd l0 x5_1) 1 32000 true _ A5.out).mono ?_);rintro e w' ⟨rfl,⟨nd,rfl⟩⟩;refine ⟨_,rfl,?_⟩))
      go_roundg k1
      case measure=>have:=HK1.out;omega
      case rel=>exact ⟨(wrap64 (x5_1 + 1)),(by first|rfl|(simp;done)|(simp [*];done)),H',⟨by have:=HK1.out;omega⟩,by repeat (first|exact Drawn0.refl _|apply Drawn0.step)⟩
     ·replace c6:=Bool.eq_false_iff.mpr c6
      subst c6;have H1:(some false) = some r:=by rw [if_neg (show ¬ (false = true) by decide)] at H;exact H
      clear H;have H:=H1;clear H1;obtain rfl:=Option.some.inj H;have p110:0 ≤ (x5_1:Int):=of_decide_eq_true (by first|(with_reducible assumption)|assumption)
      have q110:x5_1 < (l0.length:Int):=of_decide_eq_true (by first|(with_reducible assumption)|assumption)
      obtain ⟨ad110,e110,hx110_0⟩:=Kd.at_int HR0.out x5_1 p110 q110;cases e110
      replace p110:=eq_true p110;replace q110:=eq_true q110;go_wp2_with (first|((with_reducible refine gate_callee (f:=55) rfl ?_);refine goesL_ (some 16) rfl rfl Try.func55 (by kernel_rfl) rfl #[.int .i64 (rd l0 x5_1),.int .i64 1,.int .i64 32000] rfl (by (try simp only [List.map_toArray,List.map_cons,List.map_nil]);first|done|rfl|(simp only [List.length_drop,List.length_take];rfl)) ?_;(with_reducible refine (spec_l1In.calls (rd l0 x5_1) 1 32000 false _ A5.out).mono ?_);rintro e w' ⟨rfl,⟨nd,rfl⟩⟩;refine ⟨_,rfl,?_⟩))
      go_ret
      exact ⟨by first|rfl|(simp;done)|(simp [*];done),by repeat (first|exact Drawn0.refl _|apply Drawn0.step)⟩
    ·rw [if_neg c4] at H
     exact absurd H (by simp)
   ·rw [if_neg c3] at H
    have c3b0:decide (x5_1 < (l0.length:Int)) = false:=decide_eq_false c3
    clear c3;obtain rfl:=Option.some.inj H;go_wp2
    go_ret
    exact ⟨by first|rfl|(simp;done)|(simp [*];done),by repeat (first|exact Drawn0.refl _|apply Drawn0.step)⟩



/-! ### spec_l12Good: function 44 -/
def spec_l12Good.f (k:Nat) (l0:List Int):Option (Bool):=(spec_l12Weights.f k l0 4).bind fun t112=>(some t112)
set_option maxHeartbeats 8000000 in
set_option maxRecDepth 100000 in
theorem spec_l12Good.calls (k:Nat) (A0:Option Addr) (c0:Nat) (l0:List Int) (r:Bool) (w:World) (hr0:Kd.C (Kd.int .i64) w A0 l0.length l0) (hc0:l0.length ≤ c0) (h:spec_l12Good.f k l0 = some r) :
  Calls Try.prog 44 #[.slice A0 l0.length c0] w fun e w'=>e = .returned (.bool r) ∧ Drawn0 w w':=by
 have HR0:=zM hr0;have HC0:=zM hc0;clear hr0 hc0;have H:((spec_l12Weights.f k l0 4).bind fun t112=>(some t112)) = some r:=h
 clear h;replace H:=Option.bind_eq_some_iff.mp H;obtain ⟨t112,A20,H⟩:=H;replace H:(some t112) = some r:=H
 have A2:=zM A20;clear A20;obtain rfl:=Option.some.inj H;go_enter Try.func44,Try.ntmps44
 go_wp2_with (first|((with_reducible refine gate_callee (f:=54) rfl ?_);refine goesL_ (some 4) rfl rfl Try.func54 (by kernel_rfl) rfl #[.slice A0 l0.length c0,.int .i64 4] rfl (by (try simp only [List.map_toArray,List.map_cons,List.map_nil]);first|done|rfl|(simp only [List.length_drop,List.length_take];rfl)) ?_;(with_reducible refine (spec_l12Weights.calls k _ _ l0 4 t112 _ ?side1 ?side2 A2.out).mono ?_);(case side1=>repeat (first|exact HR0.out|(with_reducible first|refine zG ?_ _|refine zH ?_ _|refine zI ?_)));(case side2=>exact HC0.out);rintro e w' ⟨rfl,⟨nd,rfl⟩⟩;refine ⟨_,rfl,?_⟩))
 go_ret
 exact ⟨by first|rfl|(simp;done)|(simp [*];done),by repeat (first|exact Drawn0.refl _|apply Drawn0.step)⟩



/-! ### spec_l12Rules: function 45 -/
def spec_l12Rules.f (a0_0:Int) (a0_1:Int) (a0_2:Int):Option (Bool):=(spec_l1In.f a0_0 1 200000).bind fun t114=>(if t114 = true then ((spec_l1In.f a0_1 0 100).bind fun t115=>(if t115 = true then ((spec_l1In.f a0_2 1 100000).bind fun t116=>(some t116)) else (some false))) else (some false))
set_option maxHeartbeats 8000000 in
set_option maxRecDepth 100000 in
theorem spec_l12Rules.calls (a0_0:Int) (a0_1:Int) (a0_2:Int) (r:Bool) (w:World) (h:spec_l12Rules.f a0_0 a0_1 a0_2 = some r) :
  Calls Try.prog 45 #[.agg #[.int .i64 a0_0,.int .i64 a0_1,.int .i64 a0_2]] w fun e w'=>e = .returned (.bool r) ∧ Below w.heap.size w w':=by
 have hu28:=Try.underlying28;have HB:=zM (Below.refl w.heap.size w);have H:((spec_l1In.f a0_0 1 200000).bind fun t114=>(if t114 = true then ((spec_l1In.f a0_1 0 100).bind fun t115=>(if t115 = true then ((spec_l1In.f a0_2 1 100000).bind fun t116=>(some t116)) else (some false))) else (some false))) = some r:=h
 clear h;replace H:=Option.bind_eq_some_iff.mp H;obtain ⟨t114,A20,H⟩:=H;replace H:(if t114 = true then ((spec_l1In.f a0_1 0 100).bind fun t115=>(if t115 = true then ((spec_l1In.f a0_2 1 100000).bind fun t116=>(some t116)) else (some false))) else (some false)) = some r:=H
 have A2:=zM A20;clear A20;by_cases c3:t114 = true
 ·subst c3
  have H1:((spec_l1In.f a0_1 0 100).bind fun t115=>(if t115 = true then ((spec_l1In.f a0_2 1 100000).bind fun t116=>(some t116)) else (some false))) = some r:=by rw [if_pos rfl] at H;exact H
  clear H;have H:=H1;clear H1;replace H:=Option.bind_eq_some_iff.mp H;obtain ⟨t115,A40,H⟩:=H;replace H:(if t115 = true then ((spec_l1In.f a0_2 1 100000).bind fun t116=>(some t116)) else (some false)) = some r:=H
  have A4:=zM A40;clear A40;by_cases c5:t115 = true
  ·subst c5
   have H1:((spec_l1In.f a0_2 1 100000).bind fun t116=>(some t116)) = some r:=by rw [if_pos rfl] at H;exact H
   clear H;have H:=H1;clear H1;replace H:=Option.bind_eq_some_iff.mp H;obtain ⟨t116,A60,H⟩:=H;replace H:(some t116) = some r:=H
   have A6:=zM A60;clear A60;obtain rfl:=Option.some.inj H;go_enter Try.func45,Try.ntmps45
   go_wp2_with (first|((with_reducible refine gate_dst (N:=1) rfl ?_);refine box_event ?hg (N:=1) ?hd (cs := #[.int .i64 a0_0,.int .i64 a0_1,.int .i64 a0_2]) (t:=28) ?hr ?_;(case hd=>rfl);(case hg=>rfl);(case hr=>first|(go_simp;done)|(go_simp;rfl));intro gb113 hg w7 hbox hb;have n0_:=zM (zQ (by repeat (first|(with_reducible first|exact HB.out|apply zD|apply zE|apply zF)|exact HB.out)) hb);have n1_:=zM (hbox);have n2_:=zM ((by rw [hg];exact (zR (by repeat (first|(with_reducible first|exact HB.out|apply zD|apply zE|apply zF)|exact HB.out))):w.heap.size ≤ gb113));have n3_:=zM ((by rw [hg];exact (zR (by repeat (first|(with_reducible first|exact HB.out|apply zD|apply zE|apply zF)|exact HB.out))):w.heap.size ≤ gb113));clear HB;have HB:=n0_;have BK113:=n1_;have GW113:=n2_;have GE113:=n3_;clear n0_ n1_ n2_ n3_;clear hb hbox hg;have hcz8_0:w7.cell? ⟨gb113,0,none⟩ = some (.int .i64 a0_0):=(blk_cell BK113.out 0).trans rfl;have hcz8_1:w7.cell? ⟨gb113,1,none⟩ = some (.int .i64 a0_1):=(blk_cell BK113.out 1).trans rfl;have hcz8_2:w7.cell? ⟨gb113,2,none⟩ = some (.int .i64 a0_2):=(blk_cell BK113.out 2).trans rfl;have hfz8_0:=blk_frozen BK113.out 0;have hfz8_1:=blk_frozen BK113.out 1;have hfz8_2:=blk_frozen BK113.out 2)|((with_reducible refine gate_callee (f:=55) rfl ?_);refine goesL_ (some 5) rfl rfl Try.func55 (by kernel_rfl) rfl #[.int .i64 a0_0,.int .i64 1,.int .i64 200000] rfl (by (try simp only [List.map_toArray,List.map_cons,List.map_nil]);first|done|rfl|(simp only [List.length_drop,List.length_take];rfl)) ?_;(with_reducible refine (spec_l1In.calls a0_0 1 200000 true _ A2.out).mono ?_);rintro e w' ⟨rfl,⟨nd,rfl⟩⟩;refine ⟨_,rfl,?_⟩)|(go_at_call 55;(with_reducible refine (spec_l1In.calls a0_1 0 100 true _ A4.out).mono ?_);rintro e w' ⟨rfl,⟨nd,rfl⟩⟩)|(go_at_call 55;(with_reducible refine (spec_l1In.calls a0_2 1 100000 t116 _ A6.out).mono ?_);rintro e w' ⟨rfl,⟨nd,rfl⟩⟩))
   go_ret
   exact ⟨by first|rfl|(simp [errW_none,errW_some] <;> rfl)|(simp [*,errW_none,errW_some] <;> rfl),by repeat (first|(with_reducible first|exact HB.out|apply zD|apply zE|apply zF|refine below_set ?_ GE113.out)|exact HB.out)⟩
  ·replace c5:=Bool.eq_false_iff.mpr c5
   subst c5;have H1:(some false) = some r:=by rw [if_neg (show ¬ (false = true) by decide)] at H;exact H
   clear H;have H:=H1;clear H1;obtain rfl:=Option.some.inj H;go_enter Try.func45,Try.ntmps45
   go_wp2_with (first|((with_reducible refine gate_dst (N:=1) rfl ?_);refine box_event ?hg (N:=1) ?hd (cs := #[.int .i64 a0_0,.int .i64 a0_1,.int .i64 a0_2]) (t:=28) ?hr ?_;(case hd=>rfl);(case hg=>rfl);(case hr=>first|(go_simp;done)|(go_simp;rfl));intro gb113 hg w9 hbox hb;have n0_:=zM (zQ (by repeat (first|(with_reducible first|exact HB.out|apply zD|apply zE|apply zF)|exact HB.out)) hb);have n1_:=zM (hbox);have n2_:=zM ((by rw [hg];exact (zR (by repeat (first|(with_reducible first|exact HB.out|apply zD|apply zE|apply zF)|exact HB.out))):w.heap.size ≤ gb113));have n3_:=zM ((by rw [hg];exact (zR (by repeat (first|(with_reducible first|exact HB.out|apply zD|apply zE|apply zF)|exact HB.out))):w.heap.size ≤ gb113));clear HB;have HB:=n0_;have BK113:=n1_;have GW113:=n2_;have GE113:=n3_;clear n0_ n1_ n2_ n3_;clear hb hbox hg;have hcz10_0:w9.cell? ⟨gb113,0,none⟩ = some (.int .i64 a0_0):=(blk_cell BK113.out 0).trans rfl;have hcz10_1:w9.cell? ⟨gb113,1,none⟩ = some (.int .i64 a0_1):=(blk_cell BK113.out 1).trans rfl;have hcz10_2:w9.cell? ⟨gb113,2,none⟩ = some (.int .i64 a0_2):=(blk_cell BK113.out 2).trans rfl;have hfz10_0:=blk_frozen BK113.out 0;have hfz10_1:=blk_frozen BK113.out 1;have hfz10_2:=blk_frozen BK113.out 2)|((with_reducible refine gate_callee (f:=55) rfl ?_);refine goesL_ (some 5) rfl rfl Try.func55 (by kernel_rfl) rfl #[.int .i64 a0_0,.int .i64 1,.int .i64 200000] rfl (by (try simp only [List.map_toArray,List.map_cons,List.map_nil]);first|done|rfl|(simp only [List.length_drop,List.length_take];rfl)) ?_;(with_reducible refine (spec_l1In.calls a0_0 1 200000 true _ A2.out).mono ?_);rintro e w' ⟨rfl,⟨nd,rfl⟩⟩;refine ⟨_,rfl,?_⟩)|(go_at_call 55;(with_reducible refine (spec_l1In.calls a0_1 0 100 false _ A4.out).mono ?_);rintro e w' ⟨rfl,⟨nd,rfl⟩⟩))
   go_ret
   exact ⟨by first|rfl|(simp [errW_none,errW_some] <;> rfl)|(simp [*,errW_none,errW_some] <;> rfl),by repeat (first|(with_reducible first|exact HB.out|apply zD|apply zE|apply zF|refine below_set ?_ GE113.out)|exact HB.out)⟩
 ·replace c3:=Bool.eq_false_iff.mpr c3
  subst c3;have H1:(some false) = some r:=by rw [if_neg (show ¬ (false = true) by decide)] at H;exact H
  clear H;have H:=H1;clear H1;obtain rfl:=Option.some.inj H;go_enter Try.func45,Try.ntmps45
  go_wp2_with (first|((with_reducible refine gate_dst (N:=1) rfl ?_);refine box_event ?hg (N:=1) ?hd (cs := #[.int .i64 a0_0,.int .i64 a0_1,.int .i64 a0_2]) (t:=28) ?hr ?_;(case hd=>rfl);(case hg=>rfl);(case hr=>first|(go_simp;done)|(go_simp;rfl));intro gb113 hg w11 hbox hb;have n0_:=zM (zQ (by repeat (first|(with_reducible first|exact HB.out|apply zD|apply zE|apply zF)|exact HB.out)) hb);have n1_:=zM (hbox);have n2_:=zM ((by rw [hg];exact (zR (by repeat (first|(with_reducible first|exact HB.out|apply zD|apply zE|apply zF)|exact HB.out))):w.heap.size ≤ gb113));have n3_:=zM ((by rw [hg];exact (zR (by repeat (first|(with_reducible first|exact HB.out|apply zD|apply zE|apply zF)|exact HB.out))):w.heap.size ≤ gb113));clear HB;have HB:=n0_;have BK113:=n1_;have GW113:=n2_;have GE113:=n3_;clear n0_ n1_ n2_ n3_;clear hb hbox hg;have hcz12_0:w11.cell? ⟨gb113,0,none⟩ = some (.int .i64 a0_0):=(blk_cell BK113.out 0).trans rfl;have hcz12_1:w11.cell? ⟨gb113,1,none⟩ = some (.int .i64 a0_1):=(blk_cell BK113.out 1).trans rfl;have hcz12_2:w11.cell? ⟨gb113,2,none⟩ = some (.int .i64 a0_2):=(blk_cell BK113.out 2).trans rfl;have hfz12_0:=blk_frozen BK113.out 0;have hfz12_1:=blk_frozen BK113.out 1;have hfz12_2:=blk_frozen BK113.out 2)|((with_reducible refine gate_callee (f:=55) rfl ?_);refine goesL_ (some 5) rfl rfl Try.func55 (by kernel_rfl) rfl #[.int .i64 a0_0,.int .i64 1,.int .i64 200000] rfl (by (try simp only [List.map_toArray,List.map_cons,List.map_nil]);first|done|rfl|(simp only [List.length_drop,List.length_take];rfl)) ?_;(with_reducible refine (spec_l1In.calls a0_0 1 200000 false _ A2.out).mono ?_);rintro e w' ⟨rfl,⟨nd,rfl⟩⟩;refine ⟨_,rfl,?_⟩))
  go_ret
  exact ⟨by first|rfl|(simp [errW_none,errW_some] <;> rfl)|(simp [*,errW_none,errW_some] <;> rfl),by repeat (first|(with_reducible first|exact HB.out|apply zD|apply zE|apply zF|refine below_set ?_ GE113.out)|exact HB.out)⟩



/-! ### spec_l12Sum: function 51 -/
def spec_l12Sum.l0:Nat → List Int → Int → Int → Option (Int)
 | 0,_,_,_=>none
 | k + 1,x0,x5,x6=>if x6 < (x0.length:Int) then (if 0 ≤ x6 then (spec_l12Sum.l0 k x0 (wrap64 (x5 + (rd x0 x6))) (wrap64 (x6 + 1))) else (none)) else (some x5)
def spec_l12Sum.f (k:Nat) (l0:List Int) (a1:Int):Option (Int):=spec_l12Sum.l0 k l0 0 a1
set_option maxHeartbeats 8000000 in
set_option maxRecDepth 100000 in
theorem spec_l12Sum.calls (k:Nat) (A0:Option Addr) (c0:Nat) (l0:List Int) (a1:Int) (r:Int) (w:World) (hr0:Kd.C (Kd.int .i64) w A0 l0.length l0) (hc0:l0.length ≤ c0) (h:spec_l12Sum.f k l0 a1 = some r) :
  Calls Try.prog 51 #[.slice A0 l0.length c0,.int .i64 a1] w fun e w'=>e = .returned (.int .i64 r) ∧ Drawn0 w w':=by
 have HR0:=zM hr0;have HC0:=zM hc0;clear hr0 hc0;have H:(spec_l12Sum.l0 k l0 0 a1) = some r:=h
 clear h;have H':=zM H;clear H;go_enter Try.func51,Try.ntmps51
 go_wp2
 go_loopg [5,6] k (fun kq v5 v6 w' => ∃ (x5_1:Int) (x6_1:Int),v5 = .int .i64 x5_1 ∧ v6 = .int .i64 x6_1 ∧ Aside0 (spec_l12Sum.l0 kq l0 x5_1 x6_1 = some r) ∧ Aside0 (kq ≤ k) ∧ Drawn0 w w')
 case atStart=>exact ⟨(0),(a1),(by first|rfl|(simp;done)|(simp [*];done)),(by first|rfl|(simp;done)|(simp [*];done)),H',⟨Nat.le_refl _⟩,by repeat (first|exact Drawn0.refl _|apply Drawn0.step)⟩
 case round =>
  clear H';(try clear p2);obtain ⟨x5_1,x6_1,rfl,rfl,HA,HK1,⟨m1,rfl⟩⟩:=hrel;cases gk with
  | zero=>exact absurd HA.out (by simp [spec_l12Sum.l0])
  | succ k1 =>
   have H:=HA.out;clear HA;simp only [spec_l12Sum.l0] at H
   by_cases c3:x6_1 < (l0.length:Int)
   ·rw [if_pos c3] at H
    have c3b0:decide (x6_1 < (l0.length:Int)) = true:=decide_eq_true c3
    clear c3;by_cases c4:0 ≤ x6_1
    ·rw [if_pos c4] at H
     have c4b0:decide (0 ≤ x6_1) = true:=decide_eq_true c4
     clear c4;have H':=zM H;clear H;have p117:0 ≤ (x6_1:Int):=of_decide_eq_true (by first|(with_reducible assumption)|assumption)
     have q117:x6_1 < (l0.length:Int):=of_decide_eq_true (by first|(with_reducible assumption)|assumption)
     obtain ⟨ad117,e117,hx117_0⟩:=Kd.at_int HR0.out x6_1 p117 q117;cases e117
     replace p117:=eq_true p117;replace q117:=eq_true q117;go_wp2
     go_roundg k1
     case measure=>have:=HK1.out;omega
     case rel=>exact ⟨(wrap64 (x5_1 + (rd l0 x6_1))),(wrap64 (x6_1 + 1)),(by first|rfl|(simp;done)|(simp [*];done)),(by first|rfl|(simp;done)|(simp [*];done)),H',⟨by have:=HK1.out;omega⟩,by repeat (first|exact Drawn0.refl _|apply Drawn0.step)⟩
    ·rw [if_neg c4] at H
     exact absurd H (by simp)
   ·rw [if_neg c3] at H
    have c3b0:decide (x6_1 < (l0.length:Int)) = false:=decide_eq_false c3
    clear c3;obtain rfl:=Option.some.inj H;go_wp2
    go_ret
    exact ⟨by first|rfl|(simp;done)|(simp [*];done),by repeat (first|exact Drawn0.refl _|apply Drawn0.step)⟩



/-! ### spec_l12Forces: function 46 -/
def spec_l12Forces.l0:Nat → List Int → Int → List Int → Int → Option (List Int)
 | 0,_,_,_,_=>none
 | k + 1,x0,x1,x5,x6=>if x6 < (x0.length:Int) then ((spec_l12Sum.f k x0 x6).bind fun t121=>(if x5.length < 17592186044416 then (spec_l12Forces.l0 k x0 x1 (x5 ++ [wrap64 (Int.tdiv (wrap64 ((wrap64 (t121 * x1)) + 99)) 100)]) (wrap64 (x6 + 1))) else (none))) else (some x5)
def spec_l12Forces.f (k:Nat) (l0:List Int) (a1:Int):Option (List Int):=spec_l12Forces.l0 k l0 a1 (([]:List Int)) 0
set_option maxHeartbeats 8000000 in
set_option maxRecDepth 100000 in
theorem spec_l12Forces.calls (k:Nat) (A0:Option Addr) (c0:Nat) (l0:List Int) (a1:Int) (r:List Int) (w:World) (hr0:Kd.C (Kd.int .i64) w A0 l0.length l0) (hc0:l0.length ≤ c0) (h:spec_l12Forces.f k l0 a1 = some r) :
  Calls Try.prog 46 #[.slice A0 l0.length c0,.int .i64 a1] w fun e w' => ∃ v0_:Value,e = .returned (v0_) ∧ Kd.R (Kd.int .i64) 3 w' w.heap.size (fun _=>True) v0_ r ∧ Below w.heap.size w w':=by
 have HR0:=zM hr0;have HC0:=zM hc0;clear hr0 hc0;have HB:=zM (Below.refl w.heap.size w);have H:(spec_l12Forces.l0 k l0 a1 (([]:List Int)) 0) = some r:=h
 clear h;obtain ⟨y118,hy118⟩ : ∃ y_:List Int,y_ = (([]:List Int)):=⟨_,rfl⟩
 replace H:(spec_l12Forces.l0 k l0 a1 y118 0) = some r:=by first|(rw [hy118];with_reducible exact H)|(have H2_:=(Option.bind_some _ _).symm.trans H;rw [hy118];with_reducible exact H2_)|(have H2_:=(Option.bind_some _ _).symm.trans H;with_reducible exact H2_)|with_reducible exact H|(rw [hy118];exact H)|exact H
 have Ny118:=zM hy118;clear hy118;have H':=zM H;clear H;go_enter Try.func46,Try.ntmps46
 go_wp2_with (first|((with_reducible refine gate_dst (N:=7) rfl ?_);refine Kd.R_lit (Kd.int .i64) _ 3 ?hg (N:=7) ?hd (xs:=([]:List Int)) (inner:=[]) (ok:=fun _=>True) (okp:=fun _=>True) ?hr ?hp (fun _ hk=>hk) trivial (Below.refl _ _) (Nat.le_refl _) (by simp) ?_;(case hd=>rfl);(case hg=>rfl);(case hr=>first|(go_simp;done)|(go_simp;rfl));(case hp=>exact (Reps.none _ _));intro v119 w3 ho4 hb hg_ hnew_;clear hg_ hnew_;(first|rw [← Ny118.out] at ho4|(simp only [Int.reduceToNat] at ho4;rw [← Ny118.out] at ho4));have n0_:=zM (Kd.R_lower ho4 (zR (by repeat (first|(with_reducible first|exact HB.out|apply zD|apply zE|apply zF)|exact HB.out))));have n1_:=zM (zQ (by repeat (first|(with_reducible first|exact HB.out|apply zD|apply zE|apply zF)|exact HB.out)) hb);clear HB;have HO120:=n0_;have HB:=n1_;clear n0_ n1_;clear hb ho4))
 go_loopg [5,6] k (fun kq v5 v6 w' => ∃ (x5_1:List Int) (x6_1:Int),v6 = .int .i64 x6_1 ∧ Aside0 (spec_l12Forces.l0 kq l0 a1 x5_1 x6_1 = some r) ∧ Aside0 (kq ≤ k) ∧ Aside0 (Kd.R (Kd.int .i64) 3 w' w.heap.size (fun _=>True) v5 x5_1) ∧ Aside0 (Below w.heap.size w w'))
 case atStart=>exact ⟨(y118),(0),(by first|rfl|(simp;done)|(simp [*];done)),H',⟨Nat.le_refl _⟩,⟨by (with_reducible repeat (first|apply zA|apply zB|apply zC));exact HO120.out⟩,⟨by repeat (first|(with_reducible first|exact HB.out|apply zD|apply zE|apply zF)|exact HB.out)⟩⟩
 case round =>
  clear H';(try clear p2);(try clear c4);obtain ⟨x5_1,x6_1,rfl,HA,HK1,HO_5,HB⟩:=hrel;cases gk with
  | zero=>exact absurd HA.out (by simp [spec_l12Forces.l0])
  | succ k1 =>
   have H:=HA.out;clear HA;simp only [spec_l12Forces.l0] at H
   by_cases c5:x6_1 < (l0.length:Int)
   ·rw [if_pos c5] at H
    have c5b0:decide (x6_1 < (l0.length:Int)) = true:=decide_eq_true c5
    clear c5;replace H:=Option.bind_eq_some_iff.mp H;obtain ⟨t121,A60,H⟩:=H;replace H:(if x5_1.length < 17592186044416 then (spec_l12Forces.l0 k1 l0 a1 (x5_1 ++ [wrap64 (Int.tdiv (wrap64 ((wrap64 (t121 * a1)) + 99)) 100)]) (wrap64 (x6_1 + 1))) else (none)) = some r:=H
    have A6:=zM A60;clear A60;by_cases c7:x5_1.length < 17592186044416
    ·rw [if_pos c7] at H
     have LMc7:=zM c7;clear c7;obtain ⟨y122,hy122⟩ : ∃ y_:List Int,y_ = (x5_1 ++ [wrap64 (Int.tdiv (wrap64 ((wrap64 (t121 * a1)) + 99)) 100)]):=⟨_,rfl⟩
     replace H:(spec_l12Forces.l0 k1 l0 a1 y122 (wrap64 (x6_1 + 1))) = some r:=by first|(rw [hy122];with_reducible exact H)|(have H2_:=(Option.bind_some _ _).symm.trans H;rw [hy122];with_reducible exact H2_)|(have H2_:=(Option.bind_some _ _).symm.trans H;with_reducible exact H2_)|with_reducible exact H|(rw [hy122];exact H)|exact H
     have Ny122:=zM hy122;clear hy122;have H':=zM H;clear H;go_wp2_with (first|((with_reducible refine gate_callee (f:=51) rfl ?_);refine goesL_ (some 17) rfl rfl Try.func51 (by kernel_rfl) rfl #[.slice A0 l0.length c0,.int .i64 x6_1] rfl (by (try simp only [List.map_toArray,List.map_cons,List.map_nil]);first|done|rfl|(simp only [List.length_drop,List.length_take];rfl)) ?_;(with_reducible refine (spec_l12Sum.calls k1 _ _ l0 x6_1 t121 _ ?side1 ?side2 A6.out).mono ?_);(case side1=>repeat (first|exact (zO HR0.out HB.out)|(with_reducible first|refine zG ?_ _|refine zH ?_ _|refine zI ?_)));(case side2=>exact HC0.out);rintro e w' ⟨rfl,⟨nd,rfl⟩⟩;refine ⟨_,rfl,?_⟩)|((with_reducible refine gate_builtin (b := .append) (xs := #[.tmp 14,.tmp 22]) rfl ?_);at_builtin;refine Kd.R_append (Kd.int .i64) (w0:=w) w.heap.size rfl (.tmp 14) (.tmp 22) 22 3 (.int .i64 0) 8 rfl Try.underlying22 info3 rfl (by decide) (by omega) u5 x5_1 (wrap64 (Int.tdiv (wrap64 ((wrap64 (t121 * a1)) + 99)) 100)) [.int .i64 (wrap64 (Int.tdiv (wrap64 ((wrap64 (t121 * a1)) + 99)) 100))] (fun _=>True) (fun _=>False) rfl rfl ?aP (fun _ hk=>hk.elim) ?aF ?aO ?aB ?aS ?aL ?_;(case aP=>exact rfl);(case aB=>exact (by repeat (first|(with_reducible first|exact HB.out|apply zD|apply zE|apply zF)|exact HB.out)));(case aF=>exact (fun _ _=>trivial));(case aO=>exact (by (with_reducible repeat (first|apply zA|apply zB|apply zC));exact HO_5.out));(case aS=>exact (zR (by repeat (first|(with_reducible first|exact HB.out|apply zD|apply zE|apply zF)|exact HB.out))));(case aL=>have:=LMc7.out;omega);intro v123 w8 ho hb hg hat;rw [← Ny122.out] at ho;have n0_:=zM (hb);have n1_:=zM (ho);clear HB;clear HO_5;have HB:=n0_;have HO124:=n1_;clear n0_ n1_;clear ho hb hg hat))
     go_roundg k1
     case measure=>have:=HK1.out;omega
     case rel=>exact ⟨(y122),(wrap64 (x6_1 + 1)),(by first|rfl|(simp;done)|(simp [*];done)),H',⟨by have:=HK1.out;omega⟩,⟨by (with_reducible repeat (first|apply zA|apply zB|apply zC));exact HO124.out⟩,⟨by repeat (first|(with_reducible first|exact HB.out|apply zD|apply zE|apply zF)|exact HB.out)⟩⟩
    ·rw [if_neg c7] at H
     exact absurd H (by simp)
   ·rw [if_neg c5] at H
    have c5b0:decide (x6_1 < (l0.length:Int)) = false:=decide_eq_false c5
    clear c5;obtain rfl:=Option.some.inj H;go_wp2
    go_ret
    exact ⟨_,by first|rfl|(simp [errW_none,errW_some] <;> rfl)|(simp [*,errW_none,errW_some] <;> rfl),by (with_reducible repeat (first|apply zA|apply zB|apply zC));exact HO_5.out,by repeat (first|(with_reducible first|exact HB.out|apply zD|apply zE|apply zF)|exact HB.out)⟩



/-! ### spec_LashingsNeeded: function 19 -/
mutual
def spec_LashingsNeeded.j0:Nat → List Int → List Int → Bool → Int → Int → Int → Option (List Int × Bool)
 | 0,_,_,_,_,_,_=>none
 | k + 1,x0,x6,x18,x216000,x216001,x216002=>if x18 = true then (some (x6,false)) else ((spec_l12Forces.f k x0 x216001).bind fun t221=>(spec_LashingsNeeded.l0 k x6 t221 0 x216000 x216001 x216002))
def spec_LashingsNeeded.l0:Nat → List Int → List Int → Int → Int → Int → Int → Option (List Int × Bool)
 | 0,_,_,_,_,_,_=>none
 | k + 1,x6,x7,x8,x216000,x216001,x216002=>if x8 < (x7.length:Int) then (if 0 ≤ x8 then (if x216002 = 0 then (none) else (if (wrap64 (Int.tdiv (wrap64 ((wrap64 ((rd x7 x8) + x216002)) - 1)) x216002)) > 4 then (some ((([]:List Int)),false)) else (if x6.length < 17592186044416 then (spec_LashingsNeeded.l0 k (x6 ++ [wrap64 (Int.tdiv (wrap64 ((wrap64 ((rd x7 x8) + x216002)) - 1)) x216002)]) x7 (wrap64 (x8 + 1)) x216000 x216001 x216002) else (none)))) else (none)) else (some (x6,true))
end
def spec_LashingsNeeded.f (k:Nat) (l0:List Int) (a1_0:Int) (a1_1:Int) (a1_2:Int):Option (List Int × Bool):=(some (([]:List Int):List Int)).bind fun y216=>((spec_l12Good.f k l0).bind fun t219=>(if t219 = true then ((spec_l12Rules.f a1_0 a1_1 a1_2).bind fun t220=>(spec_LashingsNeeded.j0 k l0 y216 (!t220) a1_0 a1_1 a1_2)) else (spec_LashingsNeeded.j0 k l0 y216 true a1_0 a1_1 a1_2)))
set_option maxHeartbeats 8000000 in
set_option maxRecDepth 100000 in
theorem spec_LashingsNeeded.calls (k:Nat) (A0:Option Addr) (c0:Nat) (l0:List Int) (a1_0:Int) (a1_1:Int) (a1_2:Int) (r1:List Int) (r2:Bool) (w:World) (hr0:Kd.C (Kd.int .i64) w A0 l0.length l0) (hc0:l0.length ≤ c0) (h:spec_LashingsNeeded.f k l0 a1_0 a1_1 a1_2 = some (r1,r2)) :
  Calls Try.prog 19 #[.slice A0 l0.length c0,.agg #[.int .i64 a1_0,.int .i64 a1_1,.int .i64 a1_2]] w fun e w' => ∃ v0_:Value,e = .returned (.tuple #[v0_,.bool r2]) ∧ Kd.R (Kd.int .i64) 3 w' w.heap.size (fun _=>True) v0_ r1 ∧ Below w.heap.size w w':=by
 have hu28:=Try.underlying28;have HR0:=zM hr0;have HC0:=zM hc0;clear hr0 hc0;have HB:=zM (Below.refl w.heap.size w);have H:((some (([]:List Int):List Int)).bind fun y216=>((spec_l12Good.f k l0).bind fun t219=>(if t219 = true then ((spec_l12Rules.f a1_0 a1_1 a1_2).bind fun t220=>(spec_LashingsNeeded.j0 k l0 y216 (!t220) a1_0 a1_1 a1_2)) else (spec_LashingsNeeded.j0 k l0 y216 true a1_0 a1_1 a1_2)))) = some (r1,r2):=h
 clear h;obtain ⟨y216,hy216⟩ : ∃ y_:List Int,y_ = (([]:List Int)):=⟨_,rfl⟩
 replace H:((spec_l12Good.f k l0).bind fun t219=>(if t219 = true then ((spec_l12Rules.f a1_0 a1_1 a1_2).bind fun t220=>(spec_LashingsNeeded.j0 k l0 y216 (!t220) a1_0 a1_1 a1_2)) else (spec_LashingsNeeded.j0 k l0 y216 true a1_0 a1_1 a1_2))) = some (r1,r2):=by first|(rw [hy216];with_reducible exact H)|(have H2_:=(Option.bind_some _ _).symm.trans H;rw [hy216];with_reducible exact H2_)|(have H2_:=(Option.bind_some _ _).symm.trans H;with_reducible exact H2_)|with_reducible exact H|(rw [hy216];exact H)|exact H
 have Ny216:=zM hy216;clear hy216;have HC3:=zM H;clear H;go_enter Try.func19,Try.ntmps19
 go_upto_region 2 with (first|((with_reducible refine gate_dst (N:=3) rfl ?_);refine box_event ?hg (N:=3) ?hd (cs := #[.int .i64 a1_0,.int .i64 a1_1,.int .i64 a1_2]) (t:=28) ?hr ?_;(case hd=>rfl);(case hg=>rfl);(case hr=>first|(go_simp;done)|(go_simp;rfl));intro gb215 hg w4 hbox hb;have n0_:=zM (zQ (by repeat (first|(with_reducible first|exact HB.out|apply zD|apply zE|apply zF)|exact HB.out)) hb);have n1_:=zM (hbox);have n2_:=zM ((by rw [hg];exact (zR (by repeat (first|(with_reducible first|exact HB.out|apply zD|apply zE|apply zF)|exact HB.out))):w.heap.size ≤ gb215));have n3_:=zM ((by rw [hg];exact (zR (by repeat (first|(with_reducible first|exact HB.out|apply zD|apply zE|apply zF)|exact HB.out))):w.heap.size ≤ gb215));clear HB;have HB:=n0_;have BK215:=n1_;have GW215:=n2_;have GE215:=n3_;clear n0_ n1_ n2_ n3_;clear hb hbox hg)|((with_reducible refine gate_dst (N:=10) rfl ?_);refine Kd.R_lit (Kd.int .i64) _ 3 ?hg (N:=10) ?hd (xs:=([]:List Int)) (inner:=[]) (ok:=fun _=>True) (okp:=fun _=>True) ?hr ?hp (fun _ hk=>hk) trivial (Below.refl _ _) (Nat.le_refl _) (by simp) ?_;(case hd=>rfl);(case hg=>rfl);(case hr=>first|(go_simp;done)|(go_simp;rfl));(case hp=>exact (Reps.none _ _));intro v217 w5 ho6 hb hg_ hnew_;clear hg_ hnew_;(first|rw [← Ny216.out] at ho6|(simp only [Int.reduceToNat] at ho6;rw [← Ny216.out] at ho6));have n0_:=zM (Kd.R_lower ho6 (zR (by repeat (first|(with_reducible first|exact HB.out|apply zD|apply zE|apply zF|refine below_set ?_ GE215.out)|exact HB.out))));have n1_:=zM (blk_below (g:=gb215) (o := .cells #[.int .i64 a1_0,.int .i64 a1_1,.int .i64 a1_2] 28 (0,0)) (by (with_reducible repeat (first|refine zJ ?_ _|refine zK ?_|refine zL ?_ _));exact BK215.out) hb);have n2_:=zM (zQ (by repeat (first|(with_reducible first|exact HB.out|apply zD|apply zE|apply zF|refine below_set ?_ GE215.out)|exact HB.out)) hb);clear BK215;clear HB;have HO218:=n0_;have BK215:=n1_;have HB:=n2_;clear n0_ n1_ n2_;clear hb ho6))
 repeat (go_quiet (first|((with_reducible refine gate_dst (N:=3) rfl ?_);refine box_event ?hg (N:=3) ?hd (cs := #[.int .i64 a1_0,.int .i64 a1_1,.int .i64 a1_2]) (t:=28) ?hr ?_;(case hd=>rfl);(case hg=>rfl);(case hr=>first|(go_simp;done)|(go_simp;rfl));intro gb215 hg w4 hbox hb;have n0_:=zM (zQ (by repeat (first|(with_reducible first|exact HB.out|apply zD|apply zE|apply zF)|exact HB.out)) hb);have n1_:=zM (hbox);have n2_:=zM ((by rw [hg];exact (zR (by repeat (first|(with_reducible first|exact HB.out|apply zD|apply zE|apply zF)|exact HB.out))):w.heap.size ≤ gb215));have n3_:=zM ((by rw [hg];exact (zR (by repeat (first|(with_reducible first|exact HB.out|apply zD|apply zE|apply zF)|exact HB.out))):w.heap.size ≤ gb215));clear HB;have HB:=n0_;have BK215:=n1_;have GW215:=n2_;have GE215:=n3_;clear n0_ n1_ n2_ n3_;clear hb hbox hg)|((with_reducible refine gate_dst (N:=10) rfl ?_);refine Kd.R_lit (Kd.int .i64) _ 3 ?hg (N:=10) ?hd (xs:=([]:List Int)) (inner:=[]) (ok:=fun _=>True) (okp:=fun _=>True) ?hr ?hp (fun _ hk=>hk) trivial (Below.refl _ _) (Nat.le_refl _) (by simp) ?_;(case hd=>rfl);(case hg=>rfl);(case hr=>first|(go_simp;done)|(go_simp;rfl));(case hp=>exact (Reps.none _ _));intro v217 w5 ho6 hb hg_ hnew_;clear hg_ hnew_;(first|rw [← Ny216.out] at ho6|(simp only [Int.reduceToNat] at ho6;rw [← Ny216.out] at ho6));have n0_:=zM (Kd.R_lower ho6 (zR (by repeat (first|(with_reducible first|exact HB.out|apply zD|apply zE|apply zF|refine below_set ?_ GE215.out)|exact HB.out))));have n1_:=zM (blk_below (g:=gb215) (o := .cells #[.int .i64 a1_0,.int .i64 a1_1,.int .i64 a1_2] 28 (0,0)) (by (with_reducible repeat (first|refine zJ ?_ _|refine zK ?_|refine zL ?_ _));exact BK215.out) hb);have n2_:=zM (zQ (by repeat (first|(with_reducible first|exact HB.out|apply zD|apply zE|apply zF|refine below_set ?_ GE215.out)|exact HB.out)) hb);clear BK215;clear HB;have HO218:=n0_;have BK215:=n1_;have HB:=n2_;clear n0_ n1_ n2_;clear hb ho6));go_upto_region 2 with (first|((with_reducible refine gate_dst (N:=3) rfl ?_);refine box_event ?hg (N:=3) ?hd (cs := #[.int .i64 a1_0,.int .i64 a1_1,.int .i64 a1_2]) (t:=28) ?hr ?_;(case hd=>rfl);(case hg=>rfl);(case hr=>first|(go_simp;done)|(go_simp;rfl));intro gb215 hg w4 hbox hb;have n0_:=zM (zQ (by repeat (first|(with_reducible first|exact HB.out|apply zD|apply zE|apply zF)|exact HB.out)) hb);have n1_:=zM (hbox);have n2_:=zM ((by rw [hg];exact (zR (by repeat (first|(with_reducible first|exact HB.out|apply zD|apply zE|apply zF)|exact HB.out))):w.heap.size ≤ gb215));have n3_:=zM ((by rw [hg];exact (zR (by repeat (first|(with_reducible first|exact HB.out|apply zD|apply zE|apply zF)|exact HB.out))):w.heap.size ≤ gb215));clear HB;have HB:=n0_;have BK215:=n1_;have GW215:=n2_;have GE215:=n3_;clear n0_ n1_ n2_ n3_;clear hb hbox hg)|((with_reducible refine gate_dst (N:=10) rfl ?_);refine Kd.R_lit (Kd.int .i64) _ 3 ?hg (N:=10) ?hd (xs:=([]:List Int)) (inner:=[]) (ok:=fun _=>True) (okp:=fun _=>True) ?hr ?hp (fun _ hk=>hk) trivial (Below.refl _ _) (Nat.le_refl _) (by simp) ?_;(case hd=>rfl);(case hg=>rfl);(case hr=>first|(go_simp;done)|(go_simp;rfl));(case hp=>exact (Reps.none _ _));intro v217 w5 ho6 hb hg_ hnew_;clear hg_ hnew_;(first|rw [← Ny216.out] at ho6|(simp only [Int.reduceToNat] at ho6;rw [← Ny216.out] at ho6));have n0_:=zM (Kd.R_lower ho6 (zR (by repeat (first|(with_reducible first|exact HB.out|apply zD|apply zE|apply zF|refine below_set ?_ GE215.out)|exact HB.out))));have n1_:=zM (blk_below (g:=gb215) (o := .cells #[.int .i64 a1_0,.int .i64 a1_1,.int .i64 a1_2] 28 (0,0)) (by (with_reducible repeat (first|refine zJ ?_ _|refine zK ?_|refine zL ?_ _));exact BK215.out) hb);have n2_:=zM (zQ (by repeat (first|(with_reducible first|exact HB.out|apply zD|apply zE|apply zF|refine below_set ?_ GE215.out)|exact HB.out)) hb);clear BK215;clear HB;have HO218:=n0_;have BK215:=n1_;have HB:=n2_;clear n0_ n1_ n2_;clear hb ho6)))
 (try simp only [Act.put,zT,zU,zV])
 go_cut [18] (fun v18 wc => ∃ (kq:Nat) (x18_2:Bool),v18 = .bool x18_2 ∧ Aside0 (spec_LashingsNeeded.j0 kq l0 y216 x18_2 a1_0 a1_1 a1_2 = some (r1,r2)) ∧ Aside0 (kq ≤ k) ∧ Aside0 (Kd.R (Kd.int .i64) 3 wc w.heap.size (fun _=>True) v217 y216) ∧ Aside0 (wc.heap[gb215]? = some (.cells #[.int .i64 a1_0,.int .i64 a1_1,.int .i64 a1_2] 28 (0,0))) ∧ Aside0 (Below w.heap.size w wc))
 case first =>
  have H:=HC3.out;clear HC3;replace H:=Option.bind_eq_some_iff.mp H;obtain ⟨t219,A70,H⟩:=H;replace H:(if t219 = true then ((spec_l12Rules.f a1_0 a1_1 a1_2).bind fun t220=>(spec_LashingsNeeded.j0 k l0 y216 (!t220) a1_0 a1_1 a1_2)) else (spec_LashingsNeeded.j0 k l0 y216 true a1_0 a1_1 a1_2)) = some (r1,r2):=H
  have A7:=zM A70;clear A70;by_cases c8:t219 = true
  ·subst c8
   have H1:((spec_l12Rules.f a1_0 a1_1 a1_2).bind fun t220=>(spec_LashingsNeeded.j0 k l0 y216 (!t220) a1_0 a1_1 a1_2)) = some (r1,r2):=by rw [if_pos rfl] at H;exact H
   clear H;have H:=H1;clear H1;replace H:=Option.bind_eq_some_iff.mp H;obtain ⟨t220,A90,H⟩:=H;replace H:(spec_LashingsNeeded.j0 k l0 y216 (!t220) a1_0 a1_1 a1_2) = some (r1,r2):=H
   have A9:=zM A90;clear A90;have H':=zM H;clear H;go_wp2_with (first|(go_at_call 44;(with_reducible refine (spec_l12Good.calls k _ _ l0 true _ ?side1 ?side2 A7.out).mono ?_);(case side1=>repeat (first|exact (zO HR0.out HB.out)|(with_reducible first|refine zG ?_ _|refine zH ?_ _|refine zI ?_)));(case side2=>exact HC0.out);rintro e w' ⟨rfl,⟨nd,rfl⟩⟩;(try first|exact ⟨rfl,_,World.drewN_drewN _ _ _⟩|exact ⟨rfl,_,zW _ _ _ _⟩);have hcz10_0:w5.cell? ⟨gb215,0,none⟩ = some (.int .i64 a1_0):=(blk_cell BK215.out 0).trans rfl;have hcz10_1:w5.cell? ⟨gb215,1,none⟩ = some (.int .i64 a1_1):=(blk_cell BK215.out 1).trans rfl;have hcz10_2:w5.cell? ⟨gb215,2,none⟩ = some (.int .i64 a1_2):=(blk_cell BK215.out 2).trans rfl;have hfz10_0:=blk_frozen BK215.out 0;have hfz10_1:=blk_frozen BK215.out 1;have hfz10_2:=blk_frozen BK215.out 2)|(go_at_call 45;(with_reducible refine (spec_l12Rules.calls a1_0 a1_1 a1_2 t220 _ A9.out).mono ?_);rintro e w11 ⟨rfl,hb⟩;have n0_:=zM (zP (by (with_reducible repeat (first|apply zA|apply zB|apply zC));exact HO218.out) hb);have n1_:=zM (blk_below (g:=gb215) (o := .cells #[.int .i64 a1_0,.int .i64 a1_1,.int .i64 a1_2] 28 (0,0)) (by (with_reducible repeat (first|refine zJ ?_ _|refine zK ?_|refine zL ?_ _));exact BK215.out) hb);have n2_:=zM (zQ (by repeat (first|(with_reducible first|exact HB.out|apply zD|apply zE|apply zF|refine below_set ?_ GE215.out)|exact HB.out)) hb);clear HO218;clear BK215;clear HB;have HO218:=n0_;have BK215:=n1_;have HB:=n2_;clear n0_ n1_ n2_;(try clear hb);(try clear hb2);(try clear hk);(try clear hi)))
   repeat (go_quiet (first|(go_at_call 44;(with_reducible refine (spec_l12Good.calls k _ _ l0 true _ ?side1 ?side2 A7.out).mono ?_);(case side1=>repeat (first|exact (zO HR0.out HB.out)|(with_reducible first|refine zG ?_ _|refine zH ?_ _|refine zI ?_)));(case side2=>exact HC0.out);rintro e w' ⟨rfl,⟨nd,rfl⟩⟩;(try first|exact ⟨rfl,_,World.drewN_drewN _ _ _⟩|exact ⟨rfl,_,zW _ _ _ _⟩);have hcz10_0:w5.cell? ⟨gb215,0,none⟩ = some (.int .i64 a1_0):=(blk_cell BK215.out 0).trans rfl;have hcz10_1:w5.cell? ⟨gb215,1,none⟩ = some (.int .i64 a1_1):=(blk_cell BK215.out 1).trans rfl;have hcz10_2:w5.cell? ⟨gb215,2,none⟩ = some (.int .i64 a1_2):=(blk_cell BK215.out 2).trans rfl;have hfz10_0:=blk_frozen BK215.out 0;have hfz10_1:=blk_frozen BK215.out 1;have hfz10_2:=blk_frozen BK215.out 2)|(go_at_call 45;(with_reducible refine (spec_l12Rules.calls a1_0 a1_1 a1_2 t220 _ A9.out).mono ?_);rintro e w11 ⟨rfl,hb⟩;have n0_:=zM (zP (by (with_reducible repeat (first|apply zA|apply zB|apply zC));exact HO218.out) hb);have n1_:=zM (blk_below (g:=gb215) (o := .cells #[.int .i64 a1_0,.int .i64 a1_1,.int .i64 a1_2] 28 (0,0)) (by (with_reducible repeat (first|refine zJ ?_ _|refine zK ?_|refine zL ?_ _));exact BK215.out) hb);have n2_:=zM (zQ (by repeat (first|(with_reducible first|exact HB.out|apply zD|apply zE|apply zF|refine below_set ?_ GE215.out)|exact HB.out)) hb);clear HO218;clear BK215;clear HB;have HO218:=n0_;have BK215:=n1_;have HB:=n2_;clear n0_ n1_ n2_;(try clear hb);(try clear hb2);(try clear hk);(try clear hi)));try go_wp2_with (first|(go_at_call 44;(with_reducible refine (spec_l12Good.calls k _ _ l0 true _ ?side1 ?side2 A7.out).mono ?_);(case side1=>repeat (first|exact (zO HR0.out HB.out)|(with_reducible first|refine zG ?_ _|refine zH ?_ _|refine zI ?_)));(case side2=>exact HC0.out);rintro e w' ⟨rfl,⟨nd,rfl⟩⟩;(try first|exact ⟨rfl,_,World.drewN_drewN _ _ _⟩|exact ⟨rfl,_,zW _ _ _ _⟩);have hcz10_0:w5.cell? ⟨gb215,0,none⟩ = some (.int .i64 a1_0):=(blk_cell BK215.out 0).trans rfl;have hcz10_1:w5.cell? ⟨gb215,1,none⟩ = some (.int .i64 a1_1):=(blk_cell BK215.out 1).trans rfl;have hcz10_2:w5.cell? ⟨gb215,2,none⟩ = some (.int .i64 a1_2):=(blk_cell BK215.out 2).trans rfl;have hfz10_0:=blk_frozen BK215.out 0;have hfz10_1:=blk_frozen BK215.out 1;have hfz10_2:=blk_frozen BK215.out 2)|(go_at_call 45;(with_reducible refine (spec_l12Rules.calls a1_0 a1_1 a1_2 t220 _ A9.out).mono ?_);rintro e w11 ⟨rfl,hb⟩;have n0_:=zM (zP (by (with_reducible repeat (first|apply zA|apply zB|apply zC));exact HO218.out) hb);have n1_:=zM (blk_below (g:=gb215) (o := .cells #[.int .i64 a1_0,.int .i64 a1_1,.int .i64 a1_2] 28 (0,0)) (by (with_reducible repeat (first|refine zJ ?_ _|refine zK ?_|refine zL ?_ _));exact BK215.out) hb);have n2_:=zM (zQ (by repeat (first|(with_reducible first|exact HB.out|apply zD|apply zE|apply zF|refine below_set ?_ GE215.out)|exact HB.out)) hb);clear HO218;clear BK215;clear HB;have HO218:=n0_;have BK215:=n1_;have HB:=n2_;clear n0_ n1_ n2_;(try clear hb);(try clear hb2);(try clear hk);(try clear hi))))
   go_meet
   case rel=>exact ⟨_,(!t220),(by first|rfl|(simp;done)|(simp [*];done)),H',⟨by first|omega|exact Nat.le_refl _⟩,⟨by (with_reducible repeat (first|apply zA|apply zB|apply zC));exact HO218.out⟩,⟨by (with_reducible repeat (first|refine zJ ?_ _|refine zK ?_|refine zL ?_ _));exact BK215.out⟩,⟨by repeat (first|(with_reducible first|exact HB.out|apply zD|apply zE|apply zF|refine below_set ?_ GE215.out)|exact HB.out)⟩⟩
  ·replace c8:=Bool.eq_false_iff.mpr c8
   subst c8;have H1:(spec_LashingsNeeded.j0 k l0 y216 true a1_0 a1_1 a1_2) = some (r1,r2):=by rw [if_neg (show ¬ (false = true) by decide)] at H;exact H
   clear H;have H:=H1;clear H1;have H':=zM H;clear H;go_wp2_with (first|(go_at_call 44;(with_reducible refine (spec_l12Good.calls k _ _ l0 false _ ?side1 ?side2 A7.out).mono ?_);(case side1=>repeat (first|exact (zO HR0.out HB.out)|(with_reducible first|refine zG ?_ _|refine zH ?_ _|refine zI ?_)));(case side2=>exact HC0.out);rintro e w' ⟨rfl,⟨nd,rfl⟩⟩;(try first|exact ⟨rfl,_,World.drewN_drewN _ _ _⟩|exact ⟨rfl,_,zW _ _ _ _⟩)))
   repeat (go_quiet (first|(go_at_call 44;(with_reducible refine (spec_l12Good.calls k _ _ l0 false _ ?side1 ?side2 A7.out).mono ?_);(case side1=>repeat (first|exact (zO HR0.out HB.out)|(with_reducible first|refine zG ?_ _|refine zH ?_ _|refine zI ?_)));(case side2=>exact HC0.out);rintro e w' ⟨rfl,⟨nd,rfl⟩⟩;(try first|exact ⟨rfl,_,World.drewN_drewN _ _ _⟩|exact ⟨rfl,_,zW _ _ _ _⟩)));try go_wp2_with (first|(go_at_call 44;(with_reducible refine (spec_l12Good.calls k _ _ l0 false _ ?side1 ?side2 A7.out).mono ?_);(case side1=>repeat (first|exact (zO HR0.out HB.out)|(with_reducible first|refine zG ?_ _|refine zH ?_ _|refine zI ?_)));(case side2=>exact HC0.out);rintro e w' ⟨rfl,⟨nd,rfl⟩⟩;(try first|exact ⟨rfl,_,World.drewN_drewN _ _ _⟩|exact ⟨rfl,_,zW _ _ _ _⟩))))
   go_meet
   case rel=>exact ⟨_,(true),(by first|rfl|(simp;done)|(simp [*];done)),H',⟨by first|omega|exact Nat.le_refl _⟩,⟨by (with_reducible repeat (first|apply zA|apply zB|apply zC));exact HO218.out⟩,⟨by (with_reducible repeat (first|refine zJ ?_ _|refine zK ?_|refine zL ?_ _));exact BK215.out⟩,⟨by repeat (first|(with_reducible first|exact HB.out|apply zD|apply zE|apply zF|refine below_set ?_ GE215.out)|exact HB.out)⟩⟩
 case rest =>
  clear HC3;(try clear c1);(try clear p2);(try clear c8);(try clear hcz10_0);(try clear hcz10_1);(try clear hcz10_2);(try clear hfz10_0);(try clear hfz10_1);(try clear hfz10_2);obtain ⟨kq,x18_2,rfl,HA,HJ2,HO_6,BK215,HB⟩:=hcut;cases kq with
  | zero=>exact absurd HA.out (by simp [spec_LashingsNeeded.j0])
  | succ kj2 =>
   have H:=HA.out;clear HA;simp only [spec_LashingsNeeded.j0] at H
   by_cases c12:x18_2 = true
   ·subst c12
    have H1:(some (y216,false)) = some (r1,r2):=by rw [if_pos rfl] at H;exact H
    clear H;have H:=H1;clear H1;simp only [Option.some.injEq,Prod.mk.injEq] at H
    obtain ⟨rfl,rfl⟩:=H;go_wp2
    repeat (go_quiet (fail);try go_wp2)
    go_ret2
    exact ⟨_,by first|rfl|(simp [errW_none,errW_some] <;> rfl)|(simp [*,errW_none,errW_some] <;> rfl),by (with_reducible repeat (first|apply zA|apply zB|apply zC));exact HO_6.out,by repeat (first|(with_reducible first|exact HB.out|apply zD|apply zE|apply zF|refine below_set ?_ GE215.out)|exact HB.out)⟩
   ·replace c12:=Bool.eq_false_iff.mpr c12
    subst c12;have H1:((spec_l12Forces.f kj2 l0 a1_1).bind fun t221=>(spec_LashingsNeeded.l0 kj2 y216 t221 0 a1_0 a1_1 a1_2)) = some (r1,r2):=by rw [if_neg (show ¬ (false = true) by decide)] at H;exact H
    clear H;have H:=H1;clear H1;replace H:=Option.bind_eq_some_iff.mp H;obtain ⟨t221,A130,H⟩:=H;replace H:(spec_LashingsNeeded.l0 kj2 y216 t221 0 a1_0 a1_1 a1_2) = some (r1,r2):=H
    have A13:=zM A130;clear A130;have H':=zM H;clear H;have hcz14_0:wc.cell? ⟨gb215,0,none⟩ = some (.int .i64 a1_0):=(blk_cell BK215.out 0).trans rfl
    have hcz14_1:wc.cell? ⟨gb215,1,none⟩ = some (.int .i64 a1_1):=(blk_cell BK215.out 1).trans rfl
    have hcz14_2:wc.cell? ⟨gb215,2,none⟩ = some (.int .i64 a1_2):=(blk_cell BK215.out 2).trans rfl
    have hfz14_0:=blk_frozen BK215.out 0;have hfz14_1:=blk_frozen BK215.out 1;have hfz14_2:=blk_frozen BK215.out 2;go_wp2_with (first|(go_at_call 46;(with_reducible refine (spec_l12Forces.calls kj2 _ _ l0 a1_1 t221 _ ?side1 ?side2 A13.out).mono ?_);(case side1=>repeat (first|exact (zO HR0.out HB.out)|(with_reducible first|refine zG ?_ _|refine zH ?_ _|refine zI ?_)));(case side2=>exact HC0.out);rintro e w15 ⟨v222,rfl,ho0,hb⟩;have n0_:=zM (Kd.R_elder' (by (with_reducible repeat (first|apply zA|apply zB|apply zC));exact HO_6.out) (Kd.R_base ho0) hb);have n1_:=zM (Kd.R_lower (Kd.R_new' ho0 (Kd.R_lt (by (with_reducible repeat (first|apply zA|apply zB|apply zC));exact HO_6.out))) (zR (by repeat (first|(with_reducible first|exact HB.out|apply zD|apply zE|apply zF|refine below_set ?_ GE215.out)|exact HB.out))));have n2_:=zM (blk_below (g:=gb215) (o := .cells #[.int .i64 a1_0,.int .i64 a1_1,.int .i64 a1_2] 28 (0,0)) (by (with_reducible repeat (first|refine zJ ?_ _|refine zK ?_|refine zL ?_ _));exact BK215.out) hb);have n3_:=zM (zQ (by repeat (first|(with_reducible first|exact HB.out|apply zD|apply zE|apply zF|refine below_set ?_ GE215.out)|exact HB.out)) hb);clear HO_6;clear BK215;clear HB;have HO_6:=n0_;have HO223:=n1_;have BK215:=n2_;have HB:=n3_;clear n0_ n1_ n2_ n3_;(try clear hb);(try clear hb2);(try clear hk);(try clear hi);(try clear ho0)))
    repeat (go_quiet (first|(go_at_call 46;(with_reducible refine (spec_l12Forces.calls kj2 _ _ l0 a1_1 t221 _ ?side1 ?side2 A13.out).mono ?_);(case side1=>repeat (first|exact (zO HR0.out HB.out)|(with_reducible first|refine zG ?_ _|refine zH ?_ _|refine zI ?_)));(case side2=>exact HC0.out);rintro e w15 ⟨v222,rfl,ho0,hb⟩;have n0_:=zM (Kd.R_elder' (by (with_reducible repeat (first|apply zA|apply zB|apply zC));exact HO_6.out) (Kd.R_base ho0) hb);have n1_:=zM (Kd.R_lower (Kd.R_new' ho0 (Kd.R_lt (by (with_reducible repeat (first|apply zA|apply zB|apply zC));exact HO_6.out))) (zR (by repeat (first|(with_reducible first|exact HB.out|apply zD|apply zE|apply zF|refine below_set ?_ GE215.out)|exact HB.out))));have n2_:=zM (blk_below (g:=gb215) (o := .cells #[.int .i64 a1_0,.int .i64 a1_1,.int .i64 a1_2] 28 (0,0)) (by (with_reducible repeat (first|refine zJ ?_ _|refine zK ?_|refine zL ?_ _));exact BK215.out) hb);have n3_:=zM (zQ (by repeat (first|(with_reducible first|exact HB.out|apply zD|apply zE|apply zF|refine below_set ?_ GE215.out)|exact HB.out)) hb);clear HO_6;clear BK215;clear HB;have HO_6:=n0_;have HO223:=n1_;have BK215:=n2_;have HB:=n3_;clear n0_ n1_ n2_ n3_;(try clear hb);(try clear hb2);(try clear hk);(try clear hi);(try clear ho0)));try go_wp2_with (first|(go_at_call 46;(with_reducible refine (spec_l12Forces.calls kj2 _ _ l0 a1_1 t221 _ ?side1 ?side2 A13.out).mono ?_);(case side1=>repeat (first|exact (zO HR0.out HB.out)|(with_reducible first|refine zG ?_ _|refine zH ?_ _|refine zI ?_)));(case side2=>exact HC0.out);rintro e w15 ⟨v222,rfl,ho0,hb⟩;have n0_:=zM (Kd.R_elder' (by (with_reducible repeat (first|apply zA|apply zB|apply zC));exact HO_6.out) (Kd.R_base ho0) hb);have n1_:=zM (Kd.R_lower (Kd.R_new' ho0 (Kd.R_lt (by (with_reducible repeat (first|apply zA|apply zB|apply zC));exact HO_6.out))) (zR (by repeat (first|(with_reducible first|exact HB.out|apply zD|apply zE|apply zF|refine below_set ?_ GE215.out)|exact HB.out))));have n2_:=zM (blk_below (g:=gb215) (o := .cells #[.int .i64 a1_0,.int .i64 a1_1,.int .i64 a1_2] 28 (0,0)) (by (with_reducible repeat (first|refine zJ ?_ _|refine zK ?_|refine zL ?_ _));exact BK215.out) hb);have n3_:=zM (zQ (by repeat (first|(with_reducible first|exact HB.out|apply zD|apply zE|apply zF|refine below_set ?_ GE215.out)|exact HB.out)) hb);clear HO_6;clear BK215;clear HB;have HO_6:=n0_;have HO223:=n1_;have BK215:=n2_;have HB:=n3_;clear n0_ n1_ n2_ n3_;(try clear hb);(try clear hb2);(try clear hk);(try clear hi);(try clear ho0))))
    go_loopg [6,8] kj2 (fun kq v6 v8 w' => ∃ (x6_2:List Int) (x8_2:Int),v8 = .int .i64 x8_2 ∧ Aside0 (spec_LashingsNeeded.l0 kq x6_2 t221 x8_2 a1_0 a1_1 a1_2 = some (r1,r2)) ∧ Aside0 (kq ≤ kj2) ∧ Aside0 (Kd.R (Kd.int .i64) 3 w' w.heap.size (fun k_=>some k_ ≠ (v222:Value).ownBlock) v6 x6_2) ∧ Aside0 (Kd.R (Kd.int .i64) 3 w' w.heap.size (fun k_=>some k_ ≠ (v6:Value).ownBlock) v222 t221) ∧ Aside0 (w'.heap[gb215]? = some (.cells #[.int .i64 a1_0,.int .i64 a1_1,.int .i64 a1_2] 28 (0,0))) ∧ Aside0 (Below w.heap.size w w'))
    case atStart=>exact ⟨(y216),(0),(by first|rfl|(simp;done)|(simp [*];done)),H',⟨Nat.le_refl _⟩,⟨by (with_reducible repeat (first|apply zA|apply zB|apply zC));exact Kd.R_mono HO_6.out (fun _ hk=>hk.2)⟩,⟨by (with_reducible repeat (first|apply zA|apply zB|apply zC));exact Kd.R_mono HO223.out (fun _ hk=>hk.2)⟩,⟨by (with_reducible repeat (first|refine zJ ?_ _|refine zK ?_|refine zL ?_ _));exact BK215.out⟩,⟨by repeat (first|(with_reducible first|exact HB.out|apply zD|apply zE|apply zF|refine below_set ?_ GE215.out)|exact HB.out)⟩⟩
    case round =>
     clear H';(try clear c1);(try clear p2);(try clear c8);(try clear c12);(try clear hcz10_0);(try clear hcz10_1);(try clear hcz10_2);(try clear hcz14_0);(try clear hcz14_1);(try clear hcz14_2);(try clear hfz10_0);(try clear hfz10_1);(try clear hfz10_2);(try clear hfz14_0);(try clear hfz14_1);(try clear hfz14_2);(try clear p2);obtain ⟨x6_2,x8_2,rfl,HA,HK2,HO_6,HO_7,BK215,HB⟩:=hrel;cases gk with
     | zero=>exact absurd HA.out (by simp [spec_LashingsNeeded.l0])
     | succ k2 =>
      have H:=HA.out;clear HA;simp only [spec_LashingsNeeded.l0] at H
      by_cases c16:x8_2 < (t221.length:Int)
      ·rw [if_pos c16] at H
       have c16b0:decide (x8_2 < (t221.length:Int)) = true:=decide_eq_true c16
       clear c16;by_cases c17:0 ≤ x8_2
       ·rw [if_pos c17] at H
        have c17b0:decide (0 ≤ x8_2) = true:=decide_eq_true c17
        clear c17;by_cases c18:a1_2 = 0
        ·rw [if_pos c18] at H
         exact absurd H (by simp)
        ·rw [if_neg c18] at H
         have c18b0:(a1_2 == 0) = false:=beq_eq_false_iff_ne.mpr c18
         have c18b1:(a1_2 != 0) = true:=bne_iff_ne.mpr c18
         by_cases c19:(wrap64 (Int.tdiv (wrap64 ((wrap64 ((rd t221 x8_2) + a1_2)) - 1)) a1_2)) > 4
         ·rw [if_pos c19] at H
          have c19b0:decide (4 < (wrap64 (Int.tdiv (wrap64 ((wrap64 ((rd t221 x8_2) + a1_2)) - 1)) a1_2))) = true:=decide_eq_true c19
          clear c19;obtain ⟨y225,hy225⟩ : ∃ y_:List Int,y_ = (([]:List Int)):=⟨_,rfl⟩
          replace H:(some (y225,false)) = some (r1,r2):=by first|(rw [hy225];with_reducible exact H)|(have H2_:=(Option.bind_some _ _).symm.trans H;rw [hy225];with_reducible exact H2_)|(have H2_:=(Option.bind_some _ _).symm.trans H;with_reducible exact H2_)|with_reducible exact H|(rw [hy225];exact H)|exact H
          have Ny225:=zM hy225;clear hy225;simp only [Option.some.injEq,Prod.mk.injEq] at H
          obtain ⟨rfl,rfl⟩:=H;obtain ⟨Ao20,co20,eo20⟩:=Kd.R_slice HO_7.out;subst eo20;have p224:0 ≤ (x8_2:Int):=of_decide_eq_true (by first|(with_reducible assumption)|assumption)
          have q224:x8_2 < (t221.length:Int):=of_decide_eq_true (by first|(with_reducible assumption)|assumption)
          obtain ⟨ad224,e224,hx224_0⟩:=Kd.at_int (zN HO_7.out).2.2 x8_2 p224 q224;cases e224
          replace p224:=eq_true p224;replace q224:=eq_true q224;have hcz21_0:wr.cell? ⟨gb215,0,none⟩ = some (.int .i64 a1_0):=(blk_cell BK215.out 0).trans rfl
          have hcz21_1:wr.cell? ⟨gb215,1,none⟩ = some (.int .i64 a1_1):=(blk_cell BK215.out 1).trans rfl
          have hcz21_2:wr.cell? ⟨gb215,2,none⟩ = some (.int .i64 a1_2):=(blk_cell BK215.out 2).trans rfl
          have hfz21_0:=blk_frozen BK215.out 0;have hfz21_1:=blk_frozen BK215.out 1;have hfz21_2:=blk_frozen BK215.out 2;go_wp2_with (first|((with_reducible refine gate_dst (N:=43) rfl ?_);refine Kd.R_lit (Kd.int .i64) _ 3 ?hg (N:=43) ?hd (xs:=([]:List Int)) (inner:=[]) (ok:=fun _=>True) (okp:=fun _=>True) ?hr ?hp (fun _ hk=>hk) trivial (Below.refl _ _) (Nat.le_refl _) (by simp) ?_;(case hd=>rfl);(case hg=>rfl);(case hr=>first|(go_simp;done)|(go_simp;rfl));(case hp=>exact (Reps.none _ _));intro v226 w22 ho23 hb hg_ hnew_;clear hg_ hnew_;(first|rw [← Ny225.out] at ho23|(simp only [Int.reduceToNat] at ho23;rw [← Ny225.out] at ho23));have n0_:=zM (Kd.R_elder' (by (with_reducible repeat (first|apply zA|apply zB|apply zC));exact HO_6.out) (Kd.R_base ho23) hb);have n1_:=zM (Kd.R_elder' (by (with_reducible repeat (first|apply zA|apply zB|apply zC));exact HO_7.out) (Kd.R_base ho23) hb);have n2_:=zM (Kd.R_lower (Kd.R_new' (Kd.R_new' ho23 (Kd.R_lt (by (with_reducible repeat (first|apply zA|apply zB|apply zC));exact HO_6.out))) (Kd.R_lt (by (with_reducible repeat (first|apply zA|apply zB|apply zC));exact HO_7.out))) (zR (by repeat (first|(with_reducible first|exact HB.out|apply zD|apply zE|apply zF|refine below_set ?_ GE215.out)|exact HB.out))));have n3_:=zM (blk_below (g:=gb215) (o := .cells #[.int .i64 a1_0,.int .i64 a1_1,.int .i64 a1_2] 28 (0,0)) (by (with_reducible repeat (first|refine zJ ?_ _|refine zK ?_|refine zL ?_ _));exact BK215.out) hb);have n4_:=zM (zQ (by repeat (first|(with_reducible first|exact HB.out|apply zD|apply zE|apply zF|refine below_set ?_ GE215.out)|exact HB.out)) hb);clear HO_6;clear HO_7;clear BK215;clear HB;have HO_6:=n0_;have HO_7:=n1_;have HO227:=n2_;have BK215:=n3_;have HB:=n4_;clear n0_ n1_ n2_ n3_ n4_;clear hb ho23))
          repeat (go_quiet (first|((with_reducible refine gate_dst (N:=43) rfl ?_);refine Kd.R_lit (Kd.int .i64) _ 3 ?hg (N:=43) ?hd (xs:=([]:List Int)) (inner:=[]) (ok:=fun _=>True) (okp:=fun _=>True) ?hr ?hp (fun _ hk=>hk) trivial (Below.refl _ _) (Nat.le_refl _) (by simp) ?_;(case hd=>rfl);(case hg=>rfl);(case hr=>first|(go_simp;done)|(go_simp;rfl));(case hp=>exact (Reps.none _ _));intro v226 w22 ho23 hb hg_ hnew_;clear hg_ hnew_;(first|rw [← Ny225.out] at ho23|(simp only [Int.reduceToNat] at ho23;rw [← Ny225.out] at ho23));have n0_:=zM (Kd.R_elder' (by (with_reducible repeat (first|apply zA|apply zB|apply zC));exact HO_6.out) (Kd.R_base ho23) hb);have n1_:=zM (Kd.R_elder' (by (with_reducible repeat (first|apply zA|apply zB|apply zC));exact HO_7.out) (Kd.R_base ho23) hb);have n2_:=zM (Kd.R_lower (Kd.R_new' (Kd.R_new' ho23 (Kd.R_lt (by (with_reducible repeat (first|apply zA|apply zB|apply zC));exact HO_6.out))) (Kd.R_lt (by (with_reducible repeat (first|apply zA|apply zB|apply zC));exact HO_7.out))) (zR (by repeat (first|(with_reducible first|exact HB.out|apply zD|apply zE|apply zF|refine below_set ?_ GE215.out)|exact HB.out))));have n3_:=zM (blk_below (g:=gb215) (o := .cells #[.int .i64 a1_0,.int .i64 a1_1,.int .i64 a1_2] 28 (0,0)) (by (with_reducible repeat (first|refine zJ ?_ _|refine zK ?_|refine zL ?_ _));exact BK215.out) hb);have n4_:=zM (zQ (by repeat (first|(with_reducible first|exact HB.out|apply zD|apply zE|apply zF|refine below_set ?_ GE215.out)|exact HB.out)) hb);clear HO_6;clear HO_7;clear BK215;clear HB;have HO_6:=n0_;have HO_7:=n1_;have HO227:=n2_;have BK215:=n3_;have HB:=n4_;clear n0_ n1_ n2_ n3_ n4_;clear hb ho23));try go_wp2_with (first|((with_reducible refine gate_dst (N:=43) rfl ?_);refine Kd.R_lit (Kd.int .i64) _ 3 ?hg (N:=43) ?hd (xs:=([]:List Int)) (inner:=[]) (ok:=fun _=>True) (okp:=fun _=>True) ?hr ?hp (fun _ hk=>hk) trivial (Below.refl _ _) (Nat.le_refl _) (by simp) ?_;(case hd=>rfl);(case hg=>rfl);(case hr=>first|(go_simp;done)|(go_simp;rfl));(case hp=>exact (Reps.none _ _));intro v226 w22 ho23 hb hg_ hnew_;clear hg_ hnew_;(first|rw [← Ny225.out] at ho23|(simp only [Int.reduceToNat] at ho23;rw [← Ny225.out] at ho23));have n0_:=zM (Kd.R_elder' (by (with_reducible repeat (first|apply zA|apply zB|apply zC));exact HO_6.out) (Kd.R_base ho23) hb);have n1_:=zM (Kd.R_elder' (by (with_reducible repeat (first|apply zA|apply zB|apply zC));exact HO_7.out) (Kd.R_base ho23) hb);have n2_:=zM (Kd.R_lower (Kd.R_new' (Kd.R_new' ho23 (Kd.R_lt (by (with_reducible repeat (first|apply zA|apply zB|apply zC));exact HO_6.out))) (Kd.R_lt (by (with_reducible repeat (first|apply zA|apply zB|apply zC));exact HO_7.out))) (zR (by repeat (first|(with_reducible first|exact HB.out|apply zD|apply zE|apply zF|refine below_set ?_ GE215.out)|exact HB.out))));have n3_:=zM (blk_below (g:=gb215) (o := .cells #[.int .i64 a1_0,.int .i64 a1_1,.int .i64 a1_2] 28 (0,0)) (by (with_reducible repeat (first|refine zJ ?_ _|refine zK ?_|refine zL ?_ _));exact BK215.out) hb);have n4_:=zM (zQ (by repeat (first|(with_reducible first|exact HB.out|apply zD|apply zE|apply zF|refine below_set ?_ GE215.out)|exact HB.out)) hb);clear HO_6;clear HO_7;clear BK215;clear HB;have HO_6:=n0_;have HO_7:=n1_;have HO227:=n2_;have BK215:=n3_;have HB:=n4_;clear n0_ n1_ n2_ n3_ n4_;clear hb ho23)))
          go_ret2
          exact ⟨_,by first|rfl|(simp [errW_none,errW_some] <;> rfl)|(simp [*,errW_none,errW_some] <;> rfl),by (with_reducible repeat (first|apply zA|apply zB|apply zC));exact Kd.R_mono HO227.out (fun _ hk=>trivial),by repeat (first|(with_reducible first|exact HB.out|apply zD|apply zE|apply zF|refine below_set ?_ GE215.out)|exact HB.out)⟩
         ·rw [if_neg c19] at H
          have c19b0:decide (4 < (wrap64 (Int.tdiv (wrap64 ((wrap64 ((rd t221 x8_2) + a1_2)) - 1)) a1_2))) = false:=decide_eq_false c19
          clear c19;by_cases c24:x6_2.length < 17592186044416
          ·rw [if_pos c24] at H
           have LMc24:=zM c24;clear c24;obtain ⟨y228,hy228⟩ : ∃ y_:List Int,y_ = (x6_2 ++ [wrap64 (Int.tdiv (wrap64 ((wrap64 ((rd t221 x8_2) + a1_2)) - 1)) a1_2)]):=⟨_,rfl⟩
           replace H:(spec_LashingsNeeded.l0 k2 y228 t221 (wrap64 (x8_2 + 1)) a1_0 a1_1 a1_2) = some (r1,r2):=by first|(rw [hy228];with_reducible exact H)|(have H2_:=(Option.bind_some _ _).symm.trans H;rw [hy228];with_reducible exact H2_)|(have H2_:=(Option.bind_some _ _).symm.trans H;with_reducible exact H2_)|with_reducible exact H|(rw [hy228];exact H)|exact H
           have Ny228:=zM hy228;clear hy228;have H':=zM H;clear H;obtain ⟨Ao25,co25,eo25⟩:=Kd.R_slice HO_7.out;subst eo25;have p224:0 ≤ (x8_2:Int):=of_decide_eq_true (by first|(with_reducible assumption)|assumption)
           have q224:x8_2 < (t221.length:Int):=of_decide_eq_true (by first|(with_reducible assumption)|assumption)
           obtain ⟨ad224,e224,hx224_0⟩:=Kd.at_int (zN HO_7.out).2.2 x8_2 p224 q224;cases e224
           replace p224:=eq_true p224;replace q224:=eq_true q224;have hcz26_0:wr.cell? ⟨gb215,0,none⟩ = some (.int .i64 a1_0):=(blk_cell BK215.out 0).trans rfl
           have hcz26_1:wr.cell? ⟨gb215,1,none⟩ = some (.int .i64 a1_1):=(blk_cell BK215.out 1).trans rfl
           have hcz26_2:wr.cell? ⟨gb215,2,none⟩ = some (.int .i64 a1_2):=(blk_cell BK215.out 2).trans rfl
           have hfz26_0:=blk_frozen BK215.out 0;have hfz26_1:=blk_frozen BK215.out 1;have hfz26_2:=blk_frozen BK215.out 2;go_wp2_with (first|((with_reducible refine gate_builtin (b := .append) (xs := #[.tmp 44,.tmp 46]) rfl ?_);at_builtin;refine Kd.R_append (Kd.int .i64) (w0:=w) w.heap.size rfl (.tmp 44) (.tmp 46) 22 3 (.int .i64 0) 8 rfl Try.underlying22 info3 rfl (by decide) (by omega) u6 x6_2 (wrap64 (Int.tdiv (wrap64 ((wrap64 ((rd t221 x8_2) + a1_2)) - 1)) a1_2)) [.int .i64 (wrap64 (Int.tdiv (wrap64 ((wrap64 ((rd t221 x8_2) + a1_2)) - 1)) a1_2))] (fun k_=>some k_ ≠ (.slice (some ad224) t221.length co25:Value).ownBlock) (fun _=>False) rfl rfl ?aP (fun _ hk=>hk.elim) ?aF ?aO ?aB ?aS ?aL ?_;(case aP=>exact rfl);(case aB=>exact (by repeat (first|(with_reducible first|exact HB.out|apply zD|apply zE|apply zF|refine below_set ?_ GE215.out)|exact HB.out)));(case aF=>exact (fun k_ hk=>Kd.fresh' (Kd.R_lt (by (with_reducible repeat (first|apply zA|apply zB|apply zC));exact HO_7.out)) k_ hk));(case aO=>exact (by (with_reducible repeat (first|apply zA|apply zB|apply zC));exact HO_6.out));(case aS=>exact (zR (by repeat (first|(with_reducible first|exact HB.out|apply zD|apply zE|apply zF|refine below_set ?_ GE215.out)|exact HB.out))));(case aL=>have:=LMc24.out;omega);intro v229 w27 ho hb hg hat;rw [← Ny228.out] at ho;have n0_:=zM (Kd.R_after (ok:=(fun _=>True)) (by (with_reducible repeat (first|apply zA|apply zB|apply zC));exact Kd.R_mono HO_7.out (fun _ hk=>⟨trivial,hk⟩)) hg hat);have n1_:=zM (blk_grown (g:=gb215) (o := .cells #[.int .i64 a1_0,.int .i64 a1_1,.int .i64 a1_2] 28 (0,0)) (by (with_reducible repeat (first|refine zJ ?_ _|refine zK ?_|refine zL ?_ _));exact BK215.out) hg (Kd.R_ne HO_6.out BK215.out (by decide)));have n2_:=zM (hb);have n3_:=zM (ho);clear HO_7;clear BK215;clear HB;clear HO_6;have HO_7:=n0_;have BK215:=n1_;have HB:=n2_;have HO230:=n3_;clear n0_ n1_ n2_ n3_;clear ho hb hg hat))
           repeat (go_quiet (first|((with_reducible refine gate_builtin (b := .append) (xs := #[.tmp 44,.tmp 46]) rfl ?_);at_builtin;refine Kd.R_append (Kd.int .i64) (w0:=w) w.heap.size rfl (.tmp 44) (.tmp 46) 22 3 (.int .i64 0) 8 rfl Try.underlying22 info3 rfl (by decide) (by omega) u6 x6_2 (wrap64 (Int.tdiv (wrap64 ((wrap64 ((rd t221 x8_2) + a1_2)) - 1)) a1_2)) [.int .i64 (wrap64 (Int.tdiv (wrap64 ((wrap64 ((rd t221 x8_2) + a1_2)) - 1)) a1_2))] (fun k_=>some k_ ≠ (.slice (some ad224) t221.length co25:Value).ownBlock) (fun _=>False) rfl rfl ?aP (fun _ hk=>hk.elim) ?aF ?aO ?aB ?aS ?aL ?_;(case aP=>exact rfl);(case aB=>exact (by repeat (first|(with_reducible first|exact HB.out|apply zD|apply zE|apply zF|refine below_set ?_ GE215.out)|exact HB.out)));(case aF=>exact (fun k_ hk=>Kd.fresh' (Kd.R_lt (by (with_reducible repeat (first|apply zA|apply zB|apply zC));exact HO_7.out)) k_ hk));(case aO=>exact (by (with_reducible repeat (first|apply zA|apply zB|apply zC));exact HO_6.out));(case aS=>exact (zR (by repeat (first|(with_reducible first|exact HB.out|apply zD|apply zE|apply zF|refine below_set ?_ GE215.out)|exact HB.out))));(case aL=>have:=LMc24.out;omega);intro v229 w27 ho hb hg hat;rw [← Ny228.out] at ho;have n0_:=zM (Kd.R_after (ok:=(fun _=>True)) (by (with_reducible repeat (first|apply zA|apply zB|apply zC));exact Kd.R_mono HO_7.out (fun _ hk=>⟨trivial,hk⟩)) hg hat);have n1_:=zM (blk_grown (g:=gb215) (o := .cells #[.int .i64 a1_0,.int .i64 a1_1,.int .i64 a1_2] 28 (0,0)) (by (with_reducible repeat (first|refine zJ ?_ _|refine zK ?_|refine zL ?_ _));exact BK215.out) hg (Kd.R_ne HO_6.out BK215.out (by decide)));have n2_:=zM (hb);have n3_:=zM (ho);clear HO_7;clear BK215;clear HB;clear HO_6;have HO_7:=n0_;have BK215:=n1_;have HB:=n2_;have HO230:=n3_;clear n0_ n1_ n2_ n3_;clear ho hb hg hat));try go_wp2_with (first|((with_reducible refine gate_builtin (b := .append) (xs := #[.tmp 44,.tmp 46]) rfl ?_);at_builtin;refine Kd.R_append (Kd.int .i64) (w0:=w) w.heap.size rfl (.tmp 44) (.tmp 46) 22 3 (.int .i64 0) 8 rfl Try.underlying22 info3 rfl (by decide) (by omega) u6 x6_2 (wrap64 (Int.tdiv (wrap64 ((wrap64 ((rd t221 x8_2) + a1_2)) - 1)) a1_2)) [.int .i64 (wrap64 (Int.tdiv (wrap64 ((wrap64 ((rd t221 x8_2) + a1_2)) - 1)) a1_2))] (fun k_=>some k_ ≠ (.slice (some ad224) t221.length co25:Value).ownBlock) (fun _=>False) rfl rfl ?aP (fun _ hk=>hk.elim) ?aF ?aO ?aB ?aS ?aL ?_;(case aP=>exact rfl);(case aB=>exact (by repeat (first|(with_reducible first|exact HB.out|apply zD|apply zE|apply zF|refine below_set ?_ GE215.out)|exact HB.out)));(case aF=>exact (fun k_ hk=>Kd.fresh' (Kd.R_lt (by (with_reducible repeat (first|apply zA|apply zB|apply zC));exact HO_7.out)) k_ hk));(case aO=>exact (by (with_reducible repeat (first|apply zA|apply zB|apply zC));exact HO_6.out));(case aS=>exact (zR (by repeat (first|(with_reducible first|exact HB.out|apply zD|apply zE|apply zF|refine below_set ?_ GE215.out)|exact HB.out))));(case aL=>have:=LMc24.out;omega);intro v229 w27 ho hb hg hat;rw [← Ny228.out] at ho;have n0_:=zM (Kd.R_after (ok:=(fun _=>True)) (by (with_reducible repeat (first|apply zA|apply zB|apply zC));exact Kd.R_mono HO_7.out (fun _ hk=>⟨trivial,hk⟩)) hg hat);have n1_:=zM (blk_grown (g:=gb215) (o := .cells #[.int .i64 a1_0,.int .i64 a1_1,.int .i64 a1_2] 28 (0,0)) (by (with_reducible repeat (first|refine zJ ?_ _|refine zK ?_|refine zL ?_ _));exact BK215.out) hg (Kd.R_ne HO_6.out BK215.out (by decide)));have n2_:=zM (hb);have n3_:=zM (ho);clear HO_7;clear BK215;clear HB;clear HO_6;have HO_7:=n0_;have BK215:=n1_;have HB:=n2_;have HO230:=n3_;clear n0_ n1_ n2_ n3_;clear ho hb hg hat)))
           go_roundg k2
           case measure=>have:=HJ2.out;have:=HK2.out;omega
           case rel=>exact ⟨(y228),(wrap64 (x8_2 + 1)),(by first|rfl|(simp;done)|(simp [*];done)),H',⟨by have:=HJ2.out;have:=HK2.out;omega⟩,⟨by (with_reducible repeat (first|apply zA|apply zB|apply zC));exact HO230.out⟩,⟨by (with_reducible repeat (first|apply zA|apply zB|apply zC));exact Kd.R_mono HO_7.out (fun _ hk=>hk.2)⟩,⟨by (with_reducible repeat (first|refine zJ ?_ _|refine zK ?_|refine zL ?_ _));exact BK215.out⟩,⟨by repeat (first|(with_reducible first|exact HB.out|apply zD|apply zE|apply zF|refine below_set ?_ GE215.out)|exact HB.out)⟩⟩
          ·rw [if_neg c24] at H
           exact absurd H (by simp)
       ·rw [if_neg c17] at H
        exact absurd H (by simp)
      ·rw [if_neg c16] at H
       have c16b0:decide (x8_2 < (t221.length:Int)) = false:=decide_eq_false c16
       clear c16;simp only [Option.some.injEq,Prod.mk.injEq] at H
       obtain ⟨rfl,rfl⟩:=H;obtain ⟨Ao28,co28,eo28⟩:=Kd.R_slice HO_7.out;subst eo28;go_wp2
       repeat (go_quiet (fail);try go_wp2)
       go_ret2
       exact ⟨_,by first|rfl|(simp [errW_none,errW_some] <;> rfl)|(simp [*,errW_none,errW_some] <;> rfl),by (with_reducible repeat (first|apply zA|apply zB|apply zC));exact Kd.R_mono HO_6.out (fun _ hk=>trivial),by repeat (first|(with_reducible first|exact HB.out|apply zD|apply zE|apply zF|refine below_set ?_ GE215.out)|exact HB.out)⟩



/-! ### spec_l1Own: function 50 -/
def spec_l1Own.f (l0:List Int):Option (List Int):=(some (([]:List Int):List Int)).bind fun y288=>(if y288.length + l0.length < 17592186044416 then (some (y288 ++ l0)) else (none))
set_option maxHeartbeats 8000000 in
set_option maxRecDepth 100000 in
theorem spec_l1Own.calls (A0:Option Addr) (c0:Nat) (l0:List Int) (r:List Int) (w:World) (hr0:Kd.C (Kd.int .i64) w A0 l0.length l0) (hc0:l0.length ≤ c0) (h:spec_l1Own.f l0 = some r) :
  Calls Try.prog 50 #[.slice A0 l0.length c0] w fun e w' => ∃ v0_:Value,e = .returned (v0_) ∧ Kd.R (Kd.int .i64) 3 w' w.heap.size (fun _=>True) v0_ r ∧ Below w.heap.size w w':=by
 have HR0:=zM hr0;have HC0:=zM hc0;clear hr0 hc0;have HB:=zM (Below.refl w.heap.size w);have H:((some (([]:List Int):List Int)).bind fun y288=>(if y288.length + l0.length < 17592186044416 then (some (y288 ++ l0)) else (none))) = some r:=h
 clear h;obtain ⟨y288,hy288⟩ : ∃ y_:List Int,y_ = (([]:List Int)):=⟨_,rfl⟩
 replace H:(if y288.length + l0.length < 17592186044416 then (some (y288 ++ l0)) else (none)) = some r:=by first|(rw [hy288];with_reducible exact H)|(have H2_:=(Option.bind_some _ _).symm.trans H;rw [hy288];with_reducible exact H2_)|(have H2_:=(Option.bind_some _ _).symm.trans H;with_reducible exact H2_)|with_reducible exact H|(rw [hy288];exact H)|exact H
 have Ny288:=zM hy288;clear hy288;by_cases c2:y288.length + l0.length < 17592186044416
 ·rw [if_pos c2] at H
  have LMc2:=zM c2;clear c2;obtain ⟨y291,hy291⟩ : ∃ y_:List Int,y_ = (y288 ++ l0):=⟨_,rfl⟩
  replace H:(some y291) = some r:=by first|(rw [hy291];with_reducible exact H)|(have H2_:=(Option.bind_some _ _).symm.trans H;rw [hy291];with_reducible exact H2_)|(have H2_:=(Option.bind_some _ _).symm.trans H;with_reducible exact H2_)|with_reducible exact H|(rw [hy291];exact H)|exact H
  have Ny291:=zM hy291;clear hy291;obtain rfl:=Option.some.inj H;go_enter Try.func50,Try.ntmps50
  go_wp2_with (first|((with_reducible refine gate_dst (N:=3) rfl ?_);refine Kd.R_lit (Kd.int .i64) _ 3 ?hg (N:=3) ?hd (xs:=([]:List Int)) (inner:=[]) (ok:=fun _=>True) (okp:=fun _=>True) ?hr ?hp (fun _ hk=>hk) trivial (Below.refl _ _) (Nat.le_refl _) (by simp) ?_;(case hd=>rfl);(case hg=>rfl);(case hr=>first|(go_simp;done)|(go_simp;rfl));(case hp=>exact (Reps.none _ _));intro v289 w3 ho4 hb hg_ hnew_;clear hg_ hnew_;(first|rw [← Ny288.out] at ho4|(simp only [Int.reduceToNat] at ho4;rw [← Ny288.out] at ho4));have n0_:=zM (Kd.R_lower ho4 (zR (by repeat (first|(with_reducible first|exact HB.out|apply zD|apply zE|apply zF)|exact HB.out))));have n1_:=zM (zQ (by repeat (first|(with_reducible first|exact HB.out|apply zD|apply zE|apply zF)|exact HB.out)) hb);clear HB;have HO290:=n0_;have HB:=n1_;clear n0_ n1_;clear hb ho4)|((with_reducible refine gate_builtin (b := .append) (xs := #[.tmp 3,.tmp 4]) rfl ?_);at_builtin;refine Kd.R_append_rows (Kd.int .i64) (w0:=w) w.heap.size rfl (.tmp 3) (.tmp 4) 22 3 (.int .i64 0) 8 rfl Try.underlying22 info3 rfl (by decide) (by omega) v289 y288 l0 _ _ _ (fun _=>True) (fun _=>False) rfl rfl ?aO ?aR (fun _ _ h=>h) (fun _ h=>h.elim) ?aF ?aB ?aS ?aL ?_;(case aR=>repeat (first|exact (zO HR0.out HB.out)|(with_reducible first|refine zG ?_ _|refine zH ?_ _|refine zI ?_)));(case aB=>exact (by repeat (first|(with_reducible first|exact HB.out|apply zD|apply zE|apply zF)|exact HB.out)));(case aF=>exact (fun _ _=>trivial));(case aO=>exact (by (with_reducible repeat (first|apply zA|apply zB|apply zC));exact HO290.out));(case aS=>exact (zR (by repeat (first|(with_reducible first|exact HB.out|apply zD|apply zE|apply zF)|exact HB.out))));(case aL=>have:=LMc2.out;omega);intro v292 w5 ho hb hg hat;rw [← Ny291.out] at ho;have n0_:=zM (hb);have n1_:=zM (ho);clear HB;clear HO290;have HB:=n0_;have HO293:=n1_;clear n0_ n1_;clear ho hb hg hat))
  go_ret
  exact ⟨_,by first|rfl|(simp [errW_none,errW_some] <;> rfl)|(simp [*,errW_none,errW_some] <;> rfl),by (with_reducible repeat (first|apply zA|apply zB|apply zC));exact HO293.out,by repeat (first|(with_reducible first|exact HB.out|apply zD|apply zE|apply zF)|exact HB.out)⟩
 ·rw [if_neg c2] at H
  exact absurd H (by simp)



/-! ### spec_AddOnTop: function 21 -/
def spec_AddOnTop.j0:Nat → List Int → Int → Bool → Int → Int → Int → Option (List Int × Bool)
 | 0,_,_,_,_,_,_=>none
 | k + 1,x0,x1,x18,x295000,x295001,x295002=>if x18 = true then (some ((([]:List Int)),false)) else ((spec_l1Own.f x0).bind fun t300=>(if t300.length < 17592186044416 then ((some (t300 ++ [x1]:List Int)).bind fun y303=>((spec_LashingsNeeded.f k y303 x295000 x295001 x295002).bind fun bt306=>(if bt306.2 = true then ((spec_l12Sum.f k y303 0).bind fun t310=>(if t310 > x295000 then (some ((([]:List Int)),false)) else (some (y303,true)))) else (some ((([]:List Int)),false))))) else (none)))
def spec_AddOnTop.f (k:Nat) (l0:List Int) (a1:Int) (a2_0:Int) (a2_1:Int) (a2_2:Int):Option (List Int × Bool):=(spec_l12Good.f k l0).bind fun t295=>(if t295 = true then ((spec_l12Rules.f a2_0 a2_1 a2_2).bind fun t296=>(spec_AddOnTop.j0 k l0 a1 (!t296) a2_0 a2_1 a2_2)) else (spec_AddOnTop.j0 k l0 a1 true a2_0 a2_1 a2_2))
set_option maxHeartbeats 8000000 in
set_option maxRecDepth 100000 in
theorem spec_AddOnTop.calls (k:Nat) (A0:Option Addr) (c0:Nat) (l0:List Int) (a1:Int) (a2_0:Int) (a2_1:Int) (a2_2:Int) (r1:List Int) (r2:Bool) (w:World) (hr0:Kd.C (Kd.int .i64) w A0 l0.length l0) (hc0:l0.length ≤ c0) (h:spec_AddOnTop.f k l0 a1 a2_0 a2_1 a2_2 = some (r1,r2)) :
  Calls Try.prog 21 #[.slice A0 l0.length c0,.int .i64 a1,.agg #[.int .i64 a2_0,.int .i64 a2_1,.int .i64 a2_2]] w fun e w' => ∃ v0_:Value,e = .returned (.tuple #[v0_,.bool r2]) ∧ Kd.R (Kd.int .i64) 3 w' w.heap.size (fun _=>True) v0_ r1 ∧ Below w.heap.size w w':=by
 have hu28:=Try.underlying28;have HR0:=zM hr0;have HC0:=zM hc0;clear hr0 hc0;have HB:=zM (Below.refl w.heap.size w);have H:((spec_l12Good.f k l0).bind fun t295=>(if t295 = true then ((spec_l12Rules.f a2_0 a2_1 a2_2).bind fun t296=>(spec_AddOnTop.j0 k l0 a1 (!t296) a2_0 a2_1 a2_2)) else (spec_AddOnTop.j0 k l0 a1 true a2_0 a2_1 a2_2))) = some (r1,r2):=h
 clear h;have HC4:=zM H;clear H;go_enter Try.func21,Try.ntmps21
 go_upto_region 1 with (first|((with_reducible refine gate_dst (N:=5) rfl ?_);refine box_event ?hg (N:=5) ?hd (cs := #[.int .i64 a2_0,.int .i64 a2_1,.int .i64 a2_2]) (t:=28) ?hr ?_;(case hd=>rfl);(case hg=>rfl);(case hr=>first|(go_simp;done)|(go_simp;rfl));intro gb294 hg w5 hbox hb;have n0_:=zM (zQ (by repeat (first|(with_reducible first|exact HB.out|apply zD|apply zE|apply zF)|exact HB.out)) hb);have n1_:=zM (hbox);have n2_:=zM ((by rw [hg];exact (zR (by repeat (first|(with_reducible first|exact HB.out|apply zD|apply zE|apply zF)|exact HB.out))):w.heap.size ≤ gb294));have n3_:=zM ((by rw [hg];exact (zR (by repeat (first|(with_reducible first|exact HB.out|apply zD|apply zE|apply zF)|exact HB.out))):w.heap.size ≤ gb294));clear HB;have HB:=n0_;have BK294:=n1_;have GW294:=n2_;have GE294:=n3_;clear n0_ n1_ n2_ n3_;clear hb hbox hg))
 repeat (go_quiet (first|((with_reducible refine gate_dst (N:=5) rfl ?_);refine box_event ?hg (N:=5) ?hd (cs := #[.int .i64 a2_0,.int .i64 a2_1,.int .i64 a2_2]) (t:=28) ?hr ?_;(case hd=>rfl);(case hg=>rfl);(case hr=>first|(go_simp;done)|(go_simp;rfl));intro gb294 hg w5 hbox hb;have n0_:=zM (zQ (by repeat (first|(with_reducible first|exact HB.out|apply zD|apply zE|apply zF)|exact HB.out)) hb);have n1_:=zM (hbox);have n2_:=zM ((by rw [hg];exact (zR (by repeat (first|(with_reducible first|exact HB.out|apply zD|apply zE|apply zF)|exact HB.out))):w.heap.size ≤ gb294));have n3_:=zM ((by rw [hg];exact (zR (by repeat (first|(with_reducible first|exact HB.out|apply zD|apply zE|apply zF)|exact HB.out))):w.heap.size ≤ gb294));clear HB;have HB:=n0_;have BK294:=n1_;have GW294:=n2_;have GE294:=n3_;clear n0_ n1_ n2_ n3_;clear hb hbox hg));go_upto_region 1 with (first|((with_reducible refine gate_dst (N:=5) rfl ?_);refine box_event ?hg (N:=5) ?hd (cs := #[.int .i64 a2_0,.int .i64 a2_1,.int .i64 a2_2]) (t:=28) ?hr ?_;(case hd=>rfl);(case hg=>rfl);(case hr=>first|(go_simp;done)|(go_simp;rfl));intro gb294 hg w5 hbox hb;have n0_:=zM (zQ (by repeat (first|(with_reducible first|exact HB.out|apply zD|apply zE|apply zF)|exact HB.out)) hb);have n1_:=zM (hbox);have n2_:=zM ((by rw [hg];exact (zR (by repeat (first|(with_reducible first|exact HB.out|apply zD|apply zE|apply zF)|exact HB.out))):w.heap.size ≤ gb294));have n3_:=zM ((by rw [hg];exact (zR (by repeat (first|(with_reducible first|exact HB.out|apply zD|apply zE|apply zF)|exact HB.out))):w.heap.size ≤ gb294));clear HB;have HB:=n0_;have BK294:=n1_;have GW294:=n2_;have GE294:=n3_;clear n0_ n1_ n2_ n3_;clear hb hbox hg)))
 (try simp only [Act.put,zT,zU,zV])
 go_cut [18] (fun v18 wc => ∃ (kq:Nat) (x18_3:Bool),v18 = .bool x18_3 ∧ Aside0 (spec_AddOnTop.j0 kq l0 a1 x18_3 a2_0 a2_1 a2_2 = some (r1,r2)) ∧ Aside0 (kq ≤ k) ∧ Aside0 (wc.heap[gb294]? = some (.cells #[.int .i64 a2_0,.int .i64 a2_1,.int .i64 a2_2] 28 (0,0))) ∧ Aside0 (Below w.heap.size w wc))
 case first =>
  have H:=HC4.out;clear HC4;replace H:=Option.bind_eq_some_iff.mp H;obtain ⟨t295,A60,H⟩:=H;replace H:(if t295 = true then ((spec_l12Rules.f a2_0 a2_1 a2_2).bind fun t296=>(spec_AddOnTop.j0 k l0 a1 (!t296) a2_0 a2_1 a2_2)) else (spec_AddOnTop.j0 k l0 a1 true a2_0 a2_1 a2_2)) = some (r1,r2):=H
  have A6:=zM A60;clear A60;by_cases c7:t295 = true
  ·subst c7
   have H1:((spec_l12Rules.f a2_0 a2_1 a2_2).bind fun t296=>(spec_AddOnTop.j0 k l0 a1 (!t296) a2_0 a2_1 a2_2)) = some (r1,r2):=by rw [if_pos rfl] at H;exact H
   clear H;have H:=H1;clear H1;replace H:=Option.bind_eq_some_iff.mp H;obtain ⟨t296,A80,H⟩:=H;replace H:(spec_AddOnTop.j0 k l0 a1 (!t296) a2_0 a2_1 a2_2) = some (r1,r2):=H
   have A8:=zM A80;clear A80;have H':=zM H;clear H;go_wp2_with (first|(go_at_call 44;(with_reducible refine (spec_l12Good.calls k _ _ l0 true _ ?side1 ?side2 A6.out).mono ?_);(case side1=>repeat (first|exact (zO HR0.out HB.out)|(with_reducible first|refine zG ?_ _|refine zH ?_ _|refine zI ?_)));(case side2=>exact HC0.out);rintro e w' ⟨rfl,⟨nd,rfl⟩⟩;(try first|exact ⟨rfl,_,World.drewN_drewN _ _ _⟩|exact ⟨rfl,_,zW _ _ _ _⟩);have hcz9_0:w5.cell? ⟨gb294,0,none⟩ = some (.int .i64 a2_0):=(blk_cell BK294.out 0).trans rfl;have hcz9_1:w5.cell? ⟨gb294,1,none⟩ = some (.int .i64 a2_1):=(blk_cell BK294.out 1).trans rfl;have hcz9_2:w5.cell? ⟨gb294,2,none⟩ = some (.int .i64 a2_2):=(blk_cell BK294.out 2).trans rfl;have hfz9_0:=blk_frozen BK294.out 0;have hfz9_1:=blk_frozen BK294.out 1;have hfz9_2:=blk_frozen BK294.out 2)|(go_at_call 45;(with_reducible refine (spec_l12Rules.calls a2_0 a2_1 a2_2 t296 _ A8.out).mono ?_);rintro e w10 ⟨rfl,hb⟩;have n0_:=zM (blk_below (g:=gb294) (o := .cells #[.int .i64 a2_0,.int .i64 a2_1,.int .i64 a2_2] 28 (0,0)) (by (with_reducible repeat (first|refine zJ ?_ _|refine zK ?_|refine zL ?_ _));exact BK294.out) hb);have n1_:=zM (zQ (by repeat (first|(with_reducible first|exact HB.out|apply zD|apply zE|apply zF|refine below_set ?_ GE294.out)|exact HB.out)) hb);clear BK294;clear HB;have BK294:=n0_;have HB:=n1_;clear n0_ n1_;(try clear hb);(try clear hb2);(try clear hk);(try clear hi)))
   repeat (go_quiet (first|(go_at_call 44;(with_reducible refine (spec_l12Good.calls k _ _ l0 true _ ?side1 ?side2 A6.out).mono ?_);(case side1=>repeat (first|exact (zO HR0.out HB.out)|(with_reducible first|refine zG ?_ _|refine zH ?_ _|refine zI ?_)));(case side2=>exact HC0.out);rintro e w' ⟨rfl,⟨nd,rfl⟩⟩;(try first|exact ⟨rfl,_,World.drewN_drewN _ _ _⟩|exact ⟨rfl,_,zW _ _ _ _⟩);have hcz9_0:w5.cell? ⟨gb294,0,none⟩ = some (.int .i64 a2_0):=(blk_cell BK294.out 0).trans rfl;have hcz9_1:w5.cell? ⟨gb294,1,none⟩ = some (.int .i64 a2_1):=(blk_cell BK294.out 1).trans rfl;have hcz9_2:w5.cell? ⟨gb294,2,none⟩ = some (.int .i64 a2_2):=(blk_cell BK294.out 2).trans rfl;have hfz9_0:=blk_frozen BK294.out 0;have hfz9_1:=blk_frozen BK294.out 1;have hfz9_2:=blk_frozen BK294.out 2)|(go_at_call 45;(with_reducible refine (spec_l12Rules.calls a2_0 a2_1 a2_2 t296 _ A8.out).mono ?_);rintro e w10 ⟨rfl,hb⟩;have n0_:=zM (blk_below (g:=gb294) (o := .cells #[.int .i64 a2_0,.int .i64 a2_1,.int .i64 a2_2] 28 (0,0)) (by (with_reducible repeat (first|refine zJ ?_ _|refine zK ?_|refine zL ?_ _));exact BK294.out) hb);have n1_:=zM (zQ (by repeat (first|(with_reducible first|exact HB.out|apply zD|apply zE|apply zF|refine below_set ?_ GE294.out)|exact HB.out)) hb);clear BK294;clear HB;have BK294:=n0_;have HB:=n1_;clear n0_ n1_;(try clear hb);(try clear hb2);(try clear hk);(try clear hi)));try go_wp2_with (first|(go_at_call 44;(with_reducible refine (spec_l12Good.calls k _ _ l0 true _ ?side1 ?side2 A6.out).mono ?_);(case side1=>repeat (first|exact (zO HR0.out HB.out)|(with_reducible first|refine zG ?_ _|refine zH ?_ _|refine zI ?_)));(case side2=>exact HC0.out);rintro e w' ⟨rfl,⟨nd,rfl⟩⟩;(try first|exact ⟨rfl,_,World.drewN_drewN _ _ _⟩|exact ⟨rfl,_,zW _ _ _ _⟩);have hcz9_0:w5.cell? ⟨gb294,0,none⟩ = some (.int .i64 a2_0):=(blk_cell BK294.out 0).trans rfl;have hcz9_1:w5.cell? ⟨gb294,1,none⟩ = some (.int .i64 a2_1):=(blk_cell BK294.out 1).trans rfl;have hcz9_2:w5.cell? ⟨gb294,2,none⟩ = some (.int .i64 a2_2):=(blk_cell BK294.out 2).trans rfl;have hfz9_0:=blk_frozen BK294.out 0;have hfz9_1:=blk_frozen BK294.out 1;have hfz9_2:=blk_frozen BK294.out 2)|(go_at_call 45;(with_reducible refine (spec_l12Rules.calls a2_0 a2_1 a2_2 t296 _ A8.out).mono ?_);rintro e w10 ⟨rfl,hb⟩;have n0_:=zM (blk_below (g:=gb294) (o := .cells #[.int .i64 a2_0,.int .i64 a2_1,.int .i64 a2_2] 28 (0,0)) (by (with_reducible repeat (first|refine zJ ?_ _|refine zK ?_|refine zL ?_ _));exact BK294.out) hb);have n1_:=zM (zQ (by repeat (first|(with_reducible first|exact HB.out|apply zD|apply zE|apply zF|refine below_set ?_ GE294.out)|exact HB.out)) hb);clear BK294;clear HB;have BK294:=n0_;have HB:=n1_;clear n0_ n1_;(try clear hb);(try clear hb2);(try clear hk);(try clear hi))))
   go_meet
   case rel=>exact ⟨_,(!t296),(by first|rfl|(simp;done)|(simp [*];done)),H',⟨by first|omega|exact Nat.le_refl _⟩,⟨by (with_reducible repeat (first|refine zJ ?_ _|refine zK ?_|refine zL ?_ _));exact BK294.out⟩,⟨by repeat (first|(with_reducible first|exact HB.out|apply zD|apply zE|apply zF|refine below_set ?_ GE294.out)|exact HB.out)⟩⟩
  ·replace c7:=Bool.eq_false_iff.mpr c7
   subst c7;have H1:(spec_AddOnTop.j0 k l0 a1 true a2_0 a2_1 a2_2) = some (r1,r2):=by rw [if_neg (show ¬ (false = true) by decide)] at H;exact H
   clear H;have H:=H1;clear H1;have H':=zM H;clear H;go_wp2_with (first|(go_at_call 44;(with_reducible refine (spec_l12Good.calls k _ _ l0 false _ ?side1 ?side2 A6.out).mono ?_);(case side1=>repeat (first|exact (zO HR0.out HB.out)|(with_reducible first|refine zG ?_ _|refine zH ?_ _|refine zI ?_)));(case side2=>exact HC0.out);rintro e w' ⟨rfl,⟨nd,rfl⟩⟩;(try first|exact ⟨rfl,_,World.drewN_drewN _ _ _⟩|exact ⟨rfl,_,zW _ _ _ _⟩)))
   repeat (go_quiet (first|(go_at_call 44;(with_reducible refine (spec_l12Good.calls k _ _ l0 false _ ?side1 ?side2 A6.out).mono ?_);(case side1=>repeat (first|exact (zO HR0.out HB.out)|(with_reducible first|refine zG ?_ _|refine zH ?_ _|refine zI ?_)));(case side2=>exact HC0.out);rintro e w' ⟨rfl,⟨nd,rfl⟩⟩;(try first|exact ⟨rfl,_,World.drewN_drewN _ _ _⟩|exact ⟨rfl,_,zW _ _ _ _⟩)));try go_wp2_with (first|(go_at_call 44;(with_reducible refine (spec_l12Good.calls k _ _ l0 false _ ?side1 ?side2 A6.out).mono ?_);(case side1=>repeat (first|exact (zO HR0.out HB.out)|(with_reducible first|refine zG ?_ _|refine zH ?_ _|refine zI ?_)));(case side2=>exact HC0.out);rintro e w' ⟨rfl,⟨nd,rfl⟩⟩;(try first|exact ⟨rfl,_,World.drewN_drewN _ _ _⟩|exact ⟨rfl,_,zW _ _ _ _⟩))))
   go_meet
   case rel=>exact ⟨_,(true),(by first|rfl|(simp;done)|(simp [*];done)),H',⟨by first|omega|exact Nat.le_refl _⟩,⟨by (with_reducible repeat (first|refine zJ ?_ _|refine zK ?_|refine zL ?_ _));exact BK294.out⟩,⟨by repeat (first|(with_reducible first|exact HB.out|apply zD|apply zE|apply zF|refine below_set ?_ GE294.out)|exact HB.out)⟩⟩
 case rest =>
  clear HC4;(try clear c2);(try clear p2);(try clear c7);(try clear hcz9_0);(try clear hcz9_1);(try clear hcz9_2);(try clear hfz9_0);(try clear hfz9_1);(try clear hfz9_2);obtain ⟨kq,x18_3,rfl,HA,HJ3,BK294,HB⟩:=hcut;cases kq with
  | zero=>exact absurd HA.out (by simp [spec_AddOnTop.j0])
  | succ kj3 =>
   have H:=HA.out;clear HA;simp only [spec_AddOnTop.j0] at H
   by_cases c11:x18_3 = true
   ·subst c11
    have H1:(some ((([]:List Int)),false)) = some (r1,r2):=by rw [if_pos rfl] at H;exact H
    clear H;have H:=H1;clear H1;obtain ⟨y297,hy297⟩ : ∃ y_:List Int,y_ = (([]:List Int)):=⟨_,rfl⟩
    replace H:(some (y297,false)) = some (r1,r2):=by first|(rw [hy297];with_reducible exact H)|(have H2_:=(Option.bind_some _ _).symm.trans H;rw [hy297];with_reducible exact H2_)|(have H2_:=(Option.bind_some _ _).symm.trans H;with_reducible exact H2_)|with_reducible exact H|(rw [hy297];exact H)|exact H
    have Ny297:=zM hy297;clear hy297;simp only [Option.some.injEq,Prod.mk.injEq] at H
    obtain ⟨rfl,rfl⟩:=H;go_wp2_with (first|((with_reducible refine gate_dst (N:=19) rfl ?_);refine Kd.R_lit (Kd.int .i64) _ 3 ?hg (N:=19) ?hd (xs:=([]:List Int)) (inner:=[]) (ok:=fun _=>True) (okp:=fun _=>True) ?hr ?hp (fun _ hk=>hk) trivial (Below.refl _ _) (Nat.le_refl _) (by simp) ?_;(case hd=>rfl);(case hg=>rfl);(case hr=>first|(go_simp;done)|(go_simp;rfl));(case hp=>exact (Reps.none _ _));intro v298 w12 ho13 hb hg_ hnew_;clear hg_ hnew_;(first|rw [← Ny297.out] at ho13|(simp only [Int.reduceToNat] at ho13;rw [← Ny297.out] at ho13));have n0_:=zM (Kd.R_lower ho13 (zR (by repeat (first|(with_reducible first|exact HB.out|apply zD|apply zE|apply zF|refine below_set ?_ GE294.out)|exact HB.out))));have n1_:=zM (blk_below (g:=gb294) (o := .cells #[.int .i64 a2_0,.int .i64 a2_1,.int .i64 a2_2] 28 (0,0)) (by (with_reducible repeat (first|refine zJ ?_ _|refine zK ?_|refine zL ?_ _));exact BK294.out) hb);have n2_:=zM (zQ (by repeat (first|(with_reducible first|exact HB.out|apply zD|apply zE|apply zF|refine below_set ?_ GE294.out)|exact HB.out)) hb);clear BK294;clear HB;have HO299:=n0_;have BK294:=n1_;have HB:=n2_;clear n0_ n1_ n2_;clear hb ho13))
    repeat (go_quiet (first|((with_reducible refine gate_dst (N:=19) rfl ?_);refine Kd.R_lit (Kd.int .i64) _ 3 ?hg (N:=19) ?hd (xs:=([]:List Int)) (inner:=[]) (ok:=fun _=>True) (okp:=fun _=>True) ?hr ?hp (fun _ hk=>hk) trivial (Below.refl _ _) (Nat.le_refl _) (by simp) ?_;(case hd=>rfl);(case hg=>rfl);(case hr=>first|(go_simp;done)|(go_simp;rfl));(case hp=>exact (Reps.none _ _));intro v298 w12 ho13 hb hg_ hnew_;clear hg_ hnew_;(first|rw [← Ny297.out] at ho13|(simp only [Int.reduceToNat] at ho13;rw [← Ny297.out] at ho13));have n0_:=zM (Kd.R_lower ho13 (zR (by repeat (first|(with_reducible first|exact HB.out|apply zD|apply zE|apply zF|refine below_set ?_ GE294.out)|exact HB.out))));have n1_:=zM (blk_below (g:=gb294) (o := .cells #[.int .i64 a2_0,.int .i64 a2_1,.int .i64 a2_2] 28 (0,0)) (by (with_reducible repeat (first|refine zJ ?_ _|refine zK ?_|refine zL ?_ _));exact BK294.out) hb);have n2_:=zM (zQ (by repeat (first|(with_reducible first|exact HB.out|apply zD|apply zE|apply zF|refine below_set ?_ GE294.out)|exact HB.out)) hb);clear BK294;clear HB;have HO299:=n0_;have BK294:=n1_;have HB:=n2_;clear n0_ n1_ n2_;clear hb ho13));try go_wp2_with (first|((with_reducible refine gate_dst (N:=19) rfl ?_);refine Kd.R_lit (Kd.int .i64) _ 3 ?hg (N:=19) ?hd (xs:=([]:List Int)) (inner:=[]) (ok:=fun _=>True) (okp:=fun _=>True) ?hr ?hp (fun _ hk=>hk) trivial (Below.refl _ _) (Nat.le_refl _) (by simp) ?_;(case hd=>rfl);(case hg=>rfl);(case hr=>first|(go_simp;done)|(go_simp;rfl));(case hp=>exact (Reps.none _ _));intro v298 w12 ho13 hb hg_ hnew_;clear hg_ hnew_;(first|rw [← Ny297.out] at ho13|(simp only [Int.reduceToNat] at ho13;rw [← Ny297.out] at ho13));have n0_:=zM (Kd.R_lower ho13 (zR (by repeat (first|(with_reducible first|exact HB.out|apply zD|apply zE|apply zF|refine below_set ?_ GE294.out)|exact HB.out))));have n1_:=zM (blk_below (g:=gb294) (o := .cells #[.int .i64 a2_0,.int .i64 a2_1,.int .i64 a2_2] 28 (0,0)) (by (with_reducible repeat (first|refine zJ ?_ _|refine zK ?_|refine zL ?_ _));exact BK294.out) hb);have n2_:=zM (zQ (by repeat (first|(with_reducible first|exact HB.out|apply zD|apply zE|apply zF|refine below_set ?_ GE294.out)|exact HB.out)) hb);clear BK294;clear HB;have HO299:=n0_;have BK294:=n1_;have HB:=n2_;clear n0_ n1_ n2_;clear hb ho13)))
    go_ret2
    exact ⟨_,by first|rfl|(simp [errW_none,errW_some] <;> rfl)|(simp [*,errW_none,errW_some] <;> rfl),by (with_reducible repeat (first|apply zA|apply zB|apply zC));exact HO299.out,by repeat (first|(with_reducible first|exact HB.out|apply zD|apply zE|apply zF|refine below_set ?_ GE294.out)|exact HB.out)⟩
   ·replace c11:=Bool.eq_false_iff.mpr c11
    subst c11;have H1:((spec_l1Own.f l0).bind fun t300=>(if t300.length < 17592186044416 then ((some (t300 ++ [a1]:List Int)).bind fun y303=>((spec_LashingsNeeded.f kj3 y303 a2_0 a2_1 a2_2).bind fun bt306=>(if bt306.2 = true then ((spec_l12Sum.f kj3 y303 0).bind fun t310=>(if t310 > a2_0 then (some ((([]:List Int)),false)) else (some (y303,true)))) else (some ((([]:List Int)),false))))) else (none))) = some (r1,r2):=by rw [if_neg (show ¬ (false = true) by decide)] at H;exact H
    clear H;have H:=H1;clear H1;replace H:=Option.bind_eq_some_iff.mp H;obtain ⟨t300,A140,H⟩:=H;replace H:(if t300.length < 17592186044416 then ((some (t300 ++ [a1]:List Int)).bind fun y303=>((spec_LashingsNeeded.f kj3 y303 a2_0 a2_1 a2_2).bind fun bt306=>(if bt306.2 = true then ((spec_l12Sum.f kj3 y303 0).bind fun t310=>(if t310 > a2_0 then (some ((([]:List Int)),false)) else (some (y303,true)))) else (some ((([]:List Int)),false))))) else (none)) = some (r1,r2):=H
    have A14:=zM A140;clear A140;by_cases c15:t300.length < 17592186044416
    ·rw [if_pos c15] at H
     have LMc15:=zM c15;clear c15;obtain ⟨y303,hy303⟩ : ∃ y_:List Int,y_ = (t300 ++ [a1]):=⟨_,rfl⟩
     replace H:((spec_LashingsNeeded.f kj3 y303 a2_0 a2_1 a2_2).bind fun bt306=>(if bt306.2 = true then ((spec_l12Sum.f kj3 y303 0).bind fun t310=>(if t310 > a2_0 then (some ((([]:List Int)),false)) else (some (y303,true)))) else (some ((([]:List Int)),false)))) = some (r1,r2):=by first|(rw [hy303];with_reducible exact H)|(have H2_:=(Option.bind_some _ _).symm.trans H;rw [hy303];with_reducible exact H2_)|(have H2_:=(Option.bind_some _ _).symm.trans H;with_reducible exact H2_)|with_reducible exact H|(rw [hy303];exact H)|exact H
     have Ny303:=zM hy303;clear hy303;replace H:=Option.bind_eq_some_iff.mp H;obtain ⟨⟨t306,t309⟩,A160,H⟩:=H;replace H:(if t309 = true then ((spec_l12Sum.f kj3 y303 0).bind fun t310=>(if t310 > a2_0 then (some ((([]:List Int)),false)) else (some (y303,true)))) else (some ((([]:List Int)),false))) = some (r1,r2):=H
     have A16:=zM A160;clear A160;by_cases c17:t309 = true
     ·subst c17
      have H1:((spec_l12Sum.f kj3 y303 0).bind fun t310=>(if t310 > a2_0 then (some ((([]:List Int)),false)) else (some (y303,true)))) = some (r1,r2):=by rw [if_pos rfl] at H;exact H
      clear H;have H:=H1;clear H1;replace H:=Option.bind_eq_some_iff.mp H;obtain ⟨t310,A180,H⟩:=H;replace H:(if t310 > a2_0 then (some ((([]:List Int)),false)) else (some (y303,true))) = some (r1,r2):=H
      have A18:=zM A180;clear A180;by_cases c19:t310 > a2_0
      ·rw [if_pos c19] at H
       have c19b0:decide (a2_0 < t310) = true:=decide_eq_true c19
       clear c19;obtain ⟨y311,hy311⟩ : ∃ y_:List Int,y_ = (([]:List Int)):=⟨_,rfl⟩
       replace H:(some (y311,false)) = some (r1,r2):=by first|(rw [hy311];with_reducible exact H)|(have H2_:=(Option.bind_some _ _).symm.trans H;rw [hy311];with_reducible exact H2_)|(have H2_:=(Option.bind_some _ _).symm.trans H;with_reducible exact H2_)|with_reducible exact H|(rw [hy311];exact H)|exact H
       have Ny311:=zM hy311;clear hy311;simp only [Option.some.injEq,Prod.mk.injEq] at H
       obtain ⟨rfl,rfl⟩:=H;go_wp2_with (first|(go_at_call 50;(with_reducible refine (spec_l1Own.calls _ _ l0 t300 _ ?side1 ?side2 A14.out).mono ?_);(case side1=>repeat (first|exact (zO HR0.out HB.out)|(with_reducible first|refine zG ?_ _|refine zH ?_ _|refine zI ?_)));(case side2=>exact HC0.out);rintro e w20 ⟨v301,rfl,ho0,hb⟩;have n0_:=zM (Kd.R_lower ho0 (zR (by repeat (first|(with_reducible first|exact HB.out|apply zD|apply zE|apply zF|refine below_set ?_ GE294.out)|exact HB.out))));have n1_:=zM (blk_below (g:=gb294) (o := .cells #[.int .i64 a2_0,.int .i64 a2_1,.int .i64 a2_2] 28 (0,0)) (by (with_reducible repeat (first|refine zJ ?_ _|refine zK ?_|refine zL ?_ _));exact BK294.out) hb);have n2_:=zM (zQ (by repeat (first|(with_reducible first|exact HB.out|apply zD|apply zE|apply zF|refine below_set ?_ GE294.out)|exact HB.out)) hb);clear BK294;clear HB;have HO302:=n0_;have BK294:=n1_;have HB:=n2_;clear n0_ n1_ n2_;(try clear hb);(try clear hb2);(try clear hk);(try clear hi);(try clear ho0))|((with_reducible refine gate_builtin (b := .append) (xs := #[.tmp 21,.tmp 23]) rfl ?_);at_builtin;refine Kd.R_append (Kd.int .i64) (w0:=w) w.heap.size rfl (.tmp 21) (.tmp 23) 22 3 (.int .i64 0) 8 rfl Try.underlying22 info3 rfl (by decide) (by omega) v301 t300 a1 [.int .i64 a1] (fun _=>True) (fun _=>False) rfl rfl ?aP (fun _ hk=>hk.elim) ?aF ?aO ?aB ?aS ?aL ?_;(case aP=>exact rfl);(case aB=>exact (by repeat (first|(with_reducible first|exact HB.out|apply zD|apply zE|apply zF|refine below_set ?_ GE294.out)|exact HB.out)));(case aF=>exact (fun _ _=>trivial));(case aO=>exact (by (with_reducible repeat (first|apply zA|apply zB|apply zC));exact HO302.out));(case aS=>exact (zR (by repeat (first|(with_reducible first|exact HB.out|apply zD|apply zE|apply zF|refine below_set ?_ GE294.out)|exact HB.out))));(case aL=>have:=LMc15.out;omega);intro v304 w21 ho hb hg hat;rw [← Ny303.out] at ho;have n0_:=zM (blk_grown (g:=gb294) (o := .cells #[.int .i64 a2_0,.int .i64 a2_1,.int .i64 a2_2] 28 (0,0)) (by (with_reducible repeat (first|refine zJ ?_ _|refine zK ?_|refine zL ?_ _));exact BK294.out) hg (Kd.R_ne HO302.out BK294.out (by decide)));have n1_:=zM (hb);have n2_:=zM (ho);clear BK294;clear HB;clear HO302;have BK294:=n0_;have HB:=n1_;have HO305:=n2_;clear n0_ n1_ n2_;clear ho hb hg hat;have hcz22_0:w21.cell? ⟨gb294,0,none⟩ = some (.int .i64 a2_0):=(blk_cell BK294.out 0).trans rfl;have hcz22_1:w21.cell? ⟨gb294,1,none⟩ = some (.int .i64 a2_1):=(blk_cell BK294.out 1).trans rfl;have hcz22_2:w21.cell? ⟨gb294,2,none⟩ = some (.int .i64 a2_2):=(blk_cell BK294.out 2).trans rfl;have hfz22_0:=blk_frozen BK294.out 0;have hfz22_1:=blk_frozen BK294.out 1;have hfz22_2:=blk_frozen BK294.out 2;obtain ⟨Ao23,co23,eo23⟩:=Kd.R_slice HO305.out;subst eo23)|(go_at_call 19;(with_reducible refine (spec_LashingsNeeded.calls kj3 _ _ y303 a2_0 a2_1 a2_2 t306 true _ ?side1 ?side2 A16.out).mono ?_);(case side1=>repeat (first|exact (zN HO305.out).2.2|(with_reducible first|refine zG ?_ _|refine zH ?_ _|refine zI ?_)));(case side2=>exact (zN HO305.out).2.1);rintro e w24 ⟨v307,rfl,ho0,hb⟩;have n0_:=zM (Kd.R_elder' (by (with_reducible repeat (first|apply zA|apply zB|apply zC));exact HO305.out) (Kd.R_base ho0) hb);have n1_:=zM (Kd.R_lower (Kd.R_new' ho0 (Kd.R_lt (by (with_reducible repeat (first|apply zA|apply zB|apply zC));exact HO305.out))) (zR (by repeat (first|(with_reducible first|exact HB.out|apply zD|apply zE|apply zF|refine below_set ?_ GE294.out)|exact HB.out))));have n2_:=zM (blk_below (g:=gb294) (o := .cells #[.int .i64 a2_0,.int .i64 a2_1,.int .i64 a2_2] 28 (0,0)) (by (with_reducible repeat (first|refine zJ ?_ _|refine zK ?_|refine zL ?_ _));exact BK294.out) hb);have n3_:=zM (zQ (by repeat (first|(with_reducible first|exact HB.out|apply zD|apply zE|apply zF|refine below_set ?_ GE294.out)|exact HB.out)) hb);clear HO305;clear BK294;clear HB;have HO305:=n0_;have HO308:=n1_;have BK294:=n2_;have HB:=n3_;clear n0_ n1_ n2_ n3_;(try clear hb);(try clear hb2);(try clear hk);(try clear hi);(try clear ho0))|(go_at_call 51;(with_reducible refine (spec_l12Sum.calls kj3 _ _ y303 0 t310 _ ?side1 ?side2 A18.out).mono ?_);(case side1=>repeat (first|exact (zN HO305.out).2.2|(with_reducible first|refine zG ?_ _|refine zH ?_ _|refine zI ?_)));(case side2=>exact (zN HO305.out).2.1);rintro e w' ⟨rfl,⟨nd,rfl⟩⟩;(try first|exact ⟨rfl,_,World.drewN_drewN _ _ _⟩|exact ⟨rfl,_,zW _ _ _ _⟩);have hcz25_0:w24.cell? ⟨gb294,0,none⟩ = some (.int .i64 a2_0):=(blk_cell BK294.out 0).trans rfl;have hcz25_1:w24.cell? ⟨gb294,1,none⟩ = some (.int .i64 a2_1):=(blk_cell BK294.out 1).trans rfl;have hcz25_2:w24.cell? ⟨gb294,2,none⟩ = some (.int .i64 a2_2):=(blk_cell BK294.out 2).trans rfl;have hfz25_0:=blk_frozen BK294.out 0;have hfz25_1:=blk_frozen BK294.out 1;have hfz25_2:=blk_frozen BK294.out 2)|((with_reducible refine gate_dst (N:=40) rfl ?_);refine Kd.R_lit (Kd.int .i64) _ 3 ?hg (N:=40) ?hd (xs:=([]:List Int)) (inner:=[]) (ok:=fun _=>True) (okp:=fun _=>True) ?hr ?hp (fun _ hk=>hk) trivial (Below.refl _ _) (Nat.le_refl _) (by simp) ?_;(case hd=>rfl);(case hg=>rfl);(case hr=>first|(go_simp;done)|(go_simp;rfl));(case hp=>exact (Reps.none _ _));intro v312 w26 ho27 hb hg_ hnew_;clear hg_ hnew_;(first|rw [← Ny311.out] at ho27|(simp only [Int.reduceToNat] at ho27;rw [← Ny311.out] at ho27));have n0_:=zM (Kd.R_elder' (by (with_reducible repeat (first|apply zA|apply zB|apply zC));exact HO305.out) (Kd.R_base ho27) hb);have n1_:=zM (Kd.R_elder' (by (with_reducible repeat (first|apply zA|apply zB|apply zC));exact HO308.out) (Kd.R_base ho27) hb);have n2_:=zM (Kd.R_lower (Kd.R_new' (Kd.R_new' ho27 (Kd.R_lt (by (with_reducible repeat (first|apply zA|apply zB|apply zC));exact HO305.out))) (Kd.R_lt (by (with_reducible repeat (first|apply zA|apply zB|apply zC));exact HO308.out))) (zR (by repeat (first|(with_reducible first|exact HB.out|apply zD|apply zE|apply zF|refine below_set ?_ GE294.out)|exact HB.out))));have n3_:=zM (blk_below (g:=gb294) (o := .cells #[.int .i64 a2_0,.int .i64 a2_1,.int .i64 a2_2] 28 (0,0)) (by (with_reducible repeat (first|refine zJ ?_ _|refine zK ?_|refine zL ?_ _));exact BK294.out) hb);have n4_:=zM (zQ (by repeat (first|(with_reducible first|exact HB.out|apply zD|apply zE|apply zF|refine below_set ?_ GE294.out)|exact HB.out)) hb);clear HO305;clear HO308;clear BK294;clear HB;have HO305:=n0_;have HO308:=n1_;have HO313:=n2_;have BK294:=n3_;have HB:=n4_;clear n0_ n1_ n2_ n3_ n4_;clear hb ho27))
       repeat (go_quiet (first|(go_at_call 50;(with_reducible refine (spec_l1Own.calls _ _ l0 t300 _ ?side1 ?side2 A14.out).mono ?_);(case side1=>repeat (first|exact (zO HR0.out HB.out)|(with_reducible first|refine zG ?_ _|refine zH ?_ _|refine zI ?_)));(case side2=>exact HC0.out);rintro e w20 ⟨v301,rfl,ho0,hb⟩;have n0_:=zM (Kd.R_lower ho0 (zR (by repeat (first|(with_reducible first|exact HB.out|apply zD|apply zE|apply zF|refine below_set ?_ GE294.out)|exact HB.out))));have n1_:=zM (blk_below (g:=gb294) (o := .cells #[.int .i64 a2_0,.int .i64 a2_1,.int .i64 a2_2] 28 (0,0)) (by (with_reducible repeat (first|refine zJ ?_ _|refine zK ?_|refine zL ?_ _));exact BK294.out) hb);have n2_:=zM (zQ (by repeat (first|(with_reducible first|exact HB.out|apply zD|apply zE|apply zF|refine below_set ?_ GE294.out)|exact HB.out)) hb);clear BK294;clear HB;have HO302:=n0_;have BK294:=n1_;have HB:=n2_;clear n0_ n1_ n2_;(try clear hb);(try clear hb2);(try clear hk);(try clear hi);(try clear ho0))|((with_reducible refine gate_builtin (b := .append) (xs := #[.tmp 21,.tmp 23]) rfl ?_);at_builtin;refine Kd.R_append (Kd.int .i64) (w0:=w) w.heap.size rfl (.tmp 21) (.tmp 23) 22 3 (.int .i64 0) 8 rfl Try.underlying22 info3 rfl (by decide) (by omega) v301 t300 a1 [.int .i64 a1] (fun _=>True) (fun _=>False) rfl rfl ?aP (fun _ hk=>hk.elim) ?aF ?aO ?aB ?aS ?aL ?_;(case aP=>exact rfl);(case aB=>exact (by repeat (first|(with_reducible first|exact HB.out|apply zD|apply zE|apply zF|refine below_set ?_ GE294.out)|exact HB.out)));(case aF=>exact (fun _ _=>trivial));(case aO=>exact (by (with_reducible repeat (first|apply zA|apply zB|apply zC));exact HO302.out));(case aS=>exact (zR (by repeat (first|(with_reducible first|exact HB.out|apply zD|apply zE|apply zF|refine below_set ?_ GE294.out)|exact HB.out))));(case aL=>have:=LMc15.out;omega);intro v304 w21 ho hb hg hat;rw [← Ny303.out] at ho;have n0_:=zM (blk_grown (g:=gb294) (o := .cells #[.int .i64 a2_0,.int .i64 a2_1,.int .i64 a2_2] 28 (0,0)) (by (with_reducible repeat (first|refine zJ ?_ _|refine zK ?_|refine zL ?_ _));exact BK294.out) hg (Kd.R_ne HO302.out BK294.out (by decide)));have n1_:=zM (hb);have n2_:=zM (ho);clear BK294;clear HB;clear HO302;have BK294:=n0_;have HB:=n1_;have HO305:=n2_;clear n0_ n1_ n2_;clear ho hb hg hat;have hcz22_0:w21.cell? ⟨gb294,0,none⟩ = some (.int .i64 a2_0):=(blk_cell BK294.out 0).trans rfl;have hcz22_1:w21.cell? ⟨gb294,1,none⟩ = some (.int .i64 a2_1):=(blk_cell BK294.out 1).trans rfl;have hcz22_2:w21.cell? ⟨gb294,2,none⟩ = some (.int .i64 a2_2):=(blk_cell BK294.out 2).trans rfl;have hfz22_0:=blk_frozen BK294.out 0;have hfz22_1:=blk_frozen BK294.out 1;have hfz22_2:=blk_frozen BK294.out 2;obtain ⟨Ao23,co23,eo23⟩:=Kd.R_slice HO305.out;subst eo23)|(go_at_call 19;(with_reducible refine (spec_LashingsNeeded.calls kj3 _ _ y303 a2_0 a2_1 a2_2 t306 true _ ?side1 ?side2 A16.out).mono ?_);(case side1=>repeat (first|exact (zN HO305.out).2.2|(with_reducible first|refine zG ?_ _|refine zH ?_ _|refine zI ?_)));(case side2=>exact (zN HO305.out).2.1);rintro e w24 ⟨v307,rfl,ho0,hb⟩;have n0_:=zM (Kd.R_elder' (by (with_reducible repeat (first|apply zA|apply zB|apply zC));exact HO305.out) (Kd.R_base ho0) hb);have n1_:=zM (Kd.R_lower (Kd.R_new' ho0 (Kd.R_lt (by (with_reducible repeat (first|apply zA|apply zB|apply zC));exact HO305.out))) (zR (by repeat (first|(with_reducible first|exact HB.out|apply zD|apply zE|apply zF|refine below_set ?_ GE294.out)|exact HB.out))));have n2_:=zM (blk_below (g:=gb294) (o := .cells #[.int .i64 a2_0,.int .i64 a2_1,.int .i64 a2_2] 28 (0,0)) (by (with_reducible repeat (first|refine zJ ?_ _|refine zK ?_|refine zL ?_ _));exact BK294.out) hb);have n3_:=zM (zQ (by repeat (first|(with_reducible first|exact HB.out|apply zD|apply zE|apply zF|refine below_set ?_ GE294.out)|exact HB.out)) hb);clear HO305;clear BK294;clear HB;have HO305:=n0_;have HO308:=n1_;have BK294:=n2_;have HB:=n3_;clear n0_ n1_ n2_ n3_;(try clear hb);(try clear hb2);(try clear hk);(try clear hi);(try clear ho0))|(go_at_call 51;(with_reducible refine (spec_l12Sum.calls kj3 _ _ y303 0 t310 _ ?side1 ?side2 A18.out).mono ?_);(case side1=>repeat (first|exact (zN HO305.out).2.2|(with_reducible first|refine zG ?_ _|refine zH ?_ _|refine zI ?_)));(case side2=>exact (zN HO305.out).2.1);rintro e w' ⟨rfl,⟨nd,rfl⟩⟩;(try first|exact ⟨rfl,_,World.drewN_drewN _ _ _⟩|exact ⟨rfl,_,zW _ _ _ _⟩);have hcz25_0:w24.cell? ⟨gb294,0,none⟩ = some (.int .i64 a2_0):=(blk_cell BK294.out 0).trans rfl;have hcz25_1:w24.cell? ⟨gb294,1,none⟩ = some (.int .i64 a2_1):=(blk_cell BK294.out 1).trans rfl;have hcz25_2:w24.cell? ⟨gb294,2,none⟩ = some (.int .i64 a2_2):=(blk_cell BK294.out 2).trans rfl;have hfz25_0:=blk_frozen BK294.out 0;have hfz25_1:=blk_frozen BK294.out 1;have hfz25_2:=blk_frozen BK294.out 2)|((with_reducible refine gate_dst (N:=40) rfl ?_);refine Kd.R_lit (Kd.int .i64) _ 3 ?hg (N:=40) ?hd (xs:=([]:List Int)) (inner:=[]) (ok:=fun _=>True) (okp:=fun _=>True) ?hr ?hp (fun _ hk=>hk) trivial (Below.refl _ _) (Nat.le_refl _) (by simp) ?_;(case hd=>rfl);(case hg=>rfl);(case hr=>first|(go_simp;done)|(go_simp;rfl));(case hp=>exact (Reps.none _ _));intro v312 w26 ho27 hb hg_ hnew_;clear hg_ hnew_;(first|rw [← Ny311.out] at ho27|(simp only [Int.reduceToNat] at ho27;rw [← Ny311.out] at ho27));have n0_:=zM (Kd.R_elder' (by (with_reducible repeat (first|apply zA|apply zB|apply zC));exact HO305.out) (Kd.R_base ho27) hb);have n1_:=zM (Kd.R_elder' (by (with_reducible repeat (first|apply zA|apply zB|apply zC));exact HO308.out) (Kd.R_base ho27) hb);have n2_:=zM (Kd.R_lower (Kd.R_new' (Kd.R_new' ho27 (Kd.R_lt (by (with_reducible repeat (first|apply zA|apply zB|apply zC));exact HO305.out))) (Kd.R_lt (by (with_reducible repeat (first|apply zA|apply zB|apply zC));exact HO308.out))) (zR (by repeat (first|(with_reducible first|exact HB.out|apply zD|apply zE|apply zF|refine below_set ?_ GE294.out)|exact HB.out))));have n3_:=zM (blk_below (g:=gb294) (o := .cells #[.int .i64 a2_0,.int .i64 a2_1,.int .i64 a2_2] 28 (0,0)) (by (with_reducible repeat (first|refine zJ ?_ _|refine zK ?_|refine zL ?_ _));exact BK294.out) hb);have n4_:=zM (zQ (by repeat (first|(with_reducible first|exact HB.out|apply zD|apply zE|apply zF|refine below_set ?_ GE294.out)|exact HB.out)) hb);clear HO305;clear HO308;clear BK294;clear HB;have HO305:=n0_;have HO308:=n1_;have HO313:=n2_;have BK294:=n3_;have HB:=n4_;clear n0_ n1_ n2_ n3_ n4_;clear hb ho27));try go_wp2_with (first|(go_at_call 50;(with_reducible refine (spec_l1Own.calls _ _ l0 t300 _ ?side1 ?side2 A14.out).mono ?_);(case side1=>repeat (first|exact (zO HR0.out HB.out)|(with_reducible first|refine zG ?_ _|refine zH ?_ _|refine zI ?_)));(case side2=>exact HC0.out);rintro e w20 ⟨v301,rfl,ho0,hb⟩;have n0_:=zM (Kd.R_lower ho0 (zR (by repeat (first|(with_reducible first|exact HB.out|apply zD|apply zE|apply zF|refine below_set ?_ GE294.out)|exact HB.out))));have n1_:=zM (blk_below (g:=gb294) (o := .cells #[.int .i64 a2_0,.int .i64 a2_1,.int .i64 a2_2] 28 (0,0)) (by (with_reducible repeat (first|refine zJ ?_ _|refine zK ?_|refine zL ?_ _));exact BK294.out) hb);have n2_:=zM (zQ (by repeat (first|(with_reducible first|exact HB.out|apply zD|apply zE|apply zF|refine below_set ?_ GE294.out)|exact HB.out)) hb);clear BK294;clear HB;have HO302:=n0_;have BK294:=n1_;have HB:=n2_;clear n0_ n1_ n2_;(try clear hb);(try clear hb2);(try clear hk);(try clear hi);(try clear ho0))|((with_reducible refine gate_builtin (b := .append) (xs := #[.tmp 21,.tmp 23]) rfl ?_);at_builtin;refine Kd.R_append (Kd.int .i64) (w0:=w) w.heap.size rfl (.tmp 21) (.tmp 23) 22 3 (.int .i64 0) 8 rfl Try.underlying22 info3 rfl (by decide) (by omega) v301 t300 a1 [.int .i64 a1] (fun _=>True) (fun _=>False) rfl rfl ?aP (fun _ hk=>hk.elim) ?aF ?aO ?aB ?aS ?aL ?_;(case aP=>exact rfl);(case aB=>exact (by repeat (first|(with_reducible first|exact HB.out|apply zD|apply zE|apply zF|refine below_set ?_ GE294.out)|exact HB.out)));(case aF=>exact (fun _ _=>trivial));(case aO=>exact (by (with_reducible repeat (first|apply zA|apply zB|apply zC));exact HO302.out));(case aS=>exact (zR (by repeat (first|(with_reducible first|exact HB.out|apply zD|apply zE|apply zF|refine below_set ?_ GE294.out)|exact HB.out))));(case aL=>have:=LMc15.out;omega);intro v304 w21 ho hb hg hat;rw [← Ny303.out] at ho;have n0_:=zM (blk_grown (g:=gb294) (o := .cells #[.int .i64 a2_0,.int .i64 a2_1,.int .i64 a2_2] 28 (0,0)) (by (with_reducible repeat (first|refine zJ ?_ _|refine zK ?_|refine zL ?_ _));exact BK294.out) hg (Kd.R_ne HO302.out BK294.out (by decide)));have n1_:=zM (hb);have n2_:=zM (ho);clear BK294;clear HB;clear HO302;have BK294:=n0_;have HB:=n1_;have HO305:=n2_;clear n0_ n1_ n2_;clear ho hb hg hat;have hcz22_0:w21.cell? ⟨gb294,0,none⟩ = some (.int .i64 a2_0):=(blk_cell BK294.out 0).trans rfl;have hcz22_1:w21.cell? ⟨gb294,1,none⟩ = some (.int .i64 a2_1):=(blk_cell BK294.out 1).trans rfl;have hcz22_2:w21.cell? ⟨gb294,2,none⟩ = some (.int .i64 a2_2):=(blk_cell BK294.out 2).trans rfl;have hfz22_0:=blk_frozen BK294.out 0;have hfz22_1:=blk_frozen BK294.out 1;have hfz22_2:=blk_frozen BK294.out 2;obtain ⟨Ao23,co23,eo23⟩:=Kd.R_slice HO305.out;subst eo23)|(go_at_call 19;(with_reducible refine (spec_LashingsNeeded.calls kj3 _ _ y303 a2_0 a2_1 a2_2 t306 true _ ?side1 ?side2 A16.out).mono ?_);(case side1=>repeat (first|exact (zN HO305.out).2.2|(with_reducible first|refine zG ?_ _|refine zH ?_ _|refine zI ?_)));(case side2=>exact (zN HO305.out).2.1);rintro e w24 ⟨v307,rfl,ho0,hb⟩;have n0_:=zM (Kd.R_elder' (by (with_reducible repeat (first|apply zA|apply zB|apply zC));exact HO305.out) (Kd.R_base ho0) hb);have n1_:=zM (Kd.R_lower (Kd.R_new' ho0 (Kd.R_lt (by (with_reducible repeat (first|apply zA|apply zB|apply zC));exact HO305.out))) (zR (by repeat (first|(with_reducible first|exact HB.out|apply zD|apply zE|apply zF|refine below_set ?_ GE294.out)|exact HB.out))));have n2_:=zM (blk_below (g:=gb294) (o := .cells #[.int .i64 a2_0,.int .i64 a2_1,.int .i64 a2_2] 28 (0,0)) (by (with_reducible repeat (first|refine zJ ?_ _|refine zK ?_|refine zL ?_ _));exact BK294.out) hb);have n3_:=zM (zQ (by repeat (first|(with_reducible first|exact HB.out|apply zD|apply zE|apply zF|refine below_set ?_ GE294.out)|exact HB.out)) hb);clear HO305;clear BK294;clear HB;have HO305:=n0_;have HO308:=n1_;have BK294:=n2_;have HB:=n3_;clear n0_ n1_ n2_ n3_;(try clear hb);(try clear hb2);(try clear hk);(try clear hi);(try clear ho0))|(go_at_call 51;(with_reducible refine (spec_l12Sum.calls kj3 _ _ y303 0 t310 _ ?side1 ?side2 A18.out).mono ?_);(case side1=>repeat (first|exact (zN HO305.out).2.2|(with_reducible first|refine zG ?_ _|refine zH ?_ _|refine zI ?_)));(case side2=>exact (zN HO305.out).2.1);rintro e w' ⟨rfl,⟨nd,rfl⟩⟩;(try first|exact ⟨rfl,_,World.drewN_drewN _ _ _⟩|exact ⟨rfl,_,zW _ _ _ _⟩);have hcz25_0:w24.cell? ⟨gb294,0,none⟩ = some (.int .i64 a2_0):=(blk_cell BK294.out 0).trans rfl;have hcz25_1:w24.cell? ⟨gb294,1,none⟩ = some (.int .i64 a2_1):=(blk_cell BK294.out 1).trans rfl;have hcz25_2:w24.cell? ⟨gb294,2,none⟩ = some (.int .i64 a2_2):=(blk_cell BK294.out 2).trans rfl;have hfz25_0:=blk_frozen BK294.out 0;have hfz25_1:=blk_frozen BK294.out 1;have hfz25_2:=blk_frozen BK294.out 2)|((with_reducible refine gate_dst (N:=40) rfl ?_);refine Kd.R_lit (Kd.int .i64) _ 3 ?hg (N:=40) ?hd (xs:=([]:List Int)) (inner:=[]) (ok:=fun _=>True) (okp:=fun _=>True) ?hr ?hp (fun _ hk=>hk) trivial (Below.refl _ _) (Nat.le_refl _) (by simp) ?_;(case hd=>rfl);(case hg=>rfl);(case hr=>first|(go_simp;done)|(go_simp;rfl));(case hp=>exact (Reps.none _ _));intro v312 w26 ho27 hb hg_ hnew_;clear hg_ hnew_;(first|rw [← Ny311.out] at ho27|(simp only [Int.reduceToNat] at ho27;rw [← Ny311.out] at ho27));have n0_:=zM (Kd.R_elder' (by (with_reducible repeat (first|apply zA|apply zB|apply zC));exact HO305.out) (Kd.R_base ho27) hb);have n1_:=zM (Kd.R_elder' (by (with_reducible repeat (first|apply zA|apply zB|apply zC));exact HO308.out) (Kd.R_base ho27) hb);have n2_:=zM (Kd.R_lower (Kd.R_new' (Kd.R_new' ho27 (Kd.R_lt (by (with_reducible repeat (first|apply zA|apply zB|apply zC));exact HO305.out))) (Kd.R_lt (by (with_reducible repeat (first|apply zA|apply zB|apply zC));exact HO308.out))) (zR (by repeat (first|(with_reducible first|exact HB.out|apply zD|apply zE|apply zF|refine below_set ?_ GE294.out)|exact HB.out))));have n3_:=zM (blk_below (g:=gb294) (o := .cells #[.int .i64 a2_0,.int .i64 a2_1,.int .i64 a2_2] 28 (0,0)) (by (with_reducible repeat (first|refine zJ ?_ _|refine zK ?_|refine zL ?_ _));exact BK294.out) hb);have n4_:=zM (zQ (by repeat (first|(with_reducible first|exact HB.out|apply zD|apply zE|apply zF|refine below_set ?_ GE294.out)|exact HB.out)) hb);clear HO305;clear HO308;clear BK294;clear HB;have HO305:=n0_;have HO308:=n1_;have HO313:=n2_;have BK294:=n3_;have HB:=n4_;clear n0_ n1_ n2_ n3_ n4_;clear hb ho27)))
       go_ret2
       exact ⟨_,by first|rfl|(simp [errW_none,errW_some] <;> rfl)|(simp [*,errW_none,errW_some] <;> rfl),by (with_reducible repeat (first|apply zA|apply zB|apply zC));exact Kd.R_mono HO313.out (fun _ hk=>trivial),by repeat (first|(with_reducible first|exact HB.out|apply zD|apply zE|apply zF|refine below_set ?_ GE294.out)|exact HB.out)⟩
      ·rw [if_neg c19] at H
       have c19b0:decide (a2_0 < t310) = false:=decide_eq_false c19
       clear c19;simp only [Option.some.injEq,Prod.mk.injEq] at H
       obtain ⟨rfl,rfl⟩:=H;go_wp2_with (first|(go_at_call 50;(with_reducible refine (spec_l1Own.calls _ _ l0 t300 _ ?side1 ?side2 A14.out).mono ?_);(case side1=>repeat (first|exact (zO HR0.out HB.out)|(with_reducible first|refine zG ?_ _|refine zH ?_ _|refine zI ?_)));(case side2=>exact HC0.out);rintro e w28 ⟨v301,rfl,ho0,hb⟩;have n0_:=zM (Kd.R_lower ho0 (zR (by repeat (first|(with_reducible first|exact HB.out|apply zD|apply zE|apply zF|refine below_set ?_ GE294.out)|exact HB.out))));have n1_:=zM (blk_below (g:=gb294) (o := .cells #[.int .i64 a2_0,.int .i64 a2_1,.int .i64 a2_2] 28 (0,0)) (by (with_reducible repeat (first|refine zJ ?_ _|refine zK ?_|refine zL ?_ _));exact BK294.out) hb);have n2_:=zM (zQ (by repeat (first|(with_reducible first|exact HB.out|apply zD|apply zE|apply zF|refine below_set ?_ GE294.out)|exact HB.out)) hb);clear BK294;clear HB;have HO302:=n0_;have BK294:=n1_;have HB:=n2_;clear n0_ n1_ n2_;(try clear hb);(try clear hb2);(try clear hk);(try clear hi);(try clear ho0))|((with_reducible refine gate_builtin (b := .append) (xs := #[.tmp 21,.tmp 23]) rfl ?_);at_builtin;refine Kd.R_append (Kd.int .i64) (w0:=w) w.heap.size rfl (.tmp 21) (.tmp 23) 22 3 (.int .i64 0) 8 rfl Try.underlying22 info3 rfl (by decide) (by omega) v301 t300 a1 [.int .i64 a1] (fun _=>True) (fun _=>False) rfl rfl ?aP (fun _ hk=>hk.elim) ?aF ?aO ?aB ?aS ?aL ?_;(case aP=>exact rfl);(case aB=>exact (by repeat (first|(with_reducible first|exact HB.out|apply zD|apply zE|apply zF|refine below_set ?_ GE294.out)|exact HB.out)));(case aF=>exact (fun _ _=>trivial));(case aO=>exact (by (with_reducible repeat (first|apply zA|apply zB|apply zC));exact HO302.out));(case aS=>exact (zR (by repeat (first|(with_reducible first|exact HB.out|apply zD|apply zE|apply zF|refine below_set ?_ GE294.out)|exact HB.out))));(case aL=>have:=LMc15.out;omega);intro v304 w29 ho hb hg hat;rw [← Ny303.out] at ho;have n0_:=zM (blk_grown (g:=gb294) (o := .cells #[.int .i64 a2_0,.int .i64 a2_1,.int .i64 a2_2] 28 (0,0)) (by (with_reducible repeat (first|refine zJ ?_ _|refine zK ?_|refine zL ?_ _));exact BK294.out) hg (Kd.R_ne HO302.out BK294.out (by decide)));have n1_:=zM (hb);have n2_:=zM (ho);clear BK294;clear HB;clear HO302;have BK294:=n0_;have HB:=n1_;have HO305:=n2_;clear n0_ n1_ n2_;clear ho hb hg hat;have hcz30_0:w29.cell? ⟨gb294,0,none⟩ = some (.int .i64 a2_0):=(blk_cell BK294.out 0).trans rfl;have hcz30_1:w29.cell? ⟨gb294,1,none⟩ = some (.int .i64 a2_1):=(blk_cell BK294.out 1).trans rfl;have hcz30_2:w29.cell? ⟨gb294,2,none⟩ = some (.int .i64 a2_2):=(blk_cell BK294.out 2).trans rfl;have hfz30_0:=blk_frozen BK294.out 0;have hfz30_1:=blk_frozen BK294.out 1;have hfz30_2:=blk_frozen BK294.out 2;obtain ⟨Ao31,co31,eo31⟩:=Kd.R_slice HO305.out;subst eo31)|(go_at_call 19;(with_reducible refine (spec_LashingsNeeded.calls kj3 _ _ y303 a2_0 a2_1 a2_2 t306 true _ ?side1 ?side2 A16.out).mono ?_);(case side1=>repeat (first|exact (zN HO305.out).2.2|(with_reducible first|refine zG ?_ _|refine zH ?_ _|refine zI ?_)));(case side2=>exact (zN HO305.out).2.1);rintro e w32 ⟨v307,rfl,ho0,hb⟩;have n0_:=zM (Kd.R_elder' (by (with_reducible repeat (first|apply zA|apply zB|apply zC));exact HO305.out) (Kd.R_base ho0) hb);have n1_:=zM (Kd.R_lower (Kd.R_new' ho0 (Kd.R_lt (by (with_reducible repeat (first|apply zA|apply zB|apply zC));exact HO305.out))) (zR (by repeat (first|(with_reducible first|exact HB.out|apply zD|apply zE|apply zF|refine below_set ?_ GE294.out)|exact HB.out))));have n2_:=zM (blk_below (g:=gb294) (o := .cells #[.int .i64 a2_0,.int .i64 a2_1,.int .i64 a2_2] 28 (0,0)) (by (with_reducible repeat (first|refine zJ ?_ _|refine zK ?_|refine zL ?_ _));exact BK294.out) hb);have n3_:=zM (zQ (by repeat (first|(with_reducible first|exact HB.out|apply zD|apply zE|apply zF|refine below_set ?_ GE294.out)|exact HB.out)) hb);clear HO305;clear BK294;clear HB;have HO305:=n0_;have HO308:=n1_;have BK294:=n2_;have HB:=n3_;clear n0_ n1_ n2_ n3_;(try clear hb);(try clear hb2);(try clear hk);(try clear hi);(try clear ho0))|(go_at_call 51;(with_reducible refine (spec_l12Sum.calls kj3 _ _ y303 0 t310 _ ?side1 ?side2 A18.out).mono ?_);(case side1=>repeat (first|exact (zN HO305.out).2.2|(with_reducible first|refine zG ?_ _|refine zH ?_ _|refine zI ?_)));(case side2=>exact (zN HO305.out).2.1);rintro e w' ⟨rfl,⟨nd,rfl⟩⟩;(try first|exact ⟨rfl,_,World.drewN_drewN _ _ _⟩|exact ⟨rfl,_,zW _ _ _ _⟩);have hcz33_0:w32.cell? ⟨gb294,0,none⟩ = some (.int .i64 a2_0):=(blk_cell BK294.out 0).trans rfl;have hcz33_1:w32.cell? ⟨gb294,1,none⟩ = some (.int .i64 a2_1):=(blk_cell BK294.out 1).trans rfl;have hcz33_2:w32.cell? ⟨gb294,2,none⟩ = some (.int .i64 a2_2):=(blk_cell BK294.out 2).trans rfl;have hfz33_0:=blk_frozen BK294.out 0;have hfz33_1:=blk_frozen BK294.out 1;have hfz33_2:=blk_frozen BK294.out 2))
       repeat (go_quiet (first|(go_at_call 50;(with_reducible refine (spec_l1Own.calls _ _ l0 t300 _ ?side1 ?side2 A14.out).mono ?_);(case side1=>repeat (first|exact (zO HR0.out HB.out)|(with_reducible first|refine zG ?_ _|refine zH ?_ _|refine zI ?_)));(case side2=>exact HC0.out);rintro e w28 ⟨v301,rfl,ho0,hb⟩;have n0_:=zM (Kd.R_lower ho0 (zR (by repeat (first|(with_reducible first|exact HB.out|apply zD|apply zE|apply zF|refine below_set ?_ GE294.out)|exact HB.out))));have n1_:=zM (blk_below (g:=gb294) (o := .cells #[.int .i64 a2_0,.int .i64 a2_1,.int .i64 a2_2] 28 (0,0)) (by (with_reducible repeat (first|refine zJ ?_ _|refine zK ?_|refine zL ?_ _));exact BK294.out) hb);have n2_:=zM (zQ (by repeat (first|(with_reducible first|exact HB.out|apply zD|apply zE|apply zF|refine below_set ?_ GE294.out)|exact HB.out)) hb);clear BK294;clear HB;have HO302:=n0_;have BK294:=n1_;have HB:=n2_;clear n0_ n1_ n2_;(try clear hb);(try clear hb2);(try clear hk);(try clear hi);(try clear ho0))|((with_reducible refine gate_builtin (b := .append) (xs := #[.tmp 21,.tmp 23]) rfl ?_);at_builtin;refine Kd.R_append (Kd.int .i64) (w0:=w) w.heap.size rfl (.tmp 21) (.tmp 23) 22 3 (.int .i64 0) 8 rfl Try.underlying22 info3 rfl (by decide) (by omega) v301 t300 a1 [.int .i64 a1] (fun _=>True) (fun _=>False) rfl rfl ?aP (fun _ hk=>hk.elim) ?aF ?aO ?aB ?aS ?aL ?_;(case aP=>exact rfl);(case aB=>exact (by repeat (first|(with_reducible first|exact HB.out|apply zD|apply zE|apply zF|refine below_set ?_ GE294.out)|exact HB.out)));(case aF=>exact (fun _ _=>trivial));(case aO=>exact (by (with_reducible repeat (first|apply zA|apply zB|apply zC));exact HO302.out));(case aS=>exact (zR (by repeat (first|(with_reducible first|exact HB.out|apply zD|apply zE|apply zF|refine below_set ?_ GE294.out)|exact HB.out))));(case aL=>have:=LMc15.out;omega);intro v304 w29 ho hb hg hat;rw [← Ny303.out] at ho;have n0_:=zM (blk_grown (g:=gb294) (o := .cells #[.int .i64 a2_0,.int .i64 a2_1,.int .i64 a2_2] 28 (0,0)) (by (with_reducible repeat (first|refine zJ ?_ _|refine zK ?_|refine zL ?_ _));exact BK294.out) hg (Kd.R_ne HO302.out BK294.out (by decide)));have n1_:=zM (hb);have n2_:=zM (ho);clear BK294;clear HB;clear HO302;have BK294:=n0_;have HB:=n1_;have HO305:=n2_;clear n0_ n1_ n2_;clear ho hb hg hat;have hcz30_0:w29.cell? ⟨gb294,0,none⟩ = some (.int .i64 a2_0):=(blk_cell BK294.out 0).trans rfl;have hcz30_1:w29.cell? ⟨gb294,1,none⟩ = some (.int .i64 a2_1):=(blk_cell BK294.out 1).trans rfl;have hcz30_2:w29.cell? ⟨gb294,2,none⟩ = some (.int .i64 a2_2):=(blk_cell BK294.out 2).trans rfl;have hfz30_0:=blk_frozen BK294.out 0;have hfz30_1:=blk_frozen BK294.out 1;have hfz30_2:=blk_frozen BK294.out 2;obtain ⟨Ao31,co31,eo31⟩:=Kd.R_slice HO305.out;subst eo31)|(go_at_call 19;(with_reducible refine (spec_LashingsNeeded.calls kj3 _ _ y303 a2_0 a2_1 a2_2 t306 true _ ?side1 ?side2 A16.out).mono ?_);(case side1=>repeat (first|exact (zN HO305.out).2.2|(with_reducible first|refine zG ?_ _|refine zH ?_ _|refine zI ?_)));(case side2=>exact (zN HO305.out).2.1);rintro e w32 ⟨v307,rfl,ho0,hb⟩;have n0_:=zM (Kd.R_elder' (by (with_reducible repeat (first|apply zA|apply zB|apply zC));exact HO305.out) (Kd.R_base ho0) hb);have n1_:=zM (Kd.R_lower (Kd.R_new' ho0 (Kd.R_lt (by (with_reducible repeat (first|apply zA|apply zB|apply zC));exact HO305.out))) (zR (by repeat (first|(with_reducible first|exact HB.out|apply zD|apply zE|apply zF|refine below_set ?_ GE294.out)|exact HB.out))));have n2_:=zM (blk_below (g:=gb294) (o := .cells #[.int .i64 a2_0,.int .i64 a2_1,.int .i64 a2_2] 28 (0,0)) (by (with_reducible repeat (first|refine zJ ?_ _|refine zK ?_|refine zL ?_ _));exact BK294.out) hb);have n3_:=zM (zQ (by repeat (first|(with_reducible first|exact HB.out|apply zD|apply zE|apply zF|refine below_set ?_ GE294.out)|exact HB.out)) hb);clear HO305;clear BK294;clear HB;have HO305:=n0_;have HO308:=n1_;have BK294:=n2_;have HB:=n3_;clear n0_ n1_ n2_ n3_;(try clear hb);(try clear hb2);(try clear hk);(try clear hi);(try clear ho0))|(go_at_call 51;(with_reducible refine (spec_l12Sum.calls kj3 _ _ y303 0 t310 _ ?side1 ?side2 A18.out).mono ?_);(case side1=>repeat (first|exact (zN HO305.out).2.2|(with_reducible first|refine zG ?_ _|refine zH ?_ _|refine zI ?_)));(case side2=>exact (zN HO305.out).2.1);rintro e w' ⟨rfl,⟨nd,rfl⟩⟩;(try first|exact ⟨rfl,_,World.drewN_drewN _ _ _⟩|exact ⟨rfl,_,zW _ _ _ _⟩);have hcz33_0:w32.cell? ⟨gb294,0,none⟩ = some (.int .i64 a2_0):=(blk_cell BK294.out 0).trans rfl;have hcz33_1:w32.cell? ⟨gb294,1,none⟩ = some (.int .i64 a2_1):=(blk_cell BK294.out 1).trans rfl;have hcz33_2:w32.cell? ⟨gb294,2,none⟩ = some (.int .i64 a2_2):=(blk_cell BK294.out 2).trans rfl;have hfz33_0:=blk_frozen BK294.out 0;have hfz33_1:=blk_frozen BK294.out 1;have hfz33_2:=blk_frozen BK294.out 2));try go_wp2_with (first|(go_at_call 50;(with_reducible refine (spec_l1Own.calls _ _ l0 t300 _ ?side1 ?side2 A14.out).mono ?_);(case side1=>repeat (first|exact (zO HR0.out HB.out)|(with_reducible first|refine zG ?_ _|refine zH ?_ _|refine zI ?_)));(case side2=>exact HC0.out);rintro e w28 ⟨v301,rfl,ho0,hb⟩;have n0_:=zM (Kd.R_lower ho0 (zR (by repeat (first|(with_reducible first|exact HB.out|apply zD|apply zE|apply zF|refine below_set ?_ GE294.out)|exact HB.out))));have n1_:=zM (blk_below (g:=gb294) (o := .cells #[.int .i64 a2_0,.int .i64 a2_1,.int .i64 a2_2] 28 (0,0)) (by (with_reducible repeat (first|refine zJ ?_ _|refine zK ?_|refine zL ?_ _));exact BK294.out) hb);have n2_:=zM (zQ (by repeat (first|(with_reducible first|exact HB.out|apply zD|apply zE|apply zF|refine below_set ?_ GE294.out)|exact HB.out)) hb);clear BK294;clear HB;have HO302:=n0_;have BK294:=n1_;have HB:=n2_;clear n0_ n1_ n2_;(try clear hb);(try clear hb2);(try clear hk);(try clear hi);(try clear ho0))|((with_reducible refine gate_builtin (b := .append) (xs := #[.tmp 21,.tmp 23]) rfl ?_);at_builtin;refine Kd.R_append (Kd.int .i64) (w0:=w) w.heap.size rfl (.tmp 21) (.tmp 23) 22 3 (.int .i64 0) 8 rfl Try.underlying22 info3 rfl (by decide) (by omega) v301 t300 a1 [.int .i64 a1] (fun _=>True) (fun _=>False) rfl rfl ?aP (fun _ hk=>hk.elim) ?aF ?aO ?aB ?aS ?aL ?_;(case aP=>exact rfl);(case aB=>exact (by repeat (first|(with_reducible first|exact HB.out|apply zD|apply zE|apply zF|refine below_set ?_ GE294.out)|exact HB.out)));(case aF=>exact (fun _ _=>trivial));(case aO=>exact (by (with_reducible repeat (first|apply zA|apply zB|apply zC));exact HO302.out));(case aS=>exact (zR (by repeat (first|(with_reducible first|exact HB.out|apply zD|apply zE|apply zF|refine below_set ?_ GE294.out)|exact HB.out))));(case aL=>have:=LMc15.out;omega);intro v304 w29 ho hb hg hat;rw [← Ny303.out] at ho;have n0_:=zM (blk_grown (g:=gb294) (o := .cells #[.int .i64 a2_0,.int .i64 a2_1,.int .i64 a2_2] 28 (0,0)) (by (with_reducible repeat (first|refine zJ ?_ _|refine zK ?_|refine zL ?_ _));exact BK294.out) hg (Kd.R_ne HO302.out BK294.out (by decide)));have n1_:=zM (hb);have n2_:=zM (ho);clear BK294;clear HB;clear HO302;have BK294:=n0_;have HB:=n1_;have HO305:=n2_;clear n0_ n1_ n2_;clear ho hb hg hat;have hcz30_0:w29.cell? ⟨gb294,0,none⟩ = some (.int .i64 a2_0):=(blk_cell BK294.out 0).trans rfl;have hcz30_1:w29.cell? ⟨gb294,1,none⟩ = some (.int .i64 a2_1):=(blk_cell BK294.out 1).trans rfl;have hcz30_2:w29.cell? ⟨gb294,2,none⟩ = some (.int .i64 a2_2):=(blk_cell BK294.out 2).trans rfl;have hfz30_0:=blk_frozen BK294.out 0;have hfz30_1:=blk_frozen BK294.out 1;have hfz30_2:=blk_frozen BK294.out 2;obtain ⟨Ao31,co31,eo31⟩:=Kd.R_slice HO305.out;subst eo31)|(go_at_call 19;(with_reducible refine (spec_LashingsNeeded.calls kj3 _ _ y303 a2_0 a2_1 a2_2 t306 true _ ?side1 ?side2 A16.out).mono ?_);(case side1=>repeat (first|exact (zN HO305.out).2.2|(with_reducible first|refine zG ?_ _|refine zH ?_ _|refine zI ?_)));(case side2=>exact (zN HO305.out).2.1);rintro e w32 ⟨v307,rfl,ho0,hb⟩;have n0_:=zM (Kd.R_elder' (by (with_reducible repeat (first|apply zA|apply zB|apply zC));exact HO305.out) (Kd.R_base ho0) hb);have n1_:=zM (Kd.R_lower (Kd.R_new' ho0 (Kd.R_lt (by (with_reducible repeat (first|apply zA|apply zB|apply zC));exact HO305.out))) (zR (by repeat (first|(with_reducible first|exact HB.out|apply zD|apply zE|apply zF|refine below_set ?_ GE294.out)|exact HB.out))));have n2_:=zM (blk_below (g:=gb294) (o := .cells #[.int .i64 a2_0,.int .i64 a2_1,.int .i64 a2_2] 28 (0,0)) (by (with_reducible repeat (first|refine zJ ?_ _|refine zK ?_|refine zL ?_ _));exact BK294.out) hb);have n3_:=zM (zQ (by repeat (first|(with_reducible first|exact HB.out|apply zD|apply zE|apply zF|refine below_set ?_ GE294.out)|exact HB.out)) hb);clear HO305;clear BK294;clear HB;have HO305:=n0_;have HO308:=n1_;have BK294:=n2_;have HB:=n3_;clear n0_ n1_ n2_ n3_;(try clear hb);(try clear hb2);(try clear hk);(try clear hi);(try clear ho0))|(go_at_call 51;(with_reducible refine (spec_l12Sum.calls kj3 _ _ y303 0 t310 _ ?side1 ?side2 A18.out).mono ?_);(case side1=>repeat (first|exact (zN HO305.out).2.2|(with_reducible first|refine zG ?_ _|refine zH ?_ _|refine zI ?_)));(case side2=>exact (zN HO305.out).2.1);rintro e w' ⟨rfl,⟨nd,rfl⟩⟩;(try first|exact ⟨rfl,_,World.drewN_drewN _ _ _⟩|exact ⟨rfl,_,zW _ _ _ _⟩);have hcz33_0:w32.cell? ⟨gb294,0,none⟩ = some (.int .i64 a2_0):=(blk_cell BK294.out 0).trans rfl;have hcz33_1:w32.cell? ⟨gb294,1,none⟩ = some (.int .i64 a2_1):=(blk_cell BK294.out 1).trans rfl;have hcz33_2:w32.cell? ⟨gb294,2,none⟩ = some (.int .i64 a2_2):=(blk_cell BK294.out 2).trans rfl;have hfz33_0:=blk_frozen BK294.out 0;have hfz33_1:=blk_frozen BK294.out 1;have hfz33_2:=blk_frozen BK294.out 2)))
       go_ret2
       exact ⟨_,by first|rfl|(simp [errW_none,errW_some] <;> rfl)|(simp [*,errW_none,errW_some] <;> rfl),by (with_reducible repeat (first|apply zA|apply zB|apply zC));exact Kd.R_mono HO305.out (fun _ hk=>trivial),by repeat (first|(with_reducible first|exact HB.out|apply zD|apply zE|apply zF|refine below_set ?_ GE294.out)|exact HB.out)⟩
     ·replace c17:=Bool.eq_false_iff.mpr c17
      subst c17;have H1:(some ((([]:List Int)),false)) = some (r1,r2):=by rw [if_neg (show ¬ (false = true) by decide)] at H;exact H
      clear H;have H:=H1;clear H1;obtain ⟨y314,hy314⟩ : ∃ y_:List Int,y_ = (([]:List Int)):=⟨_,rfl⟩
      replace H:(some (y314,false)) = some (r1,r2):=by first|(rw [hy314];with_reducible exact H)|(have H2_:=(Option.bind_some _ _).symm.trans H;rw [hy314];with_reducible exact H2_)|(have H2_:=(Option.bind_some _ _).symm.trans H;with_reducible exact H2_)|with_reducible exact H|(rw [hy314];exact H)|exact H
      have Ny314:=zM hy314;clear hy314;simp only [Option.some.injEq,Prod.mk.injEq] at H
      obtain ⟨rfl,rfl⟩:=H;go_wp2_with (first|(go_at_call 50;(with_reducible refine (spec_l1Own.calls _ _ l0 t300 _ ?side1 ?side2 A14.out).mono ?_);(case side1=>repeat (first|exact (zO HR0.out HB.out)|(with_reducible first|refine zG ?_ _|refine zH ?_ _|refine zI ?_)));(case side2=>exact HC0.out);rintro e w34 ⟨v301,rfl,ho0,hb⟩;have n0_:=zM (Kd.R_lower ho0 (zR (by repeat (first|(with_reducible first|exact HB.out|apply zD|apply zE|apply zF|refine below_set ?_ GE294.out)|exact HB.out))));have n1_:=zM (blk_below (g:=gb294) (o := .cells #[.int .i64 a2_0,.int .i64 a2_1,.int .i64 a2_2] 28 (0,0)) (by (with_reducible repeat (first|refine zJ ?_ _|refine zK ?_|refine zL ?_ _));exact BK294.out) hb);have n2_:=zM (zQ (by repeat (first|(with_reducible first|exact HB.out|apply zD|apply zE|apply zF|refine below_set ?_ GE294.out)|exact HB.out)) hb);clear BK294;clear HB;have HO302:=n0_;have BK294:=n1_;have HB:=n2_;clear n0_ n1_ n2_;(try clear hb);(try clear hb2);(try clear hk);(try clear hi);(try clear ho0))|((with_reducible refine gate_builtin (b := .append) (xs := #[.tmp 21,.tmp 23]) rfl ?_);at_builtin;refine Kd.R_append (Kd.int .i64) (w0:=w) w.heap.size rfl (.tmp 21) (.tmp 23) 22 3 (.int .i64 0) 8 rfl Try.underlying22 info3 rfl (by decide) (by omega) v301 t300 a1 [.int .i64 a1] (fun _=>True) (fun _=>False) rfl rfl ?aP (fun _ hk=>hk.elim) ?aF ?aO ?aB ?aS ?aL ?_;(case aP=>exact rfl);(case aB=>exact (by repeat (first|(with_reducible first|exact HB.out|apply zD|apply zE|apply zF|refine below_set ?_ GE294.out)|exact HB.out)));(case aF=>exact (fun _ _=>trivial));(case aO=>exact (by (with_reducible repeat (first|apply zA|apply zB|apply zC));exact HO302.out));(case aS=>exact (zR (by repeat (first|(with_reducible first|exact HB.out|apply zD|apply zE|apply zF|refine below_set ?_ GE294.out)|exact HB.out))));(case aL=>have:=LMc15.out;omega);intro v304 w35 ho hb hg hat;rw [← Ny303.out] at ho;have n0_:=zM (blk_grown (g:=gb294) (o := .cells #[.int .i64 a2_0,.int .i64 a2_1,.int .i64 a2_2] 28 (0,0)) (by (with_reducible repeat (first|refine zJ ?_ _|refine zK ?_|refine zL ?_ _));exact BK294.out) hg (Kd.R_ne HO302.out BK294.out (by decide)));have n1_:=zM (hb);have n2_:=zM (ho);clear BK294;clear HB;clear HO302;have BK294:=n0_;have HB:=n1_;have HO305:=n2_;clear n0_ n1_ n2_;clear ho hb hg hat;have hcz36_0:w35.cell? ⟨gb294,0,none⟩ = some (.int .i64 a2_0):=(blk_cell BK294.out 0).trans rfl;have hcz36_1:w35.cell? ⟨gb294,1,none⟩ = some (.int .i64 a2_1):=(blk_cell BK294.out 1).trans rfl;have hcz36_2:w35.cell? ⟨gb294,2,none⟩ = some (.int .i64 a2_2):=(blk_cell BK294.out 2).trans rfl;have hfz36_0:=blk_frozen BK294.out 0;have hfz36_1:=blk_frozen BK294.out 1;have hfz36_2:=blk_frozen BK294.out 2;obtain ⟨Ao37,co37,eo37⟩:=Kd.R_slice HO305.out;subst eo37)|(go_at_call 19;(with_reducible refine (spec_LashingsNeeded.calls kj3 _ _ y303 a2_0 a2_1 a2_2 t306 false _ ?side1 ?side2 A16.out).mono ?_);(case side1=>repeat (first|exact (zN HO305.out).2.2|(with_reducible first|refine zG ?_ _|refine zH ?_ _|refine zI ?_)));(case side2=>exact (zN HO305.out).2.1);rintro e w38 ⟨v307,rfl,ho0,hb⟩;have n0_:=zM (Kd.R_elder' (by (with_reducible repeat (first|apply zA|apply zB|apply zC));exact HO305.out) (Kd.R_base ho0) hb);have n1_:=zM (Kd.R_lower (Kd.R_new' ho0 (Kd.R_lt (by (with_reducible repeat (first|apply zA|apply zB|apply zC));exact HO305.out))) (zR (by repeat (first|(with_reducible first|exact HB.out|apply zD|apply zE|apply zF|refine below_set ?_ GE294.out)|exact HB.out))));have n2_:=zM (blk_below (g:=gb294) (o := .cells #[.int .i64 a2_0,.int .i64 a2_1,.int .i64 a2_2] 28 (0,0)) (by (with_reducible repeat (first|refine zJ ?_ _|refine zK ?_|refine zL ?_ _));exact BK294.out) hb);have n3_:=zM (zQ (by repeat (first|(with_reducible first|exact HB.out|apply zD|apply zE|apply zF|refine below_set ?_ GE294.out)|exact HB.out)) hb);clear HO305;clear BK294;clear HB;have HO305:=n0_;have HO308:=n1_;have BK294:=n2_;have HB:=n3_;clear n0_ n1_ n2_ n3_;(try clear hb);(try clear hb2);(try clear hk);(try clear hi);(try clear ho0))|((with_reducible refine gate_dst (N:=40) rfl ?_);refine Kd.R_lit (Kd.int .i64) _ 3 ?hg (N:=40) ?hd (xs:=([]:List Int)) (inner:=[]) (ok:=fun _=>True) (okp:=fun _=>True) ?hr ?hp (fun _ hk=>hk) trivial (Below.refl _ _) (Nat.le_refl _) (by simp) ?_;(case hd=>rfl);(case hg=>rfl);(case hr=>first|(go_simp;done)|(go_simp;rfl));(case hp=>exact (Reps.none _ _));intro v315 w39 ho40 hb hg_ hnew_;clear hg_ hnew_;(first|rw [← Ny314.out] at ho40|(simp only [Int.reduceToNat] at ho40;rw [← Ny314.out] at ho40));have n0_:=zM (Kd.R_elder' (by (with_reducible repeat (first|apply zA|apply zB|apply zC));exact HO305.out) (Kd.R_base ho40) hb);have n1_:=zM (Kd.R_elder' (by (with_reducible repeat (first|apply zA|apply zB|apply zC));exact HO308.out) (Kd.R_base ho40) hb);have n2_:=zM (Kd.R_lower (Kd.R_new' (Kd.R_new' ho40 (Kd.R_lt (by (with_reducible repeat (first|apply zA|apply zB|apply zC));exact HO305.out))) (Kd.R_lt (by (with_reducible repeat (first|apply zA|apply zB|apply zC));exact HO308.out))) (zR (by repeat (first|(with_reducible first|exact HB.out|apply zD|apply zE|apply zF|refine below_set ?_ GE294.out)|exact HB.out))));have n3_:=zM (blk_below (g:=gb294) (o := .cells #[.int .i64 a2_0,.int .i64 a2_1,.int .i64 a2_2] 28 (0,0)) (by (with_reducible repeat (first|refine zJ ?_ _|refine zK ?_|refine zL ?_ _));exact BK294.out) hb);have n4_:=zM (zQ (by repeat (first|(with_reducible first|exact HB.out|apply zD|apply zE|apply zF|refine below_set ?_ GE294.out)|exact HB.out)) hb);clear HO305;clear HO308;clear BK294;clear HB;have HO305:=n0_;have HO308:=n1_;have HO316:=n2_;have BK294:=n3_;have HB:=n4_;clear n0_ n1_ n2_ n3_ n4_;clear hb ho40))
      repeat (go_quiet (first|(go_at_call 50;(with_reducible refine (spec_l1Own.calls _ _ l0 t300 _ ?side1 ?side2 A14.out).mono ?_);(case side1=>repeat (first|exact (zO HR0.out HB.out)|(with_reducible first|refine zG ?_ _|refine zH ?_ _|refine zI ?_)));(case side2=>exact HC0.out);rintro e w34 ⟨v301,rfl,ho0,hb⟩;have n0_:=zM (Kd.R_lower ho0 (zR (by repeat (first|(with_reducible first|exact HB.out|apply zD|apply zE|apply zF|refine below_set ?_ GE294.out)|exact HB.out))));have n1_:=zM (blk_below (g:=gb294) (o := .cells #[.int .i64 a2_0,.int .i64 a2_1,.int .i64 a2_2] 28 (0,0)) (by (with_reducible repeat (first|refine zJ ?_ _|refine zK ?_|refine zL ?_ _));exact BK294.out) hb);have n2_:=zM (zQ (by repeat (first|(with_reducible first|exact HB.out|apply zD|apply zE|apply zF|refine below_set ?_ GE294.out)|exact HB.out)) hb);clear BK294;clear HB;have HO302:=n0_;have BK294:=n1_;have HB:=n2_;clear n0_ n1_ n2_;(try clear hb);(try clear hb2);(try clear hk);(try clear hi);(try clear ho0))|((with_reducible refine gate_builtin (b := .append) (xs := #[.tmp 21,.tmp 23]) rfl ?_);at_builtin;refine Kd.R_append (Kd.int .i64) (w0:=w) w.heap.size rfl (.tmp 21) (.tmp 23) 22 3 (.int .i64 0) 8 rfl Try.underlying22 info3 rfl (by decide) (by omega) v301 t300 a1 [.int .i64 a1] (fun _=>True) (fun _=>False) rfl rfl ?aP (fun _ hk=>hk.elim) ?aF ?aO ?aB ?aS ?aL ?_;(case aP=>exact rfl);(case aB=>exact (by repeat (first|(with_reducible first|exact HB.out|apply zD|apply zE|apply zF|refine below_set ?_ GE294.out)|exact HB.out)));(case aF=>exact (fun _ _=>trivial));(case aO=>exact (by (with_reducible repeat (first|apply zA|apply zB|apply zC));exact HO302.out));(case aS=>exact (zR (by repeat (first|(with_reducible first|exact HB.out|apply zD|apply zE|apply zF|refine below_set ?_ GE294.out)|exact HB.out))));(case aL=>have:=LMc15.out;omega);intro v304 w35 ho hb hg hat;rw [← Ny303.out] at ho;have n0_:=zM (blk_grown (g:=gb294) (o := .cells #[.int .i64 a2_0,.int .i64 a2_1,.int .i64 a2_2] 28 (0,0)) (by (with_reducible repeat (first|refine zJ ?_ _|refine zK ?_|refine zL ?_ _));exact BK294.out) hg (Kd.R_ne HO302.out BK294.out (by decide)));have n1_:=zM (hb);have n2_:=zM (ho);clear BK294;clear HB;clear HO302;have BK294:=n0_;have HB:=n1_;have HO305:=n2_;clear n0_ n1_ n2_;clear ho hb hg hat;have hcz36_0:w35.cell? ⟨gb294,0,none⟩ = some (.int .i64 a2_0):=(blk_cell BK294.out 0).trans rfl;have hcz36_1:w35.cell? ⟨gb294,1,none⟩ = some (.int .i64 a2_1):=(blk_cell BK294.out 1).trans rfl;have hcz36_2:w35.cell? ⟨gb294,2,none⟩ = some (.int .i64 a2_2):=(blk_cell BK294.out 2).trans rfl;have hfz36_0:=blk_frozen BK294.out 0;have hfz36_1:=blk_frozen BK294.out 1;have hfz36_2:=blk_frozen BK294.out 2;obtain ⟨Ao37,co37,eo37⟩:=Kd.R_slice HO305.out;subst eo37)|(go_at_call 19;(with_reducible refine (spec_LashingsNeeded.calls kj3 _ _ y303 a2_0 a2_1 a2_2 t306 false _ ?side1 ?side2 A16.out).mono ?_);(case side1=>repeat (first|exact (zN HO305.out).2.2|(with_reducible first|refine zG ?_ _|refine zH ?_ _|refine zI ?_)));(case side2=>exact (zN HO305.out).2.1);rintro e w38 ⟨v307,rfl,ho0,hb⟩;have n0_:=zM (Kd.R_elder' (by (with_reducible repeat (first|apply zA|apply zB|apply zC));exact HO305.out) (Kd.R_base ho0) hb);have n1_:=zM (Kd.R_lower (Kd.R_new' ho0 (Kd.R_lt (by (with_reducible repeat (first|apply zA|apply zB|apply zC));exact HO305.out))) (zR (by repeat (first|(with_reducible first|exact HB.out|apply zD|apply zE|apply zF|refine below_set ?_ GE294.out)|exact HB.out))));have n2_:=zM (blk_below (g:=gb294) (o := .cells #[.int .i64 a2_0,.int .i64 a2_1,.int .i64 a2_2] 28 (0,0)) (by (with_reducible repeat (first|refine zJ ?_ _|refine zK ?_|refine zL ?_ _));exact BK294.out) hb);have n3_:=zM (zQ (by repeat (first|(with_reducible first|exact HB.out|apply zD|apply zE|apply zF|refine below_set ?_ GE294.out)|exact HB.out)) hb);clear HO305;clear BK294;clear HB;have HO305:=n0_;have HO308:=n1_;have BK294:=n2_;have HB:=n3_;clear n0_ n1_ n2_ n3_;(try clear hb);(try clear hb2);(try clear hk);(try clear hi);(try clear ho0))|((with_reducible refine gate_dst (N:=40) rfl ?_);refine Kd.R_lit (Kd.int .i64) _ 3 ?hg (N:=40) ?hd (xs:=([]:List Int)) (inner:=[]) (ok:=fun _=>True) (okp:=fun _=>True) ?hr ?hp (fun _ hk=>hk) trivial (Below.refl _ _) (Nat.le_refl _) (by simp) ?_;(case hd=>rfl);(case hg=>rfl);(case hr=>first|(go_simp;done)|(go_simp;rfl));(case hp=>exact (Reps.none _ _));intro v315 w39 ho40 hb hg_ hnew_;clear hg_ hnew_;(first|rw [← Ny314.out] at ho40|(simp only [Int.reduceToNat] at ho40;rw [← Ny314.out] at ho40));have n0_:=zM (Kd.R_elder' (by (with_reducible repeat (first|apply zA|apply zB|apply zC));exact HO305.out) (Kd.R_base ho40) hb);have n1_:=zM (Kd.R_elder' (by (with_reducible repeat (first|apply zA|apply zB|apply zC));exact HO308.out) (Kd.R_base ho40) hb);have n2_:=zM (Kd.R_lower (Kd.R_new' (Kd.R_new' ho40 (Kd.R_lt (by (with_reducible repeat (first|apply zA|apply zB|apply zC));exact HO305.out))) (Kd.R_lt (by (with_reducible repeat (first|apply zA|apply zB|apply zC));exact HO308.out))) (zR (by repeat (first|(with_reducible first|exact HB.out|apply zD|apply zE|apply zF|refine below_set ?_ GE294.out)|exact HB.out))));have n3_:=zM (blk_below (g:=gb294) (o := .cells #[.int .i64 a2_0,.int .i64 a2_1,.int .i64 a2_2] 28 (0,0)) (by (with_reducible repeat (first|refine zJ ?_ _|refine zK ?_|refine zL ?_ _));exact BK294.out) hb);have n4_:=zM (zQ (by repeat (first|(with_reducible first|exact HB.out|apply zD|apply zE|apply zF|refine below_set ?_ GE294.out)|exact HB.out)) hb);clear HO305;clear HO308;clear BK294;clear HB;have HO305:=n0_;have HO308:=n1_;have HO316:=n2_;have BK294:=n3_;have HB:=n4_;clear n0_ n1_ n2_ n3_ n4_;clear hb ho40));try go_wp2_with (first|(go_at_call 50;(with_reducible refine (spec_l1Own.calls _ _ l0 t300 _ ?side1 ?side2 A14.out).mono ?_);(case side1=>repeat (first|exact (zO HR0.out HB.out)|(with_reducible first|refine zG ?_ _|refine zH ?_ _|refine zI ?_)));(case side2=>exact HC0.out);rintro e w34 ⟨v301,rfl,ho0,hb⟩;have n0_:=zM (Kd.R_lower ho0 (zR (by repeat (first|(with_reducible first|exact HB.out|apply zD|apply zE|apply zF|refine below_set ?_ GE294.out)|exact HB.out))));have n1_:=zM (blk_below (g:=gb294) (o := .cells #[.int .i64 a2_0,.int .i64 a2_1,.int .i64 a2_2] 28 (0,0)) (by (with_reducible repeat (first|refine zJ ?_ _|refine zK ?_|refine zL ?_ _));exact BK294.out) hb);have n2_:=zM (zQ (by repeat (first|(with_reducible first|exact HB.out|apply zD|apply zE|apply zF|refine below_set ?_ GE294.out)|exact HB.out)) hb);clear BK294;clear HB;have HO302:=n0_;have BK294:=n1_;have HB:=n2_;clear n0_ n1_ n2_;(try clear hb);(try clear hb2);(try clear hk);(try clear hi);(try clear ho0))|((with_reducible refine gate_builtin (b := .append) (xs := #[.tmp 21,.tmp 23]) rfl ?_);at_builtin;refine Kd.R_append (Kd.int .i64) (w0:=w) w.heap.size rfl (.tmp 21) (.tmp 23) 22 3 (.int .i64 0) 8 rfl Try.underlying22 info3 rfl (by decide) (by omega) v301 t300 a1 [.int .i64 a1] (fun _=>True) (fun _=>False) rfl rfl ?aP (fun _ hk=>hk.elim) ?aF ?aO ?aB ?aS ?aL ?_;(case aP=>exact rfl);(case aB=>exact (by repeat (first|(with_reducible first|exact HB.out|apply zD|apply zE|apply zF|refine below_set ?_ GE294.out)|exact HB.out)));(case aF=>exact (fun _ _=>trivial));(case aO=>exact (by (with_reducible repeat (first|apply zA|apply zB|apply zC));exact HO302.out));(case aS=>exact (zR (by repeat (first|(with_reducible first|exact HB.out|apply zD|apply zE|apply zF|refine below_set ?_ GE294.out)|exact HB.out))));(case aL=>have:=LMc15.out;omega);intro v304 w35 ho hb hg hat;rw [← Ny303.out] at ho;have n0_:=zM (blk_grown (g:=gb294) (o := .cells #[.int .i64 a2_0,.int .i64 a2_1,.int .i64 a2_2] 28 (0,0)) (by (with_reducible repeat (first|refine zJ ?_ _|refine zK ?_|refine zL ?_ _));exact BK294.out) hg (Kd.R_ne HO302.out BK294.out (by decide)));have n1_:=zM (hb);have n2_:=zM (ho);clear BK294;clear HB;clear HO302;have BK294:=n0_;have HB:=n1_;have HO305:=n2_;clear n0_ n1_ n2_;clear ho hb hg hat;have hcz36_0:w35.cell? ⟨gb294,0,none⟩ = some (.int .i64 a2_0):=(blk_cell BK294.out 0).trans rfl;have hcz36_1:w35.cell? ⟨gb294,1,none⟩ = some (.int .i64 a2_1):=(blk_cell BK294.out 1).trans rfl;have hcz36_2:w35.cell? ⟨gb294,2,none⟩ = some (.int .i64 a2_2):=(blk_cell BK294.out 2).trans rfl;have hfz36_0:=blk_frozen BK294.out 0;have hfz36_1:=blk_frozen BK294.out 1;have hfz36_2:=blk_frozen BK294.out 2;obtain ⟨Ao37,co37,eo37⟩:=Kd.R_slice HO305.out;subst eo37)|(go_at_call 19;(with_reducible refine (spec_LashingsNeeded.calls kj3 _ _ y303 a2_0 a2_1 a2_2 t306 false _ ?side1 ?side2 A16.out).mono ?_);(case side1=>repeat (first|exact (zN HO305.out).2.2|(with_reducible first|refine zG ?_ _|refine zH ?_ _|refine zI ?_)));(case side2=>exact (zN HO305.out).2.1);rintro e w38 ⟨v307,rfl,ho0,hb⟩;have n0_:=zM (Kd.R_elder' (by (with_reducible repeat (first|apply zA|apply zB|apply zC));exact HO305.out) (Kd.R_base ho0) hb);have n1_:=zM (Kd.R_lower (Kd.R_new' ho0 (Kd.R_lt (by (with_reducible repeat (first|apply zA|apply zB|apply zC));exact HO305.out))) (zR (by repeat (first|(with_reducible first|exact HB.out|apply zD|apply zE|apply zF|refine below_set ?_ GE294.out)|exact HB.out))));have n2_:=zM (blk_below (g:=gb294) (o := .cells #[.int .i64 a2_0,.int .i64 a2_1,.int .i64 a2_2] 28 (0,0)) (by (with_reducible repeat (first|refine zJ ?_ _|refine zK ?_|refine zL ?_ _));exact BK294.out) hb);have n3_:=zM (zQ (by repeat (first|(with_reducible first|exact HB.out|apply zD|apply zE|apply zF|refine below_set ?_ GE294.out)|exact HB.out)) hb);clear HO305;clear BK294;clear HB;have HO305:=n0_;have HO308:=n1_;have BK294:=n2_;have HB:=n3_;clear n0_ n1_ n2_ n3_;(try clear hb);(try clear hb2);(try clear hk);(try clear hi);(try clear ho0))|((with_reducible refine gate_dst (N:=40) rfl ?_);refine Kd.R_lit (Kd.int .i64) _ 3 ?hg (N:=40) ?hd (xs:=([]:List Int)) (inner:=[]) (ok:=fun _=>True) (okp:=fun _=>True) ?hr ?hp (fun _ hk=>hk) trivial (Below.refl _ _) (Nat.le_refl _) (by simp) ?_;(case hd=>rfl);(case hg=>rfl);(case hr=>first|(go_simp;done)|(go_simp;rfl));(case hp=>exact (Reps.none _ _));intro v315 w39 ho40 hb hg_ hnew_;clear hg_ hnew_;(first|rw [← Ny314.out] at ho40|(simp only [Int.reduceToNat] at ho40;rw [← Ny314.out] at ho40));have n0_:=zM (Kd.R_elder' (by (with_reducible repeat (first|apply zA|apply zB|apply zC));exact HO305.out) (Kd.R_base ho40) hb);have n1_:=zM (Kd.R_elder' (by (with_reducible repeat (first|apply zA|apply zB|apply zC));exact HO308.out) (Kd.R_base ho40) hb);have n2_:=zM (Kd.R_lower (Kd.R_new' (Kd.R_new' ho40 (Kd.R_lt (by (with_reducible repeat (first|apply zA|apply zB|apply zC));exact HO305.out))) (Kd.R_lt (by (with_reducible repeat (first|apply zA|apply zB|apply zC));exact HO308.out))) (zR (by repeat (first|(with_reducible first|exact HB.out|apply zD|apply zE|apply zF|refine below_set ?_ GE294.out)|exact HB.out))));have n3_:=zM (blk_below (g:=gb294) (o := .cells #[.int .i64 a2_0,.int .i64 a2_1,.int .i64 a2_2] 28 (0,0)) (by (with_reducible repeat (first|refine zJ ?_ _|refine zK ?_|refine zL ?_ _));exact BK294.out) hb);have n4_:=zM (zQ (by repeat (first|(with_reducible first|exact HB.out|apply zD|apply zE|apply zF|refine below_set ?_ GE294.out)|exact HB.out)) hb);clear HO305;clear HO308;clear BK294;clear HB;have HO305:=n0_;have HO308:=n1_;have HO316:=n2_;have BK294:=n3_;have HB:=n4_;clear n0_ n1_ n2_ n3_ n4_;clear hb ho40)))
      go_ret2
      exact ⟨_,by first|rfl|(simp [errW_none,errW_some] <;> rfl)|(simp [*,errW_none,errW_some] <;> rfl),by (with_reducible repeat (first|apply zA|apply zB|apply zC));exact Kd.R_mono HO316.out (fun _ hk=>trivial),by repeat (first|(with_reducible first|exact HB.out|apply zD|apply zE|apply zF|refine below_set ?_ GE294.out)|exact HB.out)⟩
    ·rw [if_neg c15] at H
     exact absurd H (by simp)



/-! ### impl_within: function 58 -/
def impl_within.f (a0:Int) (a1:Int) (a2:Int):Option (Bool):=if a0 ≥ a1 then (some (decide (a0 ≤ a2))) else (some false)
set_option maxHeartbeats 8000000 in
set_option maxRecDepth 100000 in
theorem impl_within.calls (a0:Int) (a1:Int) (a2:Int) (r:Bool) (w:World) (h:impl_within.f a0 a1 a2 = some r) :
  Calls Try.prog 58 #[.int .i64 a0,.int .i64 a1,.int .i64 a2] w fun e w'=>e = .returned (.bool r) ∧ Drawn0 w w':=by
 have H:(if a0 ≥ a1 then (some (decide (a0 ≤ a2))) else (some false)) = some r:=h
 clear h;by_cases c4:a0 ≥ a1
 ·rw [if_pos c4] at H
  have c4b0:decide (a1 ≤ a0) = true:=decide_eq_true c4
  clear c4;obtain rfl:=Option.some.inj H;go_enter Try.func58,Try.ntmps58
  go_wp2
  go_ret
  exact ⟨by first|rfl|(simp;done)|(simp [*];done),by repeat (first|exact Drawn0.refl _|apply Drawn0.step)⟩
 ·rw [if_neg c4] at H
  have c4b0:decide (a1 ≤ a0) = false:=decide_eq_false c4
  clear c4;obtain rfl:=Option.some.inj H;go_enter Try.func58,Try.ntmps58
  go_wp2
  go_ret
  exact ⟨by first|rfl|(simp;done)|(simp [*];done),by repeat (first|exact Drawn0.refl _|apply Drawn0.step)⟩



/-! ### impl_IsValidColumn_1: function 76 -/
def impl_IsValidColumn_1.f (a0:Int):Option (Bool):=(impl_within.f a0 1 32000).bind fun t101=>(some (!t101))
set_option maxHeartbeats 8000000 in
set_option maxRecDepth 100000 in
theorem impl_IsValidColumn_1.calls (a0:Int) (r:Bool) (w:World) (h:impl_IsValidColumn_1.f a0 = some r) :
  Calls Try.prog 76 #[.int .i64 a0] w fun e w'=>e = .returned (.bool r) ∧ Drawn0 w w':=by
 have H:((impl_within.f a0 1 32000).bind fun t101=>(some (!t101))) = some r:=h
 clear h;replace H:=Option.bind_eq_some_iff.mp H;obtain ⟨t101,A20,H⟩:=H;replace H:(some (!t101)) = some r:=H
 have A2:=zM A20;clear A20;obtain rfl:=Option.some.inj H;go_enter Try.func76,Try.ntmps76
 go_wp2_with (first|((with_reducible refine gate_callee (f:=58) rfl ?_);refine goesL_ (some 4) rfl rfl Try.func58 (by kernel_rfl) rfl #[.int .i64 a0,.int .i64 1,.int .i64 32000] rfl (by (try simp only [List.map_toArray,List.map_cons,List.map_nil]);first|done|rfl|(simp only [List.length_drop,List.length_take];rfl)) ?_;(with_reducible refine (impl_within.calls a0 1 32000 t101 _ A2.out).mono ?_);rintro e w' ⟨rfl,⟨nd,rfl⟩⟩;refine ⟨_,rfl,?_⟩))
 go_ret
 exact ⟨by first|rfl|(simp;done)|(simp [*];done),by repeat (first|exact Drawn0.refl _|apply Drawn0.step)⟩

end Go.Proofs.Ytcgfedaoimhejaa.G

/- The contract of slices.ContainsFunc at the test of IsValidColumn. -/
namespace Go.Proofs.Ytcgfedaoimhejaa.G
open Go.RowKit Go.Proofs.YtcgfedaoimhejaaW.PrintWords Go.Proofs.YtcgfedaoimhejaaW.PrintLast
set_option linter.unusedVariables false
set_option linter.unusedSimpArgs false
theorem ret_int {k : IntKind} {a b : Int} (h : a = b) : Ending.returned (.int k a) = .returned (.int k b):=by rw [h]
theorem drawn_two {w w1 w2 : World} (h : Drawn0 w w1) (h2 : Drawn0 w1 w2) : Drawn0 w w2:=by
  obtain ⟨⟨n1,rfl⟩⟩:=h
  obtain ⟨⟨n2,rfl⟩⟩:=h2
  exact ⟨⟨n1 + n2,World.drewN_drewN ..⟩⟩
def good76 (n : Int) : Bool:=decide (1 ≤ n ∧ n ≤ 32000)
def bad76 (l : List Int) : Nat → Nat → Int
  | 0,_ => -1
  | d + 1,i=>if good76 (rd l i) then bad76 l d (i + 1) else i
theorem bad76_iff (l : List Int) : ∀ d i,bad76 l d i ≥ 0 ↔ ¬ ∀ j : Nat,i ≤ j → j < i + d → good76 (rd l j) = true:=by
  intro d
  induction d with
  | zero=>intro i;simp [bad76];omega
  | succ d ih =>
    intro i
    unfold bad76
    split
    · rename_i h
      rw [ih (i + 1)]
      constructor
      · intro h1 h2
        exact h1 fun j a b=>h2 j (by omega) (by omega)
      · intro h1 h2
        refine h1 fun j a b=>?_
        by_cases e : j = i
        · rw [e];exact h
        · exact h2 j (by omega) (by omega)
    · rename_i h
      constructor
      · intro _ h2
        exact h (h2 i (by omega) (by omega))
      · intro _;omega
theorem lit76_eq (n : Int) : impl_IsValidColumn_1.f n = some (!good76 n):=by
  unfold impl_IsValidColumn_1.f impl_within.f good76
  by_cases h : n ≥ 1
  · simp [h]
  · simp [h]
set_option maxHeartbeats 2000000 in
set_option maxRecDepth 100000 in
theorem idx76 (A0 : Option Addr) (c0 : Nat) (l0 : List Int) (w : World) (hr0 : Kd.C (Kd.int .i64) w A0 l0.length l0) (hc0 : l0.length ≤ c0) :
    Calls Try.prog 78 #[.slice A0 l0.length c0,.func (.func 76) #[] #[]] w fun e w'=>e = .returned (.int .i64 (bad76 l0 l0.length 0)) ∧ Drawn0 w w':=by
  have hn : l0.length ≤ 9223372036854775807:=hr0.2.1
  have HR:=Aside0.mk hr0
  clear hr0
  have HN : Aside0 (bad76 l0 l0.length 0 = bad76 l0 (l0.length - 0) 0):=Aside0.mk rfl
  go_enter Try.func78,Try.ntmps78
  go_wp2
  go_loopw [8] (fun i w' => ∃ k : Nat,k ≤ l0.length ∧ i = .int .i64 k ∧ Aside0 (bad76 l0 l0.length 0 = bad76 l0 (l0.length - k) k) ∧ Drawn0 w w') (fun i _=>l0.length - (intOf i).toNat)
  case atStart=>exact ⟨0,Nat.zero_le _,rfl,HN,Drawn0.refl _⟩
  case round =>
    obtain ⟨k,hk,rfl,hb,hd⟩:=hrel
    by_cases hlt : k < l0.length
    · obtain ⟨ad,rfl,hx⟩:=Kd.at_int (Kd.C_below HR.out hd.below) (k : Int) (by omega) (by omega)
      rw [Int.toNat_natCast] at hx
      by_cases hg : good76 (rd l0 k) = true
      · have hs : Aside0 (bad76 l0 l0.length 0 = bad76 l0 (l0.length - (k + 1)) (k + 1)):=Aside0.mk (by
          rw [hb.out,show l0.length - k = (l0.length - (k + 1)) + 1 from by omega]
          conv=>lhs;unfold bad76
          rw [if_pos hg])
        have hf : Aside0 (impl_IsValidColumn_1.f (rd l0 k) = some false):=Aside0.mk (by rw [lit76_eq,hg];rfl)
        clear hb hg
        go_wp2_with (go_at_call 76;refine (impl_IsValidColumn_1.calls _ false _ hf.out).mono ?_;rintro e w' ⟨rfl,hd2⟩)
        go_roundw
        case rel=>exact ⟨k + 1,by omega,by go_num,hs,drawn_two hd hd2⟩
        case measure=>simp [intOf];omega
      · have hs : Aside0 (bad76 l0 l0.length 0 = (k : Int)):=Aside0.mk (by
          rw [hb.out,show l0.length - k = (l0.length - (k + 1)) + 1 from by omega]
          conv=>lhs;unfold bad76
          rw [if_neg hg])
        have hf : Aside0 (impl_IsValidColumn_1.f (rd l0 k) = some true):=Aside0.mk (by rw [lit76_eq,Bool.eq_false_iff.2 hg];rfl)
        clear hb hg
        go_wp2_with (go_at_call 76;refine (impl_IsValidColumn_1.calls _ true _ hf.out).mono ?_;rintro e w' ⟨rfl,hd2⟩)
        go_ret
        exact ⟨ret_int hs.out.symm,drawn_two hd hd2⟩
    · have hs : Aside0 (bad76 l0 l0.length 0 = -1):=Aside0.mk (by
        rw [hb.out,show l0.length - k = 0 from by omega];rfl)
      clear hb
      go_wp2
      go_ret
      exact ⟨ret_int hs.out.symm,hd⟩
def slices_ContainsFunc_int_int_76.f (l0 : List Int) : Option Bool:=some (decide (bad76 l0 l0.length 0 ≥ 0))
set_option maxHeartbeats 2000000 in
set_option maxRecDepth 100000 in
theorem slices_ContainsFunc_int_int_76.calls (A0 : Option Addr) (c0 : Nat) (l0 : List Int) (r : Bool) (w : World) (hr0 : Kd.C (Kd.int .i64) w A0 l0.length l0) (hc0 : l0.length ≤ c0) (h : slices_ContainsFunc_int_int_76.f l0 = some r) :
    Calls Try.prog 59 #[.slice A0 l0.length c0,.func (.func 76) #[] #[]] w fun e w'=>e = .returned (.bool r) ∧ Drawn0 w w':=by
  obtain rfl : decide (bad76 l0 l0.length 0 ≥ 0) = r:=Option.some.inj h
  have HR:=Aside0.mk hr0
  clear hr0 h
  go_enter Try.func59,Try.ntmps59
  go_wp2_with (go_at_call 78;refine (idx76 A0 c0 l0 _ HR.out hc0).mono ?_;rintro e w' ⟨rfl,hd⟩)
  go_ret
  exact ⟨rfl,hd⟩
end Go.Proofs.Ytcgfedaoimhejaa.G

-- Written by wip/tools/gen.py out of the translation (the kit's printer, one namespace a seat). Lean checks it.
namespace Go.Proofs.Ytcgfedaoimhejaa.G
open Go.RowKit Go.Proofs.YtcgfedaoimhejaaW.PrintWords Go.Proofs.YtcgfedaoimhejaaW.PrintLast Go.Proofs.YtcgfedaoimhejaaW.PrintMore
attribute [local go_sem] max2_int min2_int max_two min_two max_three min_three max_four min_four   -- for this text's walks alone
set_option linter.unusedVariables false
set_option linter.unusedSimpArgs false

/-! ### impl_IsValidColumn: function 43 -/
def impl_IsValidColumn.f (l0:List Int):Option (Bool):=if (l0.length:Int) ≤ 4 then ((slices_ContainsFunc_int_int_76.f l0).bind fun t145=>(some (!t145))) else (some false)
set_option maxHeartbeats 8000000 in
set_option maxRecDepth 100000 in
theorem impl_IsValidColumn.calls (A0:Option Addr) (c0:Nat) (l0:List Int) (r:Bool) (w:World) (hr0:Kd.C (Kd.int .i64) w A0 l0.length l0) (hc0:l0.length ≤ c0) (h:impl_IsValidColumn.f l0 = some r) :
  Calls Try.prog 43 #[.slice A0 l0.length c0] w fun e w'=>e = .returned (.bool r) ∧ Drawn0 w w':=by
 have HR0:=zM hr0;have HC0:=zM hc0;clear hr0 hc0;have H:(if (l0.length:Int) ≤ 4 then ((slices_ContainsFunc_int_int_76.f l0).bind fun t145=>(some (!t145))) else (some false)) = some r:=h
 clear h;by_cases c2:(l0.length:Int) ≤ 4
 ·rw [if_pos c2] at H
  have c2b0:decide ((l0.length:Int) ≤ 4) = true:=decide_eq_true c2
  have c2b1:decide (l0.length ≤ 4) = true:=decide_eq_true (by omega)
  clear c2;replace H:=Option.bind_eq_some_iff.mp H;obtain ⟨t145,A30,H⟩:=H;replace H:(some (!t145)) = some r:=H
  have A3:=zM A30;clear A30;obtain rfl:=Option.some.inj H;go_enter Try.func43,Try.ntmps43
  go_wp2_with (first|(go_at_call 59;(with_reducible refine (slices_ContainsFunc_int_int_76.calls _ _ l0  t145 _ ?side1 ?side2 A3.out).mono ?_);(case side1=>repeat (first|exact HR0.out|(with_reducible first|refine zG ?_ _|refine zH ?_ _|refine zI ?_)));(case side2=>exact HC0.out);rintro e w' ⟨rfl,⟨nd,rfl⟩⟩))
  go_ret
  exact ⟨by first|rfl|(simp;done)|(simp [*];done),by repeat (first|exact Drawn0.refl _|apply Drawn0.step)⟩
 ·rw [if_neg c2] at H
  have c2b0:decide ((l0.length:Int) ≤ 4) = false:=decide_eq_false c2
  have c2b1:decide (l0.length ≤ 4) = false:=decide_eq_false (by omega)
  clear c2;obtain rfl:=Option.some.inj H;go_enter Try.func43,Try.ntmps43
  go_wp2
  go_ret
  exact ⟨by first|rfl|(simp;done)|(simp [*];done),by repeat (first|exact Drawn0.refl _|apply Drawn0.step)⟩



/-! ### impl_isLashed: function 47 -/
def impl_isLashed.f (l0:List Int) (a1_0:Int) (a1_1:Int) (a1_2:Int):Option (Bool):=(impl_IsValidColumn.f l0).bind fun t147=>(if t147 = true then ((impl_within.f a1_0 1 200000).bind fun t148=>(if t148 = true then ((impl_within.f a1_1 0 100).bind fun t149=>(if t149 = true then ((impl_within.f a1_2 1 100000).bind fun t150=>(some t150)) else (some false))) else (some false))) else (some false))
set_option maxHeartbeats 8000000 in
set_option maxRecDepth 100000 in
theorem impl_isLashed.calls (A0:Option Addr) (c0:Nat) (l0:List Int) (a1_0:Int) (a1_1:Int) (a1_2:Int) (r:Bool) (w:World) (hr0:Kd.C (Kd.int .i64) w A0 l0.length l0) (hc0:l0.length ≤ c0) (h:impl_isLashed.f l0 a1_0 a1_1 a1_2 = some r) :
  Calls Try.prog 47 #[.slice A0 l0.length c0,.agg #[.int .i64 a1_0,.int .i64 a1_1,.int .i64 a1_2]] w fun e w'=>e = .returned (.bool r) ∧ Below w.heap.size w w':=by
 have hu28:=Try.underlying28;have HR0:=zM hr0;have HC0:=zM hc0;clear hr0 hc0;have HB:=zM (Below.refl w.heap.size w);have H:((impl_IsValidColumn.f l0).bind fun t147=>(if t147 = true then ((impl_within.f a1_0 1 200000).bind fun t148=>(if t148 = true then ((impl_within.f a1_1 0 100).bind fun t149=>(if t149 = true then ((impl_within.f a1_2 1 100000).bind fun t150=>(some t150)) else (some false))) else (some false))) else (some false))) = some r:=h
 clear h;replace H:=Option.bind_eq_some_iff.mp H;obtain ⟨t147,A30,H⟩:=H;replace H:(if t147 = true then ((impl_within.f a1_0 1 200000).bind fun t148=>(if t148 = true then ((impl_within.f a1_1 0 100).bind fun t149=>(if t149 = true then ((impl_within.f a1_2 1 100000).bind fun t150=>(some t150)) else (some false))) else (some false))) else (some false)) = some r:=H
 have A3:=zM A30;clear A30;by_cases c4:t147 = true
 ·subst c4
  have H1:((impl_within.f a1_0 1 200000).bind fun t148=>(if t148 = true then ((impl_within.f a1_1 0 100).bind fun t149=>(if t149 = true then ((impl_within.f a1_2 1 100000).bind fun t150=>(some t150)) else (some false))) else (some false))) = some r:=by rw [if_pos rfl] at H;exact H
  clear H;have H:=H1;clear H1;replace H:=Option.bind_eq_some_iff.mp H;obtain ⟨t148,A50,H⟩:=H;replace H:(if t148 = true then ((impl_within.f a1_1 0 100).bind fun t149=>(if t149 = true then ((impl_within.f a1_2 1 100000).bind fun t150=>(some t150)) else (some false))) else (some false)) = some r:=H
  have A5:=zM A50;clear A50;by_cases c6:t148 = true
  ·subst c6
   have H1:((impl_within.f a1_1 0 100).bind fun t149=>(if t149 = true then ((impl_within.f a1_2 1 100000).bind fun t150=>(some t150)) else (some false))) = some r:=by rw [if_pos rfl] at H;exact H
   clear H;have H:=H1;clear H1;replace H:=Option.bind_eq_some_iff.mp H;obtain ⟨t149,A70,H⟩:=H;replace H:(if t149 = true then ((impl_within.f a1_2 1 100000).bind fun t150=>(some t150)) else (some false)) = some r:=H
   have A7:=zM A70;clear A70;by_cases c8:t149 = true
   ·subst c8
    have H1:((impl_within.f a1_2 1 100000).bind fun t150=>(some t150)) = some r:=by rw [if_pos rfl] at H;exact H
    clear H;have H:=H1;clear H1;replace H:=Option.bind_eq_some_iff.mp H;obtain ⟨t150,A90,H⟩:=H;replace H:(some t150) = some r:=H
    have A9:=zM A90;clear A90;obtain rfl:=Option.some.inj H;go_enter Try.func47,Try.ntmps47
    go_wp2_with (first|((with_reducible refine gate_dst (N:=3) rfl ?_);refine box_event ?hg (N:=3) ?hd (cs := #[.int .i64 a1_0,.int .i64 a1_1,.int .i64 a1_2]) (t:=28) ?hr ?_;(case hd=>rfl);(case hg=>rfl);(case hr=>first|(go_simp;done)|(go_simp;rfl));intro gb146 hg w10 hbox hb;have n0_:=zM (zQ (by repeat (first|(with_reducible first|exact HB.out|apply zD|apply zE|apply zF)|exact HB.out)) hb);have n1_:=zM (hbox);have n2_:=zM ((by rw [hg];exact (zR (by repeat (first|(with_reducible first|exact HB.out|apply zD|apply zE|apply zF)|exact HB.out))):w.heap.size ≤ gb146));have n3_:=zM ((by rw [hg];exact (zR (by repeat (first|(with_reducible first|exact HB.out|apply zD|apply zE|apply zF)|exact HB.out))):w.heap.size ≤ gb146));clear HB;have HB:=n0_;have BK146:=n1_;have GW146:=n2_;have GE146:=n3_;clear n0_ n1_ n2_ n3_;clear hb hbox hg)|((with_reducible refine gate_callee (f:=43) rfl ?_);refine goesL_ (some 6) rfl rfl Try.func43 (by kernel_rfl) rfl #[.slice A0 l0.length c0] rfl (by (try simp only [List.map_toArray,List.map_cons,List.map_nil]);first|done|rfl|(simp only [List.length_drop,List.length_take];rfl)) ?_;(with_reducible refine (impl_IsValidColumn.calls _ _ l0 true _ ?side1 ?side2 A3.out).mono ?_);(case side1=>repeat (first|exact (zO HR0.out HB.out)|(with_reducible first|refine zG ?_ _|refine zH ?_ _|refine zI ?_)));(case side2=>exact HC0.out);rintro e w' ⟨rfl,⟨nd,rfl⟩⟩;refine ⟨_,rfl,?_⟩;have hcz11_0:w10.cell? ⟨gb146,0,none⟩ = some (.int .i64 a1_0):=(blk_cell BK146.out 0).trans rfl;have hcz11_1:w10.cell? ⟨gb146,1,none⟩ = some (.int .i64 a1_1):=(blk_cell BK146.out 1).trans rfl;have hcz11_2:w10.cell? ⟨gb146,2,none⟩ = some (.int .i64 a1_2):=(blk_cell BK146.out 2).trans rfl;have hfz11_0:=blk_frozen BK146.out 0;have hfz11_1:=blk_frozen BK146.out 1;have hfz11_2:=blk_frozen BK146.out 2)|(go_at_call 58;(with_reducible refine (impl_within.calls a1_0 1 200000 true _ A5.out).mono ?_);rintro e w' ⟨rfl,⟨nd,rfl⟩⟩)|(go_at_call 58;(with_reducible refine (impl_within.calls a1_1 0 100 true _ A7.out).mono ?_);rintro e w' ⟨rfl,⟨nd,rfl⟩⟩)|(go_at_call 58;(with_reducible refine (impl_within.calls a1_2 1 100000 t150 _ A9.out).mono ?_);rintro e w' ⟨rfl,⟨nd,rfl⟩⟩))
    go_ret
    exact ⟨by first|rfl|(simp [errW_none,errW_some] <;> rfl)|(simp [*,errW_none,errW_some] <;> rfl),by repeat (first|(with_reducible first|exact HB.out|apply zD|apply zE|apply zF|refine below_set ?_ GE146.out)|exact HB.out)⟩
   ·replace c8:=Bool.eq_false_iff.mpr c8
    subst c8;have H1:(some false) = some r:=by rw [if_neg (show ¬ (false = true) by decide)] at H;exact H
    clear H;have H:=H1;clear H1;obtain rfl:=Option.some.inj H;go_enter Try.func47,Try.ntmps47
    go_wp2_with (first|((with_reducible refine gate_dst (N:=3) rfl ?_);refine box_event ?hg (N:=3) ?hd (cs := #[.int .i64 a1_0,.int .i64 a1_1,.int .i64 a1_2]) (t:=28) ?hr ?_;(case hd=>rfl);(case hg=>rfl);(case hr=>first|(go_simp;done)|(go_simp;rfl));intro gb146 hg w12 hbox hb;have n0_:=zM (zQ (by repeat (first|(with_reducible first|exact HB.out|apply zD|apply zE|apply zF)|exact HB.out)) hb);have n1_:=zM (hbox);have n2_:=zM ((by rw [hg];exact (zR (by repeat (first|(with_reducible first|exact HB.out|apply zD|apply zE|apply zF)|exact HB.out))):w.heap.size ≤ gb146));have n3_:=zM ((by rw [hg];exact (zR (by repeat (first|(with_reducible first|exact HB.out|apply zD|apply zE|apply zF)|exact HB.out))):w.heap.size ≤ gb146));clear HB;have HB:=n0_;have BK146:=n1_;have GW146:=n2_;have GE146:=n3_;clear n0_ n1_ n2_ n3_;clear hb hbox hg)|((with_reducible refine gate_callee (f:=43) rfl ?_);refine goesL_ (some 6) rfl rfl Try.func43 (by kernel_rfl) rfl #[.slice A0 l0.length c0] rfl (by (try simp only [List.map_toArray,List.map_cons,List.map_nil]);first|done|rfl|(simp only [List.length_drop,List.length_take];rfl)) ?_;(with_reducible refine (impl_IsValidColumn.calls _ _ l0 true _ ?side1 ?side2 A3.out).mono ?_);(case side1=>repeat (first|exact (zO HR0.out HB.out)|(with_reducible first|refine zG ?_ _|refine zH ?_ _|refine zI ?_)));(case side2=>exact HC0.out);rintro e w' ⟨rfl,⟨nd,rfl⟩⟩;refine ⟨_,rfl,?_⟩;have hcz13_0:w12.cell? ⟨gb146,0,none⟩ = some (.int .i64 a1_0):=(blk_cell BK146.out 0).trans rfl;have hcz13_1:w12.cell? ⟨gb146,1,none⟩ = some (.int .i64 a1_1):=(blk_cell BK146.out 1).trans rfl;have hcz13_2:w12.cell? ⟨gb146,2,none⟩ = some (.int .i64 a1_2):=(blk_cell BK146.out 2).trans rfl;have hfz13_0:=blk_frozen BK146.out 0;have hfz13_1:=blk_frozen BK146.out 1;have hfz13_2:=blk_frozen BK146.out 2)|(go_at_call 58;(with_reducible refine (impl_within.calls a1_0 1 200000 true _ A5.out).mono ?_);rintro e w' ⟨rfl,⟨nd,rfl⟩⟩)|(go_at_call 58;(with_reducible refine (impl_within.calls a1_1 0 100 false _ A7.out).mono ?_);rintro e w' ⟨rfl,⟨nd,rfl⟩⟩))
    go_ret
    exact ⟨by first|rfl|(simp [errW_none,errW_some] <;> rfl)|(simp [*,errW_none,errW_some] <;> rfl),by repeat (first|(with_reducible first|exact HB.out|apply zD|apply zE|apply zF|refine below_set ?_ GE146.out)|exact HB.out)⟩
  ·replace c6:=Bool.eq_false_iff.mpr c6
   subst c6;have H1:(some false) = some r:=by rw [if_neg (show ¬ (false = true) by decide)] at H;exact H
   clear H;have H:=H1;clear H1;obtain rfl:=Option.some.inj H;go_enter Try.func47,Try.ntmps47
   go_wp2_with (first|((with_reducible refine gate_dst (N:=3) rfl ?_);refine box_event ?hg (N:=3) ?hd (cs := #[.int .i64 a1_0,.int .i64 a1_1,.int .i64 a1_2]) (t:=28) ?hr ?_;(case hd=>rfl);(case hg=>rfl);(case hr=>first|(go_simp;done)|(go_simp;rfl));intro gb146 hg w14 hbox hb;have n0_:=zM (zQ (by repeat (first|(with_reducible first|exact HB.out|apply zD|apply zE|apply zF)|exact HB.out)) hb);have n1_:=zM (hbox);have n2_:=zM ((by rw [hg];exact (zR (by repeat (first|(with_reducible first|exact HB.out|apply zD|apply zE|apply zF)|exact HB.out))):w.heap.size ≤ gb146));have n3_:=zM ((by rw [hg];exact (zR (by repeat (first|(with_reducible first|exact HB.out|apply zD|apply zE|apply zF)|exact HB.out))):w.heap.size ≤ gb146));clear HB;have HB:=n0_;have BK146:=n1_;have GW146:=n2_;have GE146:=n3_;clear n0_ n1_ n2_ n3_;clear hb hbox hg)|((with_reducible refine gate_callee (f:=43) rfl ?_);refine goesL_ (some 6) rfl rfl Try.func43 (by kernel_rfl) rfl #[.slice A0 l0.length c0] rfl (by (try simp only [List.map_toArray,List.map_cons,List.map_nil]);first|done|rfl|(simp only [List.length_drop,List.length_take];rfl)) ?_;(with_reducible refine (impl_IsValidColumn.calls _ _ l0 true _ ?side1 ?side2 A3.out).mono ?_);(case side1=>repeat (first|exact (zO HR0.out HB.out)|(with_reducible first|refine zG ?_ _|refine zH ?_ _|refine zI ?_)));(case side2=>exact HC0.out);rintro e w' ⟨rfl,⟨nd,rfl⟩⟩;refine ⟨_,rfl,?_⟩;have hcz15_0:w14.cell? ⟨gb146,0,none⟩ = some (.int .i64 a1_0):=(blk_cell BK146.out 0).trans rfl;have hcz15_1:w14.cell? ⟨gb146,1,none⟩ = some (.int .i64 a1_1):=(blk_cell BK146.out 1).trans rfl;have hcz15_2:w14.cell? ⟨gb146,2,none⟩ = some (.int .i64 a1_2):=(blk_cell BK146.out 2).trans rfl;have hfz15_0:=blk_frozen BK146.out 0;have hfz15_1:=blk_frozen BK146.out 1;have hfz15_2:=blk_frozen BK146.out 2)|(go_at_call 58;(with_reducible refine (impl_within.calls a1_0 1 200000 false _ A5.out).mono ?_);rintro e w' ⟨rfl,⟨nd,rfl⟩⟩))
   go_ret
   exact ⟨by first|rfl|(simp [errW_none,errW_some] <;> rfl)|(simp [*,errW_none,errW_some] <;> rfl),by repeat (first|(with_reducible first|exact HB.out|apply zD|apply zE|apply zF|refine below_set ?_ GE146.out)|exact HB.out)⟩
 ·replace c4:=Bool.eq_false_iff.mpr c4
  subst c4;have H1:(some false) = some r:=by rw [if_neg (show ¬ (false = true) by decide)] at H;exact H
  clear H;have H:=H1;clear H1;obtain rfl:=Option.some.inj H;go_enter Try.func47,Try.ntmps47
  go_wp2_with (first|((with_reducible refine gate_dst (N:=3) rfl ?_);refine box_event ?hg (N:=3) ?hd (cs := #[.int .i64 a1_0,.int .i64 a1_1,.int .i64 a1_2]) (t:=28) ?hr ?_;(case hd=>rfl);(case hg=>rfl);(case hr=>first|(go_simp;done)|(go_simp;rfl));intro gb146 hg w16 hbox hb;have n0_:=zM (zQ (by repeat (first|(with_reducible first|exact HB.out|apply zD|apply zE|apply zF)|exact HB.out)) hb);have n1_:=zM (hbox);have n2_:=zM ((by rw [hg];exact (zR (by repeat (first|(with_reducible first|exact HB.out|apply zD|apply zE|apply zF)|exact HB.out))):w.heap.size ≤ gb146));have n3_:=zM ((by rw [hg];exact (zR (by repeat (first|(with_reducible first|exact HB.out|apply zD|apply zE|apply zF)|exact HB.out))):w.heap.size ≤ gb146));clear HB;have HB:=n0_;have BK146:=n1_;have GW146:=n2_;have GE146:=n3_;clear n0_ n1_ n2_ n3_;clear hb hbox hg)|((with_reducible refine gate_callee (f:=43) rfl ?_);refine goesL_ (some 6) rfl rfl Try.func43 (by kernel_rfl) rfl #[.slice A0 l0.length c0] rfl (by (try simp only [List.map_toArray,List.map_cons,List.map_nil]);first|done|rfl|(simp only [List.length_drop,List.length_take];rfl)) ?_;(with_reducible refine (impl_IsValidColumn.calls _ _ l0 false _ ?side1 ?side2 A3.out).mono ?_);(case side1=>repeat (first|exact (zO HR0.out HB.out)|(with_reducible first|refine zG ?_ _|refine zH ?_ _|refine zI ?_)));(case side2=>exact HC0.out);rintro e w' ⟨rfl,⟨nd,rfl⟩⟩;refine ⟨_,rfl,?_⟩))
  go_ret
  exact ⟨by first|rfl|(simp [errW_none,errW_some] <;> rfl)|(simp [*,errW_none,errW_some] <;> rfl),by repeat (first|(with_reducible first|exact HB.out|apply zD|apply zE|apply zF|refine below_set ?_ GE146.out)|exact HB.out)⟩



/-! ### impl_sumOf: function 53 -/
def impl_sumOf.l0:Nat → Int → List Int → Int → Int → Option (Int)
 | 0,_,_,_,_=>none
 | k + 1,x3,x6,x7,x8=>if x8 < x7 then (if 0 ≤ x8 then (if x8 < (x6.length:Int) then (impl_sumOf.l0 k (wrap64 (x3 + (rd x6 x8))) x6 x7 (wrap64 (x8 + 1))) else (none)) else (none)) else (some x3)
def impl_sumOf.f (k:Nat) (l0:List Int):Option (Int):=impl_sumOf.l0 k 0 l0 (l0.length:Int) 0
set_option maxHeartbeats 8000000 in
set_option maxRecDepth 100000 in
theorem impl_sumOf.calls (k:Nat) (A0:Option Addr) (c0:Nat) (l0:List Int) (r:Int) (w:World) (hr0:Kd.C (Kd.int .i64) w A0 l0.length l0) (hc0:l0.length ≤ c0) (h:impl_sumOf.f k l0 = some r) :
  Calls Try.prog 53 #[.slice A0 l0.length c0] w fun e w'=>e = .returned (.int .i64 r) ∧ Drawn0 w w':=by
 have HR0:=zM hr0;have HC0:=zM hc0;clear hr0 hc0;have H:(impl_sumOf.l0 k 0 l0 (l0.length:Int) 0) = some r:=h
 clear h;have H':=zM H;clear H;go_enter Try.func53,Try.ntmps53
 go_wp2
 go_loopg [3,8] k (fun kq v3 v8 w' => ∃ (x3_1:Int) (x8_1:Int),v3 = .int .i64 x3_1 ∧ v8 = .int .i64 x8_1 ∧ Aside0 (impl_sumOf.l0 kq x3_1 l0 (l0.length:Int) x8_1 = some r) ∧ Aside0 (kq ≤ k) ∧ Drawn0 w w')
 case atStart=>exact ⟨(0),(0),(by first|rfl|(simp;done)|(simp [*];done)),(by first|rfl|(simp;done)|(simp [*];done)),H',⟨Nat.le_refl _⟩,by repeat (first|exact Drawn0.refl _|apply Drawn0.step)⟩
 case round =>
  clear H';obtain ⟨x3_1,x8_1,rfl,rfl,HA,HK1,⟨m1,rfl⟩⟩:=hrel;cases gk with
  | zero=>exact absurd HA.out (by simp [impl_sumOf.l0])
  | succ k1 =>
   have H:=HA.out;clear HA;simp only [impl_sumOf.l0] at H
   by_cases c2:x8_1 < (l0.length:Int)
   ·rw [if_pos c2] at H
    have c2b0:decide (x8_1 < (l0.length:Int)) = true:=decide_eq_true c2
    clear c2;by_cases c3:0 ≤ x8_1
    ·rw [if_pos c3] at H
     have c3b0:decide (0 ≤ x8_1) = true:=decide_eq_true c3
     clear c3;by_cases c4:x8_1 < (l0.length:Int)
     ·rw [if_pos c4] at H
      have c4b0:decide (x8_1 < (l0.length:Int)) = true:=decide_eq_true c4
      clear c4;have H':=zM H;clear H;have p151:0 ≤ (x8_1:Int):=of_decide_eq_true (by first|(with_reducible assumption)|assumption)
      have q151:x8_1 < (l0.length:Int):=of_decide_eq_true (by first|(with_reducible assumption)|assumption)
      obtain ⟨ad151,e151,hx151_0⟩:=Kd.at_int HR0.out x8_1 p151 q151;cases e151
      replace p151:=eq_true p151;replace q151:=eq_true q151;go_wp2
      go_roundg k1
      case measure=>have:=HK1.out;omega
      case rel=>exact ⟨(wrap64 (x3_1 + (rd l0 x8_1))),(wrap64 (x8_1 + 1)),(by first|rfl|(simp;done)|(simp [*];done)),(by first|rfl|(simp;done)|(simp [*];done)),H',⟨by have:=HK1.out;omega⟩,by repeat (first|exact Drawn0.refl _|apply Drawn0.step)⟩
     ·rw [if_neg c4] at H
      exact absurd H (by simp)
    ·rw [if_neg c3] at H
     exact absurd H (by simp)
   ·rw [if_neg c2] at H
    have c2b0:decide (x8_1 < (l0.length:Int)) = false:=decide_eq_false c2
    clear c2;obtain rfl:=Option.some.inj H;go_wp2
    go_ret
    exact ⟨by first|rfl|(simp;done)|(simp [*];done),by repeat (first|exact Drawn0.refl _|apply Drawn0.step)⟩



/-! ### impl_ceiling: function 49 -/
def impl_ceiling.f (a0:Int) (a1:Int):Option (Int):=if a1 = 0 then (none) else (some (wrap64 (Int.tdiv (wrap64 ((wrap64 (a0 + a1)) - 1)) a1)))
set_option maxHeartbeats 8000000 in
set_option maxRecDepth 100000 in
theorem impl_ceiling.calls (a0:Int) (a1:Int) (r:Int) (w:World) (h:impl_ceiling.f a0 a1 = some r) :
  Calls Try.prog 49 #[.int .i64 a0,.int .i64 a1] w fun e w'=>e = .returned (.int .i64 r) ∧ Drawn0 w w':=by
 have H:(if a1 = 0 then (none) else (some (wrap64 (Int.tdiv (wrap64 ((wrap64 (a0 + a1)) - 1)) a1)))) = some r:=h
 clear h;by_cases c3:a1 = 0
 ·rw [if_pos c3] at H
  exact absurd H (by simp)
 ·rw [if_neg c3] at H
  have c3b0:(a1 == 0) = false:=beq_eq_false_iff_ne.mpr c3
  have c3b1:(a1 != 0) = true:=bne_iff_ne.mpr c3
  obtain rfl:=Option.some.inj H;go_enter Try.func49,Try.ntmps49
  go_wp2
  go_ret
  exact ⟨by first|rfl|(simp;done)|(simp [*];done),by repeat (first|exact Drawn0.refl _|apply Drawn0.step)⟩



/-! ### impl_forcesOf: function 48 -/
def impl_forcesOf.l0:Nat → List Int → List Int → Int → Int → Int → Int → Int → Option (List Int)
 | 0,_,_,_,_,_,_,_=>none
 | k + 1,x0,x5,x9,x10,x153000,x153001,x153002=>if x10 < x9 then (if 0 ≤ x10 then (if x10 ≤ (x0.length:Int) then ((impl_sumOf.f k (x0.drop (x10:Int).toNat)).bind fun t157=>((impl_ceiling.f (wrap64 (x153001 * t157)) 100).bind fun t158=>(if x5.length < 17592186044416 then (impl_forcesOf.l0 k x0 (x5 ++ [t158]) x9 (wrap64 (x10 + 1)) x153000 x153001 x153002) else (none)))) else (none)) else (none)) else (some x5)
def impl_forcesOf.f (k:Nat) (l0:List Int) (a1_0:Int) (a1_1:Int) (a1_2:Int):Option (List Int):=impl_forcesOf.l0 k l0 (([]:List Int)) (l0.length:Int) 0 a1_0 a1_1 a1_2
def impl_forcesOf.T5:Bool × List (List Nat × List Nat):=(true,[([],[]),([],[]),([1],[1]),([],[]),([],[]),([3,4],[3,4]),([5],[5]),([2,6],[2,6]),([7,6],[7]),([8],[8]),([0,9,8],[0,9]),([10,10,0,1,2,3,4,5,6,7,8,9,10],[0,10])])
def impl_forcesOf.B5:List Nat:=[0,0,2,0,0,24,56,126,254,510,1023,2047]
theorem impl_forcesOf.tab5:rtab .any (opsOf Try.f48 5) = impl_forcesOf.T5:=by kernel_rfl
theorem impl_forcesOf.bits5:waitsOk impl_forcesOf.T5.2 impl_forcesOf.B5 = true:=by kernel_rfl
set_option maxHeartbeats 8000000 in
set_option maxRecDepth 100000 in
theorem impl_forcesOf.calls (k:Nat) (A0:Option Addr) (c0:Nat) (l0:List Int) (a1_0:Int) (a1_1:Int) (a1_2:Int) (r:List Int) (w:World) (hr0:Kd.C (Kd.int .i64) w A0 l0.length l0) (hc0:l0.length ≤ c0) (h:impl_forcesOf.f k l0 a1_0 a1_1 a1_2 = some r) :
  Calls Try.prog 48 #[.slice A0 l0.length c0,.agg #[.int .i64 a1_0,.int .i64 a1_1,.int .i64 a1_2]] w fun e w' => ∃ v0_:Value,e = .returned (v0_) ∧ Kd.R (Kd.int .i64) 3 w' w.heap.size (fun _=>True) v0_ r ∧ Below w.heap.size w w':=by
 have hu28:=Try.underlying28;have HR0:=zM hr0;have HC0:=zM hc0;clear hr0 hc0;have HB:=zM (Below.refl w.heap.size w);have H:(impl_forcesOf.l0 k l0 (([]:List Int)) (l0.length:Int) 0 a1_0 a1_1 a1_2) = some r:=h
 clear h;obtain ⟨y153,hy153⟩ : ∃ y_:List Int,y_ = (([]:List Int)):=⟨_,rfl⟩
 replace H:(impl_forcesOf.l0 k l0 y153 (l0.length:Int) 0 a1_0 a1_1 a1_2) = some r:=by first|(rw [hy153];with_reducible exact H)|(have H2_:=(Option.bind_some _ _).symm.trans H;rw [hy153];with_reducible exact H2_)|(have H2_:=(Option.bind_some _ _).symm.trans H;with_reducible exact H2_)|with_reducible exact H|(rw [hy153];exact H)|exact H
 have Ny153:=zM hy153;clear hy153;have H':=zM H;clear H;go_enter Try.func48,Try.ntmps48
 go_wp2_with (first|((with_reducible refine gate_dst (N:=3) rfl ?_);refine box_event ?hg (N:=3) ?hd (cs := #[.int .i64 a1_0,.int .i64 a1_1,.int .i64 a1_2]) (t:=28) ?hr ?_;(case hd=>rfl);(case hg=>rfl);(case hr=>first|(go_simp;done)|(go_simp;rfl));intro gb152 hg w3 hbox hb;have n0_:=zM (zQ (by repeat (first|(with_reducible first|exact HB.out|apply zD|apply zE|apply zF)|exact HB.out)) hb);have n1_:=zM (hbox);have n2_:=zM ((by rw [hg];exact (zR (by repeat (first|(with_reducible first|exact HB.out|apply zD|apply zE|apply zF)|exact HB.out))):w.heap.size ≤ gb152));have n3_:=zM ((by rw [hg];exact (zR (by repeat (first|(with_reducible first|exact HB.out|apply zD|apply zE|apply zF)|exact HB.out))):w.heap.size ≤ gb152));clear HB;have HB:=n0_;have BK152:=n1_;have GW152:=n2_;have GE152:=n3_;clear n0_ n1_ n2_ n3_;clear hb hbox hg)|((with_reducible refine gate_dst (N:=7) rfl ?_);refine Kd.R_lit (Kd.int .i64) _ 3 ?hg (N:=7) ?hd (xs:=([]:List Int)) (inner:=[]) (ok:=fun _=>True) (okp:=fun _=>True) ?hr ?hp (fun _ hk=>hk) trivial (Below.refl _ _) (Nat.le_refl _) (by simp) ?_;(case hd=>rfl);(case hg=>rfl);(case hr=>first|(go_simp;done)|(go_simp;rfl));(case hp=>exact (Reps.none _ _));intro v154 w4 ho5 hb hg_ hnew_;clear hg_ hnew_;(first|rw [← Ny153.out] at ho5|(simp only [Int.reduceToNat] at ho5;rw [← Ny153.out] at ho5));have n0_:=zM (Kd.R_lower ho5 (zR (by repeat (first|(with_reducible first|exact HB.out|apply zD|apply zE|apply zF|refine below_set ?_ GE152.out)|exact HB.out))));have n1_:=zM (blk_below (g:=gb152) (o := .cells #[.int .i64 a1_0,.int .i64 a1_1,.int .i64 a1_2] 28 (0,0)) (by (with_reducible repeat (first|refine zJ ?_ _|refine zK ?_|refine zL ?_ _));exact BK152.out) hb);have n2_:=zM (zQ (by repeat (first|(with_reducible first|exact HB.out|apply zD|apply zE|apply zF|refine below_set ?_ GE152.out)|exact HB.out)) hb);clear BK152;clear HB;have HO155:=n0_;have BK152:=n1_;have HB:=n2_;clear n0_ n1_ n2_;clear hb ho5))
 go_loopg [5,10] k (fun kq v5 v10 w' => ∃ (x5_1:List Int) (x10_1:Int),v10 = .int .i64 x10_1 ∧ Aside0 (impl_forcesOf.l0 kq l0 x5_1 (l0.length:Int) x10_1 a1_0 a1_1 a1_2 = some r) ∧ Aside0 (kq ≤ k) ∧ Aside0 (Kd.R (Kd.int .i64) 3 w' w.heap.size (fun _=>True) v5 x5_1) ∧ Aside0 (w'.heap[gb152]? = some (.cells #[.int .i64 a1_0,.int .i64 a1_1,.int .i64 a1_2] 28 (0,0))) ∧ Aside0 (Below w.heap.size w w'))
 case atStart=>exact ⟨(y153),(0),(by first|rfl|(simp;done)|(simp [*];done)),H',⟨Nat.le_refl _⟩,⟨by (with_reducible repeat (first|apply zA|apply zB|apply zC));exact HO155.out⟩,⟨by (with_reducible repeat (first|refine zJ ?_ _|refine zK ?_|refine zL ?_ _));exact BK152.out⟩,⟨by repeat (first|(with_reducible first|exact HB.out|apply zD|apply zE|apply zF|refine below_set ?_ GE152.out)|exact HB.out)⟩⟩
 case round =>
  clear H';(try clear p2);(try clear c4);obtain ⟨x5_1,x10_1,rfl,HA,HK1,HO_5,BK152,HB⟩:=hrel;cases gk with
  | zero=>exact absurd HA.out (by simp [impl_forcesOf.l0])
  | succ k1 =>
   have H:=HA.out;clear HA;simp only [impl_forcesOf.l0] at H
   by_cases c6:x10_1 < (l0.length:Int)
   ·rw [if_pos c6] at H
    have c6b0:decide (x10_1 < (l0.length:Int)) = true:=decide_eq_true c6
    clear c6;by_cases c7:0 ≤ x10_1
    ·rw [if_pos c7] at H
     have c7b0:=eq_true c7;have c7b1:decide (0 ≤ x10_1) = true:=decide_eq_true c7
     clear c7;by_cases c8:x10_1 ≤ (l0.length:Int)
     ·rw [if_pos c8] at H
      have c8b0:=eq_true c8;have c8b1:decide (x10_1 ≤ (l0.length:Int)) = true:=decide_eq_true c8
      clear c8;replace H:=Option.bind_eq_some_iff.mp H;obtain ⟨t157,A90,H⟩:=H;replace H:((impl_ceiling.f (wrap64 (a1_1 * t157)) 100).bind fun t158=>(if x5_1.length < 17592186044416 then (impl_forcesOf.l0 k1 l0 (x5_1 ++ [t158]) (l0.length:Int) (wrap64 (x10_1 + 1)) a1_0 a1_1 a1_2) else (none))) = some r:=H
      have A9:=zM A90;clear A90;replace H:=Option.bind_eq_some_iff.mp H;obtain ⟨t158,A100,H⟩:=H;replace H:(if x5_1.length < 17592186044416 then (impl_forcesOf.l0 k1 l0 (x5_1 ++ [t158]) (l0.length:Int) (wrap64 (x10_1 + 1)) a1_0 a1_1 a1_2) else (none)) = some r:=H
      have A10:=zM A100;clear A100;by_cases c11:x5_1.length < 17592186044416
      ·rw [if_pos c11] at H
       have LMc11:=zM c11;clear c11;obtain ⟨y159,hy159⟩ : ∃ y_:List Int,y_ = (x5_1 ++ [t158]):=⟨_,rfl⟩
       replace H:(impl_forcesOf.l0 k1 l0 y159 (l0.length:Int) (wrap64 (x10_1 + 1)) a1_0 a1_1 a1_2) = some r:=by first|(rw [hy159];with_reducible exact H)|(have H2_:=(Option.bind_some _ _).symm.trans H;rw [hy159];with_reducible exact H2_)|(have H2_:=(Option.bind_some _ _).symm.trans H;with_reducible exact H2_)|with_reducible exact H|(rw [hy159];exact H)|exact H
       have Ny159:=zM hy159;clear hy159;have H':=zM H;clear H;try go_wp2
       have n0_:=zM (zC HO_5.out);have n1_:=zM (zK BK152.out);have n2_:=zM (zF HB.out);clear HO_5;clear BK152;clear HB;have HO_5:=n0_;have BK152:=n1_;have HB:=n2_;clear n0_ n1_ n2_;obtain ⟨i013,hi013,_,hsz13,_⟩:=info_parts info3;obtain ⟨A13,hcut13,hA13,hC13⟩:=print_drop_of (P:=Try.prog) (Value.int .i64) 0 22 3 .i64 Try.underlying22 hi013 hsz13 A0 c0 l0 x10_1 (of_decide_eq_true (by first|(with_reducible assumption)|assumption)) (of_decide_eq_true (by first|(with_reducible assumption)|assumption)) HC0.out
       have HR156:=zM (Kd.C_of_reads (h1:=fun _=>rfl) (hA13 _ (Kd.reads_of_C HR0.out)))
       have HC156:=zM hC13;clear hA13 hC13 hi013 hsz13;refine start_ (n:=12) (S:=fun w'=>w'.cell? ⟨gb152,0,none⟩ = some (.int .i64 a1_0) ∧ w'.cell? ⟨gb152,1,none⟩ = some (.int .i64 a1_1) ∧ w'.cell? ⟨gb152,2,none⟩ = some (.int .i64 a1_2)) (ds:=[]) #[false,false,false,false,false,false,false,false,false,false,false,false] (by kernel_rfl) rfl rfl ⟨(blk_cell BK152.out 0).trans rfl,(blk_cell BK152.out 1).trans rfl,(blk_cell BK152.out 2).trans rfl⟩ (fun hHeld=>?_);refine with_tabW impl_forcesOf.tab5 impl_forcesOf.bits5 (fun HT_ HW_=>?_)
       generalize wr.drew = w12 at HO_5 BK152 HB HR156 hHeld ⊢
       refine pure_ (i:=0) (N:=some 13) (v:=?_) (a':=?_) #[true,false,false,false,false,false,false,false,false,false,false,false] rfl rfl (any_of HT_.out (by kernel_rfl)) (fun _ _ _ h=>h) (Or.inl ⟨by rfl,?_⟩) ?_ ?_
       rotate_left
       ·intro w'
        go_simp
        with_reducible rfl
       rotate_left
       ·simp only [Act.put,zT,zU,zV,i64_w,i32_w]
        rfl
       refine pure_ (i:=1) (N:=some 14) (v:=?_) (a':=?_) #[true,true,false,false,false,false,false,false,false,false,false,false] rfl rfl (any_of HT_.out (by kernel_rfl)) (fun _ _ _ h=>h) (Or.inl ⟨by rfl,?_⟩) ?_ ?_
       rotate_left
       ·intro w'
        go_simp
        with_reducible rfl
       rotate_left
       ·simp only [Act.put,zT,zU,zV,i64_w,i32_w]
        rfl
       refine pure_ (i:=3) (N:=some 16) (v:=?_) (a':=?_) #[true,true,false,true,false,false,false,false,false,false,false,false] rfl rfl (any_of HT_.out (by kernel_rfl)) (fun _ _ _ h=>h) (Or.inl ⟨by rfl,?_⟩) ?_ ?_
       rotate_left
       ·intro w'
        go_simp
        with_reducible rfl
       rotate_left
       ·simp only [Act.put,zT,zU,zV,i64_w,i32_w]
        rfl
       refine pure_ (i:=4) (N:=some 17) (v:=?_) (a':=?_) #[true,true,false,true,true,false,false,false,false,false,false,false] rfl rfl (any_of HT_.out (by kernel_rfl)) (fun _ _ _ h=>h) (Or.inl ⟨by rfl,?_⟩) ?_ ?_
       rotate_left
       ·intro w'
        go_simp
        with_reducible rfl
       rotate_left
       ·simp only [Act.put,zT,zU,zV,i64_w,i32_w]
        rfl
       refine pure_ (i:=5) (N:=some 18) (v:=?_) (a':=?_) #[true,true,false,true,true,true,false,false,false,false,false,false] rfl rfl (any_of HT_.out (by kernel_rfl)) (fun _ _ _ h=>h) (Or.inl ⟨by rfl,?_⟩) ?_ ?_
       rotate_left
       ·intro w'
        go_simp
        with_reducible rfl
       rotate_left
       ·simp only [Act.put,zT,zU,zV,i64_w,i32_w]
        rfl
       refine take_ (i:=2) (N:=some 15) (v:=?_) (a':=?_) #[true,true,true,true,true,true,false,false,false,false,false,false] rfl rfl (take_ofW HT_.out HW_.out (by kernel_rfl)) (fun _ _ _ h=>h) (Or.inl ⟨by rfl,?_⟩) hHeld ?_ ?_
       rotate_left
       ·rintro w' ⟨s0,s1,s2⟩
        go_simp
        with_reducible rfl
       rotate_left
       ·simp only [Act.put,zT,zU,zV,i64_w,i32_w]
        rfl
       refine one_ (i:=6) (N:=some 19) #[true,true,true,true,true,true,true,false,false,false,false,false] rfl rfl (one_of HT_.out (by kernel_rfl)) (by decide) (fun K hK=>?_)
       refine goes_ Try.func53 (by kernel_rfl) rfl #[.slice A13 (l0.drop (x10_1:Int).toNat).length (c0 - x10_1.toNat)] (by rfl) rfl rfl (by (try simp only [List.map_toArray,List.map_cons,List.map_nil]);first|done|(rw [show (l0.drop (x10_1:Int).toNat).length = (l0.length - x10_1.toNat) from List.length_drop] <;> rfl)|rfl|(simp only [List.length_drop,List.length_take];rfl)) ?_
       with_reducible refine (impl_sumOf.calls k1 _ _ (l0.drop (x10_1:Int).toNat) t157 _ ?side1 ?side2 A9.out).mono ?_
       (case side1=>repeat (first|exact (zO HR156.out HB.out)|(with_reducible first|refine zG ?_ _|refine zH ?_ _|refine zI ?_)))
       (case side2=>exact HC156.out)
       rintro e w' ⟨rfl,⟨nd,rfl⟩⟩
       refine ⟨_,rfl,?_⟩
       refine hK.out _ _ ⟨(blk_cell BK152.out 0).trans rfl,(blk_cell BK152.out 1).trans rfl,(blk_cell BK152.out 2).trans rfl⟩ (fun hHeld=>?_)
       clear hK K;refine norm_ (a':=?_) ?_ ?_
       rotate_left
       ·show Act.put _ (some 19) _ = _
        simp only [Act.put,zT,zU,zV,i64_w,i32_w]
        rfl
       refine pure_ (i:=7) (N:=some 20) (v:=?_) (a':=?_) #[true,true,true,true,true,true,true,true,false,false,false,false] rfl rfl (any_of HT_.out (by kernel_rfl)) (fun _ _ _ h=>h) (Or.inl ⟨by rfl,?_⟩) ?_ ?_
       rotate_left
       ·intro w'
        go_simp
        with_reducible rfl
       rotate_left
       ·simp only [Act.put,zT,zU,zV,i64_w,i32_w]
        rfl
       refine one_ (i:=8) (N:=some 21) #[true,true,true,true,true,true,true,true,true,false,false,false] rfl rfl (one_of HT_.out (by kernel_rfl)) (by decide) (fun K hK=>?_)
       refine goes_ Try.func49 (by kernel_rfl) rfl #[.int .i64 (wrap64 (a1_1 * t157)),.int .i64 100] (by rfl) rfl rfl (by (try simp only [List.map_toArray,List.map_cons,List.map_nil]);first|done|rfl|(simp only [List.length_drop,List.length_take];rfl)) ?_
       with_reducible refine (impl_ceiling.calls (wrap64 (a1_1 * t157)) 100 t158 _ A10.out).mono ?_
       rintro e w' ⟨rfl,⟨nd,rfl⟩⟩
       refine ⟨_,rfl,?_⟩
       refine hK.out _ _ ⟨(blk_cell BK152.out 0).trans rfl,(blk_cell BK152.out 1).trans rfl,(blk_cell BK152.out 2).trans rfl⟩ (fun hHeld=>?_)
       clear hK K;refine norm_ (a':=?_) ?_ ?_
       rotate_left
       ·show Act.put _ (some 21) _ = _
        simp only [Act.put,zT,zU,zV,i64_w,i32_w]
        rfl
       refine one_ (i:=9) (N:=some 22) #[true,true,true,true,true,true,true,true,true,true,false,false] rfl rfl (one_of HT_.out (by kernel_rfl)) (by decide) (fun K hK=>?_)
       refine value_ (w1:=?_) (v:=?_) (by rfl) rfl ?_ ?_
       rotate_left 2
       ·go_simp
        constructor
        ·rfl
        ·rfl
       refine hK.out _ _ ⟨(blk_cell (zL BK152.out _) 0).trans rfl,(blk_cell (zL BK152.out _) 1).trans rfl,(blk_cell (zL BK152.out _) 2).trans rfl⟩ (fun hHeld=>?_)
       clear hK K;refine norm_ (a':=?_) ?_ ?_
       rotate_left
       ·show Act.put _ (some 22) _ = _
        simp only [Act.put,zT,zU,zV,i64_w,i32_w]
        rfl
       refine one_ (i:=10) (N:=some 23) #[true,true,true,true,true,true,true,true,true,true,true,false] rfl rfl (one_of HT_.out (by kernel_rfl)) (by decide) (fun K hK=>?_)
       refine Kd.R_append_step (Kd.int .i64) (w0:=w) w.heap.size (by rfl) (.tmp 13) (.tmp 22) 22 3 (.int .i64 0) 8 rfl Try.underlying22 info3 rfl (by decide) (by omega) u5 x5_1 t158 [.int .i64 t158] (fun _=>True) (fun _=>False) rfl rfl ?aP (fun _ hk=>hk.elim) ?aF ?aO ?aB ?aS ?aL ?_
       (case aP=>exact rfl)
       (case aB=>exact (by repeat (first|(with_reducible first|exact HB.out|apply zD|apply zE|apply zF|refine below_set ?_ GE152.out)|exact HB.out)))
       (case aF=>exact (fun _ _=>trivial))
       (case aO=>exact (by (with_reducible repeat (first|apply zA|apply zB|apply zC));exact HO_5.out))
       (case aS=>exact (zR (by repeat (first|(with_reducible first|exact HB.out|apply zD|apply zE|apply zF|refine below_set ?_ GE152.out)|exact HB.out))))
       (case aL=>have:=LMc11.out;omega)
       intro v160 w14 ho hb hg hat;rw [← Ny159.out] at ho;have n0_:=zM (blk_grown (g:=gb152) (o := .cells #[.int .i64 a1_0,.int .i64 a1_1,.int .i64 a1_2] 28 (0,0)) (by (with_reducible repeat (first|refine zJ ?_ _|refine zK ?_|refine zL ?_ _));exact BK152.out) hg (Kd.R_ne HO_5.out BK152.out (by decide)))
       have n1_:=zM (hb);have n2_:=zM (ho);clear BK152;clear HB;clear HO_5;have BK152:=n0_;have HB:=n1_;have HO161:=n2_;clear n0_ n1_ n2_;clear ho hb hg hat;refine hK.out _ _ ⟨(blk_cell BK152.out 0).trans rfl,(blk_cell BK152.out 1).trans rfl,(blk_cell BK152.out 2).trans rfl⟩ (fun hHeld=>?_)
       clear hK K;refine norm_ (a':=?_) ?_ ?_
       rotate_left
       ·show Act.put _ (some 23) _ = _
        simp only [Act.put,zT,zU,zV,i64_w,i32_w]
        rfl
       refine pure_ (i:=11) (N:=some 5) (v:=?_) (a':=?_) #[true,true,true,true,true,true,true,true,true,true,true,true] rfl rfl (any_of HT_.out (by kernel_rfl)) (fun _ _ _ h=>h) (Or.inl ⟨by rfl,?_⟩) ?_ ?_
       rotate_left
       ·intro w'
        go_simp
        with_reducible rfl
       rotate_left
       ·simp only [Act.put,zT,zU,zV,i64_w,i32_w]
        rfl
       refine done_ (done_of HT_.out (by kernel_rfl)) ?_
       try go_wp2
       go_roundg k1
       case measure=>have:=HK1.out;omega
       case rel=>exact ⟨(y159),(wrap64 (x10_1 + 1)),(by first|rfl|(simp;done)|(simp [*];done)),H',⟨by have:=HK1.out;omega⟩,⟨by (with_reducible repeat (first|apply zA|apply zB|apply zC));exact HO161.out⟩,⟨by (with_reducible repeat (first|refine zJ ?_ _|refine zK ?_|refine zL ?_ _));exact BK152.out⟩,⟨by repeat (first|(with_reducible first|exact HB.out|apply zD|apply zE|apply zF|refine below_set ?_ GE152.out)|exact HB.out)⟩⟩
      ·rw [if_neg c11] at H
       exact absurd H (by simp)
     ·rw [if_neg c8] at H
      exact absurd H (by simp)
    ·rw [if_neg c7] at H
     exact absurd H (by simp)
   ·rw [if_neg c6] at H
    have c6b0:decide (x10_1 < (l0.length:Int)) = false:=decide_eq_false c6
    clear c6;obtain rfl:=Option.some.inj H;go_wp2
    go_ret
    exact ⟨_,by first|rfl|(simp [errW_none,errW_some] <;> rfl)|(simp [*,errW_none,errW_some] <;> rfl),by (with_reducible repeat (first|apply zA|apply zB|apply zC));exact HO_5.out,by repeat (first|(with_reducible first|exact HB.out|apply zD|apply zE|apply zF|refine below_set ?_ GE152.out)|exact HB.out)⟩



/-! ### impl_LashingsNeeded: function 20 -/
def impl_LashingsNeeded.l0:Nat → List Int → List Int → Int → Int → Int → Int → Int → Option (List Int × Bool)
 | 0,_,_,_,_,_,_,_=>none
 | k + 1,x6,x17,x18,x19,x232000,x232001,x232002=>if x19 < x18 then (if 0 ≤ x19 then (if x19 < (x17.length:Int) then ((impl_ceiling.f (rd x17 x19) x232002).bind fun t240=>(if t240 > 4 then (some (([]:List Int),false)) else (if x6.length < 17592186044416 then (impl_LashingsNeeded.l0 k (x6 ++ [t240]) x17 x18 (wrap64 (x19 + 1)) x232000 x232001 x232002) else (none)))) else (none)) else (none)) else (some (x6,true))
def impl_LashingsNeeded.f (k:Nat) (l0:List Int) (a1_0:Int) (a1_1:Int) (a1_2:Int):Option (List Int × Bool):=(impl_isLashed.f l0 a1_0 a1_1 a1_2).bind fun t232=>(if t232 = true then ((impl_forcesOf.f k l0 a1_0 a1_1 a1_2).bind fun t236=>(impl_LashingsNeeded.l0 k (([]:List Int)) t236 (t236.length:Int) 0 a1_0 a1_1 a1_2)) else (some (([]:List Int),false)))
set_option maxHeartbeats 8000000 in
set_option maxRecDepth 100000 in
theorem impl_LashingsNeeded.calls (k:Nat) (A0:Option Addr) (c0:Nat) (l0:List Int) (a1_0:Int) (a1_1:Int) (a1_2:Int) (r1:List Int) (r2:Bool) (w:World) (hr0:Kd.C (Kd.int .i64) w A0 l0.length l0) (hc0:l0.length ≤ c0) (h:impl_LashingsNeeded.f k l0 a1_0 a1_1 a1_2 = some (r1,r2)) :
  Calls Try.prog 20 #[.slice A0 l0.length c0,.agg #[.int .i64 a1_0,.int .i64 a1_1,.int .i64 a1_2]] w fun e w' => ∃ v0_:Value,e = .returned (.tuple #[v0_,.bool r2]) ∧ Kd.R (Kd.int .i64) 3 w' w.heap.size (fun _=>True) v0_ r1 ∧ Below w.heap.size w w':=by
 have hu28:=Try.underlying28;have HR0:=zM hr0;have HC0:=zM hc0;clear hr0 hc0;have HB:=zM (Below.refl w.heap.size w);have H:((impl_isLashed.f l0 a1_0 a1_1 a1_2).bind fun t232=>(if t232 = true then ((impl_forcesOf.f k l0 a1_0 a1_1 a1_2).bind fun t236=>(impl_LashingsNeeded.l0 k (([]:List Int)) t236 (t236.length:Int) 0 a1_0 a1_1 a1_2)) else (some (([]:List Int),false)))) = some (r1,r2):=h
 clear h;replace H:=Option.bind_eq_some_iff.mp H;obtain ⟨t232,A30,H⟩:=H;replace H:(if t232 = true then ((impl_forcesOf.f k l0 a1_0 a1_1 a1_2).bind fun t236=>(impl_LashingsNeeded.l0 k (([]:List Int)) t236 (t236.length:Int) 0 a1_0 a1_1 a1_2)) else (some (([]:List Int),false))) = some (r1,r2):=H
 have A3:=zM A30;clear A30;by_cases c4:t232 = true
 ·subst c4
  have H1:((impl_forcesOf.f k l0 a1_0 a1_1 a1_2).bind fun t236=>(impl_LashingsNeeded.l0 k (([]:List Int)) t236 (t236.length:Int) 0 a1_0 a1_1 a1_2)) = some (r1,r2):=by rw [if_pos rfl] at H;exact H
  clear H;have H:=H1;clear H1;obtain ⟨y233,hy233⟩ : ∃ y_:List Int,y_ = (([]:List Int)):=⟨_,rfl⟩
  replace H:((impl_forcesOf.f k l0 a1_0 a1_1 a1_2).bind fun t236=>(impl_LashingsNeeded.l0 k y233 t236 (t236.length:Int) 0 a1_0 a1_1 a1_2)) = some (r1,r2):=by first|(rw [hy233];with_reducible exact H)|(have H2_:=(Option.bind_some _ _).symm.trans H;rw [hy233];with_reducible exact H2_)|(have H2_:=(Option.bind_some _ _).symm.trans H;with_reducible exact H2_)|with_reducible exact H|(rw [hy233];exact H)|exact H
  have Ny233:=zM hy233;clear hy233;replace H:=Option.bind_eq_some_iff.mp H;obtain ⟨t236,A50,H⟩:=H;replace H:(impl_LashingsNeeded.l0 k y233 t236 (t236.length:Int) 0 a1_0 a1_1 a1_2) = some (r1,r2):=H
  have A5:=zM A50;clear A50;have H':=zM H;clear H;go_enter Try.func20,Try.ntmps20
  go_wp2_with (first|((with_reducible refine gate_dst (N:=3) rfl ?_);refine box_event ?hg (N:=3) ?hd (cs := #[.int .i64 a1_0,.int .i64 a1_1,.int .i64 a1_2]) (t:=28) ?hr ?_;(case hd=>rfl);(case hg=>rfl);(case hr=>first|(go_simp;done)|(go_simp;rfl));intro gb231 hg w6 hbox hb;have n0_:=zM (zQ (by repeat (first|(with_reducible first|exact HB.out|apply zD|apply zE|apply zF)|exact HB.out)) hb);have n1_:=zM (hbox);have n2_:=zM ((by rw [hg];exact (zR (by repeat (first|(with_reducible first|exact HB.out|apply zD|apply zE|apply zF)|exact HB.out))):w.heap.size ≤ gb231));have n3_:=zM ((by rw [hg];exact (zR (by repeat (first|(with_reducible first|exact HB.out|apply zD|apply zE|apply zF)|exact HB.out))):w.heap.size ≤ gb231));clear HB;have HB:=n0_;have BK231:=n1_;have GW231:=n2_;have GE231:=n3_;clear n0_ n1_ n2_ n3_;clear hb hbox hg;have hcz7_0:w6.cell? ⟨gb231,0,none⟩ = some (.int .i64 a1_0):=(blk_cell BK231.out 0).trans rfl;have hcz7_1:w6.cell? ⟨gb231,1,none⟩ = some (.int .i64 a1_1):=(blk_cell BK231.out 1).trans rfl;have hcz7_2:w6.cell? ⟨gb231,2,none⟩ = some (.int .i64 a1_2):=(blk_cell BK231.out 2).trans rfl;have hfz7_0:=blk_frozen BK231.out 0;have hfz7_1:=blk_frozen BK231.out 1;have hfz7_2:=blk_frozen BK231.out 2)|((with_reducible refine gate_callee (f:=47) rfl ?_);refine goesL_ (some 12) rfl rfl Try.func47 (by kernel_rfl) rfl #[.slice A0 l0.length c0,.agg #[.int .i64 a1_0,.int .i64 a1_1,.int .i64 a1_2]] rfl (by (try simp only [List.map_toArray,List.map_cons,List.map_nil]);first|done|rfl|(simp only [List.length_drop,List.length_take];rfl)) ?_;(with_reducible refine (impl_isLashed.calls _ _ l0 a1_0 a1_1 a1_2 true _ ?side1 ?side2 A3.out).mono ?_);(case side1=>repeat (first|exact (zO HR0.out HB.out)|(with_reducible first|refine zG ?_ _|refine zH ?_ _|refine zI ?_)));(case side2=>exact HC0.out);rintro e w8 ⟨rfl,hb⟩;refine ⟨_,rfl,?_⟩;have n0_:=zM (blk_below (g:=gb231) (o := .cells #[.int .i64 a1_0,.int .i64 a1_1,.int .i64 a1_2] 28 (0,0)) (by (with_reducible repeat (first|refine zJ ?_ _|refine zK ?_|refine zL ?_ _));exact BK231.out) hb);have n1_:=zM (zQ (by repeat (first|(with_reducible first|exact HB.out|apply zD|apply zE|apply zF|refine below_set ?_ GE231.out)|exact HB.out)) hb);clear BK231;clear HB;have BK231:=n0_;have HB:=n1_;clear n0_ n1_;(try clear hb);(try clear hb2);(try clear hk);(try clear hi))|((with_reducible refine gate_dst (N:=14) rfl ?_);refine Kd.R_lit (Kd.int .i64) _ 3 ?hg (N:=14) ?hd (xs:=([]:List Int)) (inner:=[]) (ok:=fun _=>True) (okp:=fun _=>True) ?hr ?hp (fun _ hk=>hk) trivial (Below.refl _ _) (Nat.le_refl _) (by simp) ?_;(case hd=>rfl);(case hg=>rfl);(case hr=>first|(go_simp;done)|(go_simp;rfl));(case hp=>exact (Reps.none _ _));intro v234 w9 ho10 hb hg_ hnew_;clear hg_ hnew_;(first|rw [← Ny233.out] at ho10|(simp only [Int.reduceToNat] at ho10;rw [← Ny233.out] at ho10));have n0_:=zM (Kd.R_lower ho10 (zR (by repeat (first|(with_reducible first|exact HB.out|apply zD|apply zE|apply zF|refine below_set ?_ GE231.out)|exact HB.out))));have n1_:=zM (blk_below (g:=gb231) (o := .cells #[.int .i64 a1_0,.int .i64 a1_1,.int .i64 a1_2] 28 (0,0)) (by (with_reducible repeat (first|refine zJ ?_ _|refine zK ?_|refine zL ?_ _));exact BK231.out) hb);have n2_:=zM (zQ (by repeat (first|(with_reducible first|exact HB.out|apply zD|apply zE|apply zF|refine below_set ?_ GE231.out)|exact HB.out)) hb);clear BK231;clear HB;have HO235:=n0_;have BK231:=n1_;have HB:=n2_;clear n0_ n1_ n2_;clear hb ho10;have hcz11_0:w9.cell? ⟨gb231,0,none⟩ = some (.int .i64 a1_0):=(blk_cell BK231.out 0).trans rfl;have hcz11_1:w9.cell? ⟨gb231,1,none⟩ = some (.int .i64 a1_1):=(blk_cell BK231.out 1).trans rfl;have hcz11_2:w9.cell? ⟨gb231,2,none⟩ = some (.int .i64 a1_2):=(blk_cell BK231.out 2).trans rfl;have hfz11_0:=blk_frozen BK231.out 0;have hfz11_1:=blk_frozen BK231.out 1;have hfz11_2:=blk_frozen BK231.out 2)|((with_reducible refine gate_callee (f:=48) rfl ?_);refine goesL_ (some 17) rfl rfl Try.func48 (by kernel_rfl) rfl #[.slice A0 l0.length c0,.agg #[.int .i64 a1_0,.int .i64 a1_1,.int .i64 a1_2]] rfl (by (try simp only [List.map_toArray,List.map_cons,List.map_nil]);first|done|rfl|(simp only [List.length_drop,List.length_take];rfl)) ?_;(with_reducible refine (impl_forcesOf.calls k _ _ l0 a1_0 a1_1 a1_2 t236 _ ?side1 ?side2 A5.out).mono ?_);(case side1=>repeat (first|exact (zO HR0.out HB.out)|(with_reducible first|refine zG ?_ _|refine zH ?_ _|refine zI ?_)));(case side2=>exact HC0.out);rintro e w12 ⟨v237,rfl,ho0,hb⟩;refine ⟨_,rfl,?_⟩;have n0_:=zM (Kd.R_elder' (by (with_reducible repeat (first|apply zA|apply zB|apply zC));exact HO235.out) (Kd.R_base ho0) hb);have n1_:=zM (Kd.R_lower (Kd.R_new' ho0 (Kd.R_lt (by (with_reducible repeat (first|apply zA|apply zB|apply zC));exact HO235.out))) (zR (by repeat (first|(with_reducible first|exact HB.out|apply zD|apply zE|apply zF|refine below_set ?_ GE231.out)|exact HB.out))));have n2_:=zM (blk_below (g:=gb231) (o := .cells #[.int .i64 a1_0,.int .i64 a1_1,.int .i64 a1_2] 28 (0,0)) (by (with_reducible repeat (first|refine zJ ?_ _|refine zK ?_|refine zL ?_ _));exact BK231.out) hb);have n3_:=zM (zQ (by repeat (first|(with_reducible first|exact HB.out|apply zD|apply zE|apply zF|refine below_set ?_ GE231.out)|exact HB.out)) hb);clear HO235;clear BK231;clear HB;have HO235:=n0_;have HO238:=n1_;have BK231:=n2_;have HB:=n3_;clear n0_ n1_ n2_ n3_;(try clear hb);(try clear hb2);(try clear hk);(try clear hi);(try clear ho0);obtain ⟨Ao13,co13,eo13⟩:=Kd.R_slice HO238.out;subst eo13))
  go_loopg [6,19] k (fun kq v6 v19 w' => ∃ (x6_1:List Int) (x19_1:Int),v19 = .int .i64 x19_1 ∧ Aside0 (impl_LashingsNeeded.l0 kq x6_1 t236 (t236.length:Int) x19_1 a1_0 a1_1 a1_2 = some (r1,r2)) ∧ Aside0 (kq ≤ k) ∧ Aside0 (Kd.R (Kd.int .i64) 3 w' w.heap.size (fun k_=>some k_ ≠ ((.slice Ao13 t236.length co13):Value).ownBlock) v6 x6_1) ∧ Aside0 (Kd.R (Kd.int .i64) 3 w' w.heap.size (fun k_=>some k_ ≠ (v6:Value).ownBlock) (.slice Ao13 t236.length co13) t236) ∧ Aside0 (w'.heap[gb231]? = some (.cells #[.int .i64 a1_0,.int .i64 a1_1,.int .i64 a1_2] 28 (0,0))) ∧ Aside0 (Below w.heap.size w w'))
  case atStart=>exact ⟨(y233),(0),(by first|rfl|(simp;done)|(simp [*];done)),H',⟨Nat.le_refl _⟩,⟨by (with_reducible repeat (first|apply zA|apply zB|apply zC));exact Kd.R_mono HO235.out (fun _ hk=>hk.2)⟩,⟨by (with_reducible repeat (first|apply zA|apply zB|apply zC));exact Kd.R_mono HO238.out (fun _ hk=>hk.2)⟩,⟨by (with_reducible repeat (first|refine zJ ?_ _|refine zK ?_|refine zL ?_ _));exact BK231.out⟩,⟨by repeat (first|(with_reducible first|exact HB.out|apply zD|apply zE|apply zF|refine below_set ?_ GE231.out)|exact HB.out)⟩⟩
  case round =>
   clear H';(try clear c2);(try clear p2);(try clear c4);(try clear hcz11_0);(try clear hcz11_1);(try clear hcz11_2);(try clear hcz7_0);(try clear hcz7_1);(try clear hcz7_2);(try clear hfz11_0);(try clear hfz11_1);(try clear hfz11_2);(try clear hfz7_0);(try clear hfz7_1);(try clear hfz7_2);obtain ⟨x6_1,x19_1,rfl,HA,HK1,HO_6,HO_17,BK231,HB⟩:=hrel;cases gk with
   | zero=>exact absurd HA.out (by simp [impl_LashingsNeeded.l0])
   | succ k1 =>
    have H:=HA.out;clear HA;simp only [impl_LashingsNeeded.l0] at H
    by_cases c14:x19_1 < (t236.length:Int)
    ·rw [if_pos c14] at H
     have c14b0:decide (x19_1 < (t236.length:Int)) = true:=decide_eq_true c14
     clear c14;by_cases c15:0 ≤ x19_1
     ·rw [if_pos c15] at H
      have c15b0:decide (0 ≤ x19_1) = true:=decide_eq_true c15
      clear c15;by_cases c16:x19_1 < (t236.length:Int)
      ·rw [if_pos c16] at H
       have c16b0:decide (x19_1 < (t236.length:Int)) = true:=decide_eq_true c16
       clear c16;replace H:=Option.bind_eq_some_iff.mp H;obtain ⟨t240,A170,H⟩:=H;replace H:(if t240 > 4 then (some (([]:List Int),false)) else (if x6_1.length < 17592186044416 then (impl_LashingsNeeded.l0 k1 (x6_1 ++ [t240]) t236 (t236.length:Int) (wrap64 (x19_1 + 1)) a1_0 a1_1 a1_2) else (none))) = some (r1,r2):=H
       have A17:=zM A170;clear A170;by_cases c18:t240 > 4
       ·rw [if_pos c18] at H
        have c18b0:decide (4 < t240) = true:=decide_eq_true c18
        clear c18;simp only [Option.some.injEq,Prod.mk.injEq] at H
        obtain ⟨rfl,rfl⟩:=H;have p239:0 ≤ (x19_1:Int):=of_decide_eq_true (by first|(with_reducible assumption)|assumption)
        have q239:x19_1 < (t236.length:Int):=of_decide_eq_true (by first|(with_reducible assumption)|assumption)
        obtain ⟨ad239,e239,hx239_0⟩:=Kd.at_int (zN HO_17.out).2.2 x19_1 p239 q239;cases e239
        replace p239:=eq_true p239;replace q239:=eq_true q239;have hcz19_0:wr.cell? ⟨gb231,0,none⟩ = some (.int .i64 a1_0):=(blk_cell BK231.out 0).trans rfl
        have hcz19_1:wr.cell? ⟨gb231,1,none⟩ = some (.int .i64 a1_1):=(blk_cell BK231.out 1).trans rfl
        have hcz19_2:wr.cell? ⟨gb231,2,none⟩ = some (.int .i64 a1_2):=(blk_cell BK231.out 2).trans rfl
        have hfz19_0:=blk_frozen BK231.out 0;have hfz19_1:=blk_frozen BK231.out 1;have hfz19_2:=blk_frozen BK231.out 2;go_wp2_with (first|((with_reducible refine gate_callee (f:=49) rfl ?_);refine goesL_ (some 26) rfl rfl Try.func49 (by kernel_rfl) rfl #[.int .i64 (rd t236 x19_1),.int .i64 a1_2] rfl (by (try simp only [List.map_toArray,List.map_cons,List.map_nil]);first|done|rfl|(simp only [List.length_drop,List.length_take];rfl)) ?_;(with_reducible refine (impl_ceiling.calls (rd t236 x19_1) a1_2 t240 _ A17.out).mono ?_);rintro e w' ⟨rfl,⟨nd,rfl⟩⟩;refine ⟨_,rfl,?_⟩))
        go_ret2
        exact ⟨_,by first|rfl|(simp [errW_none,errW_some] <;> rfl)|(simp [*,errW_none,errW_some] <;> rfl),by first|exact Kd.R_nil _ _ _ _ _|exact Kd.N_nil _ _ _ _ _|exact Kd.V_nil _ _ _ _ _|exact Kd.Q_nil _ _ _ _ _|exact Kd.S_nil _ _ _ _ _,by repeat (first|(with_reducible first|exact HB.out|apply zD|apply zE|apply zF|refine below_set ?_ GE231.out)|exact HB.out)⟩
       ·rw [if_neg c18] at H
        have c18b0:decide (4 < t240) = false:=decide_eq_false c18
        clear c18;by_cases c20:x6_1.length < 17592186044416
        ·rw [if_pos c20] at H
         have LMc20:=zM c20;clear c20;obtain ⟨y241,hy241⟩ : ∃ y_:List Int,y_ = (x6_1 ++ [t240]):=⟨_,rfl⟩
         replace H:(impl_LashingsNeeded.l0 k1 y241 t236 (t236.length:Int) (wrap64 (x19_1 + 1)) a1_0 a1_1 a1_2) = some (r1,r2):=by first|(rw [hy241];with_reducible exact H)|(have H2_:=(Option.bind_some _ _).symm.trans H;rw [hy241];with_reducible exact H2_)|(have H2_:=(Option.bind_some _ _).symm.trans H;with_reducible exact H2_)|with_reducible exact H|(rw [hy241];exact H)|exact H
         have Ny241:=zM hy241;clear hy241;have H':=zM H;clear H;have p239:0 ≤ (x19_1:Int):=of_decide_eq_true (by first|(with_reducible assumption)|assumption)
         have q239:x19_1 < (t236.length:Int):=of_decide_eq_true (by first|(with_reducible assumption)|assumption)
         obtain ⟨ad239,e239,hx239_0⟩:=Kd.at_int (zN HO_17.out).2.2 x19_1 p239 q239;cases e239
         replace p239:=eq_true p239;replace q239:=eq_true q239;have hcz21_0:wr.cell? ⟨gb231,0,none⟩ = some (.int .i64 a1_0):=(blk_cell BK231.out 0).trans rfl
         have hcz21_1:wr.cell? ⟨gb231,1,none⟩ = some (.int .i64 a1_1):=(blk_cell BK231.out 1).trans rfl
         have hcz21_2:wr.cell? ⟨gb231,2,none⟩ = some (.int .i64 a1_2):=(blk_cell BK231.out 2).trans rfl
         have hfz21_0:=blk_frozen BK231.out 0;have hfz21_1:=blk_frozen BK231.out 1;have hfz21_2:=blk_frozen BK231.out 2;go_wp2_with (first|((with_reducible refine gate_callee (f:=49) rfl ?_);refine goesL_ (some 26) rfl rfl Try.func49 (by kernel_rfl) rfl #[.int .i64 (rd t236 x19_1),.int .i64 a1_2] rfl (by (try simp only [List.map_toArray,List.map_cons,List.map_nil]);first|done|rfl|(simp only [List.length_drop,List.length_take];rfl)) ?_;(with_reducible refine (impl_ceiling.calls (rd t236 x19_1) a1_2 t240 _ A17.out).mono ?_);rintro e w' ⟨rfl,⟨nd,rfl⟩⟩;refine ⟨_,rfl,?_⟩)|((with_reducible refine gate_builtin (b := .append) (xs := #[.tmp 29,.tmp 31]) rfl ?_);at_builtin;refine Kd.R_append (Kd.int .i64) (w0:=w) w.heap.size rfl (.tmp 29) (.tmp 31) 22 3 (.int .i64 0) 8 rfl Try.underlying22 info3 rfl (by decide) (by omega) u6 x6_1 t240 [.int .i64 t240] (fun k_=>some k_ ≠ (.slice (some ad239) t236.length co13:Value).ownBlock) (fun _=>False) rfl rfl ?aP (fun _ hk=>hk.elim) ?aF ?aO ?aB ?aS ?aL ?_;(case aP=>exact rfl);(case aB=>exact (by repeat (first|(with_reducible first|exact HB.out|apply zD|apply zE|apply zF|refine below_set ?_ GE231.out)|exact HB.out)));(case aF=>exact (fun k_ hk=>Kd.fresh' (Kd.R_lt (by (with_reducible repeat (first|apply zA|apply zB|apply zC));exact HO_17.out)) k_ hk));(case aO=>exact (by (with_reducible repeat (first|apply zA|apply zB|apply zC));exact HO_6.out));(case aS=>exact (zR (by repeat (first|(with_reducible first|exact HB.out|apply zD|apply zE|apply zF|refine below_set ?_ GE231.out)|exact HB.out))));(case aL=>have:=LMc20.out;omega);intro v242 w22 ho hb hg hat;rw [← Ny241.out] at ho;have n0_:=zM (Kd.R_after (ok:=(fun _=>True)) (by (with_reducible repeat (first|apply zA|apply zB|apply zC));exact Kd.R_mono HO_17.out (fun _ hk=>⟨trivial,hk⟩)) hg hat);have n1_:=zM (blk_grown (g:=gb231) (o := .cells #[.int .i64 a1_0,.int .i64 a1_1,.int .i64 a1_2] 28 (0,0)) (by (with_reducible repeat (first|refine zJ ?_ _|refine zK ?_|refine zL ?_ _));exact BK231.out) hg (Kd.R_ne HO_6.out BK231.out (by decide)));have n2_:=zM (hb);have n3_:=zM (ho);clear HO_17;clear BK231;clear HB;clear HO_6;have HO_17:=n0_;have BK231:=n1_;have HB:=n2_;have HO243:=n3_;clear n0_ n1_ n2_ n3_;clear ho hb hg hat))
         go_roundg k1
         case measure=>have:=HK1.out;omega
         case rel=>exact ⟨(y241),(wrap64 (x19_1 + 1)),(by first|rfl|(simp;done)|(simp [*];done)),H',⟨by have:=HK1.out;omega⟩,⟨by (with_reducible repeat (first|apply zA|apply zB|apply zC));exact HO243.out⟩,⟨by (with_reducible repeat (first|apply zA|apply zB|apply zC));exact Kd.R_mono HO_17.out (fun _ hk=>hk.2)⟩,⟨by (with_reducible repeat (first|refine zJ ?_ _|refine zK ?_|refine zL ?_ _));exact BK231.out⟩,⟨by repeat (first|(with_reducible first|exact HB.out|apply zD|apply zE|apply zF|refine below_set ?_ GE231.out)|exact HB.out)⟩⟩
        ·rw [if_neg c20] at H
         exact absurd H (by simp)
      ·rw [if_neg c16] at H
       exact absurd H (by simp)
     ·rw [if_neg c15] at H
      exact absurd H (by simp)
    ·rw [if_neg c14] at H
     have c14b0:decide (x19_1 < (t236.length:Int)) = false:=decide_eq_false c14
     clear c14;simp only [Option.some.injEq,Prod.mk.injEq] at H
     obtain ⟨rfl,rfl⟩:=H;go_wp2
     go_ret2
     exact ⟨_,by first|rfl|(simp [errW_none,errW_some] <;> rfl)|(simp [*,errW_none,errW_some] <;> rfl),by (with_reducible repeat (first|apply zA|apply zB|apply zC));exact Kd.R_mono HO_6.out (fun _ hk=>trivial),by repeat (first|(with_reducible first|exact HB.out|apply zD|apply zE|apply zF|refine below_set ?_ GE231.out)|exact HB.out)⟩
 ·replace c4:=Bool.eq_false_iff.mpr c4
  subst c4;have H1:(some (([]:List Int),false)) = some (r1,r2):=by rw [if_neg (show ¬ (false = true) by decide)] at H;exact H
  clear H;have H:=H1;clear H1;simp only [Option.some.injEq,Prod.mk.injEq] at H
  obtain ⟨rfl,rfl⟩:=H;go_enter Try.func20,Try.ntmps20
  go_wp2_with (first|((with_reducible refine gate_dst (N:=3) rfl ?_);refine box_event ?hg (N:=3) ?hd (cs := #[.int .i64 a1_0,.int .i64 a1_1,.int .i64 a1_2]) (t:=28) ?hr ?_;(case hd=>rfl);(case hg=>rfl);(case hr=>first|(go_simp;done)|(go_simp;rfl));intro gb231 hg w23 hbox hb;have n0_:=zM (zQ (by repeat (first|(with_reducible first|exact HB.out|apply zD|apply zE|apply zF)|exact HB.out)) hb);have n1_:=zM (hbox);have n2_:=zM ((by rw [hg];exact (zR (by repeat (first|(with_reducible first|exact HB.out|apply zD|apply zE|apply zF)|exact HB.out))):w.heap.size ≤ gb231));have n3_:=zM ((by rw [hg];exact (zR (by repeat (first|(with_reducible first|exact HB.out|apply zD|apply zE|apply zF)|exact HB.out))):w.heap.size ≤ gb231));clear HB;have HB:=n0_;have BK231:=n1_;have GW231:=n2_;have GE231:=n3_;clear n0_ n1_ n2_ n3_;clear hb hbox hg;have hcz24_0:w23.cell? ⟨gb231,0,none⟩ = some (.int .i64 a1_0):=(blk_cell BK231.out 0).trans rfl;have hcz24_1:w23.cell? ⟨gb231,1,none⟩ = some (.int .i64 a1_1):=(blk_cell BK231.out 1).trans rfl;have hcz24_2:w23.cell? ⟨gb231,2,none⟩ = some (.int .i64 a1_2):=(blk_cell BK231.out 2).trans rfl;have hfz24_0:=blk_frozen BK231.out 0;have hfz24_1:=blk_frozen BK231.out 1;have hfz24_2:=blk_frozen BK231.out 2)|((with_reducible refine gate_callee (f:=47) rfl ?_);refine goesL_ (some 12) rfl rfl Try.func47 (by kernel_rfl) rfl #[.slice A0 l0.length c0,.agg #[.int .i64 a1_0,.int .i64 a1_1,.int .i64 a1_2]] rfl (by (try simp only [List.map_toArray,List.map_cons,List.map_nil]);first|done|rfl|(simp only [List.length_drop,List.length_take];rfl)) ?_;(with_reducible refine (impl_isLashed.calls _ _ l0 a1_0 a1_1 a1_2 false _ ?side1 ?side2 A3.out).mono ?_);(case side1=>repeat (first|exact (zO HR0.out HB.out)|(with_reducible first|refine zG ?_ _|refine zH ?_ _|refine zI ?_)));(case side2=>exact HC0.out);rintro e w25 ⟨rfl,hb⟩;refine ⟨_,rfl,?_⟩;have n0_:=zM (blk_below (g:=gb231) (o := .cells #[.int .i64 a1_0,.int .i64 a1_1,.int .i64 a1_2] 28 (0,0)) (by (with_reducible repeat (first|refine zJ ?_ _|refine zK ?_|refine zL ?_ _));exact BK231.out) hb);have n1_:=zM (zQ (by repeat (first|(with_reducible first|exact HB.out|apply zD|apply zE|apply zF|refine below_set ?_ GE231.out)|exact HB.out)) hb);clear BK231;clear HB;have BK231:=n0_;have HB:=n1_;clear n0_ n1_;(try clear hb);(try clear hb2);(try clear hk);(try clear hi)))
  go_ret2
  exact ⟨_,by first|rfl|(simp [errW_none,errW_some] <;> rfl)|(simp [*,errW_none,errW_some] <;> rfl),by first|exact Kd.R_nil _ _ _ _ _|exact Kd.N_nil _ _ _ _ _|exact Kd.V_nil _ _ _ _ _|exact Kd.Q_nil _ _ _ _ _|exact Kd.S_nil _ _ _ _ _,by repeat (first|(with_reducible first|exact HB.out|apply zD|apply zE|apply zF|refine below_set ?_ GE231.out)|exact HB.out)⟩

end Go.Proofs.Ytcgfedaoimhejaa.G

/- The contract of slices.Clone over whole numbers: nil for nil, else a list of its own. -/
namespace Go.Proofs.Ytcgfedaoimhejaa.G
open Go.RowKit Go.Proofs.YtcgfedaoimhejaaW.PrintWords Go.Proofs.YtcgfedaoimhejaaW.PrintLast
set_option linter.unusedVariables false
set_option linter.unusedSimpArgs false
def slices_Clone_int_int.f (l0 : List Int) : Option (List Int):=if ([] : List Int).length + l0.length < 17592186044416 then some l0 else none
set_option maxHeartbeats 8000000 in
set_option maxRecDepth 100000 in
theorem slices_Clone_int_int.calls (A0 : Option Addr) (c0 : Nat) (l0 : List Int) (r : List Int) (w : World) (hr0 : Kd.C (Kd.int .i64) w A0 l0.length l0) (hc0 : l0.length ≤ c0) (h : slices_Clone_int_int.f l0 = some r) :
    Calls Try.prog 52 #[.slice A0 l0.length c0] w fun e w' => ∃ v0_ : Value,e = .returned (v0_) ∧ Kd.R (Kd.int .i64) 3 w' w.heap.size (fun _=>True) v0_ r ∧ Below w.heap.size w w':=by
  have HR0:=Aside0.mk hr0
  have HC0:=Aside0.mk hc0
  clear hr0 hc0
  have HB:=Aside0.mk (Below.refl w.heap.size w)
  have q22 : ∀ (w : World) (a : Option Addr) (n c : Nat),(binOp .eql 22 (.slice a n c) (.slice none 0 0)).run Try.prog w = .ok (.bool a.isNone) w:=fun w a n c=>Lib.run_eql_slice_nil w _ _ a n c 0 0 Try.underlying22
  unfold slices_Clone_int_int.f at h
  by_cases c2 : ([] : List Int).length + l0.length < 17592186044416
  · rw [if_pos c2] at h
    have LMc2:=Aside0.mk c2
    clear c2
    obtain rfl:=Option.some.inj h
    clear h
    cases A0 with
    | none =>
      have hz : l0 = []:=by
        cases l0 with
        | nil=>rfl
        | cons x xs =>
          obtain ⟨ad,e,_⟩:=Kd.at_int HR0.out 0 (by omega) (by simp)
          cases e
      subst hz
      go_enter Try.func52,Try.ntmps52
      go_wp2
      go_ret
      exact ⟨_,rfl,by first|exact Kd.R_nil _ _|exact Kd.R_nil .. , by exact HB.out⟩
    | some ad =>
      obtain ⟨y280,hy280⟩ : ∃ y_ : List Int,y_ = (([] : List Int)):=⟨_,rfl⟩
      have Ny280:=Aside0.mk hy280
      have LM:=Aside0.mk (show y280.length + l0.length < 17592186044416 by rw [hy280];exact LMc2.out)
      obtain ⟨y283,hy283⟩ : ∃ y_ : List Int,y_ = (y280 ++ l0):=⟨_,rfl⟩
      have Ny283:=Aside0.mk hy283
      have hyy : y283 = l0:=by rw [hy283,hy280];rfl
      clear hy280 hy283
      go_enter Try.func52,Try.ntmps52
      go_wp2_with (first|((with_reducible refine gate_dst (N:=5) rfl ?_);refine Kd.R_lit (Kd.int .i64) _ 3 ?hg (N:=5) ?hd (xs:=([] : List Int)) (inner:=[]) (ok:=fun _=>True) (okp:=fun _=>True) ?hr ?hp (fun _ hk=>hk) trivial (Below.refl _ _) (Nat.le_refl _) (by simp) ?_;(case hd=>rfl);(case hg=>rfl);(case hr=>first|(go_simp;done)|(go_simp;rfl));(case hp=>exact (Reps.none _ _));intro v281 w3 ho4 hb hg_ hnew_;clear hg_ hnew_;(first|rw [← Ny280.out] at ho4|(simp only [Int.reduceToNat] at ho4;rw [← Ny280.out] at ho4));have n0_:=Aside0.mk (Kd.R_lower ho4 (below_size (by repeat (first|(with_reducible first|exact HB.out|apply below_alloc|apply pw_below_drewN|apply below_drew1)|exact HB.out))));have n1_:=Aside0.mk (below_step (by repeat (first|(with_reducible first|exact HB.out|apply below_alloc|apply pw_below_drewN|apply below_drew1)|exact HB.out)) hb);clear HB;have HO282:=n0_;have HB:=n1_;clear n0_ n1_;clear hb ho4)|((with_reducible refine gate_builtin (b := .append) (xs := #[.tmp 5,.tmp 6]) rfl ?_);at_builtin;refine Kd.R_append_rows (Kd.int .i64) (w0:=w) w.heap.size rfl (.tmp 5) (.tmp 6) 22 3 (.int .i64 0) 8 rfl Try.underlying22 info3 rfl (by decide) (by omega) v281 y280 l0 _ _ _ (fun _=>True) (fun _=>False) rfl rfl ?aO ?aR (fun _ _ h=>h) (fun _ h=>h.elim) ?aF ?aB ?aS ?aL ?_;(case aR=>repeat (first|exact (Kd.C_below HR0.out HB.out)|(with_reducible refine Kd.C_alloc ?_ _)|(with_reducible refine Kd.C_drewN ?_ _)|(with_reducible refine Kd.C_drew ?_)));(case aB=>exact (by repeat (first|(with_reducible first|exact HB.out|apply below_alloc|apply pw_below_drewN|apply below_drew1)|exact HB.out)));(case aF=>exact (fun _ _=>trivial));(case aO=>exact (by (with_reducible repeat (first|apply Kd.R_alloc|apply Kd.R_drewN|apply Kd.R_drew));exact HO282.out));(case aS=>exact (below_size (by repeat (first|(with_reducible first|exact HB.out|apply below_alloc|apply pw_below_drewN|apply below_drew1)|exact HB.out))));(case aL=>have:=LM.out;omega);intro v284 w5 ho hb hg hat;rw [← Ny283.out] at ho;have n0_:=Aside0.mk (hb);have n1_:=Aside0.mk (ho);clear HB;clear HO282;have HB:=n0_;have HO285:=n1_;clear n0_ n1_;clear ho hb hg hat))
      go_ret
      have HZ:=HO285.out
      rw [hyy] at HZ
      exact ⟨_,rfl,HZ,HB.out⟩
  · rw [if_neg c2] at h
    cases h
end Go.Proofs.Ytcgfedaoimhejaa.G
