/- Texts of the proof of FnQuay, joined in build order. -/
import Derived.Test.YtcciljjnpfgaeaaProg
import Derived.Below
import Derived.Deep.Draws
import Derived.Deep.AppendLies
import Derived.Maps.AppendAt
import Derived.OwnWalk
import Derived.Laws.BytesArg
import Derived.Laws.MakeOwn
import Derived.Laws.OwnMore
import Derived.Deep.OwnRows
import Derived.Tactics
import Derived.Lib.ConvBytes
import Derived.Laws.Slices
import Derived.WalkKit
import Derived.KernelRfl
import Derived.RowKit3
import Derived.Deep.LoopGhost
import Derived.Deep.QuietTactic
import Derived.BigQuiet
import Derived.WideLaws
import Derived.Deep.DeepCutAuto
import Derived.Deep.CutBlock
import Derived.Deep.RegionHeld3
import Derived.Laws.Rows
import Derived.Lib.AppendStr
import Derived.ArgAppend
import Derived.Laws.IdiomCopy
import Derived.OrdersHeld
import Derived.Laws.BitsLemmas
import Derived.RowKit
import Derived.Test.YtcciljjnpfgaeaaMgFnQuay0
-- Written by wip/tools/gen.py out of the translation (the kit's printer, one namespace a seat). Lean checks it.
namespace Go.Proofs.Ytcciljjnpfgaeaa.G
open Go.RowKit Go.Proofs.YtcciljjnpfgaeaaW.PrintWords Go.Proofs.YtcciljjnpfgaeaaW.PrintLast Go.Proofs.YtcciljjnpfgaeaaW.PrintMore
attribute [local go_sem] max2_int min2_int max_two min_two max_three min_three max_four min_four   -- for this text's walks alone
set_option linter.unusedVariables false
set_option linter.unusedSimpArgs false



def errW : Option Int → Value
 | none => .nilIface
 | some c => .iface 0 (.int .i64 c)
theorem errW_none : errW none = .nilIface:=rfl
theorem errW_some (c : Int) : errW (some c) = .iface 0 (.int .i64 c):=rfl

theorem info3 : (Try.prog.info? 3).map (fun i=>(i.zero,i.size,i.bytes)) = some (some (.int .i64 0),1,8):=by kernel_rfl
theorem info37 : (Try.prog.info? 37).map (fun i=>(i.zero,i.size,i.bytes)) = some (some (.agg #[(.int .i64 0),(.int .i64 0)]),2,16):=by kernel_rfl
theorem info62 : (Try.prog.info? 62).map (fun i=>(i.zero,i.size,i.bytes)) = some (some (.agg #[(.int .i64 0),(.int .i64 0),(.int .i64 0),(.int .i64 0)]),4,32):=by kernel_rfl
-- the values' own types
/-! #### struct type 68 -/
structure S68 where
 f0 : Int
 f1 : Int
 f2 : Int
 f3 : Int
def z68 : S68:=⟨(0 : Int),(0 : Int),(0 : Int),(0 : Int)⟩
def k68 : Kd S68:=Kd.iso (Kd.pair (Kd.int .i64) (Kd.pair (Kd.int .i64) (Kd.pair (Kd.int .i64) (Kd.int .i64)))) (fun x : S68=>(x.f0,x.f1,x.f2,x.f3))
def rd_T68 (xs : List S68) (i : Int) : S68:=xs.getD i.toNat z68
/-! #### struct type 70 -/
structure S70 where
 f0 : Int
 f1 : Int
def z70 : S70:=⟨(0 : Int),(0 : Int)⟩
def k70 : Kd S70:=Kd.iso (Kd.pair (Kd.int .i64) (Kd.int .i64)) (fun x : S70=>(x.f0,x.f1))
def rd_T70 (xs : List S70) (i : Int) : S70:=xs.getD i.toNat z70
/-! #### struct type 62 -/
structure S62 where
 f0 : Int
 f1 : Int
 f2 : Int
 f3 : Int
def z62 : S62:=⟨(0 : Int),(0 : Int),(0 : Int),(0 : Int)⟩
def k62 : Kd S62:=Kd.iso (Kd.pair (Kd.int .i64) (Kd.pair (Kd.int .i64) (Kd.pair (Kd.int .i64) (Kd.int .i64)))) (fun x : S62=>(x.f0,x.f1,x.f2,x.f3))
theorem k62_open {w : World} {x : S62} {cs : List Value} (h : k62.K w x cs) : cs = [.int .i64 x.f0,.int .i64 x.f1,.int .i64 x.f2,.int .i64 x.f3]:=by
 obtain ⟨_,_,rfl,rfl,⟨_,_,rfl,rfl,⟨_,_,rfl,rfl,rfl⟩⟩⟩:=h
 exact rfl
theorem k62_mkM (w : World) (base : Nat) (ok : Nat → Prop) (x : S62)  : k62.M w base ok x [.int .i64 x.f0,.int .i64 x.f1,.int .i64 x.f2,.int .i64 x.f3]:=⟨[.int .i64 x.f0],[.int .i64 x.f1,.int .i64 x.f2,.int .i64 x.f3],rfl,rfl,⟨[.int .i64 x.f1],[.int .i64 x.f2,.int .i64 x.f3],rfl,rfl,⟨[.int .i64 x.f2],[.int .i64 x.f3],rfl,rfl,rfl⟩⟩⟩
def rd_T62 (xs : List S62) (i : Int) : S62:=xs.getD i.toNat z62
theorem at_T62 {w : World} {A : Option Addr} {n : Nat} {xs : List S62} (h : Kd.C k62 w A n xs) (i : Int) (h0 : 0 ≤ i) (h1 : i < n) : ∃ ad , A = some ad ∧ w.cell? (ad.add (i.toNat * 4)) = some (.int .i64 (rd_T62 xs i).f0) ∧ w.cell? ⟨(ad.add (i.toNat * 4)).block,(ad.add (i.toNat * 4)).off + 1,none⟩ = some (.int .i64 (rd_T62 xs i).f1) ∧ w.cell? ⟨(ad.add (i.toNat * 4)).block,(ad.add (i.toNat * 4)).off + 2,none⟩ = some (.int .i64 (rd_T62 xs i).f2) ∧ w.cell? ⟨(ad.add (i.toNat * 4)).block,(ad.add (i.toNat * 4)).off + 3,none⟩ = some (.int .i64 (rd_T62 xs i).f3):=by
 obtain ⟨ad,c,e,_,hK,hc0⟩:=Kd.C_get h z62 i h0 h1
 have hc : ∀ j u,c[j]? = some u → w.cell? (ad.add (i.toNat * 4 + j)) = some u:=hc0
 obtain rfl:=k62_open hK
 exact ⟨ad,e,hc 0 _ rfl,by rw [← add_field _ _ 1 (by omega)];exact hc 1 _ rfl,by rw [← add_field _ _ 2 (by omega)];exact hc 2 _ rfl,by rw [← add_field _ _ 3 (by omega)];exact hc 3 _ rfl⟩

/-! #### struct type 37 -/
structure S37 where
 f0 : Int
 f1 : Int
def z37 : S37:=⟨(0 : Int),(0 : Int)⟩
def k37 : Kd S37:=Kd.iso (Kd.pair (Kd.int .i64) (Kd.int .i64)) (fun x : S37=>(x.f0,x.f1))
theorem k37_open {w : World} {x : S37} {cs : List Value} (h : k37.K w x cs) : cs = [.int .i64 x.f0,.int .i64 x.f1]:=by
 obtain ⟨_,_,rfl,rfl,rfl⟩:=h
 exact rfl
theorem k37_openM {w : World} {base : Nat} {ok : Nat → Prop} {x : S37} {cs : List Value} (h : k37.M w base ok x cs) : cs = [.int .i64 x.f0,.int .i64 x.f1]:=by
 obtain ⟨_,_,rfl,rfl,rfl⟩:=h
 exact rfl
theorem k37_mkM (w : World) (base : Nat) (ok : Nat → Prop) (x : S37)  : k37.M w base ok x [.int .i64 x.f0,.int .i64 x.f1]:=⟨[.int .i64 x.f0],[.int .i64 x.f1],rfl,rfl,rfl⟩
def rd_T37 (xs : List S37) (i : Int) : S37:=xs.getD i.toNat z37
theorem at_T37 {w : World} {A : Option Addr} {n : Nat} {xs : List S37} (h : Kd.C k37 w A n xs) (i : Int) (h0 : 0 ≤ i) (h1 : i < n) : ∃ ad , A = some ad ∧ w.cell? (ad.add (i.toNat * 2)) = some (.int .i64 (rd_T37 xs i).f0) ∧ w.cell? ⟨(ad.add (i.toNat * 2)).block,(ad.add (i.toNat * 2)).off + 1,none⟩ = some (.int .i64 (rd_T37 xs i).f1):=by
 obtain ⟨ad,c,e,_,hK,hc0⟩:=Kd.C_get h z37 i h0 h1
 have hc : ∀ j u,c[j]? = some u → w.cell? (ad.add (i.toNat * 2 + j)) = some u:=hc0
 obtain rfl:=k37_open hK
 exact ⟨ad,e,hc 0 _ rfl,by rw [← add_field _ _ 1 (by omega)];exact hc 1 _ rfl⟩

def rd_L5 (xs : List (List S62)) (i : Int) : (List S62):=xs.getD i.toNat ([] : List S62)
def rd_L7 (xs : List (List S68)) (i : Int) : (List S68):=xs.getD i.toNat ([] : List S68)
def rd_L8 (xs : List (List S70)) (i : Int) : (List S70):=xs.getD i.toNat ([] : List S70)
def rd_L9 (xs : List (List Int)) (i : Int) : (List Int):=xs.getD i.toNat ([] : List Int)
def rd_L10 (xs : List (List S37)) (i : Int) : (List S37):=xs.getD i.toNat ([] : List S37)
def rd_L12 (xs : List (List Int)) (i : Int) : (List Int):=xs.getD i.toNat ([] : List Int)
/-- What is known of such a value that came in. -/
def W68 (x : S68) : Prop:=(Lit.int .i64 x.f0).wf = true ∧ (Lit.int .i64 x.f1).wf = true ∧ (Lit.int .i64 x.f2).wf = true ∧ (Lit.int .i64 x.f3).wf = true
/-- What is known of such a value that came in. -/
def W70 (x : S70) : Prop:=(Lit.int .i64 x.f0).wf = true ∧ (Lit.int .i64 x.f1).wf = true
end Go.Proofs.Ytcciljjnpfgaeaa.G

namespace Go.Proofs.Ytcciljjnpfgaeaa.G
open Go.RowKit Go.Proofs.YtcciljjnpfgaeaaW.PrintWords Go.Proofs.YtcciljjnpfgaeaaW.PrintLast Go.Proofs.YtcciljjnpfgaeaaW.PrintMore
theorem zA {α : Type} {d : Kd α} {e : Nat} {w : World} {base : Nat} {ok : Nat → Prop} {v : Value} {xs : List α} (h : Kd.R d e w base ok v xs) (o : Obj) : Kd.R d e (w.alloc o) base ok v xs := Kd.R_alloc h o
theorem zB {α : Type} {d : Kd α} {e : Nat} {w : World} {base : Nat} {ok : Nat → Prop} {v : Value} {xs : List α} (h : Kd.R d e w base ok v xs) (m : Nat) : Kd.R d e (w.drewN m) base ok v xs := Kd.R_drewN h m
theorem zC {α : Type} {d : Kd α} {e : Nat} {w : World} {base : Nat} {ok : Nat → Prop} {v : Value} {xs : List α} (h : Kd.R d e w base ok v xs) : Kd.R d e w.drew base ok v xs := Kd.R_drew h
theorem zD {w W : World} (h : Below w.heap.size w W) (o : Obj) : Below w.heap.size w (W.alloc o) := below_alloc h o
theorem zE {B : Nat} {w W : World} (h : Below B w W) (n : Nat) : Below B w (W.drewN n) := pw_below_drewN h n
theorem zF {base : Nat} {w W : World} (h : Below base w W) : Below base w W.drew := below_drew1 h
theorem zG {α : Type} {d : Kd α} {w : World} {xs : List α} {A : Option Addr} {n : Nat} (h : Kd.C d w A n xs) (o : Obj) : Kd.C d (w.alloc o) A n xs := Kd.C_alloc h o
theorem zH {α : Type} {d : Kd α} {w : World} {xs : List α} {A : Option Addr} {n : Nat} (h : Kd.C d w A n xs) (m : Nat) : Kd.C d (w.drewN m) A n xs := Kd.C_drewN h m
theorem zI {α : Type} {d : Kd α} {w : World} {xs : List α} {A : Option Addr} {n : Nat} (h : Kd.C d w A n xs) : Kd.C d w.drew A n xs := Kd.C_drew h
theorem zJ {w : World} {g : Nat} {o : Obj} (h : w.heap[g]? = some o) (n : Nat) : (w.drewN n).heap[g]? = some o := blk_drewN h n
theorem zK {w : World} {g : Nat} {o : Obj} (h : w.heap[g]? = some o) : w.drew.heap[g]? = some o := blk_drew h
theorem zL {w : World} {g : Nat} {o : Obj} (h : w.heap[g]? = some o) (o' : Obj) : (w.alloc o').heap[g]? = some o := blk_alloc h o'
theorem zM {p : Prop} (h : p) : Aside0 p := ⟨h⟩
theorem zN {α : Type} {d : Kd α} {e : Nat} {w : World} {base : Nat} {ok : Nat → Prop} {xs : List α} {A : Option Addr} {n c : Nat} (h : Kd.R d e w base ok (.slice A n c) xs) : n = xs.length ∧ n ≤ c ∧ Kd.C d w A xs.length xs := Kd.R_reads' h
theorem zO {α : Type} {d : Kd α} {w w1 : World} {xs : List α} {A : Option Addr} {n : Nat} (h : Kd.C d w A n xs) (b : Below w.heap.size w w1) : Kd.C d w1 A n xs := Kd.C_below h b
theorem zP {α : Type} {d : Kd α} {e : Nat} {w w1 : World} {base : Nat} {ok : Nat → Prop} {v : Value} {xs : List α} (h : Kd.R d e w base ok v xs) (b : Below w.heap.size w w1) : Kd.R d e w1 base ok v xs := Kd.R_below h b
theorem zQ {w W w2 : World} (h : Below w.heap.size w W) (k : Below W.heap.size W w2) : Below w.heap.size w w2 := below_step h k
theorem zR {w W : World} (h : Below w.heap.size w W) : w.heap.size ≤ W.heap.size := below_size h
end Go.Proofs.Ytcciljjnpfgaeaa.G

-- Written by wip/tools/gen.py out of the translation (the kit's printer, one namespace a seat). Lean checks it.
namespace Go.Proofs.Ytcciljjnpfgaeaa.G
open Go.RowKit Go.Proofs.YtcciljjnpfgaeaaW.PrintWords Go.Proofs.YtcciljjnpfgaeaaW.PrintLast Go.Proofs.YtcciljjnpfgaeaaW.PrintMore
attribute [local go_sem] max2_int min2_int max_two min_two max_three min_three max_four min_four   -- for this text's walks alone
set_option linter.unusedVariables false
set_option linter.unusedSimpArgs false

theorem eqA37 (d : Nat) (w : World) (x0 y0 : Int) (x1 y1 : Int) :
  (Op.equalIn (d + 2) 37 (.agg #[.int .i64 x0,.int .i64 x1]) (.agg #[.int .i64 y0,.int .i64 y1])).run Try.prog w = .ok (x0 == y0 && (x1 == y1)) w:=by
 refine eqA_of Try.underlying37 (by kernel_rfl) ?_
 refine eqf_cons (by rfl) (by go_simp;rfl) (by go_simp;rfl) (by go_simp) ?_
 exact eqf_last (by rfl) (by go_simp;rfl) (by go_simp;rfl) (by go_simp)
end Go.Proofs.Ytcciljjnpfgaeaa.G

-- Written by wip/tools/gen.py out of the translation (the kit's printer, one namespace a seat). Lean checks it.
namespace Go.Proofs.Ytcciljjnpfgaeaa.G
open Go.RowKit Go.Proofs.YtcciljjnpfgaeaaW.PrintWords Go.Proofs.YtcciljjnpfgaeaaW.PrintLast Go.Proofs.YtcciljjnpfgaeaaW.PrintMore
attribute [local go_sem] max2_int min2_int max_two min_two max_three min_three max_four min_four   -- for this text's walks alone
set_option linter.unusedVariables false
set_option linter.unusedSimpArgs false

/-! ### impl_within: function 63 -/
def impl_within.f (a0 : Int) (a1 : Int) (a2 : Int) : Option (Bool):=if a0 ≥ a1 then (some (decide (a0 ≤ a2))) else (some false)
set_option maxHeartbeats 8000000 in
set_option maxRecDepth 100000 in
theorem impl_within.calls (a0 : Int) (a1 : Int) (a2 : Int) (r : Bool) (w : World) (h : impl_within.f a0 a1 a2 = some r) :
  Calls Try.prog 63 #[.int .i64 a0,.int .i64 a1,.int .i64 a2] w fun e w'=>e = .returned (.bool r) ∧ Drawn0 w w':=by
 have H : (if a0 ≥ a1 then (some (decide (a0 ≤ a2))) else (some false)) = some r:=h
 clear h
 by_cases c4 : a0 ≥ a1
 ·rw [if_pos c4] at H
  have c4b0 : decide (a1 ≤ a0) = true:=decide_eq_true c4
  clear c4
  obtain rfl:=Option.some.inj H
  go_enter Try.func63,Try.ntmps63
  go_wp2
  go_ret
  exact ⟨by first|rfl|(simp;done)|(simp [*];done),by repeat (first|exact Drawn0.refl _|apply Drawn0.step)⟩
 ·rw [if_neg c4] at H
  have c4b0 : decide (a1 ≤ a0) = false:=decide_eq_false c4
  clear c4
  obtain rfl:=Option.some.inj H
  go_enter Try.func63,Try.ntmps63
  go_wp2
  go_ret
  exact ⟨by first|rfl|(simp;done)|(simp [*];done),by repeat (first|exact Drawn0.refl _|apply Drawn0.step)⟩

end Go.Proofs.Ytcciljjnpfgaeaa.G

-- Written by wip/tools/gen.py out of the translation (the kit's printer, one namespace a seat). Lean checks it.
namespace Go.Proofs.Ytcciljjnpfgaeaa.G
open Go.RowKit Go.Proofs.YtcciljjnpfgaeaaW.PrintWords Go.Proofs.YtcciljjnpfgaeaaW.PrintLast Go.Proofs.YtcciljjnpfgaeaaW.PrintMore
attribute [local go_sem] max2_int min2_int max_two min_two max_three min_three max_four min_four   -- for this text's walks alone
set_option linter.unusedVariables false
set_option linter.unusedSimpArgs false

/-! ### impl_areShips_1: function 78 -/
def impl_areShips_1.f (a0_0 : Int) (a0_1 : Int) (a0_2 : Int) (a0_3 : Int) : Option (Bool):=(impl_within.f a0_0 1 30).bind fun t102=>(if t102 = true then ((impl_within.f a0_1 0 200).bind fun t103=>(if t103 = true then ((impl_within.f a0_2 1 48).bind fun t104=>(if t104 = true then ((impl_within.f a0_3 1 9).bind fun t105=>(some (!t105))) else (some true))) else (some true))) else (some true))
set_option maxHeartbeats 8000000 in
set_option maxRecDepth 100000 in
theorem impl_areShips_1.calls (a0_0 : Int) (a0_1 : Int) (a0_2 : Int) (a0_3 : Int) (r : Bool) (w : World) (h : impl_areShips_1.f a0_0 a0_1 a0_2 a0_3 = some r) :
  Calls Try.prog 78 #[.agg #[.int .i64 a0_0,.int .i64 a0_1,.int .i64 a0_2,.int .i64 a0_3]] w fun e w'=>e = .returned (.bool r) ∧ Below w.heap.size w w':=by
 have hu62:=Try.underlying62
 have HB:=zM (Below.refl w.heap.size w)
 have H : ((impl_within.f a0_0 1 30).bind fun t102=>(if t102 = true then ((impl_within.f a0_1 0 200).bind fun t103=>(if t103 = true then ((impl_within.f a0_2 1 48).bind fun t104=>(if t104 = true then ((impl_within.f a0_3 1 9).bind fun t105=>(some (!t105))) else (some true))) else (some true))) else (some true))) = some r:=h
 clear h
 replace H:=Option.bind_eq_some_iff.mp H
 obtain ⟨t102,A20,H⟩:=H
 replace H : (if t102 = true then ((impl_within.f a0_1 0 200).bind fun t103=>(if t103 = true then ((impl_within.f a0_2 1 48).bind fun t104=>(if t104 = true then ((impl_within.f a0_3 1 9).bind fun t105=>(some (!t105))) else (some true))) else (some true))) else (some true)) = some r:=H
 have A2:=zM A20
 clear A20
 by_cases c3 : t102 = true
 ·subst c3
  have H1 : ((impl_within.f a0_1 0 200).bind fun t103=>(if t103 = true then ((impl_within.f a0_2 1 48).bind fun t104=>(if t104 = true then ((impl_within.f a0_3 1 9).bind fun t105=>(some (!t105))) else (some true))) else (some true))) = some r:=by rw [if_pos rfl] at H;exact H
  clear H
  have H:=H1
  clear H1
  replace H:=Option.bind_eq_some_iff.mp H
  obtain ⟨t103,A40,H⟩:=H
  replace H : (if t103 = true then ((impl_within.f a0_2 1 48).bind fun t104=>(if t104 = true then ((impl_within.f a0_3 1 9).bind fun t105=>(some (!t105))) else (some true))) else (some true)) = some r:=H
  have A4:=zM A40
  clear A40
  by_cases c5 : t103 = true
  ·subst c5
   have H1 : ((impl_within.f a0_2 1 48).bind fun t104=>(if t104 = true then ((impl_within.f a0_3 1 9).bind fun t105=>(some (!t105))) else (some true))) = some r:=by rw [if_pos rfl] at H;exact H
   clear H
   have H:=H1
   clear H1
   replace H:=Option.bind_eq_some_iff.mp H
   obtain ⟨t104,A60,H⟩:=H
   replace H : (if t104 = true then ((impl_within.f a0_3 1 9).bind fun t105=>(some (!t105))) else (some true)) = some r:=H
   have A6:=zM A60
   clear A60
   by_cases c7 : t104 = true
   ·subst c7
    have H1 : ((impl_within.f a0_3 1 9).bind fun t105=>(some (!t105))) = some r:=by rw [if_pos rfl] at H;exact H
    clear H
    have H:=H1
    clear H1
    replace H:=Option.bind_eq_some_iff.mp H
    obtain ⟨t105,A80,H⟩:=H
    replace H : (some (!t105)) = some r:=H
    have A8:=zM A80
    clear A80
    obtain rfl:=Option.some.inj H
    go_enter Try.func78,Try.ntmps78
    go_wp2_with (first|((with_reducible refine gate_dst (N:=1) rfl ?_);refine box_event ?hg (N:=1) ?hd (cs := #[.int .i64 a0_0,.int .i64 a0_1,.int .i64 a0_2,.int .i64 a0_3]) (t:=62) ?hr ?_;(case hd=>rfl);(case hg=>rfl);(case hr=>first|(go_simp;done)|(go_simp;rfl));intro gb101 hg w9 hbox hb;have n0_:=zM (zQ (by repeat (first|(with_reducible first|exact HB.out|apply zD|apply zE|apply zF)|exact HB.out)) hb);have n1_:=zM (hbox);have n2_:=zM ((by rw [hg];exact (zR (by repeat (first|(with_reducible first|exact HB.out|apply zD|apply zE|apply zF)|exact HB.out))) : w.heap.size ≤ gb101));have n3_:=zM ((by rw [hg];exact (zR (by repeat (first|(with_reducible first|exact HB.out|apply zD|apply zE|apply zF)|exact HB.out))) : w.heap.size ≤ gb101));clear HB;have HB:=n0_;have BK101:=n1_;have GW101:=n2_;have GE101:=n3_;clear n0_ n1_ n2_ n3_;clear hb hbox hg;have hcz10_0 : w9.cell? ⟨gb101,0,none⟩ = some (.int .i64 a0_0):=(blk_cell BK101.out 0).trans rfl;have hcz10_1 : w9.cell? ⟨gb101,1,none⟩ = some (.int .i64 a0_1):=(blk_cell BK101.out 1).trans rfl;have hcz10_2 : w9.cell? ⟨gb101,2,none⟩ = some (.int .i64 a0_2):=(blk_cell BK101.out 2).trans rfl;have hcz10_3 : w9.cell? ⟨gb101,3,none⟩ = some (.int .i64 a0_3):=(blk_cell BK101.out 3).trans rfl;have hfz10_0:=blk_frozen BK101.out 0;have hfz10_1:=blk_frozen BK101.out 1;have hfz10_2:=blk_frozen BK101.out 2;have hfz10_3:=blk_frozen BK101.out 3)|((with_reducible refine gate_callee (f:=63) rfl ?_);refine goesL_ (some 5) rfl rfl Try.func63 (by kernel_rfl) rfl #[.int .i64 a0_0,.int .i64 1,.int .i64 30] rfl (by (try simp only [List.map_toArray,List.map_cons,List.map_nil]);first|done|rfl|(simp only [List.length_drop,List.length_take];rfl)) ?_;(with_reducible refine (impl_within.calls a0_0 1 30 true _ A2.out).mono ?_);rintro e w' ⟨rfl,⟨nd,rfl⟩⟩;refine ⟨_,rfl,?_⟩)|(go_at_call 63;(with_reducible refine (impl_within.calls a0_1 0 200 true _ A4.out).mono ?_);rintro e w' ⟨rfl,⟨nd,rfl⟩⟩)|(go_at_call 63;(with_reducible refine (impl_within.calls a0_2 1 48 true _ A6.out).mono ?_);rintro e w' ⟨rfl,⟨nd,rfl⟩⟩)|(go_at_call 63;(with_reducible refine (impl_within.calls a0_3 1 9 t105 _ A8.out).mono ?_);rintro e w' ⟨rfl,⟨nd,rfl⟩⟩))
    go_ret
    exact ⟨by first|rfl|(simp [errW_none,errW_some] <;> rfl)|(simp [*,errW_none,errW_some] <;> rfl),by repeat (first|(with_reducible first|exact HB.out|apply zD|apply zE|apply zF|refine below_set ?_ GE101.out)|exact HB.out)⟩
   ·replace c7:=Bool.eq_false_iff.mpr c7
    subst c7
    have H1 : (some true) = some r:=by rw [if_neg (show ¬ (false = true) by decide)] at H;exact H
    clear H
    have H:=H1
    clear H1
    obtain rfl:=Option.some.inj H
    go_enter Try.func78,Try.ntmps78
    go_wp2_with (first|((with_reducible refine gate_dst (N:=1) rfl ?_);refine box_event ?hg (N:=1) ?hd (cs := #[.int .i64 a0_0,.int .i64 a0_1,.int .i64 a0_2,.int .i64 a0_3]) (t:=62) ?hr ?_;(case hd=>rfl);(case hg=>rfl);(case hr=>first|(go_simp;done)|(go_simp;rfl));intro gb101 hg w11 hbox hb;have n0_:=zM (zQ (by repeat (first|(with_reducible first|exact HB.out|apply zD|apply zE|apply zF)|exact HB.out)) hb);have n1_:=zM (hbox);have n2_:=zM ((by rw [hg];exact (zR (by repeat (first|(with_reducible first|exact HB.out|apply zD|apply zE|apply zF)|exact HB.out))) : w.heap.size ≤ gb101));have n3_:=zM ((by rw [hg];exact (zR (by repeat (first|(with_reducible first|exact HB.out|apply zD|apply zE|apply zF)|exact HB.out))) : w.heap.size ≤ gb101));clear HB;have HB:=n0_;have BK101:=n1_;have GW101:=n2_;have GE101:=n3_;clear n0_ n1_ n2_ n3_;clear hb hbox hg;have hcz12_0 : w11.cell? ⟨gb101,0,none⟩ = some (.int .i64 a0_0):=(blk_cell BK101.out 0).trans rfl;have hcz12_1 : w11.cell? ⟨gb101,1,none⟩ = some (.int .i64 a0_1):=(blk_cell BK101.out 1).trans rfl;have hcz12_2 : w11.cell? ⟨gb101,2,none⟩ = some (.int .i64 a0_2):=(blk_cell BK101.out 2).trans rfl;have hcz12_3 : w11.cell? ⟨gb101,3,none⟩ = some (.int .i64 a0_3):=(blk_cell BK101.out 3).trans rfl;have hfz12_0:=blk_frozen BK101.out 0;have hfz12_1:=blk_frozen BK101.out 1;have hfz12_2:=blk_frozen BK101.out 2;have hfz12_3:=blk_frozen BK101.out 3)|((with_reducible refine gate_callee (f:=63) rfl ?_);refine goesL_ (some 5) rfl rfl Try.func63 (by kernel_rfl) rfl #[.int .i64 a0_0,.int .i64 1,.int .i64 30] rfl (by (try simp only [List.map_toArray,List.map_cons,List.map_nil]);first|done|rfl|(simp only [List.length_drop,List.length_take];rfl)) ?_;(with_reducible refine (impl_within.calls a0_0 1 30 true _ A2.out).mono ?_);rintro e w' ⟨rfl,⟨nd,rfl⟩⟩;refine ⟨_,rfl,?_⟩)|(go_at_call 63;(with_reducible refine (impl_within.calls a0_1 0 200 true _ A4.out).mono ?_);rintro e w' ⟨rfl,⟨nd,rfl⟩⟩)|(go_at_call 63;(with_reducible refine (impl_within.calls a0_2 1 48 false _ A6.out).mono ?_);rintro e w' ⟨rfl,⟨nd,rfl⟩⟩))
    go_ret
    exact ⟨by first|rfl|(simp [errW_none,errW_some] <;> rfl)|(simp [*,errW_none,errW_some] <;> rfl),by repeat (first|(with_reducible first|exact HB.out|apply zD|apply zE|apply zF|refine below_set ?_ GE101.out)|exact HB.out)⟩
  ·replace c5:=Bool.eq_false_iff.mpr c5
   subst c5
   have H1 : (some true) = some r:=by rw [if_neg (show ¬ (false = true) by decide)] at H;exact H
   clear H
   have H:=H1
   clear H1
   obtain rfl:=Option.some.inj H
   go_enter Try.func78,Try.ntmps78
   go_wp2_with (first|((with_reducible refine gate_dst (N:=1) rfl ?_);refine box_event ?hg (N:=1) ?hd (cs := #[.int .i64 a0_0,.int .i64 a0_1,.int .i64 a0_2,.int .i64 a0_3]) (t:=62) ?hr ?_;(case hd=>rfl);(case hg=>rfl);(case hr=>first|(go_simp;done)|(go_simp;rfl));intro gb101 hg w13 hbox hb;have n0_:=zM (zQ (by repeat (first|(with_reducible first|exact HB.out|apply zD|apply zE|apply zF)|exact HB.out)) hb);have n1_:=zM (hbox);have n2_:=zM ((by rw [hg];exact (zR (by repeat (first|(with_reducible first|exact HB.out|apply zD|apply zE|apply zF)|exact HB.out))) : w.heap.size ≤ gb101));have n3_:=zM ((by rw [hg];exact (zR (by repeat (first|(with_reducible first|exact HB.out|apply zD|apply zE|apply zF)|exact HB.out))) : w.heap.size ≤ gb101));clear HB;have HB:=n0_;have BK101:=n1_;have GW101:=n2_;have GE101:=n3_;clear n0_ n1_ n2_ n3_;clear hb hbox hg;have hcz14_0 : w13.cell? ⟨gb101,0,none⟩ = some (.int .i64 a0_0):=(blk_cell BK101.out 0).trans rfl;have hcz14_1 : w13.cell? ⟨gb101,1,none⟩ = some (.int .i64 a0_1):=(blk_cell BK101.out 1).trans rfl;have hcz14_2 : w13.cell? ⟨gb101,2,none⟩ = some (.int .i64 a0_2):=(blk_cell BK101.out 2).trans rfl;have hcz14_3 : w13.cell? ⟨gb101,3,none⟩ = some (.int .i64 a0_3):=(blk_cell BK101.out 3).trans rfl;have hfz14_0:=blk_frozen BK101.out 0;have hfz14_1:=blk_frozen BK101.out 1;have hfz14_2:=blk_frozen BK101.out 2;have hfz14_3:=blk_frozen BK101.out 3)|((with_reducible refine gate_callee (f:=63) rfl ?_);refine goesL_ (some 5) rfl rfl Try.func63 (by kernel_rfl) rfl #[.int .i64 a0_0,.int .i64 1,.int .i64 30] rfl (by (try simp only [List.map_toArray,List.map_cons,List.map_nil]);first|done|rfl|(simp only [List.length_drop,List.length_take];rfl)) ?_;(with_reducible refine (impl_within.calls a0_0 1 30 true _ A2.out).mono ?_);rintro e w' ⟨rfl,⟨nd,rfl⟩⟩;refine ⟨_,rfl,?_⟩)|(go_at_call 63;(with_reducible refine (impl_within.calls a0_1 0 200 false _ A4.out).mono ?_);rintro e w' ⟨rfl,⟨nd,rfl⟩⟩))
   go_ret
   exact ⟨by first|rfl|(simp [errW_none,errW_some] <;> rfl)|(simp [*,errW_none,errW_some] <;> rfl),by repeat (first|(with_reducible first|exact HB.out|apply zD|apply zE|apply zF|refine below_set ?_ GE101.out)|exact HB.out)⟩
 ·replace c3:=Bool.eq_false_iff.mpr c3
  subst c3
  have H1 : (some true) = some r:=by rw [if_neg (show ¬ (false = true) by decide)] at H;exact H
  clear H
  have H:=H1
  clear H1
  obtain rfl:=Option.some.inj H
  go_enter Try.func78,Try.ntmps78
  go_wp2_with (first|((with_reducible refine gate_dst (N:=1) rfl ?_);refine box_event ?hg (N:=1) ?hd (cs := #[.int .i64 a0_0,.int .i64 a0_1,.int .i64 a0_2,.int .i64 a0_3]) (t:=62) ?hr ?_;(case hd=>rfl);(case hg=>rfl);(case hr=>first|(go_simp;done)|(go_simp;rfl));intro gb101 hg w15 hbox hb;have n0_:=zM (zQ (by repeat (first|(with_reducible first|exact HB.out|apply zD|apply zE|apply zF)|exact HB.out)) hb);have n1_:=zM (hbox);have n2_:=zM ((by rw [hg];exact (zR (by repeat (first|(with_reducible first|exact HB.out|apply zD|apply zE|apply zF)|exact HB.out))) : w.heap.size ≤ gb101));have n3_:=zM ((by rw [hg];exact (zR (by repeat (first|(with_reducible first|exact HB.out|apply zD|apply zE|apply zF)|exact HB.out))) : w.heap.size ≤ gb101));clear HB;have HB:=n0_;have BK101:=n1_;have GW101:=n2_;have GE101:=n3_;clear n0_ n1_ n2_ n3_;clear hb hbox hg;have hcz16_0 : w15.cell? ⟨gb101,0,none⟩ = some (.int .i64 a0_0):=(blk_cell BK101.out 0).trans rfl;have hcz16_1 : w15.cell? ⟨gb101,1,none⟩ = some (.int .i64 a0_1):=(blk_cell BK101.out 1).trans rfl;have hcz16_2 : w15.cell? ⟨gb101,2,none⟩ = some (.int .i64 a0_2):=(blk_cell BK101.out 2).trans rfl;have hcz16_3 : w15.cell? ⟨gb101,3,none⟩ = some (.int .i64 a0_3):=(blk_cell BK101.out 3).trans rfl;have hfz16_0:=blk_frozen BK101.out 0;have hfz16_1:=blk_frozen BK101.out 1;have hfz16_2:=blk_frozen BK101.out 2;have hfz16_3:=blk_frozen BK101.out 3)|((with_reducible refine gate_callee (f:=63) rfl ?_);refine goesL_ (some 5) rfl rfl Try.func63 (by kernel_rfl) rfl #[.int .i64 a0_0,.int .i64 1,.int .i64 30] rfl (by (try simp only [List.map_toArray,List.map_cons,List.map_nil]);first|done|rfl|(simp only [List.length_drop,List.length_take];rfl)) ?_;(with_reducible refine (impl_within.calls a0_0 1 30 false _ A2.out).mono ?_);rintro e w' ⟨rfl,⟨nd,rfl⟩⟩;refine ⟨_,rfl,?_⟩))
  go_ret
  exact ⟨by first|rfl|(simp [errW_none,errW_some] <;> rfl)|(simp [*,errW_none,errW_some] <;> rfl),by repeat (first|(with_reducible first|exact HB.out|apply zD|apply zE|apply zF|refine below_set ?_ GE101.out)|exact HB.out)⟩

end Go.Proofs.Ytcciljjnpfgaeaa.G

/- The contract of slices.ContainsFunc at the test of areShips. -/
namespace Go.Proofs.Ytcciljjnpfgaeaa.G
open Go.RowKit Go.Proofs.YtcciljjnpfgaeaaW.PrintWords Go.Proofs.YtcciljjnpfgaeaaW.PrintLast
set_option linter.unusedVariables false
set_option linter.unusedSimpArgs false
theorem ret_int {k : IntKind} {a b : Int} (h : a = b) : Ending.returned (.int k a) = .returned (.int k b):=by rw [h]
def good78 (x : S62) : Bool:=decide ((1 ≤ x.f0 ∧ x.f0 ≤ 30) ∧ (0 ≤ x.f1 ∧ x.f1 ≤ 200) ∧ (1 ≤ x.f2 ∧ x.f2 ≤ 48) ∧ (1 ≤ x.f3 ∧ x.f3 ≤ 9))
def bad78 (l : List S62) : Nat → Nat → Int
  | 0,_ => -1
  | d + 1,i=>if good78 (rd_T62 l i) then bad78 l d (i + 1) else i
theorem bad78_iff (l : List S62) : ∀ d i,bad78 l d i ≥ 0 ↔ ¬ ∀ j : Nat,i ≤ j → j < i + d → good78 (rd_T62 l j) = true:=by
  intro d
  induction d with
  | zero=>intro i;simp [bad78];omega
  | succ d ih =>
    intro i
    unfold bad78
    split
    · rename_i h
      rw [ih (i + 1)]
      constructor
      · intro h1 h2
        exact h1 fun j a b=>h2 j (by omega) (by omega)
      · intro h1 h2
        refine h1 fun j a b=>?_
        by_cases e : j = i
        · rw [e];exact h
        · exact h2 j (by omega) (by omega)
    · rename_i h
      constructor
      · intro _ h2
        exact h (h2 i (by omega) (by omega))
      · intro _;omega
theorem wi_some (a b c : Int) : impl_within.f a b c = some (decide (b ≤ a ∧ a ≤ c)):=by
  unfold impl_within.f
  split
  · rename_i h;congr 1;simp;omega
  · rename_i h;congr 1;simp;omega
theorem lit78_eq (x : S62) : impl_areShips_1.f x.f0 x.f1 x.f2 x.f3 = some (!good78 x):=by
  unfold impl_areShips_1.f good78
  simp only [wi_some,Option.bind_some,decide_eq_true_eq]
  by_cases h1 : 1 ≤ x.f0 ∧ x.f0 ≤ 30
  · by_cases h2 : 0 ≤ x.f1 ∧ x.f1 ≤ 200
    · by_cases h3 : 1 ≤ x.f2 ∧ x.f2 ≤ 48
      · simp [h1,h2,h3]
      · simp [h1,h2,h3]
    · simp [h1,h2]
  · simp [h1]
set_option maxHeartbeats 2000000 in
set_option maxRecDepth 100000 in
theorem idx78 (A0 : Option Addr) (c0 : Nat) (l0 : List S62) (w : World) (hr0 : Kd.C k62 w A0 l0.length l0) (hn : l0.length ≤ 9223372036854775807) (hc0 : l0.length ≤ c0) :
    Calls Try.prog 85 #[.slice A0 l0.length c0,.func (.func 78) #[] #[]] w fun e w'=>e = .returned (.int .i64 (bad78 l0 l0.length 0)) ∧ Below w.heap.size w w':=by
  have HR:=Aside0.mk hr0
  clear hr0
  have HN : Aside0 (bad78 l0 l0.length 0 = bad78 l0 (l0.length - 0) 0):=Aside0.mk rfl
  go_enter Try.func85,Try.ntmps85
  go_wp2
  go_loopw [8] (fun i w' => ∃ k : Nat,k ≤ l0.length ∧ i = .int .i64 k ∧ Aside0 (bad78 l0 l0.length 0 = bad78 l0 (l0.length - k) k) ∧ Below w.heap.size w w') (fun i _=>l0.length - (intOf i).toNat)
  case atStart=>exact ⟨0,Nat.zero_le _,rfl,HN,Below.refl _ _⟩
  case round =>
    obtain ⟨k,hk,rfl,hb,hd⟩:=hrel
    by_cases hlt : k < l0.length
    · obtain ⟨ad,rfl,hx0,hx1,hx2,hx3⟩:=at_T62 (Kd.C_below HR.out hd) (k : Int) (by omega) (by omega)
      rw [Int.toNat_natCast] at hx0 hx1 hx2 hx3
      by_cases hg : good78 (rd_T62 l0 k) = true
      · have hs : Aside0 (bad78 l0 l0.length 0 = bad78 l0 (l0.length - (k + 1)) (k + 1)):=Aside0.mk (by
          rw [hb.out,show l0.length - k = (l0.length - (k + 1)) + 1 from by omega]
          conv=>lhs;unfold bad78
          rw [if_pos hg])
        have hf : Aside0 (impl_areShips_1.f (rd_T62 l0 k).f0 (rd_T62 l0 k).f1 (rd_T62 l0 k).f2 (rd_T62 l0 k).f3 = some false):=Aside0.mk (by rw [lit78_eq,hg];rfl)
        clear hb hg
        go_wp2_with (go_at_call 78;refine (impl_areShips_1.calls _ _ _ _ false _ hf.out).mono ?_;rintro e w' ⟨rfl,hd2⟩)
        go_roundw
        case rel=>exact ⟨k + 1,by omega,by go_num,hs,below_step hd hd2⟩
        case measure=>simp [intOf];omega
      · have hs : Aside0 (bad78 l0 l0.length 0 = (k : Int)):=Aside0.mk (by
          rw [hb.out,show l0.length - k = (l0.length - (k + 1)) + 1 from by omega]
          conv=>lhs;unfold bad78
          rw [if_neg hg])
        have hf : Aside0 (impl_areShips_1.f (rd_T62 l0 k).f0 (rd_T62 l0 k).f1 (rd_T62 l0 k).f2 (rd_T62 l0 k).f3 = some true):=Aside0.mk (by rw [lit78_eq,Bool.eq_false_iff.2 hg];rfl)
        clear hb hg
        go_wp2_with (go_at_call 78;refine (impl_areShips_1.calls _ _ _ _ true _ hf.out).mono ?_;rintro e w' ⟨rfl,hd2⟩)
        go_ret
        exact ⟨ret_int hs.out.symm,below_step hd hd2⟩
    · have hs : Aside0 (bad78 l0 l0.length 0 = -1):=Aside0.mk (by
        rw [hb.out,show l0.length - k = 0 from by omega];rfl)
      clear hb
      go_wp2
      go_ret
      exact ⟨ret_int hs.out.symm,hd⟩
def impl_Ship_69_78.f (l0 : List S62) : Option Bool:=some (decide (bad78 l0 l0.length 0 ≥ 0))
set_option maxHeartbeats 2000000 in
set_option maxRecDepth 100000 in
theorem impl_Ship_69_78.calls (A0 : Option Addr) (c0 : Nat) (l0 : List S62) (r : Bool) (w : World) (hr0 : Kd.C k62 w A0 l0.length l0) (hc0 : l0.length ≤ c0) (h : impl_Ship_69_78.f l0 = some r) :
    Calls Try.prog 69 #[.slice A0 l0.length c0,.func (.func 78) #[] #[]] w fun e w'=>e = .returned (.bool r) ∧ Below w.heap.size w w':=by
  obtain rfl : decide (bad78 l0 l0.length 0 ≥ 0) = r:=Option.some.inj h
  have hn : l0.length ≤ 9223372036854775807:=hr0.2.1
  have HR:=Aside0.mk hr0
  clear hr0 h
  go_enter Try.func69,Try.ntmps69
  go_wp2_with (go_at_call 85;refine (idx78 A0 c0 l0 _ HR.out hn hc0).mono ?_;rintro e w' ⟨rfl,hd⟩)
  go_ret
  exact ⟨rfl,hd⟩
end Go.Proofs.Ytcciljjnpfgaeaa.G

-- Written by wip/tools/gen.py out of the translation (the kit's printer, one namespace a seat). Lean checks it.
namespace Go.Proofs.Ytcciljjnpfgaeaa.G
open Go.RowKit Go.Proofs.YtcciljjnpfgaeaaW.PrintWords Go.Proofs.YtcciljjnpfgaeaaW.PrintLast Go.Proofs.YtcciljjnpfgaeaaW.PrintMore
attribute [local go_sem] max2_int min2_int max_two min_two max_three min_three max_four min_four   -- for this text's walks alone
set_option linter.unusedVariables false
set_option linter.unusedSimpArgs false

/-! ### impl_areShips: function 52 -/
def impl_areShips.f (a0 : Int) (l1 : List (S62)) : Option (Bool):=(impl_within.f a0 1 30).bind fun t154=>(if t154 = true then (if (l1.length : Int) > 5 then (some false) else ((impl_Ship_69_78.f l1).bind fun t155=>(some (!t155)))) else (some false))
set_option maxHeartbeats 8000000 in
set_option maxRecDepth 100000 in
theorem impl_areShips.calls (a0 : Int) (A1 : Option Addr) (c1 : Nat) (l1 : List (S62)) (r : Bool) (w : World) (hr1 : Kd.C k62 w A1 l1.length l1) (hc1 : l1.length ≤ c1) (h : impl_areShips.f a0 l1 = some r) :
  Calls Try.prog 52 #[.int .i64 a0,.slice A1 l1.length c1] w fun e w'=>e = .returned (.bool r) ∧ Below w.heap.size w w':=by
 have HR1:=zM hr1
 have HC1:=zM hc1
 clear hr1 hc1
 have HB:=zM (Below.refl w.heap.size w)
 have H : ((impl_within.f a0 1 30).bind fun t154=>(if t154 = true then (if (l1.length : Int) > 5 then (some false) else ((impl_Ship_69_78.f l1).bind fun t155=>(some (!t155)))) else (some false))) = some r:=h
 clear h
 replace H:=Option.bind_eq_some_iff.mp H
 obtain ⟨t154,A30,H⟩:=H
 replace H : (if t154 = true then (if (l1.length : Int) > 5 then (some false) else ((impl_Ship_69_78.f l1).bind fun t155=>(some (!t155)))) else (some false)) = some r:=H
 have A3:=zM A30
 clear A30
 by_cases c4 : t154 = true
 ·subst c4
  have H1 : (if (l1.length : Int) > 5 then (some false) else ((impl_Ship_69_78.f l1).bind fun t155=>(some (!t155)))) = some r:=by rw [if_pos rfl] at H;exact H
  clear H
  have H:=H1
  clear H1
  by_cases c5 : (l1.length : Int) > 5
  ·rw [if_pos c5] at H
   have c5b0 : decide (5 < (l1.length : Int)) = true:=decide_eq_true c5
   have c5b1 : decide (5 < l1.length) = true:=decide_eq_true (by omega)
   clear c5
   obtain rfl:=Option.some.inj H
   go_enter Try.func52,Try.ntmps52
   go_wp2_with (first|((with_reducible refine gate_callee (f:=63) rfl ?_);refine goesL_ (some 6) rfl rfl Try.func63 (by kernel_rfl) rfl #[.int .i64 a0,.int .i64 1,.int .i64 30] rfl (by (try simp only [List.map_toArray,List.map_cons,List.map_nil]);first|done|rfl|(simp only [List.length_drop,List.length_take];rfl)) ?_;(with_reducible refine (impl_within.calls a0 1 30 true _ A3.out).mono ?_);rintro e w' ⟨rfl,⟨nd,rfl⟩⟩;refine ⟨_,rfl,?_⟩))
   go_ret
   exact ⟨by first|rfl|(simp [errW_none,errW_some] <;> rfl)|(simp [*,errW_none,errW_some] <;> rfl),by repeat (first|(with_reducible first|exact HB.out|apply zD|apply zE|apply zF)|exact HB.out)⟩
  ·rw [if_neg c5] at H
   have c5b0 : decide (5 < (l1.length : Int)) = false:=decide_eq_false c5
   have c5b1 : decide (5 < l1.length) = false:=decide_eq_false (by omega)
   clear c5
   replace H:=Option.bind_eq_some_iff.mp H
   obtain ⟨t155,A60,H⟩:=H
   replace H : (some (!t155)) = some r:=H
   have A6:=zM A60
   clear A60
   obtain rfl:=Option.some.inj H
   go_enter Try.func52,Try.ntmps52
   go_wp2_with (first|((with_reducible refine gate_callee (f:=63) rfl ?_);refine goesL_ (some 6) rfl rfl Try.func63 (by kernel_rfl) rfl #[.int .i64 a0,.int .i64 1,.int .i64 30] rfl (by (try simp only [List.map_toArray,List.map_cons,List.map_nil]);first|done|rfl|(simp only [List.length_drop,List.length_take];rfl)) ?_;(with_reducible refine (impl_within.calls a0 1 30 true _ A3.out).mono ?_);rintro e w' ⟨rfl,⟨nd,rfl⟩⟩;refine ⟨_,rfl,?_⟩)|((with_reducible refine gate_callee (f:=69) rfl ?_);refine goesL_ (some 14) rfl rfl Try.func69 (by kernel_rfl) rfl #[.slice A1 l1.length c1,.func (.func 78) #[] #[]] rfl (by (try simp only [List.map_toArray,List.map_cons,List.map_nil]);first|done|rfl|(simp only [List.length_drop,List.length_take];rfl)) ?_;(with_reducible refine (impl_Ship_69_78.calls _ _ l1  t155 _ ?side1 ?side2 A6.out).mono ?_);(case side1=>repeat (first|exact HR1.out|(with_reducible refine zG ?_ _)|(with_reducible refine zH ?_ _)|(with_reducible refine zI ?_)));(case side2=>exact HC1.out);rintro e w7 ⟨rfl,hb⟩;refine ⟨_,rfl,?_⟩;have n0_:=zM (zQ (by repeat (first|(with_reducible first|exact HB.out|apply zD|apply zE|apply zF)|exact HB.out)) hb);clear HB;have HB:=n0_;clear n0_;(try clear hb);(try clear hb2);(try clear hk);(try clear hi)))
   go_ret
   exact ⟨by first|rfl|(simp [errW_none,errW_some] <;> rfl)|(simp [*,errW_none,errW_some] <;> rfl),by repeat (first|(with_reducible first|exact HB.out|apply zD|apply zE|apply zF)|exact HB.out)⟩
 ·replace c4:=Bool.eq_false_iff.mpr c4
  subst c4
  have H1 : (some false) = some r:=by rw [if_neg (show ¬ (false = true) by decide)] at H;exact H
  clear H
  have H:=H1
  clear H1
  obtain rfl:=Option.some.inj H
  go_enter Try.func52,Try.ntmps52
  go_wp2_with (first|((with_reducible refine gate_callee (f:=63) rfl ?_);refine goesL_ (some 6) rfl rfl Try.func63 (by kernel_rfl) rfl #[.int .i64 a0,.int .i64 1,.int .i64 30] rfl (by (try simp only [List.map_toArray,List.map_cons,List.map_nil]);first|done|rfl|(simp only [List.length_drop,List.length_take];rfl)) ?_;(with_reducible refine (impl_within.calls a0 1 30 false _ A3.out).mono ?_);rintro e w' ⟨rfl,⟨nd,rfl⟩⟩;refine ⟨_,rfl,?_⟩))
  go_ret
  exact ⟨by first|rfl|(simp [errW_none,errW_some] <;> rfl)|(simp [*,errW_none,errW_some] <;> rfl),by repeat (first|(with_reducible first|exact HB.out|apply zD|apply zE|apply zF)|exact HB.out)⟩

end Go.Proofs.Ytcciljjnpfgaeaa.G

-- Written by wip/tools/gen.py out of the translation (the kit's printer, one namespace a seat). Lean checks it.
namespace Go.Proofs.Ytcciljjnpfgaeaa.G
open Go.RowKit Go.Proofs.YtcciljjnpfgaeaaW.PrintWords Go.Proofs.YtcciljjnpfgaeaaW.PrintLast Go.Proofs.YtcciljjnpfgaeaaW.PrintMore
attribute [local go_sem] max2_int min2_int max_two min_two max_three min_three max_four min_four   -- for this text's walks alone
set_option linter.unusedVariables false
set_option linter.unusedSimpArgs false

/-! ### impl_touch: function 79 -/
def impl_touch.f (a0_0 : Int) (a0_1 : Int) (a0_2 : Int) (a0_3 : Int) (a1_0 : Int) (a1_1 : Int) (a2_0 : Int) (a2_1 : Int) (a2_2 : Int) (a2_3 : Int) (a3_0 : Int) (a3_1 : Int) : Option (Bool):=if a1_0 < (wrap64 (a3_0 + a2_0)) then (if a3_0 < (wrap64 (a1_0 + a0_0)) then (if a1_1 < (wrap64 (a3_1 + a2_2)) then (some (decide (a3_1 < (wrap64 (a1_1 + a0_2))))) else (some false)) else (some false)) else (some false)
set_option maxHeartbeats 8000000 in
set_option maxRecDepth 100000 in
theorem impl_touch.calls (a0_0 : Int) (a0_1 : Int) (a0_2 : Int) (a0_3 : Int) (a1_0 : Int) (a1_1 : Int) (a2_0 : Int) (a2_1 : Int) (a2_2 : Int) (a2_3 : Int) (a3_0 : Int) (a3_1 : Int) (r : Bool) (w : World) (h : impl_touch.f a0_0 a0_1 a0_2 a0_3 a1_0 a1_1 a2_0 a2_1 a2_2 a2_3 a3_0 a3_1 = some r) :
  Calls Try.prog 79 #[.agg #[.int .i64 a0_0,.int .i64 a0_1,.int .i64 a0_2,.int .i64 a0_3],.agg #[.int .i64 a1_0,.int .i64 a1_1],.agg #[.int .i64 a2_0,.int .i64 a2_1,.int .i64 a2_2,.int .i64 a2_3],.agg #[.int .i64 a3_0,.int .i64 a3_1]] w fun e w'=>e = .returned (.bool r) ∧ Below w.heap.size w w':=by
 have hu62:=Try.underlying62
 have hu37:=Try.underlying37
 have HB:=zM (Below.refl w.heap.size w)
 have H : (if a1_0 < (wrap64 (a3_0 + a2_0)) then (if a3_0 < (wrap64 (a1_0 + a0_0)) then (if a1_1 < (wrap64 (a3_1 + a2_2)) then (some (decide (a3_1 < (wrap64 (a1_1 + a0_2))))) else (some false)) else (some false)) else (some false)) = some r:=h
 clear h
 by_cases c5 : a1_0 < (wrap64 (a3_0 + a2_0)) <;> by_cases c6 : a3_0 < (wrap64 (a1_0 + a0_0)) <;> by_cases c7 : a1_1 < (wrap64 (a3_1 + a2_2))
 all_goals (try first|rw [if_pos c5] at H|rw [if_neg c5] at H)
 all_goals (try first|rw [if_pos c6] at H|rw [if_neg c6] at H)
 all_goals (try first|rw [if_pos c7] at H|rw [if_neg c7] at H)
 all_goals (first|(have c5b0 : decide (a1_0 < (wrap64 (a3_0 + a2_0))) = true:=decide_eq_true c5)|(have c5b0 : decide (a1_0 < (wrap64 (a3_0 + a2_0))) = false:=decide_eq_false c5))
 all_goals (first|(have c6b0 : decide (a3_0 < (wrap64 (a1_0 + a0_0))) = true:=decide_eq_true c6)|(have c6b0 : decide (a3_0 < (wrap64 (a1_0 + a0_0))) = false:=decide_eq_false c6))
 all_goals (first|(have c7b0 : decide (a1_1 < (wrap64 (a3_1 + a2_2))) = true:=decide_eq_true c7)|(have c7b0 : decide (a1_1 < (wrap64 (a3_1 + a2_2))) = false:=decide_eq_false c7))
 all_goals clear c5 c6 c7
 all_goals
  obtain rfl:=Option.some.inj H
  go_enter Try.func79,Try.ntmps79
  go_wp2_with (first|((with_reducible refine gate_dst (N:=4) rfl ?_);refine box_event ?hg (N:=4) ?hd (cs := #[.int .i64 a0_0,.int .i64 a0_1,.int .i64 a0_2,.int .i64 a0_3]) (t:=62) ?hr ?_;(case hd=>rfl);(case hg=>rfl);(case hr=>first|(go_simp;done)|(go_simp;rfl));intro gb156 hg w22 hbox hb;have n0_:=zM (zQ (by repeat (first|(with_reducible first|exact HB.out|apply zD|apply zE|apply zF)|exact HB.out)) hb);have n1_:=zM (hbox);have n2_:=zM ((by rw [hg];exact (zR (by repeat (first|(with_reducible first|exact HB.out|apply zD|apply zE|apply zF)|exact HB.out))) : w.heap.size ≤ gb156));have n3_:=zM ((by rw [hg];exact (zR (by repeat (first|(with_reducible first|exact HB.out|apply zD|apply zE|apply zF)|exact HB.out))) : w.heap.size ≤ gb156));clear HB;have HB:=n0_;have BK156:=n1_;have GW156:=n2_;have GE156:=n3_;clear n0_ n1_ n2_ n3_;clear hb hbox hg)|((with_reducible refine gate_dst (N:=5) rfl ?_);refine box_event ?hg (N:=5) ?hd (cs := #[.int .i64 a1_0,.int .i64 a1_1]) (t:=37) ?hr ?_;(case hd=>rfl);(case hg=>rfl);(case hr=>first|(go_simp;done)|(go_simp;rfl));intro gb157 hg w23 hbox hb;have n0_:=zM (blk_below (g:=gb156) (o := .cells #[.int .i64 a0_0,.int .i64 a0_1,.int .i64 a0_2,.int .i64 a0_3] 62 (0,0)) (by (with_reducible repeat (first|refine zJ ?_ _|refine zK ?_|refine zL ?_ _));exact BK156.out) hb);have n1_:=zM (zQ (by repeat (first|(with_reducible first|exact HB.out|apply zD|apply zE|apply zF|refine below_set ?_ GE156.out)|exact HB.out)) hb);have n2_:=zM (hbox);have n3_:=zM ((by rw [hg];exact (zR (by repeat (first|(with_reducible first|exact HB.out|apply zD|apply zE|apply zF|refine below_set ?_ GE156.out)|exact HB.out))) : w.heap.size ≤ gb157));have n4_:=zM ((by rw [hg];exact (zR (by repeat (first|(with_reducible first|exact HB.out|apply zD|apply zE|apply zF|refine below_set ?_ GE156.out)|exact HB.out))) : w.heap.size ≤ gb157));have n5_:=zM ((by rw [hg];exact Nat.ne_of_lt (blk_lt (g:=gb156) (o := .cells #[.int .i64 a0_0,.int .i64 a0_1,.int .i64 a0_2,.int .i64 a0_3] 62 (0,0)) (by (with_reducible repeat (first|refine zJ ?_ _|refine zK ?_|refine zL ?_ _));exact BK156.out)) : gb156 ≠ gb157));have n6_:=zM ((by rw [hg];exact Nat.ne_of_gt (blk_lt (g:=gb156) (o := .cells #[.int .i64 a0_0,.int .i64 a0_1,.int .i64 a0_2,.int .i64 a0_3] 62 (0,0)) (by (with_reducible repeat (first|refine zJ ?_ _|refine zK ?_|refine zL ?_ _));exact BK156.out)) : gb157 ≠ gb156));clear BK156;clear HB;have BK156:=n0_;have HB:=n1_;have BK157:=n2_;have GW157:=n3_;have GE157:=n4_;have NB156_157:=n5_;have NB157_156:=n6_;clear n0_ n1_ n2_ n3_ n4_ n5_ n6_;clear hb hbox hg)|((with_reducible refine gate_dst (N:=6) rfl ?_);refine box_event ?hg (N:=6) ?hd (cs := #[.int .i64 a2_0,.int .i64 a2_1,.int .i64 a2_2,.int .i64 a2_3]) (t:=62) ?hr ?_;(case hd=>rfl);(case hg=>rfl);(case hr=>first|(go_simp;done)|(go_simp;rfl));intro gb158 hg w24 hbox hb;have n0_:=zM (blk_below (g:=gb156) (o := .cells #[.int .i64 a0_0,.int .i64 a0_1,.int .i64 a0_2,.int .i64 a0_3] 62 (0,0)) (by (with_reducible repeat (first|refine zJ ?_ _|refine zK ?_|refine zL ?_ _));exact BK156.out) hb);have n1_:=zM (blk_below (g:=gb157) (o := .cells #[.int .i64 a1_0,.int .i64 a1_1] 37 (0,0)) (by (with_reducible repeat (first|refine zJ ?_ _|refine zK ?_|refine zL ?_ _));exact BK157.out) hb);have n2_:=zM (zQ (by repeat (first|(with_reducible first|exact HB.out|apply zD|apply zE|apply zF|refine below_set ?_ GE156.out|refine below_set ?_ GE157.out)|exact HB.out)) hb);have n3_:=zM (hbox);have n4_:=zM ((by rw [hg];exact (zR (by repeat (first|(with_reducible first|exact HB.out|apply zD|apply zE|apply zF|refine below_set ?_ GE156.out|refine below_set ?_ GE157.out)|exact HB.out))) : w.heap.size ≤ gb158));have n5_:=zM ((by rw [hg];exact (zR (by repeat (first|(with_reducible first|exact HB.out|apply zD|apply zE|apply zF|refine below_set ?_ GE156.out|refine below_set ?_ GE157.out)|exact HB.out))) : w.heap.size ≤ gb158));have n6_:=zM ((by rw [hg];exact Nat.ne_of_lt (blk_lt (g:=gb156) (o := .cells #[.int .i64 a0_0,.int .i64 a0_1,.int .i64 a0_2,.int .i64 a0_3] 62 (0,0)) (by (with_reducible repeat (first|refine zJ ?_ _|refine zK ?_|refine zL ?_ _));exact BK156.out)) : gb156 ≠ gb158));have n7_:=zM ((by rw [hg];exact Nat.ne_of_gt (blk_lt (g:=gb156) (o := .cells #[.int .i64 a0_0,.int .i64 a0_1,.int .i64 a0_2,.int .i64 a0_3] 62 (0,0)) (by (with_reducible repeat (first|refine zJ ?_ _|refine zK ?_|refine zL ?_ _));exact BK156.out)) : gb158 ≠ gb156));have n8_:=zM ((by rw [hg];exact Nat.ne_of_lt (blk_lt (g:=gb157) (o := .cells #[.int .i64 a1_0,.int .i64 a1_1] 37 (0,0)) (by (with_reducible repeat (first|refine zJ ?_ _|refine zK ?_|refine zL ?_ _));exact BK157.out)) : gb157 ≠ gb158));have n9_:=zM ((by rw [hg];exact Nat.ne_of_gt (blk_lt (g:=gb157) (o := .cells #[.int .i64 a1_0,.int .i64 a1_1] 37 (0,0)) (by (with_reducible repeat (first|refine zJ ?_ _|refine zK ?_|refine zL ?_ _));exact BK157.out)) : gb158 ≠ gb157));clear BK156;clear BK157;clear HB;have BK156:=n0_;have BK157:=n1_;have HB:=n2_;have BK158:=n3_;have GW158:=n4_;have GE158:=n5_;have NB156_158:=n6_;have NB158_156:=n7_;have NB157_158:=n8_;have NB158_157:=n9_;clear n0_ n1_ n2_ n3_ n4_ n5_ n6_ n7_ n8_ n9_;clear hb hbox hg)|((with_reducible refine gate_dst (N:=7) rfl ?_);refine box_event ?hg (N:=7) ?hd (cs := #[.int .i64 a3_0,.int .i64 a3_1]) (t:=37) ?hr ?_;(case hd=>rfl);(case hg=>rfl);(case hr=>first|(go_simp;done)|(go_simp;rfl));intro gb159 hg w25 hbox hb;have n0_:=zM (blk_below (g:=gb156) (o := .cells #[.int .i64 a0_0,.int .i64 a0_1,.int .i64 a0_2,.int .i64 a0_3] 62 (0,0)) (by (with_reducible repeat (first|refine zJ ?_ _|refine zK ?_|refine zL ?_ _));exact BK156.out) hb);have n1_:=zM (blk_below (g:=gb157) (o := .cells #[.int .i64 a1_0,.int .i64 a1_1] 37 (0,0)) (by (with_reducible repeat (first|refine zJ ?_ _|refine zK ?_|refine zL ?_ _));exact BK157.out) hb);have n2_:=zM (blk_below (g:=gb158) (o := .cells #[.int .i64 a2_0,.int .i64 a2_1,.int .i64 a2_2,.int .i64 a2_3] 62 (0,0)) (by (with_reducible repeat (first|refine zJ ?_ _|refine zK ?_|refine zL ?_ _));exact BK158.out) hb);have n3_:=zM (zQ (by repeat (first|(with_reducible first|exact HB.out|apply zD|apply zE|apply zF|refine below_set ?_ GE156.out|refine below_set ?_ GE157.out|refine below_set ?_ GE158.out)|exact HB.out)) hb);have n4_:=zM (hbox);have n5_:=zM ((by rw [hg];exact (zR (by repeat (first|(with_reducible first|exact HB.out|apply zD|apply zE|apply zF|refine below_set ?_ GE156.out|refine below_set ?_ GE157.out|refine below_set ?_ GE158.out)|exact HB.out))) : w.heap.size ≤ gb159));have n6_:=zM ((by rw [hg];exact (zR (by repeat (first|(with_reducible first|exact HB.out|apply zD|apply zE|apply zF|refine below_set ?_ GE156.out|refine below_set ?_ GE157.out|refine below_set ?_ GE158.out)|exact HB.out))) : w.heap.size ≤ gb159));have n7_:=zM ((by rw [hg];exact Nat.ne_of_lt (blk_lt (g:=gb156) (o := .cells #[.int .i64 a0_0,.int .i64 a0_1,.int .i64 a0_2,.int .i64 a0_3] 62 (0,0)) (by (with_reducible repeat (first|refine zJ ?_ _|refine zK ?_|refine zL ?_ _));exact BK156.out)) : gb156 ≠ gb159));have n8_:=zM ((by rw [hg];exact Nat.ne_of_gt (blk_lt (g:=gb156) (o := .cells #[.int .i64 a0_0,.int .i64 a0_1,.int .i64 a0_2,.int .i64 a0_3] 62 (0,0)) (by (with_reducible repeat (first|refine zJ ?_ _|refine zK ?_|refine zL ?_ _));exact BK156.out)) : gb159 ≠ gb156));have n9_:=zM ((by rw [hg];exact Nat.ne_of_lt (blk_lt (g:=gb157) (o := .cells #[.int .i64 a1_0,.int .i64 a1_1] 37 (0,0)) (by (with_reducible repeat (first|refine zJ ?_ _|refine zK ?_|refine zL ?_ _));exact BK157.out)) : gb157 ≠ gb159));have n10_:=zM ((by rw [hg];exact Nat.ne_of_gt (blk_lt (g:=gb157) (o := .cells #[.int .i64 a1_0,.int .i64 a1_1] 37 (0,0)) (by (with_reducible repeat (first|refine zJ ?_ _|refine zK ?_|refine zL ?_ _));exact BK157.out)) : gb159 ≠ gb157));have n11_:=zM ((by rw [hg];exact Nat.ne_of_lt (blk_lt (g:=gb158) (o := .cells #[.int .i64 a2_0,.int .i64 a2_1,.int .i64 a2_2,.int .i64 a2_3] 62 (0,0)) (by (with_reducible repeat (first|refine zJ ?_ _|refine zK ?_|refine zL ?_ _));exact BK158.out)) : gb158 ≠ gb159));have n12_:=zM ((by rw [hg];exact Nat.ne_of_gt (blk_lt (g:=gb158) (o := .cells #[.int .i64 a2_0,.int .i64 a2_1,.int .i64 a2_2,.int .i64 a2_3] 62 (0,0)) (by (with_reducible repeat (first|refine zJ ?_ _|refine zK ?_|refine zL ?_ _));exact BK158.out)) : gb159 ≠ gb158));clear BK156;clear BK157;clear BK158;clear HB;have BK156:=n0_;have BK157:=n1_;have BK158:=n2_;have HB:=n3_;have BK159:=n4_;have GW159:=n5_;have GE159:=n6_;have NB156_159:=n7_;have NB159_156:=n8_;have NB157_159:=n9_;have NB159_157:=n10_;have NB158_159:=n11_;have NB159_158:=n12_;clear n0_ n1_ n2_ n3_ n4_ n5_ n6_ n7_ n8_ n9_ n10_ n11_ n12_;clear hb hbox hg;have hnb26:=NB157_156.out;have hnc26:=NB156_157.out;have hnb27:=NB157_158.out;have hnc27:=NB158_157.out;have hnb28:=NB157_159.out;have hnc28:=NB159_157.out;have hcz29_0 : w25.cell? ⟨gb157,0,none⟩ = some (.int .i64 a1_0):=(blk_cell BK157.out 0).trans rfl;have hcz29_1 : w25.cell? ⟨gb157,1,none⟩ = some (.int .i64 a1_1):=(blk_cell BK157.out 1).trans rfl;have hfz29_0:=blk_frozen BK157.out 0;have hfz29_1:=blk_frozen BK157.out 1;have hnb30:=NB159_156.out;have hnc30:=NB156_159.out;have hnb31:=NB159_158.out;have hnc31:=NB158_159.out;have hcz32_0 : w25.cell? ⟨gb159,0,none⟩ = some (.int .i64 a3_0):=(blk_cell BK159.out 0).trans rfl;have hcz32_1 : w25.cell? ⟨gb159,1,none⟩ = some (.int .i64 a3_1):=(blk_cell BK159.out 1).trans rfl;have hfz32_0:=blk_frozen BK159.out 0;have hfz32_1:=blk_frozen BK159.out 1;have hnb33:=NB158_156.out;have hnc33:=NB156_158.out;have hcz34_0 : w25.cell? ⟨gb158,0,none⟩ = some (.int .i64 a2_0):=(blk_cell BK158.out 0).trans rfl;have hcz34_1 : w25.cell? ⟨gb158,1,none⟩ = some (.int .i64 a2_1):=(blk_cell BK158.out 1).trans rfl;have hcz34_2 : w25.cell? ⟨gb158,2,none⟩ = some (.int .i64 a2_2):=(blk_cell BK158.out 2).trans rfl;have hcz34_3 : w25.cell? ⟨gb158,3,none⟩ = some (.int .i64 a2_3):=(blk_cell BK158.out 3).trans rfl;have hfz34_0:=blk_frozen BK158.out 0;have hfz34_1:=blk_frozen BK158.out 1;have hfz34_2:=blk_frozen BK158.out 2;have hfz34_3:=blk_frozen BK158.out 3;have hcz35_0 : w25.cell? ⟨gb156,0,none⟩ = some (.int .i64 a0_0):=(blk_cell BK156.out 0).trans rfl;have hcz35_1 : w25.cell? ⟨gb156,1,none⟩ = some (.int .i64 a0_1):=(blk_cell BK156.out 1).trans rfl;have hcz35_2 : w25.cell? ⟨gb156,2,none⟩ = some (.int .i64 a0_2):=(blk_cell BK156.out 2).trans rfl;have hcz35_3 : w25.cell? ⟨gb156,3,none⟩ = some (.int .i64 a0_3):=(blk_cell BK156.out 3).trans rfl;have hfz35_0:=blk_frozen BK156.out 0;have hfz35_1:=blk_frozen BK156.out 1;have hfz35_2:=blk_frozen BK156.out 2;have hfz35_3:=blk_frozen BK156.out 3))
  go_ret
  exact ⟨by first|rfl|(simp [errW_none,errW_some] <;> rfl)|(simp [*,errW_none,errW_some] <;> rfl),by repeat (first|(with_reducible first|exact HB.out|apply zD|apply zE|apply zF|refine below_set ?_ GE156.out|refine below_set ?_ GE157.out|refine below_set ?_ GE158.out|refine below_set ?_ GE159.out)|exact HB.out)⟩

end Go.Proofs.Ytcciljjnpfgaeaa.G

-- Written by wip/tools/gen.py out of the translation (the kit's printer, one namespace a seat). Lean checks it.
namespace Go.Proofs.Ytcciljjnpfgaeaa.G
open Go.RowKit Go.Proofs.YtcciljjnpfgaeaaW.PrintWords Go.Proofs.YtcciljjnpfgaeaaW.PrintLast Go.Proofs.YtcciljjnpfgaeaaW.PrintMore
attribute [local go_sem] max2_int min2_int max_two min_two max_three min_three max_four min_four   -- for this text's walks alone
set_option linter.unusedVariables false
set_option linter.unusedSimpArgs false

/-! ### impl_fits: function 53 -/
mutual
def impl_fits.j0 : Nat → List (S62) → List (S37) → Bool → Int → Int → Int → Int → Int → Int → Option (Bool)
 | 0,_,_,_,_,_,_,_,_,_=>none
 | k + 1,x3,x4,x36,x161000,x161001,x161002,x161003,x162000,x162001=>if x36 = true then (some false) else (impl_fits.l0 k x3 x4 (x4.length : Int) 0 x161000 x161001 x161002 x161003 x162000 x162001)
def impl_fits.l0 : Nat → List (S62) → List (S37) → Int → Int → Int → Int → Int → Int → Int → Int → Option (Bool)
 | 0,_,_,_,_,_,_,_,_,_,_=>none
 | k + 1,x3,x37,x38,x39,x161000,x161001,x161002,x161003,x162000,x162001=>if x39 < x38 then (if 0 ≤ x39 then (if x39 < (x37.length : Int) then (if x39 < (x3.length : Int) then ((impl_touch.f x161000 x161001 x161002 x161003 x162000 x162001 ((rd_T62 x3 x39).f0) ((rd_T62 x3 x39).f1) ((rd_T62 x3 x39).f2) ((rd_T62 x3 x39).f3) ((rd_T37 x37 x39).f0) ((rd_T37 x37 x39).f1)).bind fun t165=>(if t165 = true then (some false) else (impl_fits.l0 k x3 x37 x38 (wrap64 (x39 + 1)) x161000 x161001 x161002 x161003 x162000 x162001))) else (none)) else (none)) else (none)) else (some true)
end
def impl_fits.f (k : Nat) (a0 : Int) (a1_0 : Int) (a1_1 : Int) (a1_2 : Int) (a1_3 : Int) (a2_0 : Int) (a2_1 : Int) (l3 : List (S62)) (l4 : List (S37)) : Option (Bool):=if a2_0 < 0 then (impl_fits.j0 k l3 l4 true a1_0 a1_1 a1_2 a1_3 a2_0 a2_1) else (if a2_0 > (wrap64 (a0 - a1_0)) then (impl_fits.j0 k l3 l4 true a1_0 a1_1 a1_2 a1_3 a2_0 a2_1) else (if a2_1 < a1_1 then (impl_fits.j0 k l3 l4 true a1_0 a1_1 a1_2 a1_3 a2_0 a2_1) else (impl_fits.j0 k l3 l4 (decide (a2_1 > 1000)) a1_0 a1_1 a1_2 a1_3 a2_0 a2_1)))
def impl_fits.T6 : Bool × List (List Nat × List Nat):=(true,[([],[]),([],[]),([],[]),([],[]),([2,3],[2,3]),([4],[4]),([],[]),([0,1,5,6],[0,1,5,6])])
def impl_fits.B6 : List Nat:=[0,0,0,0,12,28,0,127]
theorem impl_fits.tab6 : rtab .any (opsOf Try.f53 6) = impl_fits.T6:=by kernel_rfl
theorem impl_fits.bits6 : waitsOk impl_fits.T6.2 impl_fits.B6 = true:=by kernel_rfl
set_option maxHeartbeats 8000000 in
set_option maxRecDepth 100000 in
theorem impl_fits.calls (k : Nat) (a0 : Int) (a1_0 : Int) (a1_1 : Int) (a1_2 : Int) (a1_3 : Int) (a2_0 : Int) (a2_1 : Int) (A3 : Option Addr) (c3 : Nat) (l3 : List (S62)) (A4 : Option Addr) (c4 : Nat) (l4 : List (S37)) (r : Bool) (w : World) (hr3 : Kd.C k62 w A3 l3.length l3) (hc3 : l3.length ≤ c3) (hr4 : Kd.C k37 w A4 l4.length l4) (hc4 : l4.length ≤ c4) (h : impl_fits.f k a0 a1_0 a1_1 a1_2 a1_3 a2_0 a2_1 l3 l4 = some r) :
  Calls Try.prog 53 #[.int .i64 a0,.agg #[.int .i64 a1_0,.int .i64 a1_1,.int .i64 a1_2,.int .i64 a1_3],.agg #[.int .i64 a2_0,.int .i64 a2_1],.slice A3 l3.length c3,.slice A4 l4.length c4] w fun e w'=>e = .returned (.bool r) ∧ Below w.heap.size w w':=by
 have hu62:=Try.underlying62
 have hu37:=Try.underlying37
 have HR3:=zM hr3
 have HC3:=zM hc3
 clear hr3 hc3
 have HR4:=zM hr4
 have HC4:=zM hc4
 clear hr4 hc4
 have HB:=zM (Below.refl w.heap.size w)
 have H : (if a2_0 < 0 then (impl_fits.j0 k l3 l4 true a1_0 a1_1 a1_2 a1_3 a2_0 a2_1) else (if a2_0 > (wrap64 (a0 - a1_0)) then (impl_fits.j0 k l3 l4 true a1_0 a1_1 a1_2 a1_3 a2_0 a2_1) else (if a2_1 < a1_1 then (impl_fits.j0 k l3 l4 true a1_0 a1_1 a1_2 a1_3 a2_0 a2_1) else (impl_fits.j0 k l3 l4 (decide (a2_1 > 1000)) a1_0 a1_1 a1_2 a1_3 a2_0 a2_1)))) = some r:=h
 clear h
 have HC6:=zM H
 clear H
 go_enter Try.func53,Try.ntmps53
 go_upto_region 1 with (first|((with_reducible refine gate_dst (N:=6) rfl ?_);refine box_event ?hg (N:=6) ?hd (cs := #[.int .i64 a1_0,.int .i64 a1_1,.int .i64 a1_2,.int .i64 a1_3]) (t:=62) ?hr ?_;(case hd=>rfl);(case hg=>rfl);(case hr=>first|(go_simp;done)|(go_simp;rfl));intro gb160 hg w7 hbox hb;have n0_:=zM (zQ (by repeat (first|(with_reducible first|exact HB.out|apply zD|apply zE|apply zF)|exact HB.out)) hb);have n1_:=zM (hbox);have n2_:=zM ((by rw [hg];exact (zR (by repeat (first|(with_reducible first|exact HB.out|apply zD|apply zE|apply zF)|exact HB.out))) : w.heap.size ≤ gb160));have n3_:=zM ((by rw [hg];exact (zR (by repeat (first|(with_reducible first|exact HB.out|apply zD|apply zE|apply zF)|exact HB.out))) : w.heap.size ≤ gb160));clear HB;have HB:=n0_;have BK160:=n1_;have GW160:=n2_;have GE160:=n3_;clear n0_ n1_ n2_ n3_;clear hb hbox hg)|((with_reducible refine gate_dst (N:=7) rfl ?_);refine box_event ?hg (N:=7) ?hd (cs := #[.int .i64 a2_0,.int .i64 a2_1]) (t:=37) ?hr ?_;(case hd=>rfl);(case hg=>rfl);(case hr=>first|(go_simp;done)|(go_simp;rfl));intro gb161 hg w8 hbox hb;have n0_:=zM (blk_below (g:=gb160) (o := .cells #[.int .i64 a1_0,.int .i64 a1_1,.int .i64 a1_2,.int .i64 a1_3] 62 (0,0)) (by (with_reducible repeat (first|refine zJ ?_ _|refine zK ?_|refine zL ?_ _));exact BK160.out) hb);have n1_:=zM (zQ (by repeat (first|(with_reducible first|exact HB.out|apply zD|apply zE|apply zF|refine below_set ?_ GE160.out)|exact HB.out)) hb);have n2_:=zM (hbox);have n3_:=zM ((by rw [hg];exact (zR (by repeat (first|(with_reducible first|exact HB.out|apply zD|apply zE|apply zF|refine below_set ?_ GE160.out)|exact HB.out))) : w.heap.size ≤ gb161));have n4_:=zM ((by rw [hg];exact (zR (by repeat (first|(with_reducible first|exact HB.out|apply zD|apply zE|apply zF|refine below_set ?_ GE160.out)|exact HB.out))) : w.heap.size ≤ gb161));have n5_:=zM ((by rw [hg];exact Nat.ne_of_lt (blk_lt (g:=gb160) (o := .cells #[.int .i64 a1_0,.int .i64 a1_1,.int .i64 a1_2,.int .i64 a1_3] 62 (0,0)) (by (with_reducible repeat (first|refine zJ ?_ _|refine zK ?_|refine zL ?_ _));exact BK160.out)) : gb160 ≠ gb161));have n6_:=zM ((by rw [hg];exact Nat.ne_of_gt (blk_lt (g:=gb160) (o := .cells #[.int .i64 a1_0,.int .i64 a1_1,.int .i64 a1_2,.int .i64 a1_3] 62 (0,0)) (by (with_reducible repeat (first|refine zJ ?_ _|refine zK ?_|refine zL ?_ _));exact BK160.out)) : gb161 ≠ gb160));clear BK160;clear HB;have BK160:=n0_;have HB:=n1_;have BK161:=n2_;have GW161:=n3_;have GE161:=n4_;have NB160_161:=n5_;have NB161_160:=n6_;clear n0_ n1_ n2_ n3_ n4_ n5_ n6_;clear hb hbox hg))
 (try simp only [Act.put,List.setIfInBounds_toArray,List.set_cons_zero,List.set_cons_succ])
 go_cut [36] (fun v36 wc => ∃ (kq : Nat) (x36_5 : Bool),v36 = .bool x36_5 ∧ Aside0 (impl_fits.j0 kq l3 l4 x36_5 a1_0 a1_1 a1_2 a1_3 a2_0 a2_1 = some r) ∧ Aside0 (kq ≤ k) ∧ Aside0 (wc.heap[gb160]? = some (.cells #[.int .i64 a1_0,.int .i64 a1_1,.int .i64 a1_2,.int .i64 a1_3] 62 (0,0))) ∧ Aside0 (wc.heap[gb161]? = some (.cells #[.int .i64 a2_0,.int .i64 a2_1] 37 (0,0))) ∧ Aside0 (Below w.heap.size w wc))
 case first =>
  have H:=HC6.out
  clear HC6
  by_cases c9 : a2_0 < 0
  ·rw [if_pos c9] at H
   have c9b0 : decide (a2_0 < 0) = true:=decide_eq_true c9
   clear c9
   (first|rw [c9b0]|(simp only [i64_w,i32_w];rw [c9b0])|skip)
   have H':=zM H
   clear H
   have hnb10:=NB161_160.out
   have hnc10:=NB160_161.out
   have hcz11_0 : w8.cell? ⟨gb161,0,none⟩ = some (.int .i64 a2_0):=(blk_cell BK161.out 0).trans rfl
   have hcz11_1 : w8.cell? ⟨gb161,1,none⟩ = some (.int .i64 a2_1):=(blk_cell BK161.out 1).trans rfl
   have hfz11_0:=blk_frozen BK161.out 0
   have hfz11_1:=blk_frozen BK161.out 1
   go_wp2
   go_meet
   case rel=>exact ⟨_,(true),(by first|rfl|(simp;done)|(simp [*];done)),H',⟨by first|omega|exact Nat.le_refl _⟩,⟨by (with_reducible repeat (first|refine zJ ?_ _|refine zK ?_|refine zL ?_ _));exact BK160.out⟩,⟨by (with_reducible repeat (first|refine zJ ?_ _|refine zK ?_|refine zL ?_ _));exact BK161.out⟩,⟨by repeat (first|(with_reducible first|exact HB.out|apply zD|apply zE|apply zF|refine below_set ?_ GE160.out|refine below_set ?_ GE161.out)|exact HB.out)⟩⟩
  ·rw [if_neg c9] at H
   have c9b0 : decide (a2_0 < 0) = false:=decide_eq_false c9
   clear c9
   (first|rw [c9b0]|(simp only [i64_w,i32_w];rw [c9b0])|skip)
   by_cases c12 : a2_0 > (wrap64 (a0 - a1_0))
   ·rw [if_pos c12] at H
    have c12b0 : decide ((wrap64 (a0 - a1_0)) < a2_0) = true:=decide_eq_true c12
    clear c12
    have H':=zM H
    clear H
    have hnb13:=NB161_160.out
    have hnc13:=NB160_161.out
    have hcz14_0 : w8.cell? ⟨gb161,0,none⟩ = some (.int .i64 a2_0):=(blk_cell BK161.out 0).trans rfl
    have hcz14_1 : w8.cell? ⟨gb161,1,none⟩ = some (.int .i64 a2_1):=(blk_cell BK161.out 1).trans rfl
    have hfz14_0:=blk_frozen BK161.out 0
    have hfz14_1:=blk_frozen BK161.out 1
    have hcz15_0 : w8.cell? ⟨gb160,0,none⟩ = some (.int .i64 a1_0):=(blk_cell BK160.out 0).trans rfl
    have hcz15_1 : w8.cell? ⟨gb160,1,none⟩ = some (.int .i64 a1_1):=(blk_cell BK160.out 1).trans rfl
    have hcz15_2 : w8.cell? ⟨gb160,2,none⟩ = some (.int .i64 a1_2):=(blk_cell BK160.out 2).trans rfl
    have hcz15_3 : w8.cell? ⟨gb160,3,none⟩ = some (.int .i64 a1_3):=(blk_cell BK160.out 3).trans rfl
    have hfz15_0:=blk_frozen BK160.out 0
    have hfz15_1:=blk_frozen BK160.out 1
    have hfz15_2:=blk_frozen BK160.out 2
    have hfz15_3:=blk_frozen BK160.out 3
    go_wp2
    go_meet
    case rel=>exact ⟨_,(true),(by first|rfl|(simp;done)|(simp [*];done)),H',⟨by first|omega|exact Nat.le_refl _⟩,⟨by (with_reducible repeat (first|refine zJ ?_ _|refine zK ?_|refine zL ?_ _));exact BK160.out⟩,⟨by (with_reducible repeat (first|refine zJ ?_ _|refine zK ?_|refine zL ?_ _));exact BK161.out⟩,⟨by repeat (first|(with_reducible first|exact HB.out|apply zD|apply zE|apply zF|refine below_set ?_ GE160.out|refine below_set ?_ GE161.out)|exact HB.out)⟩⟩
   ·rw [if_neg c12] at H
    have c12b0 : decide ((wrap64 (a0 - a1_0)) < a2_0) = false:=decide_eq_false c12
    clear c12
    by_cases c16 : a2_1 < a1_1
    ·rw [if_pos c16] at H
     have c16b0 : decide (a2_1 < a1_1) = true:=decide_eq_true c16
     clear c16
     have H':=zM H
     clear H
     have hnb17:=NB161_160.out
     have hnc17:=NB160_161.out
     have hcz18_0 : w8.cell? ⟨gb161,0,none⟩ = some (.int .i64 a2_0):=(blk_cell BK161.out 0).trans rfl
     have hcz18_1 : w8.cell? ⟨gb161,1,none⟩ = some (.int .i64 a2_1):=(blk_cell BK161.out 1).trans rfl
     have hfz18_0:=blk_frozen BK161.out 0
     have hfz18_1:=blk_frozen BK161.out 1
     have hcz19_0 : w8.cell? ⟨gb160,0,none⟩ = some (.int .i64 a1_0):=(blk_cell BK160.out 0).trans rfl
     have hcz19_1 : w8.cell? ⟨gb160,1,none⟩ = some (.int .i64 a1_1):=(blk_cell BK160.out 1).trans rfl
     have hcz19_2 : w8.cell? ⟨gb160,2,none⟩ = some (.int .i64 a1_2):=(blk_cell BK160.out 2).trans rfl
     have hcz19_3 : w8.cell? ⟨gb160,3,none⟩ = some (.int .i64 a1_3):=(blk_cell BK160.out 3).trans rfl
     have hfz19_0:=blk_frozen BK160.out 0
     have hfz19_1:=blk_frozen BK160.out 1
     have hfz19_2:=blk_frozen BK160.out 2
     have hfz19_3:=blk_frozen BK160.out 3
     go_wp2
     go_meet
     case rel=>exact ⟨_,(true),(by first|rfl|(simp;done)|(simp [*];done)),H',⟨by first|omega|exact Nat.le_refl _⟩,⟨by (with_reducible repeat (first|refine zJ ?_ _|refine zK ?_|refine zL ?_ _));exact BK160.out⟩,⟨by (with_reducible repeat (first|refine zJ ?_ _|refine zK ?_|refine zL ?_ _));exact BK161.out⟩,⟨by repeat (first|(with_reducible first|exact HB.out|apply zD|apply zE|apply zF|refine below_set ?_ GE160.out|refine below_set ?_ GE161.out)|exact HB.out)⟩⟩
    ·rw [if_neg c16] at H
     have c16b0 : decide (a2_1 < a1_1) = false:=decide_eq_false c16
     clear c16
     have H':=zM H
     clear H
     have hnb20:=NB161_160.out
     have hnc20:=NB160_161.out
     have hcz21_0 : w8.cell? ⟨gb161,0,none⟩ = some (.int .i64 a2_0):=(blk_cell BK161.out 0).trans rfl
     have hcz21_1 : w8.cell? ⟨gb161,1,none⟩ = some (.int .i64 a2_1):=(blk_cell BK161.out 1).trans rfl
     have hfz21_0:=blk_frozen BK161.out 0
     have hfz21_1:=blk_frozen BK161.out 1
     have hcz22_0 : w8.cell? ⟨gb160,0,none⟩ = some (.int .i64 a1_0):=(blk_cell BK160.out 0).trans rfl
     have hcz22_1 : w8.cell? ⟨gb160,1,none⟩ = some (.int .i64 a1_1):=(blk_cell BK160.out 1).trans rfl
     have hcz22_2 : w8.cell? ⟨gb160,2,none⟩ = some (.int .i64 a1_2):=(blk_cell BK160.out 2).trans rfl
     have hcz22_3 : w8.cell? ⟨gb160,3,none⟩ = some (.int .i64 a1_3):=(blk_cell BK160.out 3).trans rfl
     have hfz22_0:=blk_frozen BK160.out 0
     have hfz22_1:=blk_frozen BK160.out 1
     have hfz22_2:=blk_frozen BK160.out 2
     have hfz22_3:=blk_frozen BK160.out 3
     go_wp2
     go_meet
     case rel=>exact ⟨_,(decide (a2_1 > 1000)),(by first|rfl|(simp;done)|(simp [*];done)),H',⟨by first|omega|exact Nat.le_refl _⟩,⟨by (with_reducible repeat (first|refine zJ ?_ _|refine zK ?_|refine zL ?_ _));exact BK160.out⟩,⟨by (with_reducible repeat (first|refine zJ ?_ _|refine zK ?_|refine zL ?_ _));exact BK161.out⟩,⟨by repeat (first|(with_reducible first|exact HB.out|apply zD|apply zE|apply zF|refine below_set ?_ GE160.out|refine below_set ?_ GE161.out)|exact HB.out)⟩⟩
 case rest =>
  clear HC6
  try clear c1
  try clear c2
  try clear p2
  try clear c3
  try clear c4
  try clear c5
  try clear p6
  try clear c9
  try clear c9b0
  try clear c10
  try clear c12
  try clear c12b0
  try clear c13
  try clear c16
  try clear c16b0
  try clear c17
  try clear c20
  try clear hcz11_0
  try clear hcz11_1
  try clear hcz14_0
  try clear hcz14_1
  try clear hcz15_0
  try clear hcz15_1
  try clear hcz15_2
  try clear hcz15_3
  try clear hcz18_0
  try clear hcz18_1
  try clear hcz19_0
  try clear hcz19_1
  try clear hcz19_2
  try clear hcz19_3
  try clear hcz21_0
  try clear hcz21_1
  try clear hcz22_0
  try clear hcz22_1
  try clear hcz22_2
  try clear hcz22_3
  try clear hfz11_0
  try clear hfz11_1
  try clear hfz14_0
  try clear hfz14_1
  try clear hfz15_0
  try clear hfz15_1
  try clear hfz15_2
  try clear hfz15_3
  try clear hfz18_0
  try clear hfz18_1
  try clear hfz19_0
  try clear hfz19_1
  try clear hfz19_2
  try clear hfz19_3
  try clear hfz21_0
  try clear hfz21_1
  try clear hfz22_0
  try clear hfz22_1
  try clear hfz22_2
  try clear hfz22_3
  obtain ⟨kq,x36_5,rfl,HA,HJ5,BK160,BK161,HB⟩:=hcut
  cases kq with
  | zero=>exact absurd HA.out (by simp [impl_fits.j0])
  | succ kj5 =>
   have H:=HA.out
   clear HA
   simp only [impl_fits.j0] at H
   by_cases c23 : x36_5 = true
   ·subst c23
    have H1 : (some false) = some r:=by rw [if_pos rfl] at H;exact H
    clear H
    have H:=H1
    clear H1
    obtain rfl:=Option.some.inj H
    go_wp2
    go_ret
    exact ⟨by first|rfl|(simp [errW_none,errW_some] <;> rfl)|(simp [*,errW_none,errW_some] <;> rfl),by repeat (first|(with_reducible first|exact HB.out|apply zD|apply zE|apply zF|refine below_set ?_ GE160.out|refine below_set ?_ GE161.out)|exact HB.out)⟩
   ·replace c23:=Bool.eq_false_iff.mpr c23
    subst c23
    have H1 : (impl_fits.l0 kj5 l3 l4 (l4.length : Int) 0 a1_0 a1_1 a1_2 a1_3 a2_0 a2_1) = some r:=by rw [if_neg (show ¬ (false = true) by decide)] at H;exact H
    clear H
    have H:=H1
    clear H1
    have H':=zM H
    clear H
    go_wp2
    go_loopg [39] kj5 (fun kq v39 w' => ∃ (x39_2 : Int),v39 = .int .i64 x39_2 ∧ Aside0 (impl_fits.l0 kq l3 l4 (l4.length : Int) x39_2 a1_0 a1_1 a1_2 a1_3 a2_0 a2_1 = some r) ∧ Aside0 (kq ≤ kj5) ∧ Aside0 (w'.heap[gb160]? = some (.cells #[.int .i64 a1_0,.int .i64 a1_1,.int .i64 a1_2,.int .i64 a1_3] 62 (0,0))) ∧ Aside0 (w'.heap[gb161]? = some (.cells #[.int .i64 a2_0,.int .i64 a2_1] 37 (0,0))) ∧ Aside0 (Below w.heap.size w w'))
    case atStart=>exact ⟨(0),(by first|rfl|(simp;done)|(simp [*];done)),H',⟨Nat.le_refl _⟩,⟨by (with_reducible repeat (first|refine zJ ?_ _|refine zK ?_|refine zL ?_ _));exact BK160.out⟩,⟨by (with_reducible repeat (first|refine zJ ?_ _|refine zK ?_|refine zL ?_ _));exact BK161.out⟩,⟨by repeat (first|(with_reducible first|exact HB.out|apply zD|apply zE|apply zF|refine below_set ?_ GE160.out|refine below_set ?_ GE161.out)|exact HB.out)⟩⟩
    case round =>
     clear H'
     try clear c1
     try clear c2
     try clear p2
     try clear c3
     try clear c4
     try clear c5
     try clear p6
     try clear c9
     try clear c9b0
     try clear c10
     try clear c12
     try clear c12b0
     try clear c13
     try clear c16
     try clear c16b0
     try clear c17
     try clear c20
     try clear c23
     try clear hcz11_0
     try clear hcz11_1
     try clear hcz14_0
     try clear hcz14_1
     try clear hcz15_0
     try clear hcz15_1
     try clear hcz15_2
     try clear hcz15_3
     try clear hcz18_0
     try clear hcz18_1
     try clear hcz19_0
     try clear hcz19_1
     try clear hcz19_2
     try clear hcz19_3
     try clear hcz21_0
     try clear hcz21_1
     try clear hcz22_0
     try clear hcz22_1
     try clear hcz22_2
     try clear hcz22_3
     try clear hfz11_0
     try clear hfz11_1
     try clear hfz14_0
     try clear hfz14_1
     try clear hfz15_0
     try clear hfz15_1
     try clear hfz15_2
     try clear hfz15_3
     try clear hfz18_0
     try clear hfz18_1
     try clear hfz19_0
     try clear hfz19_1
     try clear hfz19_2
     try clear hfz19_3
     try clear hfz21_0
     try clear hfz21_1
     try clear hfz22_0
     try clear hfz22_1
     try clear hfz22_2
     try clear hfz22_3
     try clear p2
     try clear p6
     obtain ⟨x39_2,rfl,HA,HK2,BK160,BK161,HB⟩:=hrel
     cases gk with
     | zero=>exact absurd HA.out (by simp [impl_fits.l0])
     | succ k2 =>
      have H:=HA.out
      clear HA
      simp only [impl_fits.l0] at H
      by_cases c24 : x39_2 < (l4.length : Int)
      ·rw [if_pos c24] at H
       have c24b0 : decide (x39_2 < (l4.length : Int)) = true:=decide_eq_true c24
       clear c24
       by_cases c25 : 0 ≤ x39_2
       ·rw [if_pos c25] at H
        have c25b0 : decide (0 ≤ x39_2) = true:=decide_eq_true c25
        clear c25
        by_cases c26 : x39_2 < (l4.length : Int)
        ·rw [if_pos c26] at H
         have c26b0 : decide (x39_2 < (l4.length : Int)) = true:=decide_eq_true c26
         clear c26
         by_cases c27 : x39_2 < (l3.length : Int)
         ·rw [if_pos c27] at H
          have c27b0 : decide (x39_2 < (l3.length : Int)) = true:=decide_eq_true c27
          clear c27
          replace H:=Option.bind_eq_some_iff.mp H
          obtain ⟨t165,A280,H⟩:=H
          replace H : (if t165 = true then (some false) else (impl_fits.l0 k2 l3 l4 (l4.length : Int) (wrap64 (x39_2 + 1)) a1_0 a1_1 a1_2 a1_3 a2_0 a2_1)) = some r:=H
          have A28:=zM A280
          clear A280
          by_cases c29 : t165 = true
          ·subst c29
           have H1 : (some false) = some r:=by rw [if_pos rfl] at H;exact H
           clear H
           have H:=H1
           clear H1
           obtain rfl:=Option.some.inj H
           have p162 : 0 ≤ (x39_2 : Int):=of_decide_eq_true (by first|(with_reducible assumption)|assumption)
           have q162 : x39_2 < (l4.length : Int):=of_decide_eq_true (by first|(with_reducible assumption)|assumption)
           obtain ⟨ad162,e162,hx162_0,hx162_1⟩:=at_T37 HR4.out x39_2 p162 q162
           cases e162
           replace hx162_0:=(HB.out.cell (World.block_lt_of_cell? w _ hx162_0)).trans hx162_0
           replace hx162_1:=(HB.out.cell (World.block_lt_of_cell? w _ hx162_1)).trans hx162_1
           replace p162:=eq_true p162
           replace q162:=eq_true q162
           try go_wp2_with (first|((with_reducible refine gate_dst (N:=12) rfl ?_);refine box_event ?hg (N:=12) ?hd (cs := #[.int .i64 0,.int .i64 0]) (t:=37) ?hr ?_;(case hd=>rfl);(case hg=>rfl);(case hr=>first|(go_simp;done)|(go_simp;rfl));intro gb163 hg w30 hbox hb;have n0_:=zM (blk_below (g:=gb160) (o := .cells #[.int .i64 a1_0,.int .i64 a1_1,.int .i64 a1_2,.int .i64 a1_3] 62 (0,0)) (by (with_reducible repeat (first|refine zJ ?_ _|refine zK ?_|refine zL ?_ _));exact BK160.out) hb);have n1_:=zM (blk_below (g:=gb161) (o := .cells #[.int .i64 a2_0,.int .i64 a2_1] 37 (0,0)) (by (with_reducible repeat (first|refine zJ ?_ _|refine zK ?_|refine zL ?_ _));exact BK161.out) hb);have n2_:=zM (zQ (by repeat (first|(with_reducible first|exact HB.out|apply zD|apply zE|apply zF|refine below_set ?_ GE160.out|refine below_set ?_ GE161.out)|exact HB.out)) hb);have n3_:=zM (hbox);have n4_:=zM ((by rw [hg];exact (zR (by repeat (first|(with_reducible first|exact HB.out|apply zD|apply zE|apply zF|refine below_set ?_ GE160.out|refine below_set ?_ GE161.out)|exact HB.out))) : w.heap.size ≤ gb163));have n5_:=zM ((by rw [hg];exact (zR (by repeat (first|(with_reducible first|exact HB.out|apply zD|apply zE|apply zF|refine below_set ?_ GE160.out|refine below_set ?_ GE161.out)|exact HB.out))) : w.heap.size ≤ gb163));have n6_:=zM ((by rw [hg];exact Nat.ne_of_lt (blk_lt (g:=gb160) (o := .cells #[.int .i64 a1_0,.int .i64 a1_1,.int .i64 a1_2,.int .i64 a1_3] 62 (0,0)) (by (with_reducible repeat (first|refine zJ ?_ _|refine zK ?_|refine zL ?_ _));exact BK160.out)) : gb160 ≠ gb163));have n7_:=zM ((by rw [hg];exact Nat.ne_of_gt (blk_lt (g:=gb160) (o := .cells #[.int .i64 a1_0,.int .i64 a1_1,.int .i64 a1_2,.int .i64 a1_3] 62 (0,0)) (by (with_reducible repeat (first|refine zJ ?_ _|refine zK ?_|refine zL ?_ _));exact BK160.out)) : gb163 ≠ gb160));have n8_:=zM ((by rw [hg];exact Nat.ne_of_lt (blk_lt (g:=gb161) (o := .cells #[.int .i64 a2_0,.int .i64 a2_1] 37 (0,0)) (by (with_reducible repeat (first|refine zJ ?_ _|refine zK ?_|refine zL ?_ _));exact BK161.out)) : gb161 ≠ gb163));have n9_:=zM ((by rw [hg];exact Nat.ne_of_gt (blk_lt (g:=gb161) (o := .cells #[.int .i64 a2_0,.int .i64 a2_1] 37 (0,0)) (by (with_reducible repeat (first|refine zJ ?_ _|refine zK ?_|refine zL ?_ _));exact BK161.out)) : gb163 ≠ gb161));clear BK160;clear BK161;clear HB;have BK160:=n0_;have BK161:=n1_;have HB:=n2_;have BK163:=n3_;have GW163:=n4_;have GE163:=n5_;have NB160_163:=n6_;have NB163_160:=n7_;have NB161_163:=n8_;have NB163_161:=n9_;clear n0_ n1_ n2_ n3_ n4_ n5_ n6_ n7_ n8_ n9_;clear hb hbox hg;have hnb31:=NB163_160.out;have hnc31:=NB160_163.out;have hnb32:=NB163_161.out;have hnc32:=NB161_163.out;have hcz33_0 : w30.cell? ⟨gb163,0,none⟩ = some (.int .i64 0):=(blk_cell BK163.out 0).trans rfl;have hcz33_1 : w30.cell? ⟨gb163,1,none⟩ = some (.int .i64 0):=(blk_cell BK163.out 1).trans rfl;have hfz33_0:=blk_frozen BK163.out 0;have hfz33_1:=blk_frozen BK163.out 1))
           have n0_ : Aside0 (((w30.setCell ⟨gb163,0,none⟩ (.int .i64 ((rd_T37 l4 x39_2).f0))).setCell ⟨gb163,1,none⟩ (.int .i64 ((rd_T37 l4 x39_2).f1))).heap[gb160]? = some (.cells #[.int .i64 a1_0,.int .i64 a1_1,.int .i64 a1_2,.int .i64 a1_3] 62 (0,0))):=⟨by (with_reducible repeat (first|refine zJ ?_ _|refine zK ?_|refine zL ?_ _));refine blk_far ?_ NB160_163.out _;(with_reducible repeat (first|refine zJ ?_ _|refine zK ?_|refine zL ?_ _));refine blk_far ?_ NB160_163.out _;(with_reducible repeat (first|refine zJ ?_ _|refine zK ?_|refine zL ?_ _));exact BK160.out⟩
           have n1_ : Aside0 (((w30.setCell ⟨gb163,0,none⟩ (.int .i64 ((rd_T37 l4 x39_2).f0))).setCell ⟨gb163,1,none⟩ (.int .i64 ((rd_T37 l4 x39_2).f1))).heap[gb161]? = some (.cells #[.int .i64 a2_0,.int .i64 a2_1] 37 (0,0))):=⟨by (with_reducible repeat (first|refine zJ ?_ _|refine zK ?_|refine zL ?_ _));refine blk_far ?_ NB161_163.out _;(with_reducible repeat (first|refine zJ ?_ _|refine zK ?_|refine zL ?_ _));refine blk_far ?_ NB161_163.out _;(with_reducible repeat (first|refine zJ ?_ _|refine zK ?_|refine zL ?_ _));exact BK161.out⟩
           have n2_ : Aside0 (((w30.setCell ⟨gb163,0,none⟩ (.int .i64 ((rd_T37 l4 x39_2).f0))).setCell ⟨gb163,1,none⟩ (.int .i64 ((rd_T37 l4 x39_2).f1))).heap[gb163]? = some (.cells #[.int .i64 ((rd_T37 l4 x39_2).f0),.int .i64 ((rd_T37 l4 x39_2).f1)] 37 (0,0))):=⟨by (with_reducible repeat (first|refine zJ ?_ _|refine zK ?_|refine zL ?_ _));refine blk_put (cs := #[.int .i64 ((rd_T37 l4 x39_2).f0),.int .i64 0]) ?_ 1 _ rfl;(with_reducible repeat (first|refine zJ ?_ _|refine zK ?_|refine zL ?_ _));refine blk_put (cs := #[.int .i64 0,.int .i64 0]) ?_ 0 _ rfl;(with_reducible repeat (first|refine zJ ?_ _|refine zK ?_|refine zL ?_ _));exact BK163.out⟩
           have n3_ : Aside0 (Below w.heap.size w ((w30.setCell ⟨gb163,0,none⟩ (.int .i64 ((rd_T37 l4 x39_2).f0))).setCell ⟨gb163,1,none⟩ (.int .i64 ((rd_T37 l4 x39_2).f1)))):=⟨by repeat (first|(with_reducible first|exact HB.out|apply zD|apply zE|apply zF|refine below_set ?_ GE160.out|refine below_set ?_ GE161.out|refine below_set ?_ GE163.out)|exact HB.out)⟩
           (try clear BK160)
           (try clear BK161)
           (try clear BK163)
           (try clear HB)
           generalize ((w30.setCell ⟨gb163,0,none⟩ (.int .i64 ((rd_T37 l4 x39_2).f0))).setCell ⟨gb163,1,none⟩ (.int .i64 ((rd_T37 l4 x39_2).f1))) = w34 at n0_ n1_ n2_ n3_ ⊢
           have BK160:=n0_
           have BK161:=n1_
           have BK163:=n2_
           have HB:=n3_
           clear n0_ n1_ n2_ n3_
           have n0_:=zM (zK BK160.out)
           have n1_:=zM (zK BK161.out)
           have n2_:=zM (zK BK163.out)
           have n3_:=zM (zF HB.out)
           clear BK160
           clear BK161
           clear BK163
           clear HB
           have BK160:=n0_
           have BK161:=n1_
           have BK163:=n2_
           have HB:=n3_
           clear n0_ n1_ n2_ n3_
           have p164 : 0 ≤ (x39_2 : Int):=of_decide_eq_true (by first|(with_reducible assumption)|assumption)
           have q164 : x39_2 < (l3.length : Int):=of_decide_eq_true (by first|(with_reducible assumption)|assumption)
           obtain ⟨ad164,e164,hx164_0,hx164_1,hx164_2,hx164_3⟩:=at_T62 HR3.out x39_2 p164 q164
           have hw164_3:=hx164_3
           have hw164_2:=hx164_2
           have hw164_1:=hx164_1
           have hw164_0:=hx164_0
           cases e164
           replace hx164_0:=(HB.out.cell (World.block_lt_of_cell? w _ hx164_0)).trans hx164_0
           replace hx164_1:=(HB.out.cell (World.block_lt_of_cell? w _ hx164_1)).trans hx164_1
           replace hx164_2:=(HB.out.cell (World.block_lt_of_cell? w _ hx164_2)).trans hx164_2
           replace hx164_3:=(HB.out.cell (World.block_lt_of_cell? w _ hx164_3)).trans hx164_3
           replace p164:=eq_true p164
           replace q164:=eq_true q164
           refine start_ (n:=8) (S:=fun w'=>w'.cell? ⟨gb160,0,none⟩ = some (.int .i64 a1_0) ∧ w'.cell? ⟨gb160,1,none⟩ = some (.int .i64 a1_1) ∧ w'.cell? ⟨gb160,2,none⟩ = some (.int .i64 a1_2) ∧ w'.cell? ⟨gb160,3,none⟩ = some (.int .i64 a1_3) ∧ w'.cell? ⟨gb161,0,none⟩ = some (.int .i64 a2_0) ∧ w'.cell? ⟨gb161,1,none⟩ = some (.int .i64 a2_1) ∧ w'.cell? ⟨gb163,0,none⟩ = some (.int .i64 ((rd_T37 l4 x39_2).f0)) ∧ w'.cell? ⟨gb163,1,none⟩ = some (.int .i64 ((rd_T37 l4 x39_2).f1)) ∧ w'.cell? (ad164.add ((x39_2).toNat * 4)) = some (.int .i64 ((rd_T62 l3 x39_2).f0)) ∧ w'.cell? ⟨(ad164.add ((x39_2).toNat * 4)).block,(ad164.add ((x39_2).toNat * 4)).off + 1,none⟩ = some (.int .i64 ((rd_T62 l3 x39_2).f1)) ∧ w'.cell? ⟨(ad164.add ((x39_2).toNat * 4)).block,(ad164.add ((x39_2).toNat * 4)).off + 2,none⟩ = some (.int .i64 ((rd_T62 l3 x39_2).f2)) ∧ w'.cell? ⟨(ad164.add ((x39_2).toNat * 4)).block,(ad164.add ((x39_2).toNat * 4)).off + 3,none⟩ = some (.int .i64 ((rd_T62 l3 x39_2).f3))) (ds:=[]) #[false,false,false,false,false,false,false,false] (by kernel_rfl) rfl rfl ⟨(blk_cell BK160.out 0).trans rfl,(blk_cell BK160.out 1).trans rfl,(blk_cell BK160.out 2).trans rfl,(blk_cell BK160.out 3).trans rfl,(blk_cell BK161.out 0).trans rfl,(blk_cell BK161.out 1).trans rfl,(blk_cell BK163.out 0).trans rfl,(blk_cell BK163.out 1).trans rfl,((HB.out.cell (World.block_lt_of_cell? w _ hw164_0)).trans hw164_0),((HB.out.cell (World.block_lt_of_cell? w _ hw164_1)).trans hw164_1),((HB.out.cell (World.block_lt_of_cell? w _ hw164_2)).trans hw164_2),((HB.out.cell (World.block_lt_of_cell? w _ hw164_3)).trans hw164_3)⟩ (fun hHeld=>?_);refine with_tabW impl_fits.tab6 impl_fits.bits6 (fun HT_ HW_=>?_)
           generalize w34.drew = w35 at BK160 BK161 BK163 HB hx164_0 hx164_1 hx164_2 hx164_3 hHeld ⊢
           refine pure_ (i:=2) (N:=some 46) (v:=?_) (a':=?_) #[false,false,true,false,false,false,false,false] rfl rfl (any_of HT_.out (by kernel_rfl)) (fun _ _ _ h=>h) (Or.inl ⟨by rfl,?_⟩) ?_ ?_
           rotate_left
           ·intro w'
            go_simp
            with_reducible rfl
           rotate_left
           ·simp only [Act.put,List.setIfInBounds_toArray,List.set_cons_zero,List.set_cons_succ,i64_w,i32_w]
            rfl
           refine pure_ (i:=3) (N:=some 47) (v:=?_) (a':=?_) #[false,false,true,true,false,false,false,false] rfl rfl (any_of HT_.out (by kernel_rfl)) (fun _ _ _ h=>h) (Or.inl ⟨by rfl,?_⟩) ?_ ?_
           rotate_left
           ·intro w'
            go_simp
            with_reducible rfl
           rotate_left
           ·simp only [Act.put,List.setIfInBounds_toArray,List.set_cons_zero,List.set_cons_succ,i64_w,i32_w]
            rfl
           refine pure_ (i:=4) (N:=some 48) (v:=?_) (a':=?_) #[false,false,true,true,true,false,false,false] rfl rfl (any_of HT_.out (by kernel_rfl)) (fun _ _ _ h=>h) (Or.inl ⟨by rfl,?_⟩) ?_ ?_
           rotate_left
           ·intro w'
            go_simp
            with_reducible rfl
           rotate_left
           ·simp only [Act.put,List.setIfInBounds_toArray,List.set_cons_zero,List.set_cons_succ,i64_w,i32_w]
            rfl
           refine take_ (i:=0) (N:=some 44) (v:=?_) (a':=?_) #[true,false,true,true,true,false,false,false] rfl rfl (take_ofW HT_.out HW_.out (by kernel_rfl)) (fun _ _ _ h=>h) (Or.inl ⟨by rfl,?_⟩) hHeld ?_ ?_
           rotate_left
           ·rintro w' ⟨s0,s1,s2,s3,s4,s5,s6,s7,s8,s9,s10,s11⟩
            go_simp
            with_reducible rfl
           rotate_left
           ·simp only [Act.put,List.setIfInBounds_toArray,List.set_cons_zero,List.set_cons_succ,i64_w,i32_w]
            rfl
           refine take_ (i:=1) (N:=some 45) (v:=?_) (a':=?_) #[true,true,true,true,true,false,false,false] rfl rfl (take_ofW HT_.out HW_.out (by kernel_rfl)) (fun _ _ _ h=>h) (Or.inl ⟨by rfl,?_⟩) hHeld ?_ ?_
           rotate_left
           ·rintro w' ⟨s0,s1,s2,s3,s4,s5,s6,s7,s8,s9,s10,s11⟩
            go_simp
            with_reducible rfl
           rotate_left
           ·simp only [Act.put,List.setIfInBounds_toArray,List.set_cons_zero,List.set_cons_succ,i64_w,i32_w]
            rfl
           refine take_ (i:=5) (N:=some 49) (v:=?_) (a':=?_) #[true,true,true,true,true,true,false,false] rfl rfl (take_ofW HT_.out HW_.out (by kernel_rfl)) (fun _ _ _ h=>h) (Or.inl ⟨by rfl,?_⟩) hHeld ?_ ?_
           rotate_left
           ·rintro w' ⟨s0,s1,s2,s3,s4,s5,s6,s7,s8,s9,s10,s11⟩
            go_simp
            with_reducible rfl
           rotate_left
           ·simp only [Act.put,List.setIfInBounds_toArray,List.set_cons_zero,List.set_cons_succ,i64_w,i32_w]
            rfl
           refine take_ (i:=6) (N:=some 50) (v:=?_) (a':=?_) #[true,true,true,true,true,true,true,false] rfl rfl (take_ofW HT_.out HW_.out (by kernel_rfl)) (fun _ _ _ h=>h) (Or.inl ⟨by rfl,?_⟩) hHeld ?_ ?_
           rotate_left
           ·rintro w' ⟨s0,s1,s2,s3,s4,s5,s6,s7,s8,s9,s10,s11⟩
            go_simp
            with_reducible rfl
           rotate_left
           ·simp only [Act.put,List.setIfInBounds_toArray,List.set_cons_zero,List.set_cons_succ,i64_w,i32_w]
            rfl
           refine one_ (i:=7) (N:=some 51) #[true,true,true,true,true,true,true,true] rfl rfl (one_of HT_.out (by kernel_rfl)) (by decide) (fun K hK=>?_)
           refine goes_ Try.func79 (by kernel_rfl) rfl #[.agg #[.int .i64 a1_0,.int .i64 a1_1,.int .i64 a1_2,.int .i64 a1_3],.agg #[.int .i64 a2_0,.int .i64 a2_1],.agg #[.int .i64 ((rd_T62 l3 x39_2).f0),.int .i64 ((rd_T62 l3 x39_2).f1),.int .i64 ((rd_T62 l3 x39_2).f2),.int .i64 ((rd_T62 l3 x39_2).f3)],.agg #[.int .i64 ((rd_T37 l4 x39_2).f0),.int .i64 ((rd_T37 l4 x39_2).f1)]] (by rfl) rfl rfl (by (try simp only [List.map_toArray,List.map_cons,List.map_nil]);first|done|rfl|(simp only [List.length_drop,List.length_take];rfl)) ?_
           with_reducible refine (impl_touch.calls a1_0 a1_1 a1_2 a1_3 a2_0 a2_1 ((rd_T62 l3 x39_2).f0) ((rd_T62 l3 x39_2).f1) ((rd_T62 l3 x39_2).f2) ((rd_T62 l3 x39_2).f3) ((rd_T37 l4 x39_2).f0) ((rd_T37 l4 x39_2).f1) true _ A28.out).mono ?_
           rintro e w36 ⟨rfl,hb⟩
           refine ⟨_,rfl,?_⟩
           have n0_:=zM (blk_below (g:=gb160) (o := .cells #[.int .i64 a1_0,.int .i64 a1_1,.int .i64 a1_2,.int .i64 a1_3] 62 (0,0)) (by (with_reducible repeat (first|refine zJ ?_ _|refine zK ?_|refine zL ?_ _));exact BK160.out) hb)
           have n1_:=zM (blk_below (g:=gb161) (o := .cells #[.int .i64 a2_0,.int .i64 a2_1] 37 (0,0)) (by (with_reducible repeat (first|refine zJ ?_ _|refine zK ?_|refine zL ?_ _));exact BK161.out) hb)
           have n2_:=zM (blk_below (g:=gb163) (o := .cells #[.int .i64 ((rd_T37 l4 x39_2).f0),.int .i64 ((rd_T37 l4 x39_2).f1)] 37 (0,0)) (by (with_reducible repeat (first|refine zJ ?_ _|refine zK ?_|refine zL ?_ _));exact BK163.out) hb)
           have n3_:=zM (zQ (by repeat (first|(with_reducible first|exact HB.out|apply zD|apply zE|apply zF|refine below_set ?_ GE160.out|refine below_set ?_ GE161.out|refine below_set ?_ GE163.out)|exact HB.out)) hb)
           clear BK160
           clear BK161
           clear BK163
           clear HB
           have BK160:=n0_
           have BK161:=n1_
           have BK163:=n2_
           have HB:=n3_
           clear n0_ n1_ n2_ n3_
           (try clear hb)
           (try clear hb2)
           (try clear hk)
           (try clear hi)
           refine hK.out _ _ ⟨(blk_cell BK160.out 0).trans rfl,(blk_cell BK160.out 1).trans rfl,(blk_cell BK160.out 2).trans rfl,(blk_cell BK160.out 3).trans rfl,(blk_cell BK161.out 0).trans rfl,(blk_cell BK161.out 1).trans rfl,(blk_cell BK163.out 0).trans rfl,(blk_cell BK163.out 1).trans rfl,((HB.out.cell (World.block_lt_of_cell? w _ hw164_0)).trans hw164_0),((HB.out.cell (World.block_lt_of_cell? w _ hw164_1)).trans hw164_1),((HB.out.cell (World.block_lt_of_cell? w _ hw164_2)).trans hw164_2),((HB.out.cell (World.block_lt_of_cell? w _ hw164_3)).trans hw164_3)⟩ (fun hHeld=>?_)
           clear hK K
           refine norm_ (a':=?_) ?_ ?_
           rotate_left
           ·show Act.put _ (some 51) _ = _
            simp only [Act.put,List.setIfInBounds_toArray,List.set_cons_zero,List.set_cons_succ,i64_w,i32_w]
            rfl
           refine done_ (done_of HT_.out (by kernel_rfl)) ?_
           try go_wp2
           go_ret
           exact ⟨by first|rfl|(simp [errW_none,errW_some] <;> rfl)|(simp [*,errW_none,errW_some] <;> rfl),by repeat (first|(with_reducible first|exact HB.out|apply zD|apply zE|apply zF|refine below_set ?_ GE160.out|refine below_set ?_ GE161.out|refine below_set ?_ GE163.out)|exact HB.out)⟩
          ·replace c29:=Bool.eq_false_iff.mpr c29
           subst c29
           have H1 : (impl_fits.l0 k2 l3 l4 (l4.length : Int) (wrap64 (x39_2 + 1)) a1_0 a1_1 a1_2 a1_3 a2_0 a2_1) = some r:=by rw [if_neg (show ¬ (false = true) by decide)] at H;exact H
           clear H
           have H:=H1
           clear H1
           have H':=zM H
           clear H
           have p162 : 0 ≤ (x39_2 : Int):=of_decide_eq_true (by first|(with_reducible assumption)|assumption)
           have q162 : x39_2 < (l4.length : Int):=of_decide_eq_true (by first|(with_reducible assumption)|assumption)
           obtain ⟨ad162,e162,hx162_0,hx162_1⟩:=at_T37 HR4.out x39_2 p162 q162
           cases e162
           replace hx162_0:=(HB.out.cell (World.block_lt_of_cell? w _ hx162_0)).trans hx162_0
           replace hx162_1:=(HB.out.cell (World.block_lt_of_cell? w _ hx162_1)).trans hx162_1
           replace p162:=eq_true p162
           replace q162:=eq_true q162
           try go_wp2_with (first|((with_reducible refine gate_dst (N:=12) rfl ?_);refine box_event ?hg (N:=12) ?hd (cs := #[.int .i64 0,.int .i64 0]) (t:=37) ?hr ?_;(case hd=>rfl);(case hg=>rfl);(case hr=>first|(go_simp;done)|(go_simp;rfl));intro gb163 hg w37 hbox hb;have n0_:=zM (blk_below (g:=gb160) (o := .cells #[.int .i64 a1_0,.int .i64 a1_1,.int .i64 a1_2,.int .i64 a1_3] 62 (0,0)) (by (with_reducible repeat (first|refine zJ ?_ _|refine zK ?_|refine zL ?_ _));exact BK160.out) hb);have n1_:=zM (blk_below (g:=gb161) (o := .cells #[.int .i64 a2_0,.int .i64 a2_1] 37 (0,0)) (by (with_reducible repeat (first|refine zJ ?_ _|refine zK ?_|refine zL ?_ _));exact BK161.out) hb);have n2_:=zM (zQ (by repeat (first|(with_reducible first|exact HB.out|apply zD|apply zE|apply zF|refine below_set ?_ GE160.out|refine below_set ?_ GE161.out)|exact HB.out)) hb);have n3_:=zM (hbox);have n4_:=zM ((by rw [hg];exact (zR (by repeat (first|(with_reducible first|exact HB.out|apply zD|apply zE|apply zF|refine below_set ?_ GE160.out|refine below_set ?_ GE161.out)|exact HB.out))) : w.heap.size ≤ gb163));have n5_:=zM ((by rw [hg];exact (zR (by repeat (first|(with_reducible first|exact HB.out|apply zD|apply zE|apply zF|refine below_set ?_ GE160.out|refine below_set ?_ GE161.out)|exact HB.out))) : w.heap.size ≤ gb163));have n6_:=zM ((by rw [hg];exact Nat.ne_of_lt (blk_lt (g:=gb160) (o := .cells #[.int .i64 a1_0,.int .i64 a1_1,.int .i64 a1_2,.int .i64 a1_3] 62 (0,0)) (by (with_reducible repeat (first|refine zJ ?_ _|refine zK ?_|refine zL ?_ _));exact BK160.out)) : gb160 ≠ gb163));have n7_:=zM ((by rw [hg];exact Nat.ne_of_gt (blk_lt (g:=gb160) (o := .cells #[.int .i64 a1_0,.int .i64 a1_1,.int .i64 a1_2,.int .i64 a1_3] 62 (0,0)) (by (with_reducible repeat (first|refine zJ ?_ _|refine zK ?_|refine zL ?_ _));exact BK160.out)) : gb163 ≠ gb160));have n8_:=zM ((by rw [hg];exact Nat.ne_of_lt (blk_lt (g:=gb161) (o := .cells #[.int .i64 a2_0,.int .i64 a2_1] 37 (0,0)) (by (with_reducible repeat (first|refine zJ ?_ _|refine zK ?_|refine zL ?_ _));exact BK161.out)) : gb161 ≠ gb163));have n9_:=zM ((by rw [hg];exact Nat.ne_of_gt (blk_lt (g:=gb161) (o := .cells #[.int .i64 a2_0,.int .i64 a2_1] 37 (0,0)) (by (with_reducible repeat (first|refine zJ ?_ _|refine zK ?_|refine zL ?_ _));exact BK161.out)) : gb163 ≠ gb161));clear BK160;clear BK161;clear HB;have BK160:=n0_;have BK161:=n1_;have HB:=n2_;have BK163:=n3_;have GW163:=n4_;have GE163:=n5_;have NB160_163:=n6_;have NB163_160:=n7_;have NB161_163:=n8_;have NB163_161:=n9_;clear n0_ n1_ n2_ n3_ n4_ n5_ n6_ n7_ n8_ n9_;clear hb hbox hg;have hnb38:=NB163_160.out;have hnc38:=NB160_163.out;have hnb39:=NB163_161.out;have hnc39:=NB161_163.out;have hcz40_0 : w37.cell? ⟨gb163,0,none⟩ = some (.int .i64 0):=(blk_cell BK163.out 0).trans rfl;have hcz40_1 : w37.cell? ⟨gb163,1,none⟩ = some (.int .i64 0):=(blk_cell BK163.out 1).trans rfl;have hfz40_0:=blk_frozen BK163.out 0;have hfz40_1:=blk_frozen BK163.out 1))
           have n0_ : Aside0 (((w37.setCell ⟨gb163,0,none⟩ (.int .i64 ((rd_T37 l4 x39_2).f0))).setCell ⟨gb163,1,none⟩ (.int .i64 ((rd_T37 l4 x39_2).f1))).heap[gb160]? = some (.cells #[.int .i64 a1_0,.int .i64 a1_1,.int .i64 a1_2,.int .i64 a1_3] 62 (0,0))):=⟨by (with_reducible repeat (first|refine zJ ?_ _|refine zK ?_|refine zL ?_ _));refine blk_far ?_ NB160_163.out _;(with_reducible repeat (first|refine zJ ?_ _|refine zK ?_|refine zL ?_ _));refine blk_far ?_ NB160_163.out _;(with_reducible repeat (first|refine zJ ?_ _|refine zK ?_|refine zL ?_ _));exact BK160.out⟩
           have n1_ : Aside0 (((w37.setCell ⟨gb163,0,none⟩ (.int .i64 ((rd_T37 l4 x39_2).f0))).setCell ⟨gb163,1,none⟩ (.int .i64 ((rd_T37 l4 x39_2).f1))).heap[gb161]? = some (.cells #[.int .i64 a2_0,.int .i64 a2_1] 37 (0,0))):=⟨by (with_reducible repeat (first|refine zJ ?_ _|refine zK ?_|refine zL ?_ _));refine blk_far ?_ NB161_163.out _;(with_reducible repeat (first|refine zJ ?_ _|refine zK ?_|refine zL ?_ _));refine blk_far ?_ NB161_163.out _;(with_reducible repeat (first|refine zJ ?_ _|refine zK ?_|refine zL ?_ _));exact BK161.out⟩
           have n2_ : Aside0 (((w37.setCell ⟨gb163,0,none⟩ (.int .i64 ((rd_T37 l4 x39_2).f0))).setCell ⟨gb163,1,none⟩ (.int .i64 ((rd_T37 l4 x39_2).f1))).heap[gb163]? = some (.cells #[.int .i64 ((rd_T37 l4 x39_2).f0),.int .i64 ((rd_T37 l4 x39_2).f1)] 37 (0,0))):=⟨by (with_reducible repeat (first|refine zJ ?_ _|refine zK ?_|refine zL ?_ _));refine blk_put (cs := #[.int .i64 ((rd_T37 l4 x39_2).f0),.int .i64 0]) ?_ 1 _ rfl;(with_reducible repeat (first|refine zJ ?_ _|refine zK ?_|refine zL ?_ _));refine blk_put (cs := #[.int .i64 0,.int .i64 0]) ?_ 0 _ rfl;(with_reducible repeat (first|refine zJ ?_ _|refine zK ?_|refine zL ?_ _));exact BK163.out⟩
           have n3_ : Aside0 (Below w.heap.size w ((w37.setCell ⟨gb163,0,none⟩ (.int .i64 ((rd_T37 l4 x39_2).f0))).setCell ⟨gb163,1,none⟩ (.int .i64 ((rd_T37 l4 x39_2).f1)))):=⟨by repeat (first|(with_reducible first|exact HB.out|apply zD|apply zE|apply zF|refine below_set ?_ GE160.out|refine below_set ?_ GE161.out|refine below_set ?_ GE163.out)|exact HB.out)⟩
           (try clear BK160)
           (try clear BK161)
           (try clear BK163)
           (try clear HB)
           generalize ((w37.setCell ⟨gb163,0,none⟩ (.int .i64 ((rd_T37 l4 x39_2).f0))).setCell ⟨gb163,1,none⟩ (.int .i64 ((rd_T37 l4 x39_2).f1))) = w41 at n0_ n1_ n2_ n3_ ⊢
           have BK160:=n0_
           have BK161:=n1_
           have BK163:=n2_
           have HB:=n3_
           clear n0_ n1_ n2_ n3_
           have n0_:=zM (zK BK160.out)
           have n1_:=zM (zK BK161.out)
           have n2_:=zM (zK BK163.out)
           have n3_:=zM (zF HB.out)
           clear BK160
           clear BK161
           clear BK163
           clear HB
           have BK160:=n0_
           have BK161:=n1_
           have BK163:=n2_
           have HB:=n3_
           clear n0_ n1_ n2_ n3_
           have p164 : 0 ≤ (x39_2 : Int):=of_decide_eq_true (by first|(with_reducible assumption)|assumption)
           have q164 : x39_2 < (l3.length : Int):=of_decide_eq_true (by first|(with_reducible assumption)|assumption)
           obtain ⟨ad164,e164,hx164_0,hx164_1,hx164_2,hx164_3⟩:=at_T62 HR3.out x39_2 p164 q164
           have hw164_3:=hx164_3
           have hw164_2:=hx164_2
           have hw164_1:=hx164_1
           have hw164_0:=hx164_0
           cases e164
           replace hx164_0:=(HB.out.cell (World.block_lt_of_cell? w _ hx164_0)).trans hx164_0
           replace hx164_1:=(HB.out.cell (World.block_lt_of_cell? w _ hx164_1)).trans hx164_1
           replace hx164_2:=(HB.out.cell (World.block_lt_of_cell? w _ hx164_2)).trans hx164_2
           replace hx164_3:=(HB.out.cell (World.block_lt_of_cell? w _ hx164_3)).trans hx164_3
           replace p164:=eq_true p164
           replace q164:=eq_true q164
           refine start_ (n:=8) (S:=fun w'=>w'.cell? ⟨gb160,0,none⟩ = some (.int .i64 a1_0) ∧ w'.cell? ⟨gb160,1,none⟩ = some (.int .i64 a1_1) ∧ w'.cell? ⟨gb160,2,none⟩ = some (.int .i64 a1_2) ∧ w'.cell? ⟨gb160,3,none⟩ = some (.int .i64 a1_3) ∧ w'.cell? ⟨gb161,0,none⟩ = some (.int .i64 a2_0) ∧ w'.cell? ⟨gb161,1,none⟩ = some (.int .i64 a2_1) ∧ w'.cell? ⟨gb163,0,none⟩ = some (.int .i64 ((rd_T37 l4 x39_2).f0)) ∧ w'.cell? ⟨gb163,1,none⟩ = some (.int .i64 ((rd_T37 l4 x39_2).f1)) ∧ w'.cell? (ad164.add ((x39_2).toNat * 4)) = some (.int .i64 ((rd_T62 l3 x39_2).f0)) ∧ w'.cell? ⟨(ad164.add ((x39_2).toNat * 4)).block,(ad164.add ((x39_2).toNat * 4)).off + 1,none⟩ = some (.int .i64 ((rd_T62 l3 x39_2).f1)) ∧ w'.cell? ⟨(ad164.add ((x39_2).toNat * 4)).block,(ad164.add ((x39_2).toNat * 4)).off + 2,none⟩ = some (.int .i64 ((rd_T62 l3 x39_2).f2)) ∧ w'.cell? ⟨(ad164.add ((x39_2).toNat * 4)).block,(ad164.add ((x39_2).toNat * 4)).off + 3,none⟩ = some (.int .i64 ((rd_T62 l3 x39_2).f3))) (ds:=[]) #[false,false,false,false,false,false,false,false] (by kernel_rfl) rfl rfl ⟨(blk_cell BK160.out 0).trans rfl,(blk_cell BK160.out 1).trans rfl,(blk_cell BK160.out 2).trans rfl,(blk_cell BK160.out 3).trans rfl,(blk_cell BK161.out 0).trans rfl,(blk_cell BK161.out 1).trans rfl,(blk_cell BK163.out 0).trans rfl,(blk_cell BK163.out 1).trans rfl,((HB.out.cell (World.block_lt_of_cell? w _ hw164_0)).trans hw164_0),((HB.out.cell (World.block_lt_of_cell? w _ hw164_1)).trans hw164_1),((HB.out.cell (World.block_lt_of_cell? w _ hw164_2)).trans hw164_2),((HB.out.cell (World.block_lt_of_cell? w _ hw164_3)).trans hw164_3)⟩ (fun hHeld=>?_);refine with_tabW impl_fits.tab6 impl_fits.bits6 (fun HT_ HW_=>?_)
           generalize w41.drew = w42 at BK160 BK161 BK163 HB hx164_0 hx164_1 hx164_2 hx164_3 hHeld ⊢
           refine pure_ (i:=2) (N:=some 46) (v:=?_) (a':=?_) #[false,false,true,false,false,false,false,false] rfl rfl (any_of HT_.out (by kernel_rfl)) (fun _ _ _ h=>h) (Or.inl ⟨by rfl,?_⟩) ?_ ?_
           rotate_left
           ·intro w'
            go_simp
            with_reducible rfl
           rotate_left
           ·simp only [Act.put,List.setIfInBounds_toArray,List.set_cons_zero,List.set_cons_succ,i64_w,i32_w]
            rfl
           refine pure_ (i:=3) (N:=some 47) (v:=?_) (a':=?_) #[false,false,true,true,false,false,false,false] rfl rfl (any_of HT_.out (by kernel_rfl)) (fun _ _ _ h=>h) (Or.inl ⟨by rfl,?_⟩) ?_ ?_
           rotate_left
           ·intro w'
            go_simp
            with_reducible rfl
           rotate_left
           ·simp only [Act.put,List.setIfInBounds_toArray,List.set_cons_zero,List.set_cons_succ,i64_w,i32_w]
            rfl
           refine pure_ (i:=4) (N:=some 48) (v:=?_) (a':=?_) #[false,false,true,true,true,false,false,false] rfl rfl (any_of HT_.out (by kernel_rfl)) (fun _ _ _ h=>h) (Or.inl ⟨by rfl,?_⟩) ?_ ?_
           rotate_left
           ·intro w'
            go_simp
            with_reducible rfl
           rotate_left
           ·simp only [Act.put,List.setIfInBounds_toArray,List.set_cons_zero,List.set_cons_succ,i64_w,i32_w]
            rfl
           refine take_ (i:=0) (N:=some 44) (v:=?_) (a':=?_) #[true,false,true,true,true,false,false,false] rfl rfl (take_ofW HT_.out HW_.out (by kernel_rfl)) (fun _ _ _ h=>h) (Or.inl ⟨by rfl,?_⟩) hHeld ?_ ?_
           rotate_left
           ·rintro w' ⟨s0,s1,s2,s3,s4,s5,s6,s7,s8,s9,s10,s11⟩
            go_simp
            with_reducible rfl
           rotate_left
           ·simp only [Act.put,List.setIfInBounds_toArray,List.set_cons_zero,List.set_cons_succ,i64_w,i32_w]
            rfl
           refine take_ (i:=1) (N:=some 45) (v:=?_) (a':=?_) #[true,true,true,true,true,false,false,false] rfl rfl (take_ofW HT_.out HW_.out (by kernel_rfl)) (fun _ _ _ h=>h) (Or.inl ⟨by rfl,?_⟩) hHeld ?_ ?_
           rotate_left
           ·rintro w' ⟨s0,s1,s2,s3,s4,s5,s6,s7,s8,s9,s10,s11⟩
            go_simp
            with_reducible rfl
           rotate_left
           ·simp only [Act.put,List.setIfInBounds_toArray,List.set_cons_zero,List.set_cons_succ,i64_w,i32_w]
            rfl
           refine take_ (i:=5) (N:=some 49) (v:=?_) (a':=?_) #[true,true,true,true,true,true,false,false] rfl rfl (take_ofW HT_.out HW_.out (by kernel_rfl)) (fun _ _ _ h=>h) (Or.inl ⟨by rfl,?_⟩) hHeld ?_ ?_
           rotate_left
           ·rintro w' ⟨s0,s1,s2,s3,s4,s5,s6,s7,s8,s9,s10,s11⟩
            go_simp
            with_reducible rfl
           rotate_left
           ·simp only [Act.put,List.setIfInBounds_toArray,List.set_cons_zero,List.set_cons_succ,i64_w,i32_w]
            rfl
           refine take_ (i:=6) (N:=some 50) (v:=?_) (a':=?_) #[true,true,true,true,true,true,true,false] rfl rfl (take_ofW HT_.out HW_.out (by kernel_rfl)) (fun _ _ _ h=>h) (Or.inl ⟨by rfl,?_⟩) hHeld ?_ ?_
           rotate_left
           ·rintro w' ⟨s0,s1,s2,s3,s4,s5,s6,s7,s8,s9,s10,s11⟩
            go_simp
            with_reducible rfl
           rotate_left
           ·simp only [Act.put,List.setIfInBounds_toArray,List.set_cons_zero,List.set_cons_succ,i64_w,i32_w]
            rfl
           refine one_ (i:=7) (N:=some 51) #[true,true,true,true,true,true,true,true] rfl rfl (one_of HT_.out (by kernel_rfl)) (by decide) (fun K hK=>?_)
           refine goes_ Try.func79 (by kernel_rfl) rfl #[.agg #[.int .i64 a1_0,.int .i64 a1_1,.int .i64 a1_2,.int .i64 a1_3],.agg #[.int .i64 a2_0,.int .i64 a2_1],.agg #[.int .i64 ((rd_T62 l3 x39_2).f0),.int .i64 ((rd_T62 l3 x39_2).f1),.int .i64 ((rd_T62 l3 x39_2).f2),.int .i64 ((rd_T62 l3 x39_2).f3)],.agg #[.int .i64 ((rd_T37 l4 x39_2).f0),.int .i64 ((rd_T37 l4 x39_2).f1)]] (by rfl) rfl rfl (by (try simp only [List.map_toArray,List.map_cons,List.map_nil]);first|done|rfl|(simp only [List.length_drop,List.length_take];rfl)) ?_
           with_reducible refine (impl_touch.calls a1_0 a1_1 a1_2 a1_3 a2_0 a2_1 ((rd_T62 l3 x39_2).f0) ((rd_T62 l3 x39_2).f1) ((rd_T62 l3 x39_2).f2) ((rd_T62 l3 x39_2).f3) ((rd_T37 l4 x39_2).f0) ((rd_T37 l4 x39_2).f1) false _ A28.out).mono ?_
           rintro e w43 ⟨rfl,hb⟩
           refine ⟨_,rfl,?_⟩
           have n0_:=zM (blk_below (g:=gb160) (o := .cells #[.int .i64 a1_0,.int .i64 a1_1,.int .i64 a1_2,.int .i64 a1_3] 62 (0,0)) (by (with_reducible repeat (first|refine zJ ?_ _|refine zK ?_|refine zL ?_ _));exact BK160.out) hb)
           have n1_:=zM (blk_below (g:=gb161) (o := .cells #[.int .i64 a2_0,.int .i64 a2_1] 37 (0,0)) (by (with_reducible repeat (first|refine zJ ?_ _|refine zK ?_|refine zL ?_ _));exact BK161.out) hb)
           have n2_:=zM (blk_below (g:=gb163) (o := .cells #[.int .i64 ((rd_T37 l4 x39_2).f0),.int .i64 ((rd_T37 l4 x39_2).f1)] 37 (0,0)) (by (with_reducible repeat (first|refine zJ ?_ _|refine zK ?_|refine zL ?_ _));exact BK163.out) hb)
           have n3_:=zM (zQ (by repeat (first|(with_reducible first|exact HB.out|apply zD|apply zE|apply zF|refine below_set ?_ GE160.out|refine below_set ?_ GE161.out|refine below_set ?_ GE163.out)|exact HB.out)) hb)
           clear BK160
           clear BK161
           clear BK163
           clear HB
           have BK160:=n0_
           have BK161:=n1_
           have BK163:=n2_
           have HB:=n3_
           clear n0_ n1_ n2_ n3_
           (try clear hb)
           (try clear hb2)
           (try clear hk)
           (try clear hi)
           refine hK.out _ _ ⟨(blk_cell BK160.out 0).trans rfl,(blk_cell BK160.out 1).trans rfl,(blk_cell BK160.out 2).trans rfl,(blk_cell BK160.out 3).trans rfl,(blk_cell BK161.out 0).trans rfl,(blk_cell BK161.out 1).trans rfl,(blk_cell BK163.out 0).trans rfl,(blk_cell BK163.out 1).trans rfl,((HB.out.cell (World.block_lt_of_cell? w _ hw164_0)).trans hw164_0),((HB.out.cell (World.block_lt_of_cell? w _ hw164_1)).trans hw164_1),((HB.out.cell (World.block_lt_of_cell? w _ hw164_2)).trans hw164_2),((HB.out.cell (World.block_lt_of_cell? w _ hw164_3)).trans hw164_3)⟩ (fun hHeld=>?_)
           clear hK K
           refine norm_ (a':=?_) ?_ ?_
           rotate_left
           ·show Act.put _ (some 51) _ = _
            simp only [Act.put,List.setIfInBounds_toArray,List.set_cons_zero,List.set_cons_succ,i64_w,i32_w]
            rfl
           refine done_ (done_of HT_.out (by kernel_rfl)) ?_
           try go_wp2
           go_roundg k2
           case measure=>have:=HJ5.out;have:=HK2.out;omega
           case rel=>exact ⟨(wrap64 (x39_2 + 1)),(by first|rfl|(simp;done)|(simp [*];done)),H',⟨by have:=HJ5.out;have:=HK2.out;omega⟩,⟨by (with_reducible repeat (first|refine zJ ?_ _|refine zK ?_|refine zL ?_ _));exact BK160.out⟩,⟨by (with_reducible repeat (first|refine zJ ?_ _|refine zK ?_|refine zL ?_ _));exact BK161.out⟩,⟨by repeat (first|(with_reducible first|exact HB.out|apply zD|apply zE|apply zF|refine below_set ?_ GE160.out|refine below_set ?_ GE161.out|refine below_set ?_ GE163.out)|exact HB.out)⟩⟩
         ·rw [if_neg c27] at H
          exact absurd H (by simp)
        ·rw [if_neg c26] at H
         exact absurd H (by simp)
       ·rw [if_neg c25] at H
        exact absurd H (by simp)
      ·rw [if_neg c24] at H
       have c24b0 : decide (x39_2 < (l4.length : Int)) = false:=decide_eq_false c24
       clear c24
       obtain rfl:=Option.some.inj H
       go_wp2
       go_ret
       exact ⟨by first|rfl|(simp [errW_none,errW_some] <;> rfl)|(simp [*,errW_none,errW_some] <;> rfl),by repeat (first|(with_reducible first|exact HB.out|apply zD|apply zE|apply zF|refine below_set ?_ GE160.out|refine below_set ?_ GE161.out)|exact HB.out)⟩

end Go.Proofs.Ytcciljjnpfgaeaa.G

-- Written by wip/tools/gen.py out of the translation (the kit's printer, one namespace a seat). Lean checks it.
namespace Go.Proofs.Ytcciljjnpfgaeaa.G
open Go.RowKit Go.Proofs.YtcciljjnpfgaeaaW.PrintWords Go.Proofs.YtcciljjnpfgaeaaW.PrintLast Go.Proofs.YtcciljjnpfgaeaaW.PrintMore
attribute [local go_sem] max2_int min2_int max_two min_two max_three min_three max_four min_four   -- for this text's walks alone
set_option linter.unusedVariables false
set_option linter.unusedSimpArgs false

/-! ### impl_IsPossiblePlan: function 18 -/
mutual
def impl_IsPossiblePlan.j0 : Nat → Int → List (S62) → List (S37) → Bool → Option (Bool)
 | 0,_,_,_,_=>none
 | k + 1,x0,x1,x2,x19=>if x19 = true then (some false) else (impl_IsPossiblePlan.l0 k x0 x1 x2 x2 (x2.length : Int) 0)
def impl_IsPossiblePlan.l0 : Nat → Int → List (S62) → List (S37) → List (S37) → Int → Int → Option (Bool)
 | 0,_,_,_,_,_,_=>none
 | k + 1,x0,x1,x2,x20,x21,x22=>if x22 < x21 then (if 0 ≤ x22 then (if x22 < (x20.length : Int) then (if x22 < (x1.length : Int) then (if x22 ≤ (x1.length : Int) then (if x22 ≤ (x2.length : Int) then ((impl_fits.f k x0 ((rd_T62 x1 x22).f0) ((rd_T62 x1 x22).f1) ((rd_T62 x1 x22).f2) ((rd_T62 x1 x22).f3) ((rd_T37 x20 x22).f0) ((rd_T37 x20 x22).f1) (x1.take (x22 : Int).toNat) (x2.take (x22 : Int).toNat)).bind fun t178=>(if t178 = true then (impl_IsPossiblePlan.l0 k x0 x1 x2 x20 x21 (wrap64 (x22 + 1))) else (some false))) else (none)) else (none)) else (none)) else (none)) else (none)) else (some true)
end
def impl_IsPossiblePlan.f (k : Nat) (a0 : Int) (l1 : List (S62)) (l2 : List (S37)) : Option (Bool):=(impl_areShips.f a0 l1).bind fun t166=>(if t166 = true then (impl_IsPossiblePlan.j0 k a0 l1 l2 ((l2.length : Int) != (l1.length : Int))) else (impl_IsPossiblePlan.j0 k a0 l1 l2 true))
def impl_IsPossiblePlan.T6 : Bool × List (List Nat × List Nat):=(true,[([],[]),([],[]),([],[]),([1,2],[1,2]),([3],[3]),([],[]),([],[]),([],[]),([6,7],[6,7]),([],[]),([],[]),([9,10],[9,10]),([0,4,5,8,11],[0,4,5,8,11]),([12],[12])])
def impl_IsPossiblePlan.B6 : List Nat:=[0,0,0,6,14,0,0,0,192,0,0,1536,4095,8191]
theorem impl_IsPossiblePlan.tab6 : rtab .any (opsOf Try.f18 6) = impl_IsPossiblePlan.T6:=by kernel_rfl
theorem impl_IsPossiblePlan.bits6 : waitsOk impl_IsPossiblePlan.T6.2 impl_IsPossiblePlan.B6 = true:=by kernel_rfl
set_option maxHeartbeats 8000000 in
set_option maxRecDepth 100000 in
theorem impl_IsPossiblePlan.calls (k : Nat) (a0 : Int) (A1 : Option Addr) (c1 : Nat) (l1 : List (S62)) (A2 : Option Addr) (c2 : Nat) (l2 : List (S37)) (r : Bool) (w : World) (hr1 : Kd.C k62 w A1 l1.length l1) (hc1 : l1.length ≤ c1) (hr2 : Kd.C k37 w A2 l2.length l2) (hc2 : l2.length ≤ c2) (h : impl_IsPossiblePlan.f k a0 l1 l2 = some r) :
  Calls Try.prog 18 #[.int .i64 a0,.slice A1 l1.length c1,.slice A2 l2.length c2] w fun e w'=>e = .returned (.bool r) ∧ Below w.heap.size w w':=by
 have hu37:=Try.underlying37
 have hu62:=Try.underlying62
 have HR1:=zM hr1
 have HC1:=zM hc1
 clear hr1 hc1
 have HR2:=zM hr2
 have HC2:=zM hc2
 clear hr2 hc2
 have HB:=zM (Below.refl w.heap.size w)
 have H : ((impl_areShips.f a0 l1).bind fun t166=>(if t166 = true then (impl_IsPossiblePlan.j0 k a0 l1 l2 ((l2.length : Int) != (l1.length : Int))) else (impl_IsPossiblePlan.j0 k a0 l1 l2 true))) = some r:=h
 clear h
 have HC4:=zM H
 clear H
 go_enter Try.func18,Try.ntmps18
 go_upto_region 1 with (fail)
 go_cut [19] (fun v19 wc => ∃ (kq : Nat) (x19_3 : Bool),v19 = .bool x19_3 ∧ Aside0 (impl_IsPossiblePlan.j0 kq a0 l1 l2 x19_3 = some r) ∧ Aside0 (kq ≤ k) ∧ Aside0 (Below w.heap.size w wc))
 case first =>
  have H:=HC4.out
  clear HC4
  replace H:=Option.bind_eq_some_iff.mp H
  obtain ⟨t166,A50,H⟩:=H
  replace H : (if t166 = true then (impl_IsPossiblePlan.j0 k a0 l1 l2 ((l2.length : Int) != (l1.length : Int))) else (impl_IsPossiblePlan.j0 k a0 l1 l2 true)) = some r:=H
  have A5:=zM A50
  clear A50
  by_cases c6 : t166 = true
  ·subst c6
   have H1 : (impl_IsPossiblePlan.j0 k a0 l1 l2 ((l2.length : Int) != (l1.length : Int))) = some r:=by rw [if_pos rfl] at H;exact H
   clear H
   have H:=H1
   clear H1
   have H':=zM H
   clear H
   go_wp2_with (first|((with_reducible refine gate_callee (f:=52) rfl ?_);refine goesL_ (some 11) rfl rfl Try.func52 (by kernel_rfl) rfl #[.int .i64 a0,.slice A1 l1.length c1] rfl (by (try simp only [List.map_toArray,List.map_cons,List.map_nil]);first|done|rfl|(simp only [List.length_drop,List.length_take];rfl)) ?_;(with_reducible refine (impl_areShips.calls a0 _ _ l1 true _ ?side1 ?side2 A5.out).mono ?_);(case side1=>repeat (first|exact (zO HR1.out HB.out)|(with_reducible refine zG ?_ _)|(with_reducible refine zH ?_ _)|(with_reducible refine zI ?_)));(case side2=>exact HC1.out);rintro e w7 ⟨rfl,hb⟩;refine ⟨_,rfl,?_⟩;have n0_:=zM (zQ (by repeat (first|(with_reducible first|exact HB.out|apply zD|apply zE|apply zF)|exact HB.out)) hb);clear HB;have HB:=n0_;clear n0_;(try clear hb);(try clear hb2);(try clear hk);(try clear hi)))
   go_meet
   case rel=>exact ⟨_,(((l2.length : Int) != (l1.length : Int))),(by first|rfl|(simp;done)|(simp [*];done)),H',⟨by first|omega|exact Nat.le_refl _⟩,⟨by repeat (first|(with_reducible first|exact HB.out|apply zD|apply zE|apply zF)|exact HB.out)⟩⟩
  ·replace c6:=Bool.eq_false_iff.mpr c6
   subst c6
   have H1 : (impl_IsPossiblePlan.j0 k a0 l1 l2 true) = some r:=by rw [if_neg (show ¬ (false = true) by decide)] at H;exact H
   clear H
   have H:=H1
   clear H1
   have H':=zM H
   clear H
   go_wp2_with (first|((with_reducible refine gate_callee (f:=52) rfl ?_);refine goesL_ (some 11) rfl rfl Try.func52 (by kernel_rfl) rfl #[.int .i64 a0,.slice A1 l1.length c1] rfl (by (try simp only [List.map_toArray,List.map_cons,List.map_nil]);first|done|rfl|(simp only [List.length_drop,List.length_take];rfl)) ?_;(with_reducible refine (impl_areShips.calls a0 _ _ l1 false _ ?side1 ?side2 A5.out).mono ?_);(case side1=>repeat (first|exact (zO HR1.out HB.out)|(with_reducible refine zG ?_ _)|(with_reducible refine zH ?_ _)|(with_reducible refine zI ?_)));(case side2=>exact HC1.out);rintro e w8 ⟨rfl,hb⟩;refine ⟨_,rfl,?_⟩;have n0_:=zM (zQ (by repeat (first|(with_reducible first|exact HB.out|apply zD|apply zE|apply zF)|exact HB.out)) hb);clear HB;have HB:=n0_;clear n0_;(try clear hb);(try clear hb2);(try clear hk);(try clear hi)))
   go_meet
   case rel=>exact ⟨_,(true),(by first|rfl|(simp;done)|(simp [*];done)),H',⟨by first|omega|exact Nat.le_refl _⟩,⟨by repeat (first|(with_reducible first|exact HB.out|apply zD|apply zE|apply zF)|exact HB.out)⟩⟩
 case rest =>
  clear HC4
  try clear c1
  try clear c2
  try clear p2
  try clear c5
  try clear c6
  obtain ⟨kq,x19_3,rfl,HA,HJ3,HB⟩:=hcut
  cases kq with
  | zero=>exact absurd HA.out (by simp [impl_IsPossiblePlan.j0])
  | succ kj3 =>
   have H:=HA.out
   clear HA
   simp only [impl_IsPossiblePlan.j0] at H
   by_cases c9 : x19_3 = true
   ·subst c9
    have H1 : (some false) = some r:=by rw [if_pos rfl] at H;exact H
    clear H
    have H:=H1
    clear H1
    obtain rfl:=Option.some.inj H
    go_wp2
    go_ret
    exact ⟨by first|rfl|(simp [errW_none,errW_some] <;> rfl)|(simp [*,errW_none,errW_some] <;> rfl),by repeat (first|(with_reducible first|exact HB.out|apply zD|apply zE|apply zF)|exact HB.out)⟩
   ·replace c9:=Bool.eq_false_iff.mpr c9
    subst c9
    have H1 : (impl_IsPossiblePlan.l0 kj3 a0 l1 l2 l2 (l2.length : Int) 0) = some r:=by rw [if_neg (show ¬ (false = true) by decide)] at H;exact H
    clear H
    have H:=H1
    clear H1
    have H':=zM H
    clear H
    go_wp2
    go_loopg [22] kj3 (fun kq v22 w' => ∃ (x22_2 : Int),v22 = .int .i64 x22_2 ∧ Aside0 (impl_IsPossiblePlan.l0 kq a0 l1 l2 l2 (l2.length : Int) x22_2 = some r) ∧ Aside0 (kq ≤ kj3) ∧ Aside0 (Below w.heap.size w w'))
    case atStart=>exact ⟨(0),(by first|rfl|(simp;done)|(simp [*];done)),H',⟨Nat.le_refl _⟩,⟨by repeat (first|(with_reducible first|exact HB.out|apply zD|apply zE|apply zF)|exact HB.out)⟩⟩
    case round =>
     clear H'
     try clear c1
     try clear c2
     try clear p2
     try clear c5
     try clear c6
     try clear c9
     try clear p2
     obtain ⟨x22_2,rfl,HA,HK2,HB⟩:=hrel
     cases gk with
     | zero=>exact absurd HA.out (by simp [impl_IsPossiblePlan.l0])
     | succ k2 =>
      have H:=HA.out
      clear HA
      simp only [impl_IsPossiblePlan.l0] at H
      by_cases c10 : x22_2 < (l2.length : Int)
      ·rw [if_pos c10] at H
       have c10b0 : decide (x22_2 < (l2.length : Int)) = true:=decide_eq_true c10
       clear c10
       by_cases c11 : 0 ≤ x22_2
       ·rw [if_pos c11] at H
        have c11b0 : decide (0 ≤ x22_2) = true:=decide_eq_true c11
        clear c11
        by_cases c12 : x22_2 < (l2.length : Int)
        ·rw [if_pos c12] at H
         have c12b0 : decide (x22_2 < (l2.length : Int)) = true:=decide_eq_true c12
         clear c12
         by_cases c13 : x22_2 < (l1.length : Int)
         ·rw [if_pos c13] at H
          have c13b0 : decide (x22_2 < (l1.length : Int)) = true:=decide_eq_true c13
          clear c13
          have c14b0:=eq_true (of_decide_eq_true (by first|(with_reducible assumption)|assumption) : 0 ≤ x22_2)
          by_cases c15 : x22_2 ≤ (l1.length : Int)
          ·rw [if_pos c15] at H
           have c15b0:=eq_true c15
           have c15b1 : decide (x22_2 ≤ (l1.length : Int)) = true:=decide_eq_true c15
           clear c15
           obtain ⟨y170,hy170⟩ : ∃ y_ : List (S62),y_ = (l1.take (x22_2 : Int).toNat):=⟨_,rfl⟩
           replace H : (if x22_2 ≤ (l2.length : Int) then ((impl_fits.f k2 a0 ((rd_T62 l1 x22_2).f0) ((rd_T62 l1 x22_2).f1) ((rd_T62 l1 x22_2).f2) ((rd_T62 l1 x22_2).f3) ((rd_T37 l2 x22_2).f0) ((rd_T37 l2 x22_2).f1) y170 (l2.take (x22_2 : Int).toNat)).bind fun t178=>(if t178 = true then (impl_IsPossiblePlan.l0 k2 a0 l1 l2 l2 (l2.length : Int) (wrap64 (x22_2 + 1))) else (some false))) else (none)) = some r:=by first|(rw [hy170];with_reducible exact H)|(have H2_:=(Option.bind_some _ _).symm.trans H;rw [hy170];with_reducible exact H2_)|(have H2_:=(Option.bind_some _ _).symm.trans H;with_reducible exact H2_)|with_reducible exact H|(rw [hy170];exact H)|exact H
           have Ny170:=zM hy170
           clear hy170
           have c16b0:=eq_true (of_decide_eq_true (by first|(with_reducible assumption)|assumption) : 0 ≤ x22_2)
           by_cases c17 : x22_2 ≤ (l2.length : Int)
           ·rw [if_pos c17] at H
            have c17b0:=eq_true c17
            have c17b1 : decide (x22_2 ≤ (l2.length : Int)) = true:=decide_eq_true c17
            clear c17
            obtain ⟨y174,hy174⟩ : ∃ y_ : List (S37),y_ = (l2.take (x22_2 : Int).toNat):=⟨_,rfl⟩
            replace H : ((impl_fits.f k2 a0 ((rd_T62 l1 x22_2).f0) ((rd_T62 l1 x22_2).f1) ((rd_T62 l1 x22_2).f2) ((rd_T62 l1 x22_2).f3) ((rd_T37 l2 x22_2).f0) ((rd_T37 l2 x22_2).f1) y170 y174).bind fun t178=>(if t178 = true then (impl_IsPossiblePlan.l0 k2 a0 l1 l2 l2 (l2.length : Int) (wrap64 (x22_2 + 1))) else (some false))) = some r:=by first|(rw [hy174];with_reducible exact H)|(have H2_:=(Option.bind_some _ _).symm.trans H;rw [hy174];with_reducible exact H2_)|(have H2_:=(Option.bind_some _ _).symm.trans H;with_reducible exact H2_)|with_reducible exact H|(rw [hy174];exact H)|exact H
            have Ny174:=zM hy174
            clear hy174
            replace H:=Option.bind_eq_some_iff.mp H
            obtain ⟨t178,A180,H⟩:=H
            replace H : (if t178 = true then (impl_IsPossiblePlan.l0 k2 a0 l1 l2 l2 (l2.length : Int) (wrap64 (x22_2 + 1))) else (some false)) = some r:=H
            have A18:=zM A180
            clear A180
            by_cases c19 : t178 = true
            ·subst c19
             have H1 : (impl_IsPossiblePlan.l0 k2 a0 l1 l2 l2 (l2.length : Int) (wrap64 (x22_2 + 1))) = some r:=by rw [if_pos rfl] at H;exact H
             clear H
             have H:=H1
             clear H1
             have H':=zM H
             clear H
             have p167 : 0 ≤ (x22_2 : Int):=of_decide_eq_true (by first|(with_reducible assumption)|assumption)
             have q167 : x22_2 < (l2.length : Int):=of_decide_eq_true (by first|(with_reducible assumption)|assumption)
             obtain ⟨ad167,e167,hx167_0,hx167_1⟩:=at_T37 HR2.out x22_2 p167 q167
             cases e167
             replace hx167_0:=(HB.out.cell (World.block_lt_of_cell? w _ hx167_0)).trans hx167_0
             replace hx167_1:=(HB.out.cell (World.block_lt_of_cell? w _ hx167_1)).trans hx167_1
             replace p167:=eq_true p167
             replace q167:=eq_true q167
             try go_wp2_with (first|((with_reducible refine gate_dst (N:=8) rfl ?_);(try (refine gate_guard (by rfl) ?_;dsimp only));refine box_event ?hg (N:=8) ?hd (cs := #[.int .i64 0,.int .i64 0]) (t:=37) ?hr ?_;(case hd=>rfl);(case hg=>rfl);(case hr=>first|(go_simp;done)|(go_simp;rfl));intro gb168 hg w20 hbox hb;have n0_:=zM (zQ (by repeat (first|(with_reducible first|exact HB.out|apply zD|apply zE|apply zF)|exact HB.out)) hb);have n1_:=zM (hbox);have n2_:=zM ((by rw [hg];exact (zR (by repeat (first|(with_reducible first|exact HB.out|apply zD|apply zE|apply zF)|exact HB.out))) : w.heap.size ≤ gb168));have n3_:=zM ((by rw [hg];exact (zR (by repeat (first|(with_reducible first|exact HB.out|apply zD|apply zE|apply zF)|exact HB.out))) : w.heap.size ≤ gb168));clear HB;have HB:=n0_;have BK168:=n1_;have GW168:=n2_;have GE168:=n3_;clear n0_ n1_ n2_ n3_;clear hb hbox hg;have hcz21_0 : w20.cell? ⟨gb168,0,none⟩ = some (.int .i64 0):=(blk_cell BK168.out 0).trans rfl;have hcz21_1 : w20.cell? ⟨gb168,1,none⟩ = some (.int .i64 0):=(blk_cell BK168.out 1).trans rfl;have hfz21_0:=blk_frozen BK168.out 0;have hfz21_1:=blk_frozen BK168.out 1))
             have n0_ : Aside0 (((w20.setCell ⟨gb168,0,none⟩ (.int .i64 ((rd_T37 l2 x22_2).f0))).setCell ⟨gb168,1,none⟩ (.int .i64 ((rd_T37 l2 x22_2).f1))).heap[gb168]? = some (.cells #[.int .i64 ((rd_T37 l2 x22_2).f0),.int .i64 ((rd_T37 l2 x22_2).f1)] 37 (0,0))):=⟨by (with_reducible repeat (first|refine zJ ?_ _|refine zK ?_|refine zL ?_ _));refine blk_put (cs := #[.int .i64 ((rd_T37 l2 x22_2).f0),.int .i64 0]) ?_ 1 _ rfl;(with_reducible repeat (first|refine zJ ?_ _|refine zK ?_|refine zL ?_ _));refine blk_put (cs := #[.int .i64 0,.int .i64 0]) ?_ 0 _ rfl;(with_reducible repeat (first|refine zJ ?_ _|refine zK ?_|refine zL ?_ _));exact BK168.out⟩
             have n1_ : Aside0 (Below w.heap.size w ((w20.setCell ⟨gb168,0,none⟩ (.int .i64 ((rd_T37 l2 x22_2).f0))).setCell ⟨gb168,1,none⟩ (.int .i64 ((rd_T37 l2 x22_2).f1)))):=⟨by repeat (first|(with_reducible first|exact HB.out|apply zD|apply zE|apply zF|refine below_set ?_ GE168.out)|exact HB.out)⟩
             (try clear BK168)
             (try clear HB)
             generalize ((w20.setCell ⟨gb168,0,none⟩ (.int .i64 ((rd_T37 l2 x22_2).f0))).setCell ⟨gb168,1,none⟩ (.int .i64 ((rd_T37 l2 x22_2).f1))) = w22 at n0_ n1_ ⊢
             have BK168:=n0_
             have HB:=n1_
             clear n0_ n1_
             have n0_:=zM (zK BK168.out)
             have n1_:=zM (zF HB.out)
             clear BK168
             clear HB
             have BK168:=n0_
             have HB:=n1_
             clear n0_ n1_
             have p169 : 0 ≤ (x22_2 : Int):=of_decide_eq_true (by first|(with_reducible assumption)|assumption)
             have q169 : x22_2 < (l1.length : Int):=of_decide_eq_true (by first|(with_reducible assumption)|assumption)
             obtain ⟨ad169,e169,hx169_0,hx169_1,hx169_2,hx169_3⟩:=at_T62 HR1.out x22_2 p169 q169
             have hw169_3:=hx169_3
             have hw169_2:=hx169_2
             have hw169_1:=hx169_1
             have hw169_0:=hx169_0
             cases e169
             replace hx169_0:=(HB.out.cell (World.block_lt_of_cell? w _ hx169_0)).trans hx169_0
             replace hx169_1:=(HB.out.cell (World.block_lt_of_cell? w _ hx169_1)).trans hx169_1
             replace hx169_2:=(HB.out.cell (World.block_lt_of_cell? w _ hx169_2)).trans hx169_2
             replace hx169_3:=(HB.out.cell (World.block_lt_of_cell? w _ hx169_3)).trans hx169_3
             replace p169:=eq_true p169
             replace q169:=eq_true q169
             have q24 : (x22_2 : Int) ≤ ((l1.length : Int) : Int):=of_decide_eq_true (by first|(with_reducible assumption)|assumption)
             obtain ⟨i024,hi024,_,hsz24,_⟩:=info_parts info62
             have hroom24 : l1.length ≤ c1:=HC1.out
             have hC24 : Kd.C k62 _ (some ad169) l1.length l1:=HR1.out
             have hcut24:=cut_to (P:=Try.prog) 27 62 .i64 Try.underlying27 hi024 (some ad169) l1.length c1 x22_2 (of_decide_eq_true (by first|(with_reducible assumption)|assumption)) q24 hroom24
             have hr24:=Kd.C_take (m:=(x22_2 : Int).toNat) hC24 (by omega)
             have hy24 : y170.length = (x22_2 : Int).toNat:=(by rw [Ny170.out,List.length_take];omega)
             rw [← Ny170.out] at hr24
             rw [← hy24] at hcut24
             have HR173:=zM hr24
             have HC173:=zM (show y170.length ≤ c1 from by omega)
             clear hr24 hC24 hroom24 hi024 hsz24
             have KY24:=zM hy24
             clear hy24
             replace q24:=eq_true q24
             have q25 : (x22_2 : Int) ≤ ((l2.length : Int) : Int):=of_decide_eq_true (by first|(with_reducible assumption)|assumption)
             obtain ⟨i025,hi025,_,hsz25,_⟩:=info_parts info37
             have hroom25 : l2.length ≤ c2:=HC2.out
             have hC25 : Kd.C k37 _ (some ad167) l2.length l2:=HR2.out
             have hcut25:=cut_to (P:=Try.prog) 29 37 .i64 Try.underlying29 hi025 (some ad167) l2.length c2 x22_2 (of_decide_eq_true (by first|(with_reducible assumption)|assumption)) q25 hroom25
             have hr25:=Kd.C_take (m:=(x22_2 : Int).toNat) hC25 (by omega)
             have hy25 : y174.length = (x22_2 : Int).toNat:=(by rw [Ny174.out,List.length_take];omega)
             rw [← Ny174.out] at hr25
             rw [← hy25] at hcut25
             have HR177:=zM hr25
             have HC177:=zM (show y174.length ≤ c2 from by omega)
             clear hr25 hC25 hroom25 hi025 hsz25
             have KY25:=zM hy25
             clear hy25
             replace q25:=eq_true q25
             refine start_ (n:=14) (S:=fun w'=>w'.cell? ⟨gb168,0,none⟩ = some (.int .i64 ((rd_T37 l2 x22_2).f0)) ∧ w'.cell? ⟨gb168,1,none⟩ = some (.int .i64 ((rd_T37 l2 x22_2).f1)) ∧ w'.cell? (ad169.add ((x22_2).toNat * 4)) = some (.int .i64 ((rd_T62 l1 x22_2).f0)) ∧ w'.cell? ⟨(ad169.add ((x22_2).toNat * 4)).block,(ad169.add ((x22_2).toNat * 4)).off + 1,none⟩ = some (.int .i64 ((rd_T62 l1 x22_2).f1)) ∧ w'.cell? ⟨(ad169.add ((x22_2).toNat * 4)).block,(ad169.add ((x22_2).toNat * 4)).off + 2,none⟩ = some (.int .i64 ((rd_T62 l1 x22_2).f2)) ∧ w'.cell? ⟨(ad169.add ((x22_2).toNat * 4)).block,(ad169.add ((x22_2).toNat * 4)).off + 3,none⟩ = some (.int .i64 ((rd_T62 l1 x22_2).f3))) (ds:=[]) #[false,false,false,false,false,false,false,false,false,false,false,false,false,false] (by kernel_rfl) rfl rfl ⟨(blk_cell BK168.out 0).trans rfl,(blk_cell BK168.out 1).trans rfl,((HB.out.cell (World.block_lt_of_cell? w _ hw169_0)).trans hw169_0),((HB.out.cell (World.block_lt_of_cell? w _ hw169_1)).trans hw169_1),((HB.out.cell (World.block_lt_of_cell? w _ hw169_2)).trans hw169_2),((HB.out.cell (World.block_lt_of_cell? w _ hw169_3)).trans hw169_3)⟩ (fun hHeld=>?_);refine with_tabW impl_IsPossiblePlan.tab6 impl_IsPossiblePlan.bits6 (fun HT_ HW_=>?_)
             generalize w22.drew = w23 at BK168 HB HR173 HR177 hx169_0 hx169_1 hx169_2 hx169_3 hHeld ⊢
             refine pure_ (i:=0) (N:=some 27) (v:=?_) (a':=?_) #[true,false,false,false,false,false,false,false,false,false,false,false,false,false] rfl rfl (any_of HT_.out (by kernel_rfl)) (fun _ _ _ h=>h) (Or.inl ⟨by rfl,?_⟩) ?_ ?_
             rotate_left
             ·intro w'
              go_simp
              with_reducible rfl
             rotate_left
             ·simp only [Act.put,List.setIfInBounds_toArray,List.set_cons_zero,List.set_cons_succ,i64_w,i32_w]
              rfl
             refine pure_ (i:=1) (N:=some 28) (v:=?_) (a':=?_) #[true,true,false,false,false,false,false,false,false,false,false,false,false,false] rfl rfl (any_of HT_.out (by kernel_rfl)) (fun _ _ _ h=>h) (Or.inl ⟨by rfl,?_⟩) ?_ ?_
             rotate_left
             ·intro w'
              go_simp
              with_reducible rfl
             rotate_left
             ·simp only [Act.put,List.setIfInBounds_toArray,List.set_cons_zero,List.set_cons_succ,i64_w,i32_w]
              rfl
             refine pure_ (i:=2) (N:=some 29) (v:=?_) (a':=?_) #[true,true,true,false,false,false,false,false,false,false,false,false,false,false] rfl rfl (any_of HT_.out (by kernel_rfl)) (fun _ _ _ h=>h) (Or.inl ⟨by rfl,?_⟩) ?_ ?_
             rotate_left
             ·intro w'
              go_simp
              with_reducible rfl
             rotate_left
             ·simp only [Act.put,List.setIfInBounds_toArray,List.set_cons_zero,List.set_cons_succ,i64_w,i32_w]
              rfl
             refine pure_ (i:=3) (N:=some 30) (v:=?_) (a':=?_) #[true,true,true,true,false,false,false,false,false,false,false,false,false,false] rfl rfl (any_of HT_.out (by kernel_rfl)) (fun _ _ _ h=>h) (Or.inl ⟨by rfl,?_⟩) ?_ ?_
             rotate_left
             ·intro w'
              go_simp
              with_reducible rfl
             rotate_left
             ·simp only [Act.put,List.setIfInBounds_toArray,List.set_cons_zero,List.set_cons_succ,i64_w,i32_w]
              rfl
             refine pure_ (i:=6) (N:=some 33) (v:=?_) (a':=?_) #[true,true,true,true,false,false,true,false,false,false,false,false,false,false] rfl rfl (any_of HT_.out (by kernel_rfl)) (fun _ _ _ h=>h) (Or.inl ⟨by rfl,?_⟩) ?_ ?_
             rotate_left
             ·intro w'
              go_simp
              with_reducible rfl
             rotate_left
             ·simp only [Act.put,List.setIfInBounds_toArray,List.set_cons_zero,List.set_cons_succ,i64_w,i32_w]
              rfl
             refine pure_ (i:=7) (N:=some 34) (v:=?_) (a':=?_) #[true,true,true,true,false,false,true,true,false,false,false,false,false,false] rfl rfl (any_of HT_.out (by kernel_rfl)) (fun _ _ _ h=>h) (Or.inl ⟨by rfl,?_⟩) ?_ ?_
             rotate_left
             ·intro w'
              go_simp
              with_reducible rfl
             rotate_left
             ·simp only [Act.put,List.setIfInBounds_toArray,List.set_cons_zero,List.set_cons_succ,i64_w,i32_w]
              rfl
             refine pure_ (i:=8) (N:=some 35) (v:=?_) (a':=?_) #[true,true,true,true,false,false,true,true,true,false,false,false,false,false] rfl rfl (any_of HT_.out (by kernel_rfl)) (fun _ _ _ h=>h) (Or.inl ⟨by rfl,?_⟩) ?_ ?_
             rotate_left
             ·intro w'
              go_simp
              with_reducible rfl
             rotate_left
             ·simp only [Act.put,List.setIfInBounds_toArray,List.set_cons_zero,List.set_cons_succ,i64_w,i32_w]
              rfl
             refine pure_ (i:=9) (N:=some 36) (v:=?_) (a':=?_) #[true,true,true,true,false,false,true,true,true,true,false,false,false,false] rfl rfl (any_of HT_.out (by kernel_rfl)) (fun _ _ _ h=>h) (Or.inl ⟨by rfl,?_⟩) ?_ ?_
             rotate_left
             ·intro w'
              go_simp
              with_reducible rfl
             rotate_left
             ·simp only [Act.put,List.setIfInBounds_toArray,List.set_cons_zero,List.set_cons_succ,i64_w,i32_w]
              rfl
             refine pure_ (i:=10) (N:=some 37) (v:=?_) (a':=?_) #[true,true,true,true,false,false,true,true,true,true,true,false,false,false] rfl rfl (any_of HT_.out (by kernel_rfl)) (fun _ _ _ h=>h) (Or.inl ⟨by rfl,?_⟩) ?_ ?_
             rotate_left
             ·intro w'
              go_simp
              with_reducible rfl
             rotate_left
             ·simp only [Act.put,List.setIfInBounds_toArray,List.set_cons_zero,List.set_cons_succ,i64_w,i32_w]
              rfl
             refine pure_ (i:=11) (N:=some 38) (v:=?_) (a':=?_) #[true,true,true,true,false,false,true,true,true,true,true,true,false,false] rfl rfl (any_of HT_.out (by kernel_rfl)) (fun _ _ _ h=>h) (Or.inl ⟨by rfl,?_⟩) ?_ ?_
             rotate_left
             ·intro w'
              go_simp
              with_reducible rfl
             rotate_left
             ·simp only [Act.put,List.setIfInBounds_toArray,List.set_cons_zero,List.set_cons_succ,i64_w,i32_w]
              rfl
             refine take_ (i:=4) (N:=some 31) (v:=?_) (a':=?_) #[true,true,true,true,true,false,true,true,true,true,true,true,false,false] rfl rfl (take_ofW HT_.out HW_.out (by kernel_rfl)) (fun _ _ _ h=>h) (Or.inl ⟨by rfl,?_⟩) hHeld ?_ ?_
             rotate_left
             ·rintro w' ⟨s0,s1,s2,s3,s4,s5⟩
              go_simp
              with_reducible rfl
             rotate_left
             ·simp only [Act.put,List.setIfInBounds_toArray,List.set_cons_zero,List.set_cons_succ,i64_w,i32_w]
              rfl
             refine take_ (i:=5) (N:=some 32) (v:=?_) (a':=?_) #[true,true,true,true,true,true,true,true,true,true,true,true,false,false] rfl rfl (take_ofW HT_.out HW_.out (by kernel_rfl)) (fun _ _ _ h=>h) (Or.inl ⟨by rfl,?_⟩) hHeld ?_ ?_
             rotate_left
             ·rintro w' ⟨s0,s1,s2,s3,s4,s5⟩
              go_simp
              with_reducible rfl
             rotate_left
             ·simp only [Act.put,List.setIfInBounds_toArray,List.set_cons_zero,List.set_cons_succ,i64_w,i32_w]
              rfl
             refine one_ (i:=12) (N:=some 39) #[true,true,true,true,true,true,true,true,true,true,true,true,true,false] rfl rfl (one_of HT_.out (by kernel_rfl)) (by decide) (fun K hK=>?_)
             refine goes_ Try.func53 (by kernel_rfl) rfl #[.int .i64 a0,.agg #[.int .i64 ((rd_T62 l1 x22_2).f0),.int .i64 ((rd_T62 l1 x22_2).f1),.int .i64 ((rd_T62 l1 x22_2).f2),.int .i64 ((rd_T62 l1 x22_2).f3)],.agg #[.int .i64 ((rd_T37 l2 x22_2).f0),.int .i64 ((rd_T37 l2 x22_2).f1)],.slice (some ad169) y170.length c1,.slice (some ad167) y174.length c2] (by rfl) rfl rfl (by (try simp only [List.map_toArray,List.map_cons,List.map_nil]);first|done|rfl|(simp only [List.length_drop,List.length_take];rfl)) ?_
             with_reducible refine (impl_fits.calls k2 a0 ((rd_T62 l1 x22_2).f0) ((rd_T62 l1 x22_2).f1) ((rd_T62 l1 x22_2).f2) ((rd_T62 l1 x22_2).f3) ((rd_T37 l2 x22_2).f0) ((rd_T37 l2 x22_2).f1) _ _ y170 _ _ y174 true _ ?side1 ?side2 ?side3 ?side4 A18.out).mono ?_
             (case side1=>repeat (first|exact (zO HR173.out HB.out)|(with_reducible refine zG ?_ _)|(with_reducible refine zH ?_ _)|(with_reducible refine zI ?_)))
             (case side2=>exact HC173.out)
             (case side3=>repeat (first|exact (zO HR177.out HB.out)|(with_reducible refine zG ?_ _)|(with_reducible refine zH ?_ _)|(with_reducible refine zI ?_)))
             (case side4=>exact HC177.out)
             rintro e w26 ⟨rfl,hb⟩
             refine ⟨_,rfl,?_⟩
             have n0_:=zM (blk_below (g:=gb168) (o := .cells #[.int .i64 ((rd_T37 l2 x22_2).f0),.int .i64 ((rd_T37 l2 x22_2).f1)] 37 (0,0)) (by (with_reducible repeat (first|refine zJ ?_ _|refine zK ?_|refine zL ?_ _));exact BK168.out) hb)
             have n1_:=zM (zQ (by repeat (first|(with_reducible first|exact HB.out|apply zD|apply zE|apply zF|refine below_set ?_ GE168.out)|exact HB.out)) hb)
             clear BK168
             clear HB
             have BK168:=n0_
             have HB:=n1_
             clear n0_ n1_
             (try clear hb)
             (try clear hb2)
             (try clear hk)
             (try clear hi)
             refine hK.out _ _ ⟨(blk_cell BK168.out 0).trans rfl,(blk_cell BK168.out 1).trans rfl,((HB.out.cell (World.block_lt_of_cell? w _ hw169_0)).trans hw169_0),((HB.out.cell (World.block_lt_of_cell? w _ hw169_1)).trans hw169_1),((HB.out.cell (World.block_lt_of_cell? w _ hw169_2)).trans hw169_2),((HB.out.cell (World.block_lt_of_cell? w _ hw169_3)).trans hw169_3)⟩ (fun hHeld=>?_)
             clear hK K
             refine norm_ (a':=?_) ?_ ?_
             rotate_left
             ·show Act.put _ (some 39) _ = _
              simp only [Act.put,List.setIfInBounds_toArray,List.set_cons_zero,List.set_cons_succ,i64_w,i32_w]
              rfl
             refine pure_ (i:=13) (N:=some 40) (v:=?_) (a':=?_) #[true,true,true,true,true,true,true,true,true,true,true,true,true,true] rfl rfl (any_of HT_.out (by kernel_rfl)) (fun _ _ _ h=>h) (Or.inl ⟨by rfl,?_⟩) ?_ ?_
             rotate_left
             ·intro w'
              go_simp
              with_reducible rfl
             rotate_left
             ·simp only [Act.put,List.setIfInBounds_toArray,List.set_cons_zero,List.set_cons_succ,i64_w,i32_w]
              rfl
             refine done_ (done_of HT_.out (by kernel_rfl)) ?_
             try go_wp2
             go_roundg k2
             case measure=>have:=HJ3.out;have:=HK2.out;omega
             case rel=>exact ⟨(wrap64 (x22_2 + 1)),(by first|rfl|(simp;done)|(simp [*];done)),H',⟨by have:=HJ3.out;have:=HK2.out;omega⟩,⟨by repeat (first|(with_reducible first|exact HB.out|apply zD|apply zE|apply zF|refine below_set ?_ GE168.out)|exact HB.out)⟩⟩
            ·replace c19:=Bool.eq_false_iff.mpr c19
             subst c19
             have H1 : (some false) = some r:=by rw [if_neg (show ¬ (false = true) by decide)] at H;exact H
             clear H
             have H:=H1
             clear H1
             obtain rfl:=Option.some.inj H
             have p167 : 0 ≤ (x22_2 : Int):=of_decide_eq_true (by first|(with_reducible assumption)|assumption)
             have q167 : x22_2 < (l2.length : Int):=of_decide_eq_true (by first|(with_reducible assumption)|assumption)
             obtain ⟨ad167,e167,hx167_0,hx167_1⟩:=at_T37 HR2.out x22_2 p167 q167
             cases e167
             replace hx167_0:=(HB.out.cell (World.block_lt_of_cell? w _ hx167_0)).trans hx167_0
             replace hx167_1:=(HB.out.cell (World.block_lt_of_cell? w _ hx167_1)).trans hx167_1
             replace p167:=eq_true p167
             replace q167:=eq_true q167
             try go_wp2_with (first|((with_reducible refine gate_dst (N:=8) rfl ?_);(try (refine gate_guard (by rfl) ?_;dsimp only));refine box_event ?hg (N:=8) ?hd (cs := #[.int .i64 0,.int .i64 0]) (t:=37) ?hr ?_;(case hd=>rfl);(case hg=>rfl);(case hr=>first|(go_simp;done)|(go_simp;rfl));intro gb168 hg w27 hbox hb;have n0_:=zM (zQ (by repeat (first|(with_reducible first|exact HB.out|apply zD|apply zE|apply zF)|exact HB.out)) hb);have n1_:=zM (hbox);have n2_:=zM ((by rw [hg];exact (zR (by repeat (first|(with_reducible first|exact HB.out|apply zD|apply zE|apply zF)|exact HB.out))) : w.heap.size ≤ gb168));have n3_:=zM ((by rw [hg];exact (zR (by repeat (first|(with_reducible first|exact HB.out|apply zD|apply zE|apply zF)|exact HB.out))) : w.heap.size ≤ gb168));clear HB;have HB:=n0_;have BK168:=n1_;have GW168:=n2_;have GE168:=n3_;clear n0_ n1_ n2_ n3_;clear hb hbox hg;have hcz28_0 : w27.cell? ⟨gb168,0,none⟩ = some (.int .i64 0):=(blk_cell BK168.out 0).trans rfl;have hcz28_1 : w27.cell? ⟨gb168,1,none⟩ = some (.int .i64 0):=(blk_cell BK168.out 1).trans rfl;have hfz28_0:=blk_frozen BK168.out 0;have hfz28_1:=blk_frozen BK168.out 1))
             have n0_ : Aside0 (((w27.setCell ⟨gb168,0,none⟩ (.int .i64 ((rd_T37 l2 x22_2).f0))).setCell ⟨gb168,1,none⟩ (.int .i64 ((rd_T37 l2 x22_2).f1))).heap[gb168]? = some (.cells #[.int .i64 ((rd_T37 l2 x22_2).f0),.int .i64 ((rd_T37 l2 x22_2).f1)] 37 (0,0))):=⟨by (with_reducible repeat (first|refine zJ ?_ _|refine zK ?_|refine zL ?_ _));refine blk_put (cs := #[.int .i64 ((rd_T37 l2 x22_2).f0),.int .i64 0]) ?_ 1 _ rfl;(with_reducible repeat (first|refine zJ ?_ _|refine zK ?_|refine zL ?_ _));refine blk_put (cs := #[.int .i64 0,.int .i64 0]) ?_ 0 _ rfl;(with_reducible repeat (first|refine zJ ?_ _|refine zK ?_|refine zL ?_ _));exact BK168.out⟩
             have n1_ : Aside0 (Below w.heap.size w ((w27.setCell ⟨gb168,0,none⟩ (.int .i64 ((rd_T37 l2 x22_2).f0))).setCell ⟨gb168,1,none⟩ (.int .i64 ((rd_T37 l2 x22_2).f1)))):=⟨by repeat (first|(with_reducible first|exact HB.out|apply zD|apply zE|apply zF|refine below_set ?_ GE168.out)|exact HB.out)⟩
             (try clear BK168)
             (try clear HB)
             generalize ((w27.setCell ⟨gb168,0,none⟩ (.int .i64 ((rd_T37 l2 x22_2).f0))).setCell ⟨gb168,1,none⟩ (.int .i64 ((rd_T37 l2 x22_2).f1))) = w29 at n0_ n1_ ⊢
             have BK168:=n0_
             have HB:=n1_
             clear n0_ n1_
             have n0_:=zM (zK BK168.out)
             have n1_:=zM (zF HB.out)
             clear BK168
             clear HB
             have BK168:=n0_
             have HB:=n1_
             clear n0_ n1_
             have p169 : 0 ≤ (x22_2 : Int):=of_decide_eq_true (by first|(with_reducible assumption)|assumption)
             have q169 : x22_2 < (l1.length : Int):=of_decide_eq_true (by first|(with_reducible assumption)|assumption)
             obtain ⟨ad169,e169,hx169_0,hx169_1,hx169_2,hx169_3⟩:=at_T62 HR1.out x22_2 p169 q169
             have hw169_3:=hx169_3
             have hw169_2:=hx169_2
             have hw169_1:=hx169_1
             have hw169_0:=hx169_0
             cases e169
             replace hx169_0:=(HB.out.cell (World.block_lt_of_cell? w _ hx169_0)).trans hx169_0
             replace hx169_1:=(HB.out.cell (World.block_lt_of_cell? w _ hx169_1)).trans hx169_1
             replace hx169_2:=(HB.out.cell (World.block_lt_of_cell? w _ hx169_2)).trans hx169_2
             replace hx169_3:=(HB.out.cell (World.block_lt_of_cell? w _ hx169_3)).trans hx169_3
             replace p169:=eq_true p169
             replace q169:=eq_true q169
             have q31 : (x22_2 : Int) ≤ ((l1.length : Int) : Int):=of_decide_eq_true (by first|(with_reducible assumption)|assumption)
             obtain ⟨i031,hi031,_,hsz31,_⟩:=info_parts info62
             have hroom31 : l1.length ≤ c1:=HC1.out
             have hC31 : Kd.C k62 _ (some ad169) l1.length l1:=HR1.out
             have hcut31:=cut_to (P:=Try.prog) 27 62 .i64 Try.underlying27 hi031 (some ad169) l1.length c1 x22_2 (of_decide_eq_true (by first|(with_reducible assumption)|assumption)) q31 hroom31
             have hr31:=Kd.C_take (m:=(x22_2 : Int).toNat) hC31 (by omega)
             have hy31 : y170.length = (x22_2 : Int).toNat:=(by rw [Ny170.out,List.length_take];omega)
             rw [← Ny170.out] at hr31
             rw [← hy31] at hcut31
             have HR173:=zM hr31
             have HC173:=zM (show y170.length ≤ c1 from by omega)
             clear hr31 hC31 hroom31 hi031 hsz31
             have KY31:=zM hy31
             clear hy31
             replace q31:=eq_true q31
             have q32 : (x22_2 : Int) ≤ ((l2.length : Int) : Int):=of_decide_eq_true (by first|(with_reducible assumption)|assumption)
             obtain ⟨i032,hi032,_,hsz32,_⟩:=info_parts info37
             have hroom32 : l2.length ≤ c2:=HC2.out
             have hC32 : Kd.C k37 _ (some ad167) l2.length l2:=HR2.out
             have hcut32:=cut_to (P:=Try.prog) 29 37 .i64 Try.underlying29 hi032 (some ad167) l2.length c2 x22_2 (of_decide_eq_true (by first|(with_reducible assumption)|assumption)) q32 hroom32
             have hr32:=Kd.C_take (m:=(x22_2 : Int).toNat) hC32 (by omega)
             have hy32 : y174.length = (x22_2 : Int).toNat:=(by rw [Ny174.out,List.length_take];omega)
             rw [← Ny174.out] at hr32
             rw [← hy32] at hcut32
             have HR177:=zM hr32
             have HC177:=zM (show y174.length ≤ c2 from by omega)
             clear hr32 hC32 hroom32 hi032 hsz32
             have KY32:=zM hy32
             clear hy32
             replace q32:=eq_true q32
             refine start_ (n:=14) (S:=fun w'=>w'.cell? ⟨gb168,0,none⟩ = some (.int .i64 ((rd_T37 l2 x22_2).f0)) ∧ w'.cell? ⟨gb168,1,none⟩ = some (.int .i64 ((rd_T37 l2 x22_2).f1)) ∧ w'.cell? (ad169.add ((x22_2).toNat * 4)) = some (.int .i64 ((rd_T62 l1 x22_2).f0)) ∧ w'.cell? ⟨(ad169.add ((x22_2).toNat * 4)).block,(ad169.add ((x22_2).toNat * 4)).off + 1,none⟩ = some (.int .i64 ((rd_T62 l1 x22_2).f1)) ∧ w'.cell? ⟨(ad169.add ((x22_2).toNat * 4)).block,(ad169.add ((x22_2).toNat * 4)).off + 2,none⟩ = some (.int .i64 ((rd_T62 l1 x22_2).f2)) ∧ w'.cell? ⟨(ad169.add ((x22_2).toNat * 4)).block,(ad169.add ((x22_2).toNat * 4)).off + 3,none⟩ = some (.int .i64 ((rd_T62 l1 x22_2).f3))) (ds:=[]) #[false,false,false,false,false,false,false,false,false,false,false,false,false,false] (by kernel_rfl) rfl rfl ⟨(blk_cell BK168.out 0).trans rfl,(blk_cell BK168.out 1).trans rfl,((HB.out.cell (World.block_lt_of_cell? w _ hw169_0)).trans hw169_0),((HB.out.cell (World.block_lt_of_cell? w _ hw169_1)).trans hw169_1),((HB.out.cell (World.block_lt_of_cell? w _ hw169_2)).trans hw169_2),((HB.out.cell (World.block_lt_of_cell? w _ hw169_3)).trans hw169_3)⟩ (fun hHeld=>?_);refine with_tabW impl_IsPossiblePlan.tab6 impl_IsPossiblePlan.bits6 (fun HT_ HW_=>?_)
             generalize w29.drew = w30 at BK168 HB HR173 HR177 hx169_0 hx169_1 hx169_2 hx169_3 hHeld ⊢
             refine pure_ (i:=0) (N:=some 27) (v:=?_) (a':=?_) #[true,false,false,false,false,false,false,false,false,false,false,false,false,false] rfl rfl (any_of HT_.out (by kernel_rfl)) (fun _ _ _ h=>h) (Or.inl ⟨by rfl,?_⟩) ?_ ?_
             rotate_left
             ·intro w'
              go_simp
              with_reducible rfl
             rotate_left
             ·simp only [Act.put,List.setIfInBounds_toArray,List.set_cons_zero,List.set_cons_succ,i64_w,i32_w]
              rfl
             refine pure_ (i:=1) (N:=some 28) (v:=?_) (a':=?_) #[true,true,false,false,false,false,false,false,false,false,false,false,false,false] rfl rfl (any_of HT_.out (by kernel_rfl)) (fun _ _ _ h=>h) (Or.inl ⟨by rfl,?_⟩) ?_ ?_
             rotate_left
             ·intro w'
              go_simp
              with_reducible rfl
             rotate_left
             ·simp only [Act.put,List.setIfInBounds_toArray,List.set_cons_zero,List.set_cons_succ,i64_w,i32_w]
              rfl
             refine pure_ (i:=2) (N:=some 29) (v:=?_) (a':=?_) #[true,true,true,false,false,false,false,false,false,false,false,false,false,false] rfl rfl (any_of HT_.out (by kernel_rfl)) (fun _ _ _ h=>h) (Or.inl ⟨by rfl,?_⟩) ?_ ?_
             rotate_left
             ·intro w'
              go_simp
              with_reducible rfl
             rotate_left
             ·simp only [Act.put,List.setIfInBounds_toArray,List.set_cons_zero,List.set_cons_succ,i64_w,i32_w]
              rfl
             refine pure_ (i:=3) (N:=some 30) (v:=?_) (a':=?_) #[true,true,true,true,false,false,false,false,false,false,false,false,false,false] rfl rfl (any_of HT_.out (by kernel_rfl)) (fun _ _ _ h=>h) (Or.inl ⟨by rfl,?_⟩) ?_ ?_
             rotate_left
             ·intro w'
              go_simp
              with_reducible rfl
             rotate_left
             ·simp only [Act.put,List.setIfInBounds_toArray,List.set_cons_zero,List.set_cons_succ,i64_w,i32_w]
              rfl
             refine pure_ (i:=6) (N:=some 33) (v:=?_) (a':=?_) #[true,true,true,true,false,false,true,false,false,false,false,false,false,false] rfl rfl (any_of HT_.out (by kernel_rfl)) (fun _ _ _ h=>h) (Or.inl ⟨by rfl,?_⟩) ?_ ?_
             rotate_left
             ·intro w'
              go_simp
              with_reducible rfl
             rotate_left
             ·simp only [Act.put,List.setIfInBounds_toArray,List.set_cons_zero,List.set_cons_succ,i64_w,i32_w]
              rfl
             refine pure_ (i:=7) (N:=some 34) (v:=?_) (a':=?_) #[true,true,true,true,false,false,true,true,false,false,false,false,false,false] rfl rfl (any_of HT_.out (by kernel_rfl)) (fun _ _ _ h=>h) (Or.inl ⟨by rfl,?_⟩) ?_ ?_
             rotate_left
             ·intro w'
              go_simp
              with_reducible rfl
             rotate_left
             ·simp only [Act.put,List.setIfInBounds_toArray,List.set_cons_zero,List.set_cons_succ,i64_w,i32_w]
              rfl
             refine pure_ (i:=8) (N:=some 35) (v:=?_) (a':=?_) #[true,true,true,true,false,false,true,true,true,false,false,false,false,false] rfl rfl (any_of HT_.out (by kernel_rfl)) (fun _ _ _ h=>h) (Or.inl ⟨by rfl,?_⟩) ?_ ?_
             rotate_left
             ·intro w'
              go_simp
              with_reducible rfl
             rotate_left
             ·simp only [Act.put,List.setIfInBounds_toArray,List.set_cons_zero,List.set_cons_succ,i64_w,i32_w]
              rfl
             refine pure_ (i:=9) (N:=some 36) (v:=?_) (a':=?_) #[true,true,true,true,false,false,true,true,true,true,false,false,false,false] rfl rfl (any_of HT_.out (by kernel_rfl)) (fun _ _ _ h=>h) (Or.inl ⟨by rfl,?_⟩) ?_ ?_
             rotate_left
             ·intro w'
              go_simp
              with_reducible rfl
             rotate_left
             ·simp only [Act.put,List.setIfInBounds_toArray,List.set_cons_zero,List.set_cons_succ,i64_w,i32_w]
              rfl
             refine pure_ (i:=10) (N:=some 37) (v:=?_) (a':=?_) #[true,true,true,true,false,false,true,true,true,true,true,false,false,false] rfl rfl (any_of HT_.out (by kernel_rfl)) (fun _ _ _ h=>h) (Or.inl ⟨by rfl,?_⟩) ?_ ?_
             rotate_left
             ·intro w'
              go_simp
              with_reducible rfl
             rotate_left
             ·simp only [Act.put,List.setIfInBounds_toArray,List.set_cons_zero,List.set_cons_succ,i64_w,i32_w]
              rfl
             refine pure_ (i:=11) (N:=some 38) (v:=?_) (a':=?_) #[true,true,true,true,false,false,true,true,true,true,true,true,false,false] rfl rfl (any_of HT_.out (by kernel_rfl)) (fun _ _ _ h=>h) (Or.inl ⟨by rfl,?_⟩) ?_ ?_
             rotate_left
             ·intro w'
              go_simp
              with_reducible rfl
             rotate_left
             ·simp only [Act.put,List.setIfInBounds_toArray,List.set_cons_zero,List.set_cons_succ,i64_w,i32_w]
              rfl
             refine take_ (i:=4) (N:=some 31) (v:=?_) (a':=?_) #[true,true,true,true,true,false,true,true,true,true,true,true,false,false] rfl rfl (take_ofW HT_.out HW_.out (by kernel_rfl)) (fun _ _ _ h=>h) (Or.inl ⟨by rfl,?_⟩) hHeld ?_ ?_
             rotate_left
             ·rintro w' ⟨s0,s1,s2,s3,s4,s5⟩
              go_simp
              with_reducible rfl
             rotate_left
             ·simp only [Act.put,List.setIfInBounds_toArray,List.set_cons_zero,List.set_cons_succ,i64_w,i32_w]
              rfl
             refine take_ (i:=5) (N:=some 32) (v:=?_) (a':=?_) #[true,true,true,true,true,true,true,true,true,true,true,true,false,false] rfl rfl (take_ofW HT_.out HW_.out (by kernel_rfl)) (fun _ _ _ h=>h) (Or.inl ⟨by rfl,?_⟩) hHeld ?_ ?_
             rotate_left
             ·rintro w' ⟨s0,s1,s2,s3,s4,s5⟩
              go_simp
              with_reducible rfl
             rotate_left
             ·simp only [Act.put,List.setIfInBounds_toArray,List.set_cons_zero,List.set_cons_succ,i64_w,i32_w]
              rfl
             refine one_ (i:=12) (N:=some 39) #[true,true,true,true,true,true,true,true,true,true,true,true,true,false] rfl rfl (one_of HT_.out (by kernel_rfl)) (by decide) (fun K hK=>?_)
             refine goes_ Try.func53 (by kernel_rfl) rfl #[.int .i64 a0,.agg #[.int .i64 ((rd_T62 l1 x22_2).f0),.int .i64 ((rd_T62 l1 x22_2).f1),.int .i64 ((rd_T62 l1 x22_2).f2),.int .i64 ((rd_T62 l1 x22_2).f3)],.agg #[.int .i64 ((rd_T37 l2 x22_2).f0),.int .i64 ((rd_T37 l2 x22_2).f1)],.slice (some ad169) y170.length c1,.slice (some ad167) y174.length c2] (by rfl) rfl rfl (by (try simp only [List.map_toArray,List.map_cons,List.map_nil]);first|done|rfl|(simp only [List.length_drop,List.length_take];rfl)) ?_
             with_reducible refine (impl_fits.calls k2 a0 ((rd_T62 l1 x22_2).f0) ((rd_T62 l1 x22_2).f1) ((rd_T62 l1 x22_2).f2) ((rd_T62 l1 x22_2).f3) ((rd_T37 l2 x22_2).f0) ((rd_T37 l2 x22_2).f1) _ _ y170 _ _ y174 false _ ?side1 ?side2 ?side3 ?side4 A18.out).mono ?_
             (case side1=>repeat (first|exact (zO HR173.out HB.out)|(with_reducible refine zG ?_ _)|(with_reducible refine zH ?_ _)|(with_reducible refine zI ?_)))
             (case side2=>exact HC173.out)
             (case side3=>repeat (first|exact (zO HR177.out HB.out)|(with_reducible refine zG ?_ _)|(with_reducible refine zH ?_ _)|(with_reducible refine zI ?_)))
             (case side4=>exact HC177.out)
             rintro e w33 ⟨rfl,hb⟩
             refine ⟨_,rfl,?_⟩
             have n0_:=zM (blk_below (g:=gb168) (o := .cells #[.int .i64 ((rd_T37 l2 x22_2).f0),.int .i64 ((rd_T37 l2 x22_2).f1)] 37 (0,0)) (by (with_reducible repeat (first|refine zJ ?_ _|refine zK ?_|refine zL ?_ _));exact BK168.out) hb)
             have n1_:=zM (zQ (by repeat (first|(with_reducible first|exact HB.out|apply zD|apply zE|apply zF|refine below_set ?_ GE168.out)|exact HB.out)) hb)
             clear BK168
             clear HB
             have BK168:=n0_
             have HB:=n1_
             clear n0_ n1_
             (try clear hb)
             (try clear hb2)
             (try clear hk)
             (try clear hi)
             refine hK.out _ _ ⟨(blk_cell BK168.out 0).trans rfl,(blk_cell BK168.out 1).trans rfl,((HB.out.cell (World.block_lt_of_cell? w _ hw169_0)).trans hw169_0),((HB.out.cell (World.block_lt_of_cell? w _ hw169_1)).trans hw169_1),((HB.out.cell (World.block_lt_of_cell? w _ hw169_2)).trans hw169_2),((HB.out.cell (World.block_lt_of_cell? w _ hw169_3)).trans hw169_3)⟩ (fun hHeld=>?_)
             clear hK K
             refine norm_ (a':=?_) ?_ ?_
             rotate_left
             ·show Act.put _ (some 39) _ = _
              simp only [Act.put,List.setIfInBounds_toArray,List.set_cons_zero,List.set_cons_succ,i64_w,i32_w]
              rfl
             refine pure_ (i:=13) (N:=some 40) (v:=?_) (a':=?_) #[true,true,true,true,true,true,true,true,true,true,true,true,true,true] rfl rfl (any_of HT_.out (by kernel_rfl)) (fun _ _ _ h=>h) (Or.inl ⟨by rfl,?_⟩) ?_ ?_
             rotate_left
             ·intro w'
              go_simp
              with_reducible rfl
             rotate_left
             ·simp only [Act.put,List.setIfInBounds_toArray,List.set_cons_zero,List.set_cons_succ,i64_w,i32_w]
              rfl
             refine done_ (done_of HT_.out (by kernel_rfl)) ?_
             try go_wp2
             go_ret
             exact ⟨by first|rfl|(simp [errW_none,errW_some] <;> rfl)|(simp [*,errW_none,errW_some] <;> rfl),by repeat (first|(with_reducible first|exact HB.out|apply zD|apply zE|apply zF|refine below_set ?_ GE168.out)|exact HB.out)⟩
           ·rw [if_neg c17] at H
            exact absurd H (by simp)
          ·rw [if_neg c15] at H
           exact absurd H (by simp)
         ·rw [if_neg c13] at H
          exact absurd H (by simp)
        ·rw [if_neg c12] at H
         exact absurd H (by simp)
       ·rw [if_neg c11] at H
        exact absurd H (by simp)
      ·rw [if_neg c10] at H
       have c10b0 : decide (x22_2 < (l2.length : Int)) = false:=decide_eq_false c10
       clear c10
       obtain rfl:=Option.some.inj H
       go_wp2
       go_ret
       exact ⟨by first|rfl|(simp [errW_none,errW_some] <;> rfl)|(simp [*,errW_none,errW_some] <;> rfl),by repeat (first|(with_reducible first|exact HB.out|apply zD|apply zE|apply zF)|exact HB.out)⟩

end Go.Proofs.Ytcciljjnpfgaeaa.G

-- Written by wip/tools/gen.py out of the translation (the kit's printer, one namespace a seat). Lean checks it.
namespace Go.Proofs.Ytcciljjnpfgaeaa.G
open Go.RowKit Go.Proofs.YtcciljjnpfgaeaaW.PrintWords Go.Proofs.YtcciljjnpfgaeaaW.PrintLast Go.Proofs.YtcciljjnpfgaeaaW.PrintMore
attribute [local go_sem] max2_int min2_int max_two min_two max_three min_three max_four min_four   -- for this text's walks alone
set_option linter.unusedVariables false
set_option linter.unusedSimpArgs false

/-! ### impl_LastHour: function 22 -/
def impl_LastHour.l0 : Nat → List (S62) → Int → List (S37) → Int → Int → Option (Int × Bool)
 | 0,_,_,_,_,_=>none
 | k + 1,x1,x8,x16,x17,x18=>if x18 < x17 then (if 0 ≤ x18 then (if x18 < (x16.length : Int) then (if x18 < (x1.length : Int) then (impl_LastHour.l0 k x1 (mx x8 (wrap64 (((rd_T37 x16 x18).f1) + ((rd_T62 x1 x18).f2)))) x16 x17 (wrap64 (x18 + 1))) else (none)) else (none)) else (none)) else (some (x8,true))
def impl_LastHour.f (k : Nat) (a0 : Int) (l1 : List (S62)) (l2 : List (S37)) : Option (Int × Bool):=(impl_IsPossiblePlan.f k a0 l1 l2).bind fun t217=>(if t217 = true then (impl_LastHour.l0 k l1 0 l2 (l2.length : Int) 0) else (some (0,false)))
set_option maxHeartbeats 8000000 in
set_option maxRecDepth 100000 in
theorem impl_LastHour.calls (k : Nat) (a0 : Int) (A1 : Option Addr) (c1 : Nat) (l1 : List (S62)) (A2 : Option Addr) (c2 : Nat) (l2 : List (S37)) (r1 : Int) (r2 : Bool) (w : World) (hr1 : Kd.C k62 w A1 l1.length l1) (hc1 : l1.length ≤ c1) (hr2 : Kd.C k37 w A2 l2.length l2) (hc2 : l2.length ≤ c2) (h : impl_LastHour.f k a0 l1 l2 = some (r1,r2)) :
  Calls Try.prog 22 #[.int .i64 a0,.slice A1 l1.length c1,.slice A2 l2.length c2] w fun e w'=>e = .returned (.tuple #[.int .i64 r1,.bool r2]) ∧ Below w.heap.size w w':=by
 have hu37:=Try.underlying37
 have HR1:=zM hr1
 have HC1:=zM hc1
 clear hr1 hc1
 have HR2:=zM hr2
 have HC2:=zM hc2
 clear hr2 hc2
 have HB:=zM (Below.refl w.heap.size w)
 have H : ((impl_IsPossiblePlan.f k a0 l1 l2).bind fun t217=>(if t217 = true then (impl_LastHour.l0 k l1 0 l2 (l2.length : Int) 0) else (some (0,false)))) = some (r1,r2):=h
 clear h
 replace H:=Option.bind_eq_some_iff.mp H
 obtain ⟨t217,A40,H⟩:=H
 replace H : (if t217 = true then (impl_LastHour.l0 k l1 0 l2 (l2.length : Int) 0) else (some (0,false))) = some (r1,r2):=H
 have A4:=zM A40
 clear A40
 by_cases c5 : t217 = true
 ·subst c5
  have H1 : (impl_LastHour.l0 k l1 0 l2 (l2.length : Int) 0) = some (r1,r2):=by rw [if_pos rfl] at H;exact H
  clear H
  have H:=H1
  clear H1
  have H':=zM H
  clear H
  go_enter Try.func22,Try.ntmps22
  go_wp2_with (first|(go_at_call 18;(with_reducible refine (impl_IsPossiblePlan.calls k a0 _ _ l1 _ _ l2 true _ ?side1 ?side2 ?side3 ?side4 A4.out).mono ?_);(case side1=>repeat (first|exact HR1.out|(with_reducible refine zG ?_ _)|(with_reducible refine zH ?_ _)|(with_reducible refine zI ?_)));(case side2=>exact HC1.out);(case side3=>repeat (first|exact HR2.out|(with_reducible refine zG ?_ _)|(with_reducible refine zH ?_ _)|(with_reducible refine zI ?_)));(case side4=>exact HC2.out);rintro e w6 ⟨rfl,hb⟩;have n0_:=zM (zQ (by repeat (first|(with_reducible first|exact HB.out|apply zD|apply zE|apply zF)|exact HB.out)) hb);clear HB;have HB:=n0_;clear n0_;(try clear hb);(try clear hb2);(try clear hk);(try clear hi)))
  repeat (go_quiet (first|(go_at_call 18;(with_reducible refine (impl_IsPossiblePlan.calls k a0 _ _ l1 _ _ l2 true _ ?side1 ?side2 ?side3 ?side4 A4.out).mono ?_);(case side1=>repeat (first|exact HR1.out|(with_reducible refine zG ?_ _)|(with_reducible refine zH ?_ _)|(with_reducible refine zI ?_)));(case side2=>exact HC1.out);(case side3=>repeat (first|exact HR2.out|(with_reducible refine zG ?_ _)|(with_reducible refine zH ?_ _)|(with_reducible refine zI ?_)));(case side4=>exact HC2.out);rintro e w6 ⟨rfl,hb⟩;have n0_:=zM (zQ (by repeat (first|(with_reducible first|exact HB.out|apply zD|apply zE|apply zF)|exact HB.out)) hb);clear HB;have HB:=n0_;clear n0_;(try clear hb);(try clear hb2);(try clear hk);(try clear hi)));try go_wp2_with (first|(go_at_call 18;(with_reducible refine (impl_IsPossiblePlan.calls k a0 _ _ l1 _ _ l2 true _ ?side1 ?side2 ?side3 ?side4 A4.out).mono ?_);(case side1=>repeat (first|exact HR1.out|(with_reducible refine zG ?_ _)|(with_reducible refine zH ?_ _)|(with_reducible refine zI ?_)));(case side2=>exact HC1.out);(case side3=>repeat (first|exact HR2.out|(with_reducible refine zG ?_ _)|(with_reducible refine zH ?_ _)|(with_reducible refine zI ?_)));(case side4=>exact HC2.out);rintro e w6 ⟨rfl,hb⟩;have n0_:=zM (zQ (by repeat (first|(with_reducible first|exact HB.out|apply zD|apply zE|apply zF)|exact HB.out)) hb);clear HB;have HB:=n0_;clear n0_;(try clear hb);(try clear hb2);(try clear hk);(try clear hi))))
  go_loopg [8,18] k (fun kq v8 v18 w' => ∃ (x8_1 : Int) (x18_1 : Int),v8 = .int .i64 x8_1 ∧ v18 = .int .i64 x18_1 ∧ Aside0 (impl_LastHour.l0 kq l1 x8_1 l2 (l2.length : Int) x18_1 = some (r1,r2)) ∧ Aside0 (kq ≤ k) ∧ Aside0 (Below w.heap.size w w'))
  case atStart=>exact ⟨(0),(0),(by first|rfl|(simp;done)|(simp [*];done)),(by first|rfl|(simp;done)|(simp [*];done)),H',⟨Nat.le_refl _⟩,⟨by repeat (first|(with_reducible first|exact HB.out|apply zD|apply zE|apply zF)|exact HB.out)⟩⟩
  case round =>
   clear H'
   try clear c1
   try clear c2
   try clear p2
   try clear c5
   obtain ⟨x8_1,x18_1,rfl,rfl,HA,HK1,HB⟩:=hrel
   cases gk with
   | zero=>exact absurd HA.out (by simp [impl_LastHour.l0])
   | succ k1 =>
    have H:=HA.out
    clear HA
    simp only [impl_LastHour.l0] at H
    by_cases c7 : x18_1 < (l2.length : Int)
    ·rw [if_pos c7] at H
     have c7b0 : decide (x18_1 < (l2.length : Int)) = true:=decide_eq_true c7
     clear c7
     by_cases c8 : 0 ≤ x18_1
     ·rw [if_pos c8] at H
      have c8b0 : decide (0 ≤ x18_1) = true:=decide_eq_true c8
      clear c8
      by_cases c9 : x18_1 < (l2.length : Int)
      ·rw [if_pos c9] at H
       have c9b0 : decide (x18_1 < (l2.length : Int)) = true:=decide_eq_true c9
       clear c9
       by_cases c10 : x18_1 < (l1.length : Int)
       ·rw [if_pos c10] at H
        have c10b0 : decide (x18_1 < (l1.length : Int)) = true:=decide_eq_true c10
        clear c10
        obtain ⟨ji11,hji11⟩ : ∃ j_ : Int,(mx x8_1 (wrap64 (((rd_T37 l2 x18_1).f1) + ((rd_T62 l1 x18_1).f2)))) = j_:=⟨_,rfl⟩
        replace H : (impl_LastHour.l0 k1 l1 ji11 l2 (l2.length : Int) (wrap64 (x18_1 + 1))) = some (r1,r2):=by first|(rw [hji11] at H;exact H)|(simp only [hji11] at H ⊢;exact H)
        have hji11_ : (if x8_1 < (wrap64 (((rd_T37 l2 x18_1).f1) + ((rd_T62 l1 x18_1).f2))) then (wrap64 (((rd_T37 l2 x18_1).f1) + ((rd_T62 l1 x18_1).f2))) else x8_1) = ji11:=hji11
        have H':=zM H
        clear H
        have p218 : 0 ≤ (x18_1 : Int):=of_decide_eq_true (by first|(with_reducible assumption)|assumption)
        have q218 : x18_1 < (l2.length : Int):=of_decide_eq_true (by first|(with_reducible assumption)|assumption)
        obtain ⟨ad218,e218,hx218_0,hx218_1⟩:=at_T37 HR2.out x18_1 p218 q218
        cases e218
        replace hx218_0:=(HB.out.cell (World.block_lt_of_cell? w _ hx218_0)).trans hx218_0
        replace hx218_1:=(HB.out.cell (World.block_lt_of_cell? w _ hx218_1)).trans hx218_1
        replace p218:=eq_true p218
        replace q218:=eq_true q218
        go_wp2_with (first|((with_reducible refine gate_dst (N:=10) rfl ?_);refine box_event ?hg (N:=10) ?hd (cs := #[.int .i64 0,.int .i64 0]) (t:=37) ?hr ?_;(case hd=>rfl);(case hg=>rfl);(case hr=>first|(go_simp;done)|(go_simp;rfl));intro gb219 hg w12 hbox hb;have n0_:=zM (zQ (by repeat (first|(with_reducible first|exact HB.out|apply zD|apply zE|apply zF)|exact HB.out)) hb);have n1_:=zM (hbox);have n2_:=zM ((by rw [hg];exact (zR (by repeat (first|(with_reducible first|exact HB.out|apply zD|apply zE|apply zF)|exact HB.out))) : w.heap.size ≤ gb219));have n3_:=zM ((by rw [hg];exact (zR (by repeat (first|(with_reducible first|exact HB.out|apply zD|apply zE|apply zF)|exact HB.out))) : w.heap.size ≤ gb219));clear HB;have HB:=n0_;have BK219:=n1_;have GW219:=n2_;have GE219:=n3_;clear n0_ n1_ n2_ n3_;clear hb hbox hg;have hcz13_0 : w12.cell? ⟨gb219,0,none⟩ = some (.int .i64 0):=(blk_cell BK219.out 0).trans rfl;have hcz13_1 : w12.cell? ⟨gb219,1,none⟩ = some (.int .i64 0):=(blk_cell BK219.out 1).trans rfl;have hfz13_0:=blk_frozen BK219.out 0;have hfz13_1:=blk_frozen BK219.out 1;have p220 : 0 ≤ (x18_1 : Int):=of_decide_eq_true (by first|(with_reducible assumption)|assumption);have q220 : x18_1 < (l1.length : Int):=of_decide_eq_true (by first|(with_reducible assumption)|assumption);obtain ⟨ad220,e220,hx220_0,hx220_1,hx220_2,hx220_3⟩:=at_T62 HR1.out x18_1 p220 q220;cases e220;have hn220_0 : ad220.block ≠ gb219:=Nat.ne_of_lt (Nat.lt_of_lt_of_le (by have:=World.block_lt_of_cell? _ _ hx220_0;first|rwa [add_block] at this|exact this) GW219.out);have hn220_1 : ad220.block ≠ gb219:=Nat.ne_of_lt (Nat.lt_of_lt_of_le (by have:=World.block_lt_of_cell? _ _ hx220_0;first|rwa [add_block] at this|exact this) GW219.out);replace hx220_0:=(HB.out.cell (World.block_lt_of_cell? w _ hx220_0)).trans hx220_0;replace hx220_1:=(HB.out.cell (World.block_lt_of_cell? w _ hx220_1)).trans hx220_1;replace hx220_2:=(HB.out.cell (World.block_lt_of_cell? w _ hx220_2)).trans hx220_2;replace hx220_3:=(HB.out.cell (World.block_lt_of_cell? w _ hx220_3)).trans hx220_3;replace hx220_0:=(cell_far (p:=⟨gb219,0,none⟩) (by first|(rw [add_block];exact hn220_0)|(show (Addr.add _ _).block ≠ _;rw [add_block];exact hn220_0)|exact hn220_0) (.int .i64 ((rd_T37 l2 x18_1).f0))).trans hx220_0;replace hx220_1:=(cell_far (p:=⟨gb219,0,none⟩) (by first|(rw [add_block];exact hn220_0)|(show (Addr.add _ _).block ≠ _;rw [add_block];exact hn220_0)|exact hn220_0) (.int .i64 ((rd_T37 l2 x18_1).f0))).trans hx220_1;replace hx220_2:=(cell_far (p:=⟨gb219,0,none⟩) (by first|(rw [add_block];exact hn220_0)|(show (Addr.add _ _).block ≠ _;rw [add_block];exact hn220_0)|exact hn220_0) (.int .i64 ((rd_T37 l2 x18_1).f0))).trans hx220_2;replace hx220_3:=(cell_far (p:=⟨gb219,0,none⟩) (by first|(rw [add_block];exact hn220_0)|(show (Addr.add _ _).block ≠ _;rw [add_block];exact hn220_0)|exact hn220_0) (.int .i64 ((rd_T37 l2 x18_1).f0))).trans hx220_3;replace hx220_0:=(cell_far (p:=⟨gb219,1,none⟩) (by first|(rw [add_block];exact hn220_1)|(show (Addr.add _ _).block ≠ _;rw [add_block];exact hn220_1)|exact hn220_1) (.int .i64 ((rd_T37 l2 x18_1).f1))).trans hx220_0;replace hx220_1:=(cell_far (p:=⟨gb219,1,none⟩) (by first|(rw [add_block];exact hn220_1)|(show (Addr.add _ _).block ≠ _;rw [add_block];exact hn220_1)|exact hn220_1) (.int .i64 ((rd_T37 l2 x18_1).f1))).trans hx220_1;replace hx220_2:=(cell_far (p:=⟨gb219,1,none⟩) (by first|(rw [add_block];exact hn220_1)|(show (Addr.add _ _).block ≠ _;rw [add_block];exact hn220_1)|exact hn220_1) (.int .i64 ((rd_T37 l2 x18_1).f1))).trans hx220_2;replace hx220_3:=(cell_far (p:=⟨gb219,1,none⟩) (by first|(rw [add_block];exact hn220_1)|(show (Addr.add _ _).block ≠ _;rw [add_block];exact hn220_1)|exact hn220_1) (.int .i64 ((rd_T37 l2 x18_1).f1))).trans hx220_3;(try have hy220_0:=fun (n_ : Nat)=>(show ((((w12.drewN n_).setCell ⟨gb219,0,none⟩ (.int .i64 ((rd_T37 l2 x18_1).f0))).setCell ⟨gb219,1,none⟩ (.int .i64 ((rd_T37 l2 x18_1).f1)))).cell? _ = some _ from hx220_0));(try have hy220_1:=fun (n_ : Nat)=>(show ((((w12.drewN n_).setCell ⟨gb219,0,none⟩ (.int .i64 ((rd_T37 l2 x18_1).f0))).setCell ⟨gb219,1,none⟩ (.int .i64 ((rd_T37 l2 x18_1).f1)))).cell? _ = some _ from hx220_1));(try have hy220_2:=fun (n_ : Nat)=>(show ((((w12.drewN n_).setCell ⟨gb219,0,none⟩ (.int .i64 ((rd_T37 l2 x18_1).f0))).setCell ⟨gb219,1,none⟩ (.int .i64 ((rd_T37 l2 x18_1).f1)))).cell? _ = some _ from hx220_2));(try have hy220_3:=fun (n_ : Nat)=>(show ((((w12.drewN n_).setCell ⟨gb219,0,none⟩ (.int .i64 ((rd_T37 l2 x18_1).f0))).setCell ⟨gb219,1,none⟩ (.int .i64 ((rd_T37 l2 x18_1).f1)))).cell? _ = some _ from hx220_3));clear hn220_0;clear hn220_1;replace p220:=eq_true p220;replace q220:=eq_true q220))
        repeat (go_quiet (first|((with_reducible refine gate_dst (N:=10) rfl ?_);refine box_event ?hg (N:=10) ?hd (cs := #[.int .i64 0,.int .i64 0]) (t:=37) ?hr ?_;(case hd=>rfl);(case hg=>rfl);(case hr=>first|(go_simp;done)|(go_simp;rfl));intro gb219 hg w12 hbox hb;have n0_:=zM (zQ (by repeat (first|(with_reducible first|exact HB.out|apply zD|apply zE|apply zF)|exact HB.out)) hb);have n1_:=zM (hbox);have n2_:=zM ((by rw [hg];exact (zR (by repeat (first|(with_reducible first|exact HB.out|apply zD|apply zE|apply zF)|exact HB.out))) : w.heap.size ≤ gb219));have n3_:=zM ((by rw [hg];exact (zR (by repeat (first|(with_reducible first|exact HB.out|apply zD|apply zE|apply zF)|exact HB.out))) : w.heap.size ≤ gb219));clear HB;have HB:=n0_;have BK219:=n1_;have GW219:=n2_;have GE219:=n3_;clear n0_ n1_ n2_ n3_;clear hb hbox hg;have hcz13_0 : w12.cell? ⟨gb219,0,none⟩ = some (.int .i64 0):=(blk_cell BK219.out 0).trans rfl;have hcz13_1 : w12.cell? ⟨gb219,1,none⟩ = some (.int .i64 0):=(blk_cell BK219.out 1).trans rfl;have hfz13_0:=blk_frozen BK219.out 0;have hfz13_1:=blk_frozen BK219.out 1;have p220 : 0 ≤ (x18_1 : Int):=of_decide_eq_true (by first|(with_reducible assumption)|assumption);have q220 : x18_1 < (l1.length : Int):=of_decide_eq_true (by first|(with_reducible assumption)|assumption);obtain ⟨ad220,e220,hx220_0,hx220_1,hx220_2,hx220_3⟩:=at_T62 HR1.out x18_1 p220 q220;cases e220;have hn220_0 : ad220.block ≠ gb219:=Nat.ne_of_lt (Nat.lt_of_lt_of_le (by have:=World.block_lt_of_cell? _ _ hx220_0;first|rwa [add_block] at this|exact this) GW219.out);have hn220_1 : ad220.block ≠ gb219:=Nat.ne_of_lt (Nat.lt_of_lt_of_le (by have:=World.block_lt_of_cell? _ _ hx220_0;first|rwa [add_block] at this|exact this) GW219.out);replace hx220_0:=(HB.out.cell (World.block_lt_of_cell? w _ hx220_0)).trans hx220_0;replace hx220_1:=(HB.out.cell (World.block_lt_of_cell? w _ hx220_1)).trans hx220_1;replace hx220_2:=(HB.out.cell (World.block_lt_of_cell? w _ hx220_2)).trans hx220_2;replace hx220_3:=(HB.out.cell (World.block_lt_of_cell? w _ hx220_3)).trans hx220_3;replace hx220_0:=(cell_far (p:=⟨gb219,0,none⟩) (by first|(rw [add_block];exact hn220_0)|(show (Addr.add _ _).block ≠ _;rw [add_block];exact hn220_0)|exact hn220_0) (.int .i64 ((rd_T37 l2 x18_1).f0))).trans hx220_0;replace hx220_1:=(cell_far (p:=⟨gb219,0,none⟩) (by first|(rw [add_block];exact hn220_0)|(show (Addr.add _ _).block ≠ _;rw [add_block];exact hn220_0)|exact hn220_0) (.int .i64 ((rd_T37 l2 x18_1).f0))).trans hx220_1;replace hx220_2:=(cell_far (p:=⟨gb219,0,none⟩) (by first|(rw [add_block];exact hn220_0)|(show (Addr.add _ _).block ≠ _;rw [add_block];exact hn220_0)|exact hn220_0) (.int .i64 ((rd_T37 l2 x18_1).f0))).trans hx220_2;replace hx220_3:=(cell_far (p:=⟨gb219,0,none⟩) (by first|(rw [add_block];exact hn220_0)|(show (Addr.add _ _).block ≠ _;rw [add_block];exact hn220_0)|exact hn220_0) (.int .i64 ((rd_T37 l2 x18_1).f0))).trans hx220_3;replace hx220_0:=(cell_far (p:=⟨gb219,1,none⟩) (by first|(rw [add_block];exact hn220_1)|(show (Addr.add _ _).block ≠ _;rw [add_block];exact hn220_1)|exact hn220_1) (.int .i64 ((rd_T37 l2 x18_1).f1))).trans hx220_0;replace hx220_1:=(cell_far (p:=⟨gb219,1,none⟩) (by first|(rw [add_block];exact hn220_1)|(show (Addr.add _ _).block ≠ _;rw [add_block];exact hn220_1)|exact hn220_1) (.int .i64 ((rd_T37 l2 x18_1).f1))).trans hx220_1;replace hx220_2:=(cell_far (p:=⟨gb219,1,none⟩) (by first|(rw [add_block];exact hn220_1)|(show (Addr.add _ _).block ≠ _;rw [add_block];exact hn220_1)|exact hn220_1) (.int .i64 ((rd_T37 l2 x18_1).f1))).trans hx220_2;replace hx220_3:=(cell_far (p:=⟨gb219,1,none⟩) (by first|(rw [add_block];exact hn220_1)|(show (Addr.add _ _).block ≠ _;rw [add_block];exact hn220_1)|exact hn220_1) (.int .i64 ((rd_T37 l2 x18_1).f1))).trans hx220_3;(try have hy220_0:=fun (n_ : Nat)=>(show ((((w12.drewN n_).setCell ⟨gb219,0,none⟩ (.int .i64 ((rd_T37 l2 x18_1).f0))).setCell ⟨gb219,1,none⟩ (.int .i64 ((rd_T37 l2 x18_1).f1)))).cell? _ = some _ from hx220_0));(try have hy220_1:=fun (n_ : Nat)=>(show ((((w12.drewN n_).setCell ⟨gb219,0,none⟩ (.int .i64 ((rd_T37 l2 x18_1).f0))).setCell ⟨gb219,1,none⟩ (.int .i64 ((rd_T37 l2 x18_1).f1)))).cell? _ = some _ from hx220_1));(try have hy220_2:=fun (n_ : Nat)=>(show ((((w12.drewN n_).setCell ⟨gb219,0,none⟩ (.int .i64 ((rd_T37 l2 x18_1).f0))).setCell ⟨gb219,1,none⟩ (.int .i64 ((rd_T37 l2 x18_1).f1)))).cell? _ = some _ from hx220_2));(try have hy220_3:=fun (n_ : Nat)=>(show ((((w12.drewN n_).setCell ⟨gb219,0,none⟩ (.int .i64 ((rd_T37 l2 x18_1).f0))).setCell ⟨gb219,1,none⟩ (.int .i64 ((rd_T37 l2 x18_1).f1)))).cell? _ = some _ from hx220_3));clear hn220_0;clear hn220_1;replace p220:=eq_true p220;replace q220:=eq_true q220));try go_wp2_with (first|((with_reducible refine gate_dst (N:=10) rfl ?_);refine box_event ?hg (N:=10) ?hd (cs := #[.int .i64 0,.int .i64 0]) (t:=37) ?hr ?_;(case hd=>rfl);(case hg=>rfl);(case hr=>first|(go_simp;done)|(go_simp;rfl));intro gb219 hg w12 hbox hb;have n0_:=zM (zQ (by repeat (first|(with_reducible first|exact HB.out|apply zD|apply zE|apply zF)|exact HB.out)) hb);have n1_:=zM (hbox);have n2_:=zM ((by rw [hg];exact (zR (by repeat (first|(with_reducible first|exact HB.out|apply zD|apply zE|apply zF)|exact HB.out))) : w.heap.size ≤ gb219));have n3_:=zM ((by rw [hg];exact (zR (by repeat (first|(with_reducible first|exact HB.out|apply zD|apply zE|apply zF)|exact HB.out))) : w.heap.size ≤ gb219));clear HB;have HB:=n0_;have BK219:=n1_;have GW219:=n2_;have GE219:=n3_;clear n0_ n1_ n2_ n3_;clear hb hbox hg;have hcz13_0 : w12.cell? ⟨gb219,0,none⟩ = some (.int .i64 0):=(blk_cell BK219.out 0).trans rfl;have hcz13_1 : w12.cell? ⟨gb219,1,none⟩ = some (.int .i64 0):=(blk_cell BK219.out 1).trans rfl;have hfz13_0:=blk_frozen BK219.out 0;have hfz13_1:=blk_frozen BK219.out 1;have p220 : 0 ≤ (x18_1 : Int):=of_decide_eq_true (by first|(with_reducible assumption)|assumption);have q220 : x18_1 < (l1.length : Int):=of_decide_eq_true (by first|(with_reducible assumption)|assumption);obtain ⟨ad220,e220,hx220_0,hx220_1,hx220_2,hx220_3⟩:=at_T62 HR1.out x18_1 p220 q220;cases e220;have hn220_0 : ad220.block ≠ gb219:=Nat.ne_of_lt (Nat.lt_of_lt_of_le (by have:=World.block_lt_of_cell? _ _ hx220_0;first|rwa [add_block] at this|exact this) GW219.out);have hn220_1 : ad220.block ≠ gb219:=Nat.ne_of_lt (Nat.lt_of_lt_of_le (by have:=World.block_lt_of_cell? _ _ hx220_0;first|rwa [add_block] at this|exact this) GW219.out);replace hx220_0:=(HB.out.cell (World.block_lt_of_cell? w _ hx220_0)).trans hx220_0;replace hx220_1:=(HB.out.cell (World.block_lt_of_cell? w _ hx220_1)).trans hx220_1;replace hx220_2:=(HB.out.cell (World.block_lt_of_cell? w _ hx220_2)).trans hx220_2;replace hx220_3:=(HB.out.cell (World.block_lt_of_cell? w _ hx220_3)).trans hx220_3;replace hx220_0:=(cell_far (p:=⟨gb219,0,none⟩) (by first|(rw [add_block];exact hn220_0)|(show (Addr.add _ _).block ≠ _;rw [add_block];exact hn220_0)|exact hn220_0) (.int .i64 ((rd_T37 l2 x18_1).f0))).trans hx220_0;replace hx220_1:=(cell_far (p:=⟨gb219,0,none⟩) (by first|(rw [add_block];exact hn220_0)|(show (Addr.add _ _).block ≠ _;rw [add_block];exact hn220_0)|exact hn220_0) (.int .i64 ((rd_T37 l2 x18_1).f0))).trans hx220_1;replace hx220_2:=(cell_far (p:=⟨gb219,0,none⟩) (by first|(rw [add_block];exact hn220_0)|(show (Addr.add _ _).block ≠ _;rw [add_block];exact hn220_0)|exact hn220_0) (.int .i64 ((rd_T37 l2 x18_1).f0))).trans hx220_2;replace hx220_3:=(cell_far (p:=⟨gb219,0,none⟩) (by first|(rw [add_block];exact hn220_0)|(show (Addr.add _ _).block ≠ _;rw [add_block];exact hn220_0)|exact hn220_0) (.int .i64 ((rd_T37 l2 x18_1).f0))).trans hx220_3;replace hx220_0:=(cell_far (p:=⟨gb219,1,none⟩) (by first|(rw [add_block];exact hn220_1)|(show (Addr.add _ _).block ≠ _;rw [add_block];exact hn220_1)|exact hn220_1) (.int .i64 ((rd_T37 l2 x18_1).f1))).trans hx220_0;replace hx220_1:=(cell_far (p:=⟨gb219,1,none⟩) (by first|(rw [add_block];exact hn220_1)|(show (Addr.add _ _).block ≠ _;rw [add_block];exact hn220_1)|exact hn220_1) (.int .i64 ((rd_T37 l2 x18_1).f1))).trans hx220_1;replace hx220_2:=(cell_far (p:=⟨gb219,1,none⟩) (by first|(rw [add_block];exact hn220_1)|(show (Addr.add _ _).block ≠ _;rw [add_block];exact hn220_1)|exact hn220_1) (.int .i64 ((rd_T37 l2 x18_1).f1))).trans hx220_2;replace hx220_3:=(cell_far (p:=⟨gb219,1,none⟩) (by first|(rw [add_block];exact hn220_1)|(show (Addr.add _ _).block ≠ _;rw [add_block];exact hn220_1)|exact hn220_1) (.int .i64 ((rd_T37 l2 x18_1).f1))).trans hx220_3;(try have hy220_0:=fun (n_ : Nat)=>(show ((((w12.drewN n_).setCell ⟨gb219,0,none⟩ (.int .i64 ((rd_T37 l2 x18_1).f0))).setCell ⟨gb219,1,none⟩ (.int .i64 ((rd_T37 l2 x18_1).f1)))).cell? _ = some _ from hx220_0));(try have hy220_1:=fun (n_ : Nat)=>(show ((((w12.drewN n_).setCell ⟨gb219,0,none⟩ (.int .i64 ((rd_T37 l2 x18_1).f0))).setCell ⟨gb219,1,none⟩ (.int .i64 ((rd_T37 l2 x18_1).f1)))).cell? _ = some _ from hx220_1));(try have hy220_2:=fun (n_ : Nat)=>(show ((((w12.drewN n_).setCell ⟨gb219,0,none⟩ (.int .i64 ((rd_T37 l2 x18_1).f0))).setCell ⟨gb219,1,none⟩ (.int .i64 ((rd_T37 l2 x18_1).f1)))).cell? _ = some _ from hx220_2));(try have hy220_3:=fun (n_ : Nat)=>(show ((((w12.drewN n_).setCell ⟨gb219,0,none⟩ (.int .i64 ((rd_T37 l2 x18_1).f0))).setCell ⟨gb219,1,none⟩ (.int .i64 ((rd_T37 l2 x18_1).f1)))).cell? _ = some _ from hx220_3));clear hn220_0;clear hn220_1;replace p220:=eq_true p220;replace q220:=eq_true q220)))
        go_roundg k1
        case measure=>have:=HK1.out;omega
        case rel=>exact ⟨(ji11),(wrap64 (x18_1 + 1)),(by first|rfl|(simp;done)|(simp only [← hji11] <;> (first|rfl|simp))|(simp [*];done)),(by first|rfl|(simp;done)|(simp [*];done)),H',⟨by have:=HK1.out;omega⟩,⟨by repeat (first|(with_reducible first|exact HB.out|apply zD|apply zE|apply zF|refine below_set ?_ GE219.out)|exact HB.out)⟩⟩
       ·rw [if_neg c10] at H
        exact absurd H (by simp)
      ·rw [if_neg c9] at H
       exact absurd H (by simp)
     ·rw [if_neg c8] at H
      exact absurd H (by simp)
    ·rw [if_neg c7] at H
     have c7b0 : decide (x18_1 < (l2.length : Int)) = false:=decide_eq_false c7
     clear c7
     simp only [Option.some.injEq,Prod.mk.injEq] at H
     obtain ⟨rfl,rfl⟩:=H
     go_wp2
     repeat (go_quiet (fail);try go_wp2)
     go_ret2
     exact ⟨by first|rfl|(simp [errW_none,errW_some] <;> rfl)|(simp [*,errW_none,errW_some] <;> rfl),by repeat (first|(with_reducible first|exact HB.out|apply zD|apply zE|apply zF)|exact HB.out)⟩
 ·replace c5:=Bool.eq_false_iff.mpr c5
  subst c5
  have H1 : (some (0,false)) = some (r1,r2):=by rw [if_neg (show ¬ (false = true) by decide)] at H;exact H
  clear H
  have H:=H1
  clear H1
  simp only [Option.some.injEq,Prod.mk.injEq] at H
  obtain ⟨rfl,rfl⟩:=H
  go_enter Try.func22,Try.ntmps22
  go_wp2_with (first|(go_at_call 18;(with_reducible refine (impl_IsPossiblePlan.calls k a0 _ _ l1 _ _ l2 false _ ?side1 ?side2 ?side3 ?side4 A4.out).mono ?_);(case side1=>repeat (first|exact HR1.out|(with_reducible refine zG ?_ _)|(with_reducible refine zH ?_ _)|(with_reducible refine zI ?_)));(case side2=>exact HC1.out);(case side3=>repeat (first|exact HR2.out|(with_reducible refine zG ?_ _)|(with_reducible refine zH ?_ _)|(with_reducible refine zI ?_)));(case side4=>exact HC2.out);rintro e w14 ⟨rfl,hb⟩;have n0_:=zM (zQ (by repeat (first|(with_reducible first|exact HB.out|apply zD|apply zE|apply zF)|exact HB.out)) hb);clear HB;have HB:=n0_;clear n0_;(try clear hb);(try clear hb2);(try clear hk);(try clear hi)))
  repeat (go_quiet (first|(go_at_call 18;(with_reducible refine (impl_IsPossiblePlan.calls k a0 _ _ l1 _ _ l2 false _ ?side1 ?side2 ?side3 ?side4 A4.out).mono ?_);(case side1=>repeat (first|exact HR1.out|(with_reducible refine zG ?_ _)|(with_reducible refine zH ?_ _)|(with_reducible refine zI ?_)));(case side2=>exact HC1.out);(case side3=>repeat (first|exact HR2.out|(with_reducible refine zG ?_ _)|(with_reducible refine zH ?_ _)|(with_reducible refine zI ?_)));(case side4=>exact HC2.out);rintro e w14 ⟨rfl,hb⟩;have n0_:=zM (zQ (by repeat (first|(with_reducible first|exact HB.out|apply zD|apply zE|apply zF)|exact HB.out)) hb);clear HB;have HB:=n0_;clear n0_;(try clear hb);(try clear hb2);(try clear hk);(try clear hi)));try go_wp2_with (first|(go_at_call 18;(with_reducible refine (impl_IsPossiblePlan.calls k a0 _ _ l1 _ _ l2 false _ ?side1 ?side2 ?side3 ?side4 A4.out).mono ?_);(case side1=>repeat (first|exact HR1.out|(with_reducible refine zG ?_ _)|(with_reducible refine zH ?_ _)|(with_reducible refine zI ?_)));(case side2=>exact HC1.out);(case side3=>repeat (first|exact HR2.out|(with_reducible refine zG ?_ _)|(with_reducible refine zH ?_ _)|(with_reducible refine zI ?_)));(case side4=>exact HC2.out);rintro e w14 ⟨rfl,hb⟩;have n0_:=zM (zQ (by repeat (first|(with_reducible first|exact HB.out|apply zD|apply zE|apply zF)|exact HB.out)) hb);clear HB;have HB:=n0_;clear n0_;(try clear hb);(try clear hb2);(try clear hk);(try clear hi))))
  go_ret2
  exact ⟨by first|rfl|(simp [errW_none,errW_some] <;> rfl)|(simp [*,errW_none,errW_some] <;> rfl),by repeat (first|(with_reducible first|exact HB.out|apply zD|apply zE|apply zF)|exact HB.out)⟩

end Go.Proofs.Ytcciljjnpfgaeaa.G

-- Written by wip/tools/gen.py out of the translation (the kit's printer, one namespace a seat). Lean checks it.
namespace Go.Proofs.Ytcciljjnpfgaeaa.G
open Go.RowKit Go.Proofs.YtcciljjnpfgaeaaW.PrintWords Go.Proofs.YtcciljjnpfgaeaaW.PrintLast Go.Proofs.YtcciljjnpfgaeaaW.PrintMore
attribute [local go_sem] max2_int min2_int max_two min_two max_three min_three max_four min_four   -- for this text's walks alone
set_option linter.unusedVariables false
set_option linter.unusedSimpArgs false

/-! ### spec_l1In: function 62 -/
def spec_l1In.f (a0 : Int) (a1 : Int) (a2 : Int) : Option (Bool):=if a0 ≥ a1 then (some (decide (a0 ≤ a2))) else (some false)
set_option maxHeartbeats 8000000 in
set_option maxRecDepth 100000 in
theorem spec_l1In.calls (a0 : Int) (a1 : Int) (a2 : Int) (r : Bool) (w : World) (h : spec_l1In.f a0 a1 a2 = some r) :
  Calls Try.prog 62 #[.int .i64 a0,.int .i64 a1,.int .i64 a2] w fun e w'=>e = .returned (.bool r) ∧ Drawn0 w w':=by
 have H : (if a0 ≥ a1 then (some (decide (a0 ≤ a2))) else (some false)) = some r:=h
 clear h
 by_cases c4 : a0 ≥ a1
 ·rw [if_pos c4] at H
  have c4b0 : decide (a1 ≤ a0) = true:=decide_eq_true c4
  clear c4
  obtain rfl:=Option.some.inj H
  go_enter Try.func62,Try.ntmps62
  go_wp2
  go_ret
  exact ⟨by first|rfl|(simp;done)|(simp [*];done),by repeat (first|exact Drawn0.refl _|apply Drawn0.step)⟩
 ·rw [if_neg c4] at H
  have c4b0 : decide (a1 ≤ a0) = false:=decide_eq_false c4
  clear c4
  obtain rfl:=Option.some.inj H
  go_enter Try.func62,Try.ntmps62
  go_wp2
  go_ret
  exact ⟨by first|rfl|(simp;done)|(simp [*];done),by repeat (first|exact Drawn0.refl _|apply Drawn0.step)⟩

end Go.Proofs.Ytcciljjnpfgaeaa.G

-- Written by wip/tools/gen.py out of the translation (the kit's printer, one namespace a seat). Lean checks it.
namespace Go.Proofs.Ytcciljjnpfgaeaa.G
open Go.RowKit Go.Proofs.YtcciljjnpfgaeaaW.PrintWords Go.Proofs.YtcciljjnpfgaeaaW.PrintLast Go.Proofs.YtcciljjnpfgaeaaW.PrintMore
attribute [local go_sem] max2_int min2_int max_two min_two max_three min_three max_four min_four   -- for this text's walks alone
set_option linter.unusedVariables false
set_option linter.unusedSimpArgs false

/-! ### spec_l14Ships: function 58 -/
mutual
def spec_l14Ships.l0 : Nat → Int → List (S62) → Int → Option (Bool)
 | 0,_,_,_=>none
 | k + 1,x0,x1,x5=>if x5 < (x1.length : Int) then (spec_l14Ships.j1 k x0 x1 x5 (decide (x5 ≤ 5))) else (spec_l14Ships.j1 k x0 x1 x5 false)
def spec_l14Ships.j1 : Nat → Int → List (S62) → Int → Bool → Option (Bool)
 | 0,_,_,_,_=>none
 | k + 1,x0,x1,x5,x14=>if x14 = true then (if 0 ≤ x5 then (if x5 < (x1.length : Int) then ((spec_l1In.f ((rd_T62 x1 x5).f0) 1 30).bind fun t109=>(if t109 = true then ((spec_l1In.f ((rd_T62 x1 x5).f1) 0 200).bind fun t110=>(if t110 = true then ((spec_l1In.f ((rd_T62 x1 x5).f2) 1 48).bind fun t111=>(if t111 = true then ((spec_l1In.f ((rd_T62 x1 x5).f3) 1 9).bind fun t112=>(if t112 = true then (spec_l14Ships.l0 k x0 x1 (wrap64 (x5 + 1))) else (some false))) else (some false))) else (some false))) else (some false))) else (none)) else (none)) else ((spec_l1In.f x0 1 30).bind fun t106=>(if t106 = true then (some (decide ((x1.length : Int) ≤ 5))) else (some false)))
end
def spec_l14Ships.f (k : Nat) (a0 : Int) (l1 : List (S62)) : Option (Bool):=spec_l14Ships.l0 k a0 l1 0
theorem spec_l14Ships.mono_l : ∀ k,(∀ y0 y1 y2,LeO (spec_l14Ships.l0 k y0 y1 y2) (spec_l14Ships.l0 (k + 1) y0 y1 y2)) ∧ (∀ y0 y1 y2 y3,LeO (spec_l14Ships.j1 k y0 y1 y2 y3) (spec_l14Ships.j1 (k + 1) y0 y1 y2 y3))
 | 0=>⟨fun _ _ _ r h=>by simp [spec_l14Ships.l0] at h,fun _ _ _ _ r h=>by simp [spec_l14Ships.j1] at h⟩
 | k + 1=>by
  obtain ⟨ih0,ih1⟩:=spec_l14Ships.mono_l k
  refine ⟨?_,?_⟩
  ·intro y0 y1 y2
   unfold spec_l14Ships.l0
   repeat' first
   | (with_reducible exact ih0 _ _ _)
   | (with_reducible exact ih1 _ _ _ _)
   | (with_reducible exact LeO.refl _)
   | (with_reducible exact LeO.none _)
   | (with_reducible refine LeO.ite ?_ ?_)
   | (with_reducible refine LeO.bind ?_ (fun _=>?_))
   | exact ih0 _ _ _
   | exact ih1 _ _ _ _
   | exact LeO.none _
   | refine LeO.ite ?_ ?_
   | refine LeO.bind ?_ (fun _=>?_)
  ·intro y0 y1 y2 y3
   unfold spec_l14Ships.j1
   repeat' first
   | (with_reducible exact ih0 _ _ _)
   | (with_reducible exact ih1 _ _ _ _)
   | (with_reducible exact LeO.refl _)
   | (with_reducible exact LeO.none _)
   | (with_reducible refine LeO.ite ?_ ?_)
   | (with_reducible refine LeO.bind ?_ (fun _=>?_))
   | exact ih0 _ _ _
   | exact ih1 _ _ _ _
   | exact LeO.none _
   | refine LeO.ite ?_ ?_
   | refine LeO.bind ?_ (fun _=>?_)
theorem spec_l14Ships.mono : ∀ a0 a1 k,LeO (spec_l14Ships.f k a0 a1) (spec_l14Ships.f (k + 1) a0 a1):=by
 intro a0 a1 k
 obtain ⟨ih0,ih1⟩:=spec_l14Ships.mono_l k
 unfold spec_l14Ships.f
 repeat' first
   | (with_reducible exact ih0 _ _ _)
   | (with_reducible exact ih1 _ _ _ _)
   | (with_reducible exact LeO.refl _)
   | (with_reducible exact LeO.none _)
   | (with_reducible refine LeO.ite ?_ ?_)
   | (with_reducible refine LeO.bind ?_ (fun _=>?_))
   | exact ih0 _ _ _
   | exact ih1 _ _ _ _
   | exact LeO.none _
   | refine LeO.ite ?_ ?_
   | refine LeO.bind ?_ (fun _=>?_)
set_option maxHeartbeats 8000000 in
set_option maxRecDepth 100000 in
theorem spec_l14Ships.calls (k : Nat) (a0 : Int) (A1 : Option Addr) (c1 : Nat) (l1 : List (S62)) (r : Bool) (w : World) (hr1 : Kd.C k62 w A1 l1.length l1) (hc1 : l1.length ≤ c1) (h : spec_l14Ships.f k a0 l1 = some r) :
  Calls Try.prog 58 #[.int .i64 a0,.slice A1 l1.length c1] w fun e w'=>e = .returned (.bool r) ∧ Below w.heap.size w w':=by
 have hu62:=Try.underlying62
 have HR1:=zM hr1
 have HC1:=zM hc1
 clear hr1 hc1
 have HB:=zM (Below.refl w.heap.size w)
 have H : (spec_l14Ships.l0 k a0 l1 0) = some r:=h
 clear h
 have H':=zM H
 clear H
 go_enter Try.func58,Try.ntmps58
 go_wp2
 go_loopg [5] k (fun kq v5 w' => ∃ (x5_1 : Int),v5 = .int .i64 x5_1 ∧ Aside0 (spec_l14Ships.l0 kq a0 l1 x5_1 = some r) ∧ Aside0 (kq ≤ k) ∧ Aside0 (Below w.heap.size w w'))
 case atStart=>exact ⟨(0),(by first|rfl|(simp;done)|(simp [*];done)),H',⟨Nat.le_refl _⟩,⟨by repeat (first|(with_reducible first|exact HB.out|apply zD|apply zE|apply zF)|exact HB.out)⟩⟩
 case round =>
  clear H'
  try clear c1
  try clear p2
  obtain ⟨x5_1,rfl,HA,HK1,HB⟩:=hrel
  cases gk with
  | zero=>exact absurd HA.out (by simp [spec_l14Ships.l0])
  | succ k1 =>
   have H:=HA.out
   clear HA
   simp only [spec_l14Ships.l0] at H
   have HC3:=zM H
   clear H
   go_upto_region 2 with (fail)
   go_cut [14] (fun v14 wc => ∃ (kq : Nat) (x14_2 : Bool),v14 = .bool x14_2 ∧ Aside0 (spec_l14Ships.j1 kq a0 l1 x5_1 x14_2 = some r) ∧ Aside0 (kq ≤ k1) ∧ Aside0 (Below w.heap.size w wc))
   case first =>
    have H:=HC3.out
    clear HC3
    by_cases c4 : x5_1 < (l1.length : Int)
    ·rw [if_pos c4] at H
     have c4b0 : decide (x5_1 < (l1.length : Int)) = true:=decide_eq_true c4
     clear c4
     (first|rw [c4b0]|(simp only [i64_w,i32_w];rw [c4b0])|skip)
     have H':=zM H
     clear H
     go_wp2
     go_meet
     case rel=>exact ⟨_,(decide (x5_1 ≤ 5)),(by first|rfl|(simp;done)|(simp [*];done)),H',⟨by have:=HK1.out;first|omega|exact Nat.le_refl _⟩,⟨by repeat (first|(with_reducible first|exact HB.out|apply zD|apply zE|apply zF)|exact HB.out)⟩⟩
    ·rw [if_neg c4] at H
     have c4b0 : decide (x5_1 < (l1.length : Int)) = false:=decide_eq_false c4
     clear c4
     (first|rw [c4b0]|(simp only [i64_w,i32_w];rw [c4b0])|skip)
     have H':=zM H
     clear H
     go_wp2
     go_meet
     case rel=>exact ⟨_,(false),(by first|rfl|(simp;done)|(simp [*];done)),H',⟨by have:=HK1.out;first|omega|exact Nat.le_refl _⟩,⟨by repeat (first|(with_reducible first|exact HB.out|apply zD|apply zE|apply zF)|exact HB.out)⟩⟩
   case rest =>
    clear HC3
    try clear c1
    try clear p2
    try clear c4
    try clear c4b0
    try clear p2
    obtain ⟨kq,x14_2,rfl,HA,HJ2,HB⟩:=hcut
    cases kq with
    | zero=>exact absurd HA.out (by simp [spec_l14Ships.j1])
    | succ kj2 =>
     have H:=HA.out
     clear HA
     simp only [spec_l14Ships.j1] at H
     by_cases c5 : x14_2 = true
     ·subst c5
      have H1 : (if 0 ≤ x5_1 then (if x5_1 < (l1.length : Int) then ((spec_l1In.f ((rd_T62 l1 x5_1).f0) 1 30).bind fun t109=>(if t109 = true then ((spec_l1In.f ((rd_T62 l1 x5_1).f1) 0 200).bind fun t110=>(if t110 = true then ((spec_l1In.f ((rd_T62 l1 x5_1).f2) 1 48).bind fun t111=>(if t111 = true then ((spec_l1In.f ((rd_T62 l1 x5_1).f3) 1 9).bind fun t112=>(if t112 = true then (spec_l14Ships.l0 kj2 a0 l1 (wrap64 (x5_1 + 1))) else (some false))) else (some false))) else (some false))) else (some false))) else (none)) else (none)) = some r:=by rw [if_pos rfl] at H;exact H
      clear H
      have H:=H1
      clear H1
      by_cases c6 : 0 ≤ x5_1
      ·rw [if_pos c6] at H
       have c6b0 : decide (0 ≤ x5_1) = true:=decide_eq_true c6
       clear c6
       by_cases c7 : x5_1 < (l1.length : Int)
       ·rw [if_pos c7] at H
        have c7b0 : decide (x5_1 < (l1.length : Int)) = true:=decide_eq_true c7
        clear c7
        replace H:=Option.bind_eq_some_iff.mp H
        obtain ⟨t109,A80,H⟩:=H
        replace H : (if t109 = true then ((spec_l1In.f ((rd_T62 l1 x5_1).f1) 0 200).bind fun t110=>(if t110 = true then ((spec_l1In.f ((rd_T62 l1 x5_1).f2) 1 48).bind fun t111=>(if t111 = true then ((spec_l1In.f ((rd_T62 l1 x5_1).f3) 1 9).bind fun t112=>(if t112 = true then (spec_l14Ships.l0 kj2 a0 l1 (wrap64 (x5_1 + 1))) else (some false))) else (some false))) else (some false))) else (some false)) = some r:=H
        have A8:=zM A80
        clear A80
        by_cases c9 : t109 = true
        ·subst c9
         have H1 : ((spec_l1In.f ((rd_T62 l1 x5_1).f1) 0 200).bind fun t110=>(if t110 = true then ((spec_l1In.f ((rd_T62 l1 x5_1).f2) 1 48).bind fun t111=>(if t111 = true then ((spec_l1In.f ((rd_T62 l1 x5_1).f3) 1 9).bind fun t112=>(if t112 = true then (spec_l14Ships.l0 kj2 a0 l1 (wrap64 (x5_1 + 1))) else (some false))) else (some false))) else (some false))) = some r:=by rw [if_pos rfl] at H;exact H
         clear H
         have H:=H1
         clear H1
         replace H:=Option.bind_eq_some_iff.mp H
         obtain ⟨t110,A100,H⟩:=H
         replace H : (if t110 = true then ((spec_l1In.f ((rd_T62 l1 x5_1).f2) 1 48).bind fun t111=>(if t111 = true then ((spec_l1In.f ((rd_T62 l1 x5_1).f3) 1 9).bind fun t112=>(if t112 = true then (spec_l14Ships.l0 kj2 a0 l1 (wrap64 (x5_1 + 1))) else (some false))) else (some false))) else (some false)) = some r:=H
         have A10:=zM A100
         clear A100
         by_cases c11 : t110 = true
         ·subst c11
          have H1 : ((spec_l1In.f ((rd_T62 l1 x5_1).f2) 1 48).bind fun t111=>(if t111 = true then ((spec_l1In.f ((rd_T62 l1 x5_1).f3) 1 9).bind fun t112=>(if t112 = true then (spec_l14Ships.l0 kj2 a0 l1 (wrap64 (x5_1 + 1))) else (some false))) else (some false))) = some r:=by rw [if_pos rfl] at H;exact H
          clear H
          have H:=H1
          clear H1
          replace H:=Option.bind_eq_some_iff.mp H
          obtain ⟨t111,A120,H⟩:=H
          replace H : (if t111 = true then ((spec_l1In.f ((rd_T62 l1 x5_1).f3) 1 9).bind fun t112=>(if t112 = true then (spec_l14Ships.l0 kj2 a0 l1 (wrap64 (x5_1 + 1))) else (some false))) else (some false)) = some r:=H
          have A12:=zM A120
          clear A120
          by_cases c13 : t111 = true
          ·subst c13
           have H1 : ((spec_l1In.f ((rd_T62 l1 x5_1).f3) 1 9).bind fun t112=>(if t112 = true then (spec_l14Ships.l0 kj2 a0 l1 (wrap64 (x5_1 + 1))) else (some false))) = some r:=by rw [if_pos rfl] at H;exact H
           clear H
           have H:=H1
           clear H1
           replace H:=Option.bind_eq_some_iff.mp H
           obtain ⟨t112,A140,H⟩:=H
           replace H : (if t112 = true then (spec_l14Ships.l0 kj2 a0 l1 (wrap64 (x5_1 + 1))) else (some false)) = some r:=H
           have A14:=zM A140
           clear A140
           by_cases c15 : t112 = true
           ·subst c15
            have H1 : (spec_l14Ships.l0 kj2 a0 l1 (wrap64 (x5_1 + 1))) = some r:=by rw [if_pos rfl] at H;exact H
            clear H
            have H:=H1
            clear H1
            have H':=zM H
            clear H
            have p107 : 0 ≤ (x5_1 : Int):=of_decide_eq_true (by first|(with_reducible assumption)|assumption)
            have q107 : x5_1 < (l1.length : Int):=of_decide_eq_true (by first|(with_reducible assumption)|assumption)
            obtain ⟨ad107,e107,hx107_0,hx107_1,hx107_2,hx107_3⟩:=at_T62 HR1.out x5_1 p107 q107
            cases e107
            replace hx107_0:=(HB.out.cell (World.block_lt_of_cell? w _ hx107_0)).trans hx107_0
            replace hx107_1:=(HB.out.cell (World.block_lt_of_cell? w _ hx107_1)).trans hx107_1
            replace hx107_2:=(HB.out.cell (World.block_lt_of_cell? w _ hx107_2)).trans hx107_2
            replace hx107_3:=(HB.out.cell (World.block_lt_of_cell? w _ hx107_3)).trans hx107_3
            replace p107:=eq_true p107
            replace q107:=eq_true q107
            go_wp2_with (first|((with_reducible refine gate_dst (N:=6) rfl ?_);(try (refine gate_guard (by rfl) ?_;dsimp only));refine box_event ?hg (N:=6) ?hd (cs := #[.int .i64 0,.int .i64 0,.int .i64 0,.int .i64 0]) (t:=62) ?hr ?_;(case hd=>rfl);(case hg=>rfl);(case hr=>first|(go_simp;done)|(go_simp;rfl));intro gb108 hg w16 hbox hb;have n0_:=zM (zQ (by repeat (first|(with_reducible first|exact HB.out|apply zD|apply zE|apply zF)|exact HB.out)) hb);have n1_:=zM (hbox);have n2_:=zM ((by rw [hg];exact (zR (by repeat (first|(with_reducible first|exact HB.out|apply zD|apply zE|apply zF)|exact HB.out))) : w.heap.size ≤ gb108));have n3_:=zM ((by rw [hg];exact (zR (by repeat (first|(with_reducible first|exact HB.out|apply zD|apply zE|apply zF)|exact HB.out))) : w.heap.size ≤ gb108));clear HB;have HB:=n0_;have BK108:=n1_;have GW108:=n2_;have GE108:=n3_;clear n0_ n1_ n2_ n3_;clear hb hbox hg;have hcz17_0 : w16.cell? ⟨gb108,0,none⟩ = some (.int .i64 0):=(blk_cell BK108.out 0).trans rfl;have hcz17_1 : w16.cell? ⟨gb108,1,none⟩ = some (.int .i64 0):=(blk_cell BK108.out 1).trans rfl;have hcz17_2 : w16.cell? ⟨gb108,2,none⟩ = some (.int .i64 0):=(blk_cell BK108.out 2).trans rfl;have hcz17_3 : w16.cell? ⟨gb108,3,none⟩ = some (.int .i64 0):=(blk_cell BK108.out 3).trans rfl;have hfz17_0:=blk_frozen BK108.out 0;have hfz17_1:=blk_frozen BK108.out 1;have hfz17_2:=blk_frozen BK108.out 2;have hfz17_3:=blk_frozen BK108.out 3)|((with_reducible refine gate_callee (f:=62) rfl ?_);refine goesL_ (some 23) rfl rfl Try.func62 (by kernel_rfl) rfl #[.int .i64 ((rd_T62 l1 x5_1).f0),.int .i64 1,.int .i64 30] rfl (by (try simp only [List.map_toArray,List.map_cons,List.map_nil]);first|done|rfl|(simp only [List.length_drop,List.length_take];rfl)) ?_;(with_reducible refine (spec_l1In.calls ((rd_T62 l1 x5_1).f0) 1 30 true _ A8.out).mono ?_);rintro e w' ⟨rfl,⟨nd,rfl⟩⟩;refine ⟨_,rfl,?_⟩)|(go_at_call 62;(with_reducible refine (spec_l1In.calls ((rd_T62 l1 x5_1).f1) 0 200 true _ A10.out).mono ?_);rintro e w' ⟨rfl,⟨nd,rfl⟩⟩)|(go_at_call 62;(with_reducible refine (spec_l1In.calls ((rd_T62 l1 x5_1).f2) 1 48 true _ A12.out).mono ?_);rintro e w' ⟨rfl,⟨nd,rfl⟩⟩)|(go_at_call 62;(with_reducible refine (spec_l1In.calls ((rd_T62 l1 x5_1).f3) 1 9 true _ A14.out).mono ?_);rintro e w' ⟨rfl,⟨nd,rfl⟩⟩))
            go_roundg kj2
            case measure=>have:=HK1.out;have:=HJ2.out;omega
            case rel=>exact ⟨(wrap64 (x5_1 + 1)),(by first|rfl|(simp;done)|(simp [*];done)),H',⟨by have:=HK1.out;have:=HJ2.out;omega⟩,⟨by repeat (first|(with_reducible first|exact HB.out|apply zD|apply zE|apply zF|refine below_set ?_ GE108.out)|exact HB.out)⟩⟩
           ·replace c15:=Bool.eq_false_iff.mpr c15
            subst c15
            have H1 : (some false) = some r:=by rw [if_neg (show ¬ (false = true) by decide)] at H;exact H
            clear H
            have H:=H1
            clear H1
            obtain rfl:=Option.some.inj H
            have p107 : 0 ≤ (x5_1 : Int):=of_decide_eq_true (by first|(with_reducible assumption)|assumption)
            have q107 : x5_1 < (l1.length : Int):=of_decide_eq_true (by first|(with_reducible assumption)|assumption)
            obtain ⟨ad107,e107,hx107_0,hx107_1,hx107_2,hx107_3⟩:=at_T62 HR1.out x5_1 p107 q107
            cases e107
            replace hx107_0:=(HB.out.cell (World.block_lt_of_cell? w _ hx107_0)).trans hx107_0
            replace hx107_1:=(HB.out.cell (World.block_lt_of_cell? w _ hx107_1)).trans hx107_1
            replace hx107_2:=(HB.out.cell (World.block_lt_of_cell? w _ hx107_2)).trans hx107_2
            replace hx107_3:=(HB.out.cell (World.block_lt_of_cell? w _ hx107_3)).trans hx107_3
            replace p107:=eq_true p107
            replace q107:=eq_true q107
            go_wp2_with (first|((with_reducible refine gate_dst (N:=6) rfl ?_);(try (refine gate_guard (by rfl) ?_;dsimp only));refine box_event ?hg (N:=6) ?hd (cs := #[.int .i64 0,.int .i64 0,.int .i64 0,.int .i64 0]) (t:=62) ?hr ?_;(case hd=>rfl);(case hg=>rfl);(case hr=>first|(go_simp;done)|(go_simp;rfl));intro gb108 hg w18 hbox hb;have n0_:=zM (zQ (by repeat (first|(with_reducible first|exact HB.out|apply zD|apply zE|apply zF)|exact HB.out)) hb);have n1_:=zM (hbox);have n2_:=zM ((by rw [hg];exact (zR (by repeat (first|(with_reducible first|exact HB.out|apply zD|apply zE|apply zF)|exact HB.out))) : w.heap.size ≤ gb108));have n3_:=zM ((by rw [hg];exact (zR (by repeat (first|(with_reducible first|exact HB.out|apply zD|apply zE|apply zF)|exact HB.out))) : w.heap.size ≤ gb108));clear HB;have HB:=n0_;have BK108:=n1_;have GW108:=n2_;have GE108:=n3_;clear n0_ n1_ n2_ n3_;clear hb hbox hg;have hcz19_0 : w18.cell? ⟨gb108,0,none⟩ = some (.int .i64 0):=(blk_cell BK108.out 0).trans rfl;have hcz19_1 : w18.cell? ⟨gb108,1,none⟩ = some (.int .i64 0):=(blk_cell BK108.out 1).trans rfl;have hcz19_2 : w18.cell? ⟨gb108,2,none⟩ = some (.int .i64 0):=(blk_cell BK108.out 2).trans rfl;have hcz19_3 : w18.cell? ⟨gb108,3,none⟩ = some (.int .i64 0):=(blk_cell BK108.out 3).trans rfl;have hfz19_0:=blk_frozen BK108.out 0;have hfz19_1:=blk_frozen BK108.out 1;have hfz19_2:=blk_frozen BK108.out 2;have hfz19_3:=blk_frozen BK108.out 3)|((with_reducible refine gate_callee (f:=62) rfl ?_);refine goesL_ (some 23) rfl rfl Try.func62 (by kernel_rfl) rfl #[.int .i64 ((rd_T62 l1 x5_1).f0),.int .i64 1,.int .i64 30] rfl (by (try simp only [List.map_toArray,List.map_cons,List.map_nil]);first|done|rfl|(simp only [List.length_drop,List.length_take];rfl)) ?_;(with_reducible refine (spec_l1In.calls ((rd_T62 l1 x5_1).f0) 1 30 true _ A8.out).mono ?_);rintro e w' ⟨rfl,⟨nd,rfl⟩⟩;refine ⟨_,rfl,?_⟩)|(go_at_call 62;(with_reducible refine (spec_l1In.calls ((rd_T62 l1 x5_1).f1) 0 200 true _ A10.out).mono ?_);rintro e w' ⟨rfl,⟨nd,rfl⟩⟩)|(go_at_call 62;(with_reducible refine (spec_l1In.calls ((rd_T62 l1 x5_1).f2) 1 48 true _ A12.out).mono ?_);rintro e w' ⟨rfl,⟨nd,rfl⟩⟩)|(go_at_call 62;(with_reducible refine (spec_l1In.calls ((rd_T62 l1 x5_1).f3) 1 9 false _ A14.out).mono ?_);rintro e w' ⟨rfl,⟨nd,rfl⟩⟩))
            go_ret
            exact ⟨by first|rfl|(simp [errW_none,errW_some] <;> rfl)|(simp [*,errW_none,errW_some] <;> rfl),by repeat (first|(with_reducible first|exact HB.out|apply zD|apply zE|apply zF|refine below_set ?_ GE108.out)|exact HB.out)⟩
          ·replace c13:=Bool.eq_false_iff.mpr c13
           subst c13
           have H1 : (some false) = some r:=by rw [if_neg (show ¬ (false = true) by decide)] at H;exact H
           clear H
           have H:=H1
           clear H1
           obtain rfl:=Option.some.inj H
           have p107 : 0 ≤ (x5_1 : Int):=of_decide_eq_true (by first|(with_reducible assumption)|assumption)
           have q107 : x5_1 < (l1.length : Int):=of_decide_eq_true (by first|(with_reducible assumption)|assumption)
           obtain ⟨ad107,e107,hx107_0,hx107_1,hx107_2,hx107_3⟩:=at_T62 HR1.out x5_1 p107 q107
           cases e107
           replace hx107_0:=(HB.out.cell (World.block_lt_of_cell? w _ hx107_0)).trans hx107_0
           replace hx107_1:=(HB.out.cell (World.block_lt_of_cell? w _ hx107_1)).trans hx107_1
           replace hx107_2:=(HB.out.cell (World.block_lt_of_cell? w _ hx107_2)).trans hx107_2
           replace hx107_3:=(HB.out.cell (World.block_lt_of_cell? w _ hx107_3)).trans hx107_3
           replace p107:=eq_true p107
           replace q107:=eq_true q107
           go_wp2_with (first|((with_reducible refine gate_dst (N:=6) rfl ?_);(try (refine gate_guard (by rfl) ?_;dsimp only));refine box_event ?hg (N:=6) ?hd (cs := #[.int .i64 0,.int .i64 0,.int .i64 0,.int .i64 0]) (t:=62) ?hr ?_;(case hd=>rfl);(case hg=>rfl);(case hr=>first|(go_simp;done)|(go_simp;rfl));intro gb108 hg w20 hbox hb;have n0_:=zM (zQ (by repeat (first|(with_reducible first|exact HB.out|apply zD|apply zE|apply zF)|exact HB.out)) hb);have n1_:=zM (hbox);have n2_:=zM ((by rw [hg];exact (zR (by repeat (first|(with_reducible first|exact HB.out|apply zD|apply zE|apply zF)|exact HB.out))) : w.heap.size ≤ gb108));have n3_:=zM ((by rw [hg];exact (zR (by repeat (first|(with_reducible first|exact HB.out|apply zD|apply zE|apply zF)|exact HB.out))) : w.heap.size ≤ gb108));clear HB;have HB:=n0_;have BK108:=n1_;have GW108:=n2_;have GE108:=n3_;clear n0_ n1_ n2_ n3_;clear hb hbox hg;have hcz21_0 : w20.cell? ⟨gb108,0,none⟩ = some (.int .i64 0):=(blk_cell BK108.out 0).trans rfl;have hcz21_1 : w20.cell? ⟨gb108,1,none⟩ = some (.int .i64 0):=(blk_cell BK108.out 1).trans rfl;have hcz21_2 : w20.cell? ⟨gb108,2,none⟩ = some (.int .i64 0):=(blk_cell BK108.out 2).trans rfl;have hcz21_3 : w20.cell? ⟨gb108,3,none⟩ = some (.int .i64 0):=(blk_cell BK108.out 3).trans rfl;have hfz21_0:=blk_frozen BK108.out 0;have hfz21_1:=blk_frozen BK108.out 1;have hfz21_2:=blk_frozen BK108.out 2;have hfz21_3:=blk_frozen BK108.out 3)|((with_reducible refine gate_callee (f:=62) rfl ?_);refine goesL_ (some 23) rfl rfl Try.func62 (by kernel_rfl) rfl #[.int .i64 ((rd_T62 l1 x5_1).f0),.int .i64 1,.int .i64 30] rfl (by (try simp only [List.map_toArray,List.map_cons,List.map_nil]);first|done|rfl|(simp only [List.length_drop,List.length_take];rfl)) ?_;(with_reducible refine (spec_l1In.calls ((rd_T62 l1 x5_1).f0) 1 30 true _ A8.out).mono ?_);rintro e w' ⟨rfl,⟨nd,rfl⟩⟩;refine ⟨_,rfl,?_⟩)|(go_at_call 62;(with_reducible refine (spec_l1In.calls ((rd_T62 l1 x5_1).f1) 0 200 true _ A10.out).mono ?_);rintro e w' ⟨rfl,⟨nd,rfl⟩⟩)|(go_at_call 62;(with_reducible refine (spec_l1In.calls ((rd_T62 l1 x5_1).f2) 1 48 false _ A12.out).mono ?_);rintro e w' ⟨rfl,⟨nd,rfl⟩⟩))
           go_ret
           exact ⟨by first|rfl|(simp [errW_none,errW_some] <;> rfl)|(simp [*,errW_none,errW_some] <;> rfl),by repeat (first|(with_reducible first|exact HB.out|apply zD|apply zE|apply zF|refine below_set ?_ GE108.out)|exact HB.out)⟩
         ·replace c11:=Bool.eq_false_iff.mpr c11
          subst c11
          have H1 : (some false) = some r:=by rw [if_neg (show ¬ (false = true) by decide)] at H;exact H
          clear H
          have H:=H1
          clear H1
          obtain rfl:=Option.some.inj H
          have p107 : 0 ≤ (x5_1 : Int):=of_decide_eq_true (by first|(with_reducible assumption)|assumption)
          have q107 : x5_1 < (l1.length : Int):=of_decide_eq_true (by first|(with_reducible assumption)|assumption)
          obtain ⟨ad107,e107,hx107_0,hx107_1,hx107_2,hx107_3⟩:=at_T62 HR1.out x5_1 p107 q107
          cases e107
          replace hx107_0:=(HB.out.cell (World.block_lt_of_cell? w _ hx107_0)).trans hx107_0
          replace hx107_1:=(HB.out.cell (World.block_lt_of_cell? w _ hx107_1)).trans hx107_1
          replace hx107_2:=(HB.out.cell (World.block_lt_of_cell? w _ hx107_2)).trans hx107_2
          replace hx107_3:=(HB.out.cell (World.block_lt_of_cell? w _ hx107_3)).trans hx107_3
          replace p107:=eq_true p107
          replace q107:=eq_true q107
          go_wp2_with (first|((with_reducible refine gate_dst (N:=6) rfl ?_);(try (refine gate_guard (by rfl) ?_;dsimp only));refine box_event ?hg (N:=6) ?hd (cs := #[.int .i64 0,.int .i64 0,.int .i64 0,.int .i64 0]) (t:=62) ?hr ?_;(case hd=>rfl);(case hg=>rfl);(case hr=>first|(go_simp;done)|(go_simp;rfl));intro gb108 hg w22 hbox hb;have n0_:=zM (zQ (by repeat (first|(with_reducible first|exact HB.out|apply zD|apply zE|apply zF)|exact HB.out)) hb);have n1_:=zM (hbox);have n2_:=zM ((by rw [hg];exact (zR (by repeat (first|(with_reducible first|exact HB.out|apply zD|apply zE|apply zF)|exact HB.out))) : w.heap.size ≤ gb108));have n3_:=zM ((by rw [hg];exact (zR (by repeat (first|(with_reducible first|exact HB.out|apply zD|apply zE|apply zF)|exact HB.out))) : w.heap.size ≤ gb108));clear HB;have HB:=n0_;have BK108:=n1_;have GW108:=n2_;have GE108:=n3_;clear n0_ n1_ n2_ n3_;clear hb hbox hg;have hcz23_0 : w22.cell? ⟨gb108,0,none⟩ = some (.int .i64 0):=(blk_cell BK108.out 0).trans rfl;have hcz23_1 : w22.cell? ⟨gb108,1,none⟩ = some (.int .i64 0):=(blk_cell BK108.out 1).trans rfl;have hcz23_2 : w22.cell? ⟨gb108,2,none⟩ = some (.int .i64 0):=(blk_cell BK108.out 2).trans rfl;have hcz23_3 : w22.cell? ⟨gb108,3,none⟩ = some (.int .i64 0):=(blk_cell BK108.out 3).trans rfl;have hfz23_0:=blk_frozen BK108.out 0;have hfz23_1:=blk_frozen BK108.out 1;have hfz23_2:=blk_frozen BK108.out 2;have hfz23_3:=blk_frozen BK108.out 3)|((with_reducible refine gate_callee (f:=62) rfl ?_);refine goesL_ (some 23) rfl rfl Try.func62 (by kernel_rfl) rfl #[.int .i64 ((rd_T62 l1 x5_1).f0),.int .i64 1,.int .i64 30] rfl (by (try simp only [List.map_toArray,List.map_cons,List.map_nil]);first|done|rfl|(simp only [List.length_drop,List.length_take];rfl)) ?_;(with_reducible refine (spec_l1In.calls ((rd_T62 l1 x5_1).f0) 1 30 true _ A8.out).mono ?_);rintro e w' ⟨rfl,⟨nd,rfl⟩⟩;refine ⟨_,rfl,?_⟩)|(go_at_call 62;(with_reducible refine (spec_l1In.calls ((rd_T62 l1 x5_1).f1) 0 200 false _ A10.out).mono ?_);rintro e w' ⟨rfl,⟨nd,rfl⟩⟩))
          go_ret
          exact ⟨by first|rfl|(simp [errW_none,errW_some] <;> rfl)|(simp [*,errW_none,errW_some] <;> rfl),by repeat (first|(with_reducible first|exact HB.out|apply zD|apply zE|apply zF|refine below_set ?_ GE108.out)|exact HB.out)⟩
        ·replace c9:=Bool.eq_false_iff.mpr c9
         subst c9
         have H1 : (some false) = some r:=by rw [if_neg (show ¬ (false = true) by decide)] at H;exact H
         clear H
         have H:=H1
         clear H1
         obtain rfl:=Option.some.inj H
         have p107 : 0 ≤ (x5_1 : Int):=of_decide_eq_true (by first|(with_reducible assumption)|assumption)
         have q107 : x5_1 < (l1.length : Int):=of_decide_eq_true (by first|(with_reducible assumption)|assumption)
         obtain ⟨ad107,e107,hx107_0,hx107_1,hx107_2,hx107_3⟩:=at_T62 HR1.out x5_1 p107 q107
         cases e107
         replace hx107_0:=(HB.out.cell (World.block_lt_of_cell? w _ hx107_0)).trans hx107_0
         replace hx107_1:=(HB.out.cell (World.block_lt_of_cell? w _ hx107_1)).trans hx107_1
         replace hx107_2:=(HB.out.cell (World.block_lt_of_cell? w _ hx107_2)).trans hx107_2
         replace hx107_3:=(HB.out.cell (World.block_lt_of_cell? w _ hx107_3)).trans hx107_3
         replace p107:=eq_true p107
         replace q107:=eq_true q107
         go_wp2_with (first|((with_reducible refine gate_dst (N:=6) rfl ?_);(try (refine gate_guard (by rfl) ?_;dsimp only));refine box_event ?hg (N:=6) ?hd (cs := #[.int .i64 0,.int .i64 0,.int .i64 0,.int .i64 0]) (t:=62) ?hr ?_;(case hd=>rfl);(case hg=>rfl);(case hr=>first|(go_simp;done)|(go_simp;rfl));intro gb108 hg w24 hbox hb;have n0_:=zM (zQ (by repeat (first|(with_reducible first|exact HB.out|apply zD|apply zE|apply zF)|exact HB.out)) hb);have n1_:=zM (hbox);have n2_:=zM ((by rw [hg];exact (zR (by repeat (first|(with_reducible first|exact HB.out|apply zD|apply zE|apply zF)|exact HB.out))) : w.heap.size ≤ gb108));have n3_:=zM ((by rw [hg];exact (zR (by repeat (first|(with_reducible first|exact HB.out|apply zD|apply zE|apply zF)|exact HB.out))) : w.heap.size ≤ gb108));clear HB;have HB:=n0_;have BK108:=n1_;have GW108:=n2_;have GE108:=n3_;clear n0_ n1_ n2_ n3_;clear hb hbox hg;have hcz25_0 : w24.cell? ⟨gb108,0,none⟩ = some (.int .i64 0):=(blk_cell BK108.out 0).trans rfl;have hcz25_1 : w24.cell? ⟨gb108,1,none⟩ = some (.int .i64 0):=(blk_cell BK108.out 1).trans rfl;have hcz25_2 : w24.cell? ⟨gb108,2,none⟩ = some (.int .i64 0):=(blk_cell BK108.out 2).trans rfl;have hcz25_3 : w24.cell? ⟨gb108,3,none⟩ = some (.int .i64 0):=(blk_cell BK108.out 3).trans rfl;have hfz25_0:=blk_frozen BK108.out 0;have hfz25_1:=blk_frozen BK108.out 1;have hfz25_2:=blk_frozen BK108.out 2;have hfz25_3:=blk_frozen BK108.out 3)|((with_reducible refine gate_callee (f:=62) rfl ?_);refine goesL_ (some 23) rfl rfl Try.func62 (by kernel_rfl) rfl #[.int .i64 ((rd_T62 l1 x5_1).f0),.int .i64 1,.int .i64 30] rfl (by (try simp only [List.map_toArray,List.map_cons,List.map_nil]);first|done|rfl|(simp only [List.length_drop,List.length_take];rfl)) ?_;(with_reducible refine (spec_l1In.calls ((rd_T62 l1 x5_1).f0) 1 30 false _ A8.out).mono ?_);rintro e w' ⟨rfl,⟨nd,rfl⟩⟩;refine ⟨_,rfl,?_⟩))
         go_ret
         exact ⟨by first|rfl|(simp [errW_none,errW_some] <;> rfl)|(simp [*,errW_none,errW_some] <;> rfl),by repeat (first|(with_reducible first|exact HB.out|apply zD|apply zE|apply zF|refine below_set ?_ GE108.out)|exact HB.out)⟩
       ·rw [if_neg c7] at H
        exact absurd H (by simp)
      ·rw [if_neg c6] at H
       exact absurd H (by simp)
     ·replace c5:=Bool.eq_false_iff.mpr c5
      subst c5
      have H1 : ((spec_l1In.f a0 1 30).bind fun t106=>(if t106 = true then (some (decide ((l1.length : Int) ≤ 5))) else (some false))) = some r:=by rw [if_neg (show ¬ (false = true) by decide)] at H;exact H
      clear H
      have H:=H1
      clear H1
      replace H:=Option.bind_eq_some_iff.mp H
      obtain ⟨t106,A260,H⟩:=H
      replace H : (if t106 = true then (some (decide ((l1.length : Int) ≤ 5))) else (some false)) = some r:=H
      have A26:=zM A260
      clear A260
      by_cases c27 : t106 = true
      ·subst c27
       have H1 : (some (decide ((l1.length : Int) ≤ 5))) = some r:=by rw [if_pos rfl] at H;exact H
       clear H
       have H:=H1
       clear H1
       obtain rfl:=Option.some.inj H
       go_wp2_with (first|((with_reducible refine gate_callee (f:=62) rfl ?_);refine goesL_ (some 44) rfl rfl Try.func62 (by kernel_rfl) rfl #[.int .i64 a0,.int .i64 1,.int .i64 30] rfl (by (try simp only [List.map_toArray,List.map_cons,List.map_nil]);first|done|rfl|(simp only [List.length_drop,List.length_take];rfl)) ?_;(with_reducible refine (spec_l1In.calls a0 1 30 true _ A26.out).mono ?_);rintro e w' ⟨rfl,⟨nd,rfl⟩⟩;refine ⟨_,rfl,?_⟩))
       go_ret
       exact ⟨by first|rfl|(simp [errW_none,errW_some] <;> rfl)|(simp [*,errW_none,errW_some] <;> rfl),by repeat (first|(with_reducible first|exact HB.out|apply zD|apply zE|apply zF)|exact HB.out)⟩
      ·replace c27:=Bool.eq_false_iff.mpr c27
       subst c27
       have H1 : (some false) = some r:=by rw [if_neg (show ¬ (false = true) by decide)] at H;exact H
       clear H
       have H:=H1
       clear H1
       obtain rfl:=Option.some.inj H
       go_wp2_with (first|((with_reducible refine gate_callee (f:=62) rfl ?_);refine goesL_ (some 44) rfl rfl Try.func62 (by kernel_rfl) rfl #[.int .i64 a0,.int .i64 1,.int .i64 30] rfl (by (try simp only [List.map_toArray,List.map_cons,List.map_nil]);first|done|rfl|(simp only [List.length_drop,List.length_take];rfl)) ?_;(with_reducible refine (spec_l1In.calls a0 1 30 false _ A26.out).mono ?_);rintro e w' ⟨rfl,⟨nd,rfl⟩⟩;refine ⟨_,rfl,?_⟩))
       go_ret
       exact ⟨by first|rfl|(simp [errW_none,errW_some] <;> rfl)|(simp [*,errW_none,errW_some] <;> rfl),by repeat (first|(with_reducible first|exact HB.out|apply zD|apply zE|apply zF)|exact HB.out)⟩

end Go.Proofs.Ytcciljjnpfgaeaa.G

-- Written by wip/tools/gen.py out of the translation (the kit's printer, one namespace a seat). Lean checks it.
namespace Go.Proofs.Ytcciljjnpfgaeaa.G
open Go.RowKit Go.Proofs.YtcciljjnpfgaeaaW.PrintWords Go.Proofs.YtcciljjnpfgaeaaW.PrintLast Go.Proofs.YtcciljjnpfgaeaaW.PrintMore
attribute [local go_sem] max2_int min2_int max_two min_two max_three min_three max_four min_four   -- for this text's walks alone
set_option linter.unusedVariables false
set_option linter.unusedSimpArgs false

/-! ### spec_l14Fits: function 80 -/
def spec_l14Fits.f (a0 : Int) (a1_0 : Int) (a1_1 : Int) (a1_2 : Int) (a1_3 : Int) (a2_0 : Int) (a2_1 : Int) : Option (Bool):=(spec_l1In.f a2_0 0 (wrap64 (a0 - a1_0))).bind fun t115=>(if t115 = true then ((spec_l1In.f a2_1 a1_1 1000).bind fun t116=>(some t116)) else (some false))
set_option maxHeartbeats 8000000 in
set_option maxRecDepth 100000 in
theorem spec_l14Fits.calls (a0 : Int) (a1_0 : Int) (a1_1 : Int) (a1_2 : Int) (a1_3 : Int) (a2_0 : Int) (a2_1 : Int) (r : Bool) (w : World) (h : spec_l14Fits.f a0 a1_0 a1_1 a1_2 a1_3 a2_0 a2_1 = some r) :
  Calls Try.prog 80 #[.int .i64 a0,.agg #[.int .i64 a1_0,.int .i64 a1_1,.int .i64 a1_2,.int .i64 a1_3],.agg #[.int .i64 a2_0,.int .i64 a2_1]] w fun e w'=>e = .returned (.bool r) ∧ Below w.heap.size w w':=by
 have hu62:=Try.underlying62
 have hu37:=Try.underlying37
 have HB:=zM (Below.refl w.heap.size w)
 have H : ((spec_l1In.f a2_0 0 (wrap64 (a0 - a1_0))).bind fun t115=>(if t115 = true then ((spec_l1In.f a2_1 a1_1 1000).bind fun t116=>(some t116)) else (some false))) = some r:=h
 clear h
 replace H:=Option.bind_eq_some_iff.mp H
 obtain ⟨t115,A40,H⟩:=H
 replace H : (if t115 = true then ((spec_l1In.f a2_1 a1_1 1000).bind fun t116=>(some t116)) else (some false)) = some r:=H
 have A4:=zM A40
 clear A40
 by_cases c5 : t115 = true
 ·subst c5
  have H1 : ((spec_l1In.f a2_1 a1_1 1000).bind fun t116=>(some t116)) = some r:=by rw [if_pos rfl] at H;exact H
  clear H
  have H:=H1
  clear H1
  replace H:=Option.bind_eq_some_iff.mp H
  obtain ⟨t116,A60,H⟩:=H
  replace H : (some t116) = some r:=H
  have A6:=zM A60
  clear A60
  obtain rfl:=Option.some.inj H
  go_enter Try.func80,Try.ntmps80
  go_wp2_with (first|((with_reducible refine gate_dst (N:=4) rfl ?_);refine box_event ?hg (N:=4) ?hd (cs := #[.int .i64 a1_0,.int .i64 a1_1,.int .i64 a1_2,.int .i64 a1_3]) (t:=62) ?hr ?_;(case hd=>rfl);(case hg=>rfl);(case hr=>first|(go_simp;done)|(go_simp;rfl));intro gb113 hg w7 hbox hb;have n0_:=zM (zQ (by repeat (first|(with_reducible first|exact HB.out|apply zD|apply zE|apply zF)|exact HB.out)) hb);have n1_:=zM (hbox);have n2_:=zM ((by rw [hg];exact (zR (by repeat (first|(with_reducible first|exact HB.out|apply zD|apply zE|apply zF)|exact HB.out))) : w.heap.size ≤ gb113));have n3_:=zM ((by rw [hg];exact (zR (by repeat (first|(with_reducible first|exact HB.out|apply zD|apply zE|apply zF)|exact HB.out))) : w.heap.size ≤ gb113));clear HB;have HB:=n0_;have BK113:=n1_;have GW113:=n2_;have GE113:=n3_;clear n0_ n1_ n2_ n3_;clear hb hbox hg)|((with_reducible refine gate_dst (N:=5) rfl ?_);refine box_event ?hg (N:=5) ?hd (cs := #[.int .i64 a2_0,.int .i64 a2_1]) (t:=37) ?hr ?_;(case hd=>rfl);(case hg=>rfl);(case hr=>first|(go_simp;done)|(go_simp;rfl));intro gb114 hg w8 hbox hb;have n0_:=zM (blk_below (g:=gb113) (o := .cells #[.int .i64 a1_0,.int .i64 a1_1,.int .i64 a1_2,.int .i64 a1_3] 62 (0,0)) (by (with_reducible repeat (first|refine zJ ?_ _|refine zK ?_|refine zL ?_ _));exact BK113.out) hb);have n1_:=zM (zQ (by repeat (first|(with_reducible first|exact HB.out|apply zD|apply zE|apply zF|refine below_set ?_ GE113.out)|exact HB.out)) hb);have n2_:=zM (hbox);have n3_:=zM ((by rw [hg];exact (zR (by repeat (first|(with_reducible first|exact HB.out|apply zD|apply zE|apply zF|refine below_set ?_ GE113.out)|exact HB.out))) : w.heap.size ≤ gb114));have n4_:=zM ((by rw [hg];exact (zR (by repeat (first|(with_reducible first|exact HB.out|apply zD|apply zE|apply zF|refine below_set ?_ GE113.out)|exact HB.out))) : w.heap.size ≤ gb114));have n5_:=zM ((by rw [hg];exact Nat.ne_of_lt (blk_lt (g:=gb113) (o := .cells #[.int .i64 a1_0,.int .i64 a1_1,.int .i64 a1_2,.int .i64 a1_3] 62 (0,0)) (by (with_reducible repeat (first|refine zJ ?_ _|refine zK ?_|refine zL ?_ _));exact BK113.out)) : gb113 ≠ gb114));have n6_:=zM ((by rw [hg];exact Nat.ne_of_gt (blk_lt (g:=gb113) (o := .cells #[.int .i64 a1_0,.int .i64 a1_1,.int .i64 a1_2,.int .i64 a1_3] 62 (0,0)) (by (with_reducible repeat (first|refine zJ ?_ _|refine zK ?_|refine zL ?_ _));exact BK113.out)) : gb114 ≠ gb113));clear BK113;clear HB;have BK113:=n0_;have HB:=n1_;have BK114:=n2_;have GW114:=n3_;have GE114:=n4_;have NB113_114:=n5_;have NB114_113:=n6_;clear n0_ n1_ n2_ n3_ n4_ n5_ n6_;clear hb hbox hg;have hnb9:=NB114_113.out;have hnc9:=NB113_114.out;have hcz10_0 : w8.cell? ⟨gb114,0,none⟩ = some (.int .i64 a2_0):=(blk_cell BK114.out 0).trans rfl;have hcz10_1 : w8.cell? ⟨gb114,1,none⟩ = some (.int .i64 a2_1):=(blk_cell BK114.out 1).trans rfl;have hfz10_0:=blk_frozen BK114.out 0;have hfz10_1:=blk_frozen BK114.out 1;have hcz11_0 : w8.cell? ⟨gb113,0,none⟩ = some (.int .i64 a1_0):=(blk_cell BK113.out 0).trans rfl;have hcz11_1 : w8.cell? ⟨gb113,1,none⟩ = some (.int .i64 a1_1):=(blk_cell BK113.out 1).trans rfl;have hcz11_2 : w8.cell? ⟨gb113,2,none⟩ = some (.int .i64 a1_2):=(blk_cell BK113.out 2).trans rfl;have hcz11_3 : w8.cell? ⟨gb113,3,none⟩ = some (.int .i64 a1_3):=(blk_cell BK113.out 3).trans rfl;have hfz11_0:=blk_frozen BK113.out 0;have hfz11_1:=blk_frozen BK113.out 1;have hfz11_2:=blk_frozen BK113.out 2;have hfz11_3:=blk_frozen BK113.out 3)|((with_reducible refine gate_callee (f:=62) rfl ?_);refine goesL_ (some 13) rfl rfl Try.func62 (by kernel_rfl) rfl #[.int .i64 a2_0,.int .i64 0,.int .i64 (wrap64 (a0 - a1_0))] rfl (by (try simp only [List.map_toArray,List.map_cons,List.map_nil]);first|done|rfl|(simp only [List.length_drop,List.length_take];rfl)) ?_;(with_reducible refine (spec_l1In.calls a2_0 0 (wrap64 (a0 - a1_0)) true _ A4.out).mono ?_);rintro e w' ⟨rfl,⟨nd,rfl⟩⟩;refine ⟨_,rfl,?_⟩)|(go_at_call 62;(with_reducible refine (spec_l1In.calls a2_1 a1_1 1000 t116 _ A6.out).mono ?_);rintro e w' ⟨rfl,⟨nd,rfl⟩⟩))
  go_ret
  exact ⟨by first|rfl|(simp [errW_none,errW_some] <;> rfl)|(simp [*,errW_none,errW_some] <;> rfl),by repeat (first|(with_reducible first|exact HB.out|apply zD|apply zE|apply zF|refine below_set ?_ GE113.out|refine below_set ?_ GE114.out)|exact HB.out)⟩
 ·replace c5:=Bool.eq_false_iff.mpr c5
  subst c5
  have H1 : (some false) = some r:=by rw [if_neg (show ¬ (false = true) by decide)] at H;exact H
  clear H
  have H:=H1
  clear H1
  obtain rfl:=Option.some.inj H
  go_enter Try.func80,Try.ntmps80
  go_wp2_with (first|((with_reducible refine gate_dst (N:=4) rfl ?_);refine box_event ?hg (N:=4) ?hd (cs := #[.int .i64 a1_0,.int .i64 a1_1,.int .i64 a1_2,.int .i64 a1_3]) (t:=62) ?hr ?_;(case hd=>rfl);(case hg=>rfl);(case hr=>first|(go_simp;done)|(go_simp;rfl));intro gb113 hg w12 hbox hb;have n0_:=zM (zQ (by repeat (first|(with_reducible first|exact HB.out|apply zD|apply zE|apply zF)|exact HB.out)) hb);have n1_:=zM (hbox);have n2_:=zM ((by rw [hg];exact (zR (by repeat (first|(with_reducible first|exact HB.out|apply zD|apply zE|apply zF)|exact HB.out))) : w.heap.size ≤ gb113));have n3_:=zM ((by rw [hg];exact (zR (by repeat (first|(with_reducible first|exact HB.out|apply zD|apply zE|apply zF)|exact HB.out))) : w.heap.size ≤ gb113));clear HB;have HB:=n0_;have BK113:=n1_;have GW113:=n2_;have GE113:=n3_;clear n0_ n1_ n2_ n3_;clear hb hbox hg)|((with_reducible refine gate_dst (N:=5) rfl ?_);refine box_event ?hg (N:=5) ?hd (cs := #[.int .i64 a2_0,.int .i64 a2_1]) (t:=37) ?hr ?_;(case hd=>rfl);(case hg=>rfl);(case hr=>first|(go_simp;done)|(go_simp;rfl));intro gb114 hg w13 hbox hb;have n0_:=zM (blk_below (g:=gb113) (o := .cells #[.int .i64 a1_0,.int .i64 a1_1,.int .i64 a1_2,.int .i64 a1_3] 62 (0,0)) (by (with_reducible repeat (first|refine zJ ?_ _|refine zK ?_|refine zL ?_ _));exact BK113.out) hb);have n1_:=zM (zQ (by repeat (first|(with_reducible first|exact HB.out|apply zD|apply zE|apply zF|refine below_set ?_ GE113.out)|exact HB.out)) hb);have n2_:=zM (hbox);have n3_:=zM ((by rw [hg];exact (zR (by repeat (first|(with_reducible first|exact HB.out|apply zD|apply zE|apply zF|refine below_set ?_ GE113.out)|exact HB.out))) : w.heap.size ≤ gb114));have n4_:=zM ((by rw [hg];exact (zR (by repeat (first|(with_reducible first|exact HB.out|apply zD|apply zE|apply zF|refine below_set ?_ GE113.out)|exact HB.out))) : w.heap.size ≤ gb114));have n5_:=zM ((by rw [hg];exact Nat.ne_of_lt (blk_lt (g:=gb113) (o := .cells #[.int .i64 a1_0,.int .i64 a1_1,.int .i64 a1_2,.int .i64 a1_3] 62 (0,0)) (by (with_reducible repeat (first|refine zJ ?_ _|refine zK ?_|refine zL ?_ _));exact BK113.out)) : gb113 ≠ gb114));have n6_:=zM ((by rw [hg];exact Nat.ne_of_gt (blk_lt (g:=gb113) (o := .cells #[.int .i64 a1_0,.int .i64 a1_1,.int .i64 a1_2,.int .i64 a1_3] 62 (0,0)) (by (with_reducible repeat (first|refine zJ ?_ _|refine zK ?_|refine zL ?_ _));exact BK113.out)) : gb114 ≠ gb113));clear BK113;clear HB;have BK113:=n0_;have HB:=n1_;have BK114:=n2_;have GW114:=n3_;have GE114:=n4_;have NB113_114:=n5_;have NB114_113:=n6_;clear n0_ n1_ n2_ n3_ n4_ n5_ n6_;clear hb hbox hg;have hnb14:=NB114_113.out;have hnc14:=NB113_114.out;have hcz15_0 : w13.cell? ⟨gb114,0,none⟩ = some (.int .i64 a2_0):=(blk_cell BK114.out 0).trans rfl;have hcz15_1 : w13.cell? ⟨gb114,1,none⟩ = some (.int .i64 a2_1):=(blk_cell BK114.out 1).trans rfl;have hfz15_0:=blk_frozen BK114.out 0;have hfz15_1:=blk_frozen BK114.out 1;have hcz16_0 : w13.cell? ⟨gb113,0,none⟩ = some (.int .i64 a1_0):=(blk_cell BK113.out 0).trans rfl;have hcz16_1 : w13.cell? ⟨gb113,1,none⟩ = some (.int .i64 a1_1):=(blk_cell BK113.out 1).trans rfl;have hcz16_2 : w13.cell? ⟨gb113,2,none⟩ = some (.int .i64 a1_2):=(blk_cell BK113.out 2).trans rfl;have hcz16_3 : w13.cell? ⟨gb113,3,none⟩ = some (.int .i64 a1_3):=(blk_cell BK113.out 3).trans rfl;have hfz16_0:=blk_frozen BK113.out 0;have hfz16_1:=blk_frozen BK113.out 1;have hfz16_2:=blk_frozen BK113.out 2;have hfz16_3:=blk_frozen BK113.out 3)|((with_reducible refine gate_callee (f:=62) rfl ?_);refine goesL_ (some 13) rfl rfl Try.func62 (by kernel_rfl) rfl #[.int .i64 a2_0,.int .i64 0,.int .i64 (wrap64 (a0 - a1_0))] rfl (by (try simp only [List.map_toArray,List.map_cons,List.map_nil]);first|done|rfl|(simp only [List.length_drop,List.length_take];rfl)) ?_;(with_reducible refine (spec_l1In.calls a2_0 0 (wrap64 (a0 - a1_0)) false _ A4.out).mono ?_);rintro e w' ⟨rfl,⟨nd,rfl⟩⟩;refine ⟨_,rfl,?_⟩))
  go_ret
  exact ⟨by first|rfl|(simp [errW_none,errW_some] <;> rfl)|(simp [*,errW_none,errW_some] <;> rfl),by repeat (first|(with_reducible first|exact HB.out|apply zD|apply zE|apply zF|refine below_set ?_ GE113.out|refine below_set ?_ GE114.out)|exact HB.out)⟩

end Go.Proofs.Ytcciljjnpfgaeaa.G

-- Written by wip/tools/gen.py out of the translation (the kit's printer, one namespace a seat). Lean checks it.
namespace Go.Proofs.Ytcciljjnpfgaeaa.G
open Go.RowKit Go.Proofs.YtcciljjnpfgaeaaW.PrintWords Go.Proofs.YtcciljjnpfgaeaaW.PrintLast Go.Proofs.YtcciljjnpfgaeaaW.PrintMore
attribute [local go_sem] max2_int min2_int max_two min_two max_three min_three max_four min_four   -- for this text's walks alone
set_option linter.unusedVariables false
set_option linter.unusedSimpArgs false

/-! ### spec_l14Apart: function 81 -/
def spec_l14Apart.f (a0_0 : Int) (a0_1 : Int) (a0_2 : Int) (a0_3 : Int) (a1_0 : Int) (a1_1 : Int) (a2_0 : Int) (a2_1 : Int) (a2_2 : Int) (a2_3 : Int) (a3_0 : Int) (a3_1 : Int) : Option (Bool):=if (wrap64 (a1_0 + a0_0)) ≤ a3_0 then (some true) else (if (wrap64 (a3_0 + a2_0)) ≤ a1_0 then (some true) else (if (wrap64 (a1_1 + a0_2)) ≤ a3_1 then (some true) else (some (decide ((wrap64 (a3_1 + a2_2)) ≤ a1_1)))))
set_option maxHeartbeats 8000000 in
set_option maxRecDepth 100000 in
theorem spec_l14Apart.calls (a0_0 : Int) (a0_1 : Int) (a0_2 : Int) (a0_3 : Int) (a1_0 : Int) (a1_1 : Int) (a2_0 : Int) (a2_1 : Int) (a2_2 : Int) (a2_3 : Int) (a3_0 : Int) (a3_1 : Int) (r : Bool) (w : World) (h : spec_l14Apart.f a0_0 a0_1 a0_2 a0_3 a1_0 a1_1 a2_0 a2_1 a2_2 a2_3 a3_0 a3_1 = some r) :
  Calls Try.prog 81 #[.agg #[.int .i64 a0_0,.int .i64 a0_1,.int .i64 a0_2,.int .i64 a0_3],.agg #[.int .i64 a1_0,.int .i64 a1_1],.agg #[.int .i64 a2_0,.int .i64 a2_1,.int .i64 a2_2,.int .i64 a2_3],.agg #[.int .i64 a3_0,.int .i64 a3_1]] w fun e w'=>e = .returned (.bool r) ∧ Below w.heap.size w w':=by
 have hu62:=Try.underlying62
 have hu37:=Try.underlying37
 have HB:=zM (Below.refl w.heap.size w)
 have H : (if (wrap64 (a1_0 + a0_0)) ≤ a3_0 then (some true) else (if (wrap64 (a3_0 + a2_0)) ≤ a1_0 then (some true) else (if (wrap64 (a1_1 + a0_2)) ≤ a3_1 then (some true) else (some (decide ((wrap64 (a3_1 + a2_2)) ≤ a1_1)))))) = some r:=h
 clear h
 by_cases c5 : (wrap64 (a1_0 + a0_0)) ≤ a3_0 <;> by_cases c19 : (wrap64 (a3_0 + a2_0)) ≤ a1_0 <;> by_cases c34 : (wrap64 (a1_1 + a0_2)) ≤ a3_1
 all_goals (try first|rw [if_pos c5] at H|rw [if_neg c5] at H)
 all_goals (try first|rw [if_pos c19] at H|rw [if_neg c19] at H)
 all_goals (try first|rw [if_pos c34] at H|rw [if_neg c34] at H)
 all_goals (first|(have c5b0 : decide ((wrap64 (a1_0 + a0_0)) ≤ a3_0) = true:=decide_eq_true c5)|(have c5b0 : decide ((wrap64 (a1_0 + a0_0)) ≤ a3_0) = false:=decide_eq_false c5))
 all_goals (first|(have c19b0 : decide ((wrap64 (a3_0 + a2_0)) ≤ a1_0) = true:=decide_eq_true c19)|(have c19b0 : decide ((wrap64 (a3_0 + a2_0)) ≤ a1_0) = false:=decide_eq_false c19))
 all_goals (first|(have c34b0 : decide ((wrap64 (a1_1 + a0_2)) ≤ a3_1) = true:=decide_eq_true c34)|(have c34b0 : decide ((wrap64 (a1_1 + a0_2)) ≤ a3_1) = false:=decide_eq_false c34))
 all_goals clear c5 c19 c34
 all_goals
  obtain rfl:=Option.some.inj H
  go_enter Try.func81,Try.ntmps81
  go_wp2_with (first|((with_reducible refine gate_dst (N:=4) rfl ?_);refine box_event ?hg (N:=4) ?hd (cs := #[.int .i64 a0_0,.int .i64 a0_1,.int .i64 a0_2,.int .i64 a0_3]) (t:=62) ?hr ?_;(case hd=>rfl);(case hg=>rfl);(case hr=>first|(go_simp;done)|(go_simp;rfl));intro gb117 hg w20 hbox hb;have n0_:=zM (zQ (by repeat (first|(with_reducible first|exact HB.out|apply zD|apply zE|apply zF)|exact HB.out)) hb);have n1_:=zM (hbox);have n2_:=zM ((by rw [hg];exact (zR (by repeat (first|(with_reducible first|exact HB.out|apply zD|apply zE|apply zF)|exact HB.out))) : w.heap.size ≤ gb117));have n3_:=zM ((by rw [hg];exact (zR (by repeat (first|(with_reducible first|exact HB.out|apply zD|apply zE|apply zF)|exact HB.out))) : w.heap.size ≤ gb117));clear HB;have HB:=n0_;have BK117:=n1_;have GW117:=n2_;have GE117:=n3_;clear n0_ n1_ n2_ n3_;clear hb hbox hg)|((with_reducible refine gate_dst (N:=5) rfl ?_);refine box_event ?hg (N:=5) ?hd (cs := #[.int .i64 a1_0,.int .i64 a1_1]) (t:=37) ?hr ?_;(case hd=>rfl);(case hg=>rfl);(case hr=>first|(go_simp;done)|(go_simp;rfl));intro gb118 hg w21 hbox hb;have n0_:=zM (blk_below (g:=gb117) (o := .cells #[.int .i64 a0_0,.int .i64 a0_1,.int .i64 a0_2,.int .i64 a0_3] 62 (0,0)) (by (with_reducible repeat (first|refine zJ ?_ _|refine zK ?_|refine zL ?_ _));exact BK117.out) hb);have n1_:=zM (zQ (by repeat (first|(with_reducible first|exact HB.out|apply zD|apply zE|apply zF|refine below_set ?_ GE117.out)|exact HB.out)) hb);have n2_:=zM (hbox);have n3_:=zM ((by rw [hg];exact (zR (by repeat (first|(with_reducible first|exact HB.out|apply zD|apply zE|apply zF|refine below_set ?_ GE117.out)|exact HB.out))) : w.heap.size ≤ gb118));have n4_:=zM ((by rw [hg];exact (zR (by repeat (first|(with_reducible first|exact HB.out|apply zD|apply zE|apply zF|refine below_set ?_ GE117.out)|exact HB.out))) : w.heap.size ≤ gb118));have n5_:=zM ((by rw [hg];exact Nat.ne_of_lt (blk_lt (g:=gb117) (o := .cells #[.int .i64 a0_0,.int .i64 a0_1,.int .i64 a0_2,.int .i64 a0_3] 62 (0,0)) (by (with_reducible repeat (first|refine zJ ?_ _|refine zK ?_|refine zL ?_ _));exact BK117.out)) : gb117 ≠ gb118));have n6_:=zM ((by rw [hg];exact Nat.ne_of_gt (blk_lt (g:=gb117) (o := .cells #[.int .i64 a0_0,.int .i64 a0_1,.int .i64 a0_2,.int .i64 a0_3] 62 (0,0)) (by (with_reducible repeat (first|refine zJ ?_ _|refine zK ?_|refine zL ?_ _));exact BK117.out)) : gb118 ≠ gb117));clear BK117;clear HB;have BK117:=n0_;have HB:=n1_;have BK118:=n2_;have GW118:=n3_;have GE118:=n4_;have NB117_118:=n5_;have NB118_117:=n6_;clear n0_ n1_ n2_ n3_ n4_ n5_ n6_;clear hb hbox hg)|((with_reducible refine gate_dst (N:=6) rfl ?_);refine box_event ?hg (N:=6) ?hd (cs := #[.int .i64 a2_0,.int .i64 a2_1,.int .i64 a2_2,.int .i64 a2_3]) (t:=62) ?hr ?_;(case hd=>rfl);(case hg=>rfl);(case hr=>first|(go_simp;done)|(go_simp;rfl));intro gb119 hg w22 hbox hb;have n0_:=zM (blk_below (g:=gb117) (o := .cells #[.int .i64 a0_0,.int .i64 a0_1,.int .i64 a0_2,.int .i64 a0_3] 62 (0,0)) (by (with_reducible repeat (first|refine zJ ?_ _|refine zK ?_|refine zL ?_ _));exact BK117.out) hb);have n1_:=zM (blk_below (g:=gb118) (o := .cells #[.int .i64 a1_0,.int .i64 a1_1] 37 (0,0)) (by (with_reducible repeat (first|refine zJ ?_ _|refine zK ?_|refine zL ?_ _));exact BK118.out) hb);have n2_:=zM (zQ (by repeat (first|(with_reducible first|exact HB.out|apply zD|apply zE|apply zF|refine below_set ?_ GE117.out|refine below_set ?_ GE118.out)|exact HB.out)) hb);have n3_:=zM (hbox);have n4_:=zM ((by rw [hg];exact (zR (by repeat (first|(with_reducible first|exact HB.out|apply zD|apply zE|apply zF|refine below_set ?_ GE117.out|refine below_set ?_ GE118.out)|exact HB.out))) : w.heap.size ≤ gb119));have n5_:=zM ((by rw [hg];exact (zR (by repeat (first|(with_reducible first|exact HB.out|apply zD|apply zE|apply zF|refine below_set ?_ GE117.out|refine below_set ?_ GE118.out)|exact HB.out))) : w.heap.size ≤ gb119));have n6_:=zM ((by rw [hg];exact Nat.ne_of_lt (blk_lt (g:=gb117) (o := .cells #[.int .i64 a0_0,.int .i64 a0_1,.int .i64 a0_2,.int .i64 a0_3] 62 (0,0)) (by (with_reducible repeat (first|refine zJ ?_ _|refine zK ?_|refine zL ?_ _));exact BK117.out)) : gb117 ≠ gb119));have n7_:=zM ((by rw [hg];exact Nat.ne_of_gt (blk_lt (g:=gb117) (o := .cells #[.int .i64 a0_0,.int .i64 a0_1,.int .i64 a0_2,.int .i64 a0_3] 62 (0,0)) (by (with_reducible repeat (first|refine zJ ?_ _|refine zK ?_|refine zL ?_ _));exact BK117.out)) : gb119 ≠ gb117));have n8_:=zM ((by rw [hg];exact Nat.ne_of_lt (blk_lt (g:=gb118) (o := .cells #[.int .i64 a1_0,.int .i64 a1_1] 37 (0,0)) (by (with_reducible repeat (first|refine zJ ?_ _|refine zK ?_|refine zL ?_ _));exact BK118.out)) : gb118 ≠ gb119));have n9_:=zM ((by rw [hg];exact Nat.ne_of_gt (blk_lt (g:=gb118) (o := .cells #[.int .i64 a1_0,.int .i64 a1_1] 37 (0,0)) (by (with_reducible repeat (first|refine zJ ?_ _|refine zK ?_|refine zL ?_ _));exact BK118.out)) : gb119 ≠ gb118));clear BK117;clear BK118;clear HB;have BK117:=n0_;have BK118:=n1_;have HB:=n2_;have BK119:=n3_;have GW119:=n4_;have GE119:=n5_;have NB117_119:=n6_;have NB119_117:=n7_;have NB118_119:=n8_;have NB119_118:=n9_;clear n0_ n1_ n2_ n3_ n4_ n5_ n6_ n7_ n8_ n9_;clear hb hbox hg)|((with_reducible refine gate_dst (N:=7) rfl ?_);refine box_event ?hg (N:=7) ?hd (cs := #[.int .i64 a3_0,.int .i64 a3_1]) (t:=37) ?hr ?_;(case hd=>rfl);(case hg=>rfl);(case hr=>first|(go_simp;done)|(go_simp;rfl));intro gb120 hg w23 hbox hb;have n0_:=zM (blk_below (g:=gb117) (o := .cells #[.int .i64 a0_0,.int .i64 a0_1,.int .i64 a0_2,.int .i64 a0_3] 62 (0,0)) (by (with_reducible repeat (first|refine zJ ?_ _|refine zK ?_|refine zL ?_ _));exact BK117.out) hb);have n1_:=zM (blk_below (g:=gb118) (o := .cells #[.int .i64 a1_0,.int .i64 a1_1] 37 (0,0)) (by (with_reducible repeat (first|refine zJ ?_ _|refine zK ?_|refine zL ?_ _));exact BK118.out) hb);have n2_:=zM (blk_below (g:=gb119) (o := .cells #[.int .i64 a2_0,.int .i64 a2_1,.int .i64 a2_2,.int .i64 a2_3] 62 (0,0)) (by (with_reducible repeat (first|refine zJ ?_ _|refine zK ?_|refine zL ?_ _));exact BK119.out) hb);have n3_:=zM (zQ (by repeat (first|(with_reducible first|exact HB.out|apply zD|apply zE|apply zF|refine below_set ?_ GE117.out|refine below_set ?_ GE118.out|refine below_set ?_ GE119.out)|exact HB.out)) hb);have n4_:=zM (hbox);have n5_:=zM ((by rw [hg];exact (zR (by repeat (first|(with_reducible first|exact HB.out|apply zD|apply zE|apply zF|refine below_set ?_ GE117.out|refine below_set ?_ GE118.out|refine below_set ?_ GE119.out)|exact HB.out))) : w.heap.size ≤ gb120));have n6_:=zM ((by rw [hg];exact (zR (by repeat (first|(with_reducible first|exact HB.out|apply zD|apply zE|apply zF|refine below_set ?_ GE117.out|refine below_set ?_ GE118.out|refine below_set ?_ GE119.out)|exact HB.out))) : w.heap.size ≤ gb120));have n7_:=zM ((by rw [hg];exact Nat.ne_of_lt (blk_lt (g:=gb117) (o := .cells #[.int .i64 a0_0,.int .i64 a0_1,.int .i64 a0_2,.int .i64 a0_3] 62 (0,0)) (by (with_reducible repeat (first|refine zJ ?_ _|refine zK ?_|refine zL ?_ _));exact BK117.out)) : gb117 ≠ gb120));have n8_:=zM ((by rw [hg];exact Nat.ne_of_gt (blk_lt (g:=gb117) (o := .cells #[.int .i64 a0_0,.int .i64 a0_1,.int .i64 a0_2,.int .i64 a0_3] 62 (0,0)) (by (with_reducible repeat (first|refine zJ ?_ _|refine zK ?_|refine zL ?_ _));exact BK117.out)) : gb120 ≠ gb117));have n9_:=zM ((by rw [hg];exact Nat.ne_of_lt (blk_lt (g:=gb118) (o := .cells #[.int .i64 a1_0,.int .i64 a1_1] 37 (0,0)) (by (with_reducible repeat (first|refine zJ ?_ _|refine zK ?_|refine zL ?_ _));exact BK118.out)) : gb118 ≠ gb120));have n10_:=zM ((by rw [hg];exact Nat.ne_of_gt (blk_lt (g:=gb118) (o := .cells #[.int .i64 a1_0,.int .i64 a1_1] 37 (0,0)) (by (with_reducible repeat (first|refine zJ ?_ _|refine zK ?_|refine zL ?_ _));exact BK118.out)) : gb120 ≠ gb118));have n11_:=zM ((by rw [hg];exact Nat.ne_of_lt (blk_lt (g:=gb119) (o := .cells #[.int .i64 a2_0,.int .i64 a2_1,.int .i64 a2_2,.int .i64 a2_3] 62 (0,0)) (by (with_reducible repeat (first|refine zJ ?_ _|refine zK ?_|refine zL ?_ _));exact BK119.out)) : gb119 ≠ gb120));have n12_:=zM ((by rw [hg];exact Nat.ne_of_gt (blk_lt (g:=gb119) (o := .cells #[.int .i64 a2_0,.int .i64 a2_1,.int .i64 a2_2,.int .i64 a2_3] 62 (0,0)) (by (with_reducible repeat (first|refine zJ ?_ _|refine zK ?_|refine zL ?_ _));exact BK119.out)) : gb120 ≠ gb119));clear BK117;clear BK118;clear BK119;clear HB;have BK117:=n0_;have BK118:=n1_;have BK119:=n2_;have HB:=n3_;have BK120:=n4_;have GW120:=n5_;have GE120:=n6_;have NB117_120:=n7_;have NB120_117:=n8_;have NB118_120:=n9_;have NB120_118:=n10_;have NB119_120:=n11_;have NB120_119:=n12_;clear n0_ n1_ n2_ n3_ n4_ n5_ n6_ n7_ n8_ n9_ n10_ n11_ n12_;clear hb hbox hg;have hnb24:=NB118_117.out;have hnc24:=NB117_118.out;have hnb25:=NB118_119.out;have hnc25:=NB119_118.out;have hnb26:=NB118_120.out;have hnc26:=NB120_118.out;have hcz27_0 : w23.cell? ⟨gb118,0,none⟩ = some (.int .i64 a1_0):=(blk_cell BK118.out 0).trans rfl;have hcz27_1 : w23.cell? ⟨gb118,1,none⟩ = some (.int .i64 a1_1):=(blk_cell BK118.out 1).trans rfl;have hfz27_0:=blk_frozen BK118.out 0;have hfz27_1:=blk_frozen BK118.out 1;have hnb28:=NB117_119.out;have hnc28:=NB119_117.out;have hnb29:=NB117_120.out;have hnc29:=NB120_117.out;have hcz30_0 : w23.cell? ⟨gb117,0,none⟩ = some (.int .i64 a0_0):=(blk_cell BK117.out 0).trans rfl;have hcz30_1 : w23.cell? ⟨gb117,1,none⟩ = some (.int .i64 a0_1):=(blk_cell BK117.out 1).trans rfl;have hcz30_2 : w23.cell? ⟨gb117,2,none⟩ = some (.int .i64 a0_2):=(blk_cell BK117.out 2).trans rfl;have hcz30_3 : w23.cell? ⟨gb117,3,none⟩ = some (.int .i64 a0_3):=(blk_cell BK117.out 3).trans rfl;have hfz30_0:=blk_frozen BK117.out 0;have hfz30_1:=blk_frozen BK117.out 1;have hfz30_2:=blk_frozen BK117.out 2;have hfz30_3:=blk_frozen BK117.out 3;have hnb31:=NB120_119.out;have hnc31:=NB119_120.out;have hcz32_0 : w23.cell? ⟨gb120,0,none⟩ = some (.int .i64 a3_0):=(blk_cell BK120.out 0).trans rfl;have hcz32_1 : w23.cell? ⟨gb120,1,none⟩ = some (.int .i64 a3_1):=(blk_cell BK120.out 1).trans rfl;have hfz32_0:=blk_frozen BK120.out 0;have hfz32_1:=blk_frozen BK120.out 1;have hcz33_0 : w23.cell? ⟨gb119,0,none⟩ = some (.int .i64 a2_0):=(blk_cell BK119.out 0).trans rfl;have hcz33_1 : w23.cell? ⟨gb119,1,none⟩ = some (.int .i64 a2_1):=(blk_cell BK119.out 1).trans rfl;have hcz33_2 : w23.cell? ⟨gb119,2,none⟩ = some (.int .i64 a2_2):=(blk_cell BK119.out 2).trans rfl;have hcz33_3 : w23.cell? ⟨gb119,3,none⟩ = some (.int .i64 a2_3):=(blk_cell BK119.out 3).trans rfl;have hfz33_0:=blk_frozen BK119.out 0;have hfz33_1:=blk_frozen BK119.out 1;have hfz33_2:=blk_frozen BK119.out 2;have hfz33_3:=blk_frozen BK119.out 3))
  go_ret
  exact ⟨by first|rfl|(simp [errW_none,errW_some] <;> rfl)|(simp [*,errW_none,errW_some] <;> rfl),by repeat (first|(with_reducible first|exact HB.out|apply zD|apply zE|apply zF|refine below_set ?_ GE117.out|refine below_set ?_ GE118.out|refine below_set ?_ GE119.out|refine below_set ?_ GE120.out)|exact HB.out)⟩

end Go.Proofs.Ytcciljjnpfgaeaa.G
