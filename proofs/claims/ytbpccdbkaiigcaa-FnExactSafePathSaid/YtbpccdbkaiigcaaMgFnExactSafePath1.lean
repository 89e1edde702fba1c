/- Texts of the proof of FnExactSafePath, joined in build order. -/
import Derived.Test.YtbpccdbkaiigcaaProg
import Derived.Below
import Derived.Deep.Draws
import Derived.Deep.AppendLies
import Derived.Maps.AppendAt
import Derived.OwnWalk
import Derived.Laws.BytesArg
import Derived.Laws.MakeOwn
import Derived.Laws.OwnMore
import Derived.Deep.OwnRows
import Derived.Tactics
import Derived.Lib.ConvBytes
import Derived.Laws.Slices
import Derived.WalkKit
import Derived.KernelRfl
import Derived.RowKit3
import Derived.Deep.LoopGhost
import Derived.Deep.QuietTactic
import Derived.BigQuiet
import Derived.WideLaws
import Derived.Deep.DeepCutAuto
import Derived.Deep.CutBlock
import Derived.Deep.RegionHeld3
import Derived.Laws.Rows
import Derived.Lib.AppendStr
import Derived.ArgAppend
import Derived.Laws.IdiomCopy
import Derived.OrdersHeld
import Derived.Laws.BitsLemmas
import Derived.RowKit
import Derived.Test.YtbpccdbkaiigcaaMgFnExactSafePath0
import Derived.IntWalk
-- Written by wip/tools/gen.py out of the translation (the kit's printer, one namespace a seat). Lean checks it.
namespace Go.Proofs.Ytbpccdbkaiigcaa.G
open Go.RowKit Go.Proofs.YtbpccdbkaiigcaaW.PrintWords Go.Proofs.YtbpccdbkaiigcaaW.PrintLast Go.Proofs.YtbpccdbkaiigcaaW.PrintMore
attribute [local go_sem] max2_int min2_int max_two min_two max_three min_three max_four min_four   -- for this text's walks alone
set_option linter.unusedVariables false
set_option linter.unusedSimpArgs false



def errW : Option Int → Value
 | none => .nilIface
 | some c => .iface 0 (.int .i64 c)
theorem errW_none : errW none = .nilIface:=rfl
theorem errW_some (c : Int) : errW (some c) = .iface 0 (.int .i64 c):=rfl

theorem info27 : (Try.prog.info? 27).map (fun i=>(i.zero,i.size,i.bytes)) = some (some (.slice none 0 0),1,24):=by kernel_rfl
theorem info48 : (Try.prog.info? 48).map (fun i=>(i.zero,i.size,i.bytes)) = some (some (.agg #[(.int .i64 0),(.int .i64 0)]),2,16):=by kernel_rfl
-- the values' own types
/-! #### struct type 44 -/
structure S44 where
 f0 : Int
 f1 : Int
def z44 : S44:=⟨(0 : Int),(0 : Int)⟩
def k44 : Kd S44:=Kd.iso (Kd.pair (Kd.int .i64) (Kd.int .i64)) (fun x : S44=>(x.f0,x.f1))
theorem k44_open {w : World} {x : S44} {cs : List Value} (h : k44.K w x cs) : cs = [.int .i64 x.f0,.int .i64 x.f1]:=by
 obtain ⟨_,_,rfl,rfl,rfl⟩:=h
 exact rfl
def rd_T44 (xs : List S44) (i : Int) : S44:=xs.getD i.toNat z44
theorem at_T44 {w : World} {A : Option Addr} {n : Nat} {xs : List S44} (h : Kd.C k44 w A n xs) (i : Int) (h0 : 0 ≤ i) (h1 : i < n) : ∃ ad , A = some ad ∧ w.cell? (ad.add (i.toNat * 2)) = some (.int .i64 (rd_T44 xs i).f0) ∧ w.cell? ⟨(ad.add (i.toNat * 2)).block,(ad.add (i.toNat * 2)).off + 1,none⟩ = some (.int .i64 (rd_T44 xs i).f1):=by
 obtain ⟨ad,c,e,_,hK,hc0⟩:=Kd.C_get h z44 i h0 h1
 have hc : ∀ j u,c[j]? = some u → w.cell? (ad.add (i.toNat * 2 + j)) = some u:=hc0
 obtain rfl:=k44_open hK
 exact ⟨ad,e,hc 0 _ rfl,by rw [← add_field _ _ 1 (by omega)];exact hc 1 _ rfl⟩

/-! #### struct type 48 -/
structure S48 where
 f0 : Int
 f1 : Int
def z48 : S48:=⟨(0 : Int),(0 : Int)⟩
def k48 : Kd S48:=Kd.iso (Kd.pair (Kd.int .i64) (Kd.int .i64)) (fun x : S48=>(x.f0,x.f1))
theorem k48_open {w : World} {x : S48} {cs : List Value} (h : k48.K w x cs) : cs = [.int .i64 x.f0,.int .i64 x.f1]:=by
 obtain ⟨_,_,rfl,rfl,rfl⟩:=h
 exact rfl
theorem k48_openM {w : World} {base : Nat} {ok : Nat → Prop} {x : S48} {cs : List Value} (h : k48.M w base ok x cs) : cs = [.int .i64 x.f0,.int .i64 x.f1]:=by
 obtain ⟨_,_,rfl,rfl,rfl⟩:=h
 exact rfl
theorem k48_mkM (w : World) (base : Nat) (ok : Nat → Prop) (x : S48)  : k48.M w base ok x [.int .i64 x.f0,.int .i64 x.f1]:=⟨[.int .i64 x.f0],[.int .i64 x.f1],rfl,rfl,rfl⟩
def rd_T48 (xs : List S48) (i : Int) : S48:=xs.getD i.toNat z48
theorem at_T48 {w : World} {A : Option Addr} {n : Nat} {xs : List S48} (h : Kd.C k48 w A n xs) (i : Int) (h0 : 0 ≤ i) (h1 : i < n) : ∃ ad , A = some ad ∧ w.cell? (ad.add (i.toNat * 2)) = some (.int .i64 (rd_T48 xs i).f0) ∧ w.cell? ⟨(ad.add (i.toNat * 2)).block,(ad.add (i.toNat * 2)).off + 1,none⟩ = some (.int .i64 (rd_T48 xs i).f1):=by
 obtain ⟨ad,c,e,_,hK,hc0⟩:=Kd.C_get h z48 i h0 h1
 have hc : ∀ j u,c[j]? = some u → w.cell? (ad.add (i.toNat * 2 + j)) = some u:=hc0
 obtain rfl:=k48_open hK
 exact ⟨ad,e,hc 0 _ rfl,by rw [← add_field _ _ 1 (by omega)];exact hc 1 _ rfl⟩

def rd_L3 (xs : List (List S44)) (i : Int) : (List S44):=xs.getD i.toNat ([] : List S44)
theorem at_L3 {w : World} {A : Option Addr} {n : Nat} {xs : List (List S44)} (h : Kd.C (Kd.slice 44 k44) w A n xs) (i : Int) (h0 : 0 ≤ i) (h1 : i < n) : ∃ ad A0 c0,A = some ad ∧ w.cell? (ad.add i.toNat) = some (.slice A0 (rd_L3 xs i).length c0) ∧ (rd_L3 xs i).length ≤ c0 ∧ k44.C w A0 (rd_L3 xs i).length (rd_L3 xs i):=by
 obtain ⟨ad,c,e,_,hK,hc0⟩:=Kd.C_get h ([] : List S44) i h0 h1
 have hc : ∀ j u,c[j]? = some u → w.cell? (ad.add (i.toNat * 1 + j)) = some u:=hc0
 obtain ⟨A0,c0,rfl,l0,g0⟩:=hK
 exact ⟨ad,A0,c0,e,by have hq:=hc 0 _ rfl;rwa [Nat.mul_one,Nat.add_zero] at hq,l0,g0⟩

/-! #### struct type 24 -/
structure S24 where
 f0 : Int
 f1 : Int
 f2 : (List S44)
def z24 : S24:=⟨(0 : Int),(0 : Int),([] : List S44)⟩
def k24 : Kd S24:=Kd.iso (Kd.pair (Kd.int .i64) (Kd.pair (Kd.int .i64) (Kd.slice 44 k44))) (fun x : S24=>(x.f0,x.f1,x.f2))
theorem k24_open {w : World} {x : S24} {cs : List Value} (h : k24.K w x cs) : ∃ A2 c2,cs = [.int .i64 x.f0,.int .i64 x.f1,.slice A2 x.f2.length c2] ∧ x.f2.length ≤ c2 ∧ k44.C w A2 x.f2.length x.f2:=by
 obtain ⟨_,_,rfl,rfl,⟨_,_,rfl,rfl,⟨A2,c2,rfl,l2,g2⟩⟩⟩:=h
 exact ⟨A2,c2,rfl,l2,g2⟩
def rd_T24 (xs : List S24) (i : Int) : S24:=xs.getD i.toNat z24
def rd_L5 (xs : List (List Int)) (i : Int) : (List Int):=xs.getD i.toNat ([] : List Int)
def rd_L6 (xs : List (List S48)) (i : Int) : (List S48):=xs.getD i.toNat ([] : List S48)
theorem at_L6 {w : World} {A : Option Addr} {n : Nat} {xs : List (List S48)} (h : Kd.C (Kd.slice 48 k48) w A n xs) (i : Int) (h0 : 0 ≤ i) (h1 : i < n) : ∃ ad A0 c0,A = some ad ∧ w.cell? (ad.add i.toNat) = some (.slice A0 (rd_L6 xs i).length c0) ∧ (rd_L6 xs i).length ≤ c0 ∧ k48.C w A0 (rd_L6 xs i).length (rd_L6 xs i):=by
 obtain ⟨ad,c,e,_,hK,hc0⟩:=Kd.C_get h ([] : List S48) i h0 h1
 have hc : ∀ j u,c[j]? = some u → w.cell? (ad.add (i.toNat * 1 + j)) = some u:=hc0
 obtain ⟨A0,c0,rfl,l0,g0⟩:=hK
 exact ⟨ad,A0,c0,e,by have hq:=hc 0 _ rfl;rwa [Nat.mul_one,Nat.add_zero] at hq,l0,g0⟩

/-! #### struct type 29 -/
structure S29 where
 f0 : Int
 f1 : Int
 f2 : (List S48)
def z29 : S29:=⟨(0 : Int),(0 : Int),([] : List S48)⟩
def k29 : Kd S29:=Kd.iso (Kd.pair (Kd.int .i64) (Kd.pair (Kd.int .i64) (Kd.slice 48 k48))) (fun x : S29=>(x.f0,x.f1,x.f2))
def rd_T29 (xs : List S29) (i : Int) : S29:=xs.getD i.toNat z29
def rd_L8 (xs : List (List (List Int))) (i : Int) : (List (List Int)):=xs.getD i.toNat ([] : List (List Int))
def rd_L10 (xs : List (List (List S48))) (i : Int) : (List (List S48)):=xs.getD i.toNat ([] : List (List S48))
def rd_L11 (xs : List (List (List S44))) (i : Int) : (List (List S44)):=xs.getD i.toNat ([] : List (List S44))
def rd_L13 (xs : List (List Int)) (i : Int) : (List Int):=xs.getD i.toNat ([] : List Int)
/-- What is known of such a value that came in. -/
def W44 (x : S44) : Prop:=(Lit.int .i64 x.f0).wf = true ∧ (Lit.int .i64 x.f1).wf = true
/-- What is known of such a value that came in. -/
def W24 (x : S24) : Prop:=(Lit.int .i64 x.f0).wf = true ∧ (Lit.int .i64 x.f1).wf = true ∧ (x.f2.length ≤ maxLen ∧ ∀ y ∈ x.f2,W44 y)
end Go.Proofs.Ytbpccdbkaiigcaa.G

namespace Go.Proofs.Ytbpccdbkaiigcaa.G
open Go.RowKit Go.Proofs.YtbpccdbkaiigcaaW.PrintWords Go.Proofs.YtbpccdbkaiigcaaW.PrintLast Go.Proofs.YtbpccdbkaiigcaaW.PrintMore
theorem zA {α : Type} {d : Kd α} {e : Nat} {w : World} {base : Nat} {ok : Nat → Prop} {v : Value} {xs : List α} (h : Kd.R d e w base ok v xs) (o : Obj) : Kd.R d e (w.alloc o) base ok v xs := Kd.R_alloc h o
theorem zB {α : Type} {d : Kd α} {e : Nat} {w : World} {base : Nat} {ok : Nat → Prop} {v : Value} {xs : List α} (h : Kd.R d e w base ok v xs) (m : Nat) : Kd.R d e (w.drewN m) base ok v xs := Kd.R_drewN h m
theorem zC {α : Type} {d : Kd α} {e : Nat} {w : World} {base : Nat} {ok : Nat → Prop} {v : Value} {xs : List α} (h : Kd.R d e w base ok v xs) : Kd.R d e w.drew base ok v xs := Kd.R_drew h
theorem zD {w W : World} (h : Below w.heap.size w W) (o : Obj) : Below w.heap.size w (W.alloc o) := below_alloc h o
theorem zE {B : Nat} {w W : World} (h : Below B w W) (n : Nat) : Below B w (W.drewN n) := pw_below_drewN h n
theorem zF {base : Nat} {w W : World} (h : Below base w W) : Below base w W.drew := below_drew1 h
theorem zG {α : Type} {d : Kd α} {w : World} {xs : List α} {A : Option Addr} {n : Nat} (h : Kd.C d w A n xs) (o : Obj) : Kd.C d (w.alloc o) A n xs := Kd.C_alloc h o
theorem zH {α : Type} {d : Kd α} {w : World} {xs : List α} {A : Option Addr} {n : Nat} (h : Kd.C d w A n xs) (m : Nat) : Kd.C d (w.drewN m) A n xs := Kd.C_drewN h m
theorem zI {α : Type} {d : Kd α} {w : World} {xs : List α} {A : Option Addr} {n : Nat} (h : Kd.C d w A n xs) : Kd.C d w.drew A n xs := Kd.C_drew h
theorem zJ {w : World} {g : Nat} {o : Obj} (h : w.heap[g]? = some o) (n : Nat) : (w.drewN n).heap[g]? = some o := blk_drewN h n
theorem zK {w : World} {g : Nat} {o : Obj} (h : w.heap[g]? = some o) : w.drew.heap[g]? = some o := blk_drew h
theorem zL {w : World} {g : Nat} {o : Obj} (h : w.heap[g]? = some o) (o' : Obj) : (w.alloc o').heap[g]? = some o := blk_alloc h o'
theorem zM {p : Prop} (h : p) : Aside0 p := ⟨h⟩
theorem zN {α : Type} {d : Kd α} {e : Nat} {w : World} {base : Nat} {ok : Nat → Prop} {xs : List α} {A : Option Addr} {n c : Nat} (h : Kd.R d e w base ok (.slice A n c) xs) : n = xs.length ∧ n ≤ c ∧ Kd.C d w A xs.length xs := Kd.R_reads' h
theorem zO {α : Type} {d : Kd α} {w w1 : World} {xs : List α} {A : Option Addr} {n : Nat} (h : Kd.C d w A n xs) (b : Below w.heap.size w w1) : Kd.C d w1 A n xs := Kd.C_below h b
theorem zP {α : Type} {d : Kd α} {e : Nat} {w w1 : World} {base : Nat} {ok : Nat → Prop} {v : Value} {xs : List α} (h : Kd.R d e w base ok v xs) (b : Below w.heap.size w w1) : Kd.R d e w1 base ok v xs := Kd.R_below h b
theorem zQ {w W w2 : World} (h : Below w.heap.size w W) (k : Below W.heap.size W w2) : Below w.heap.size w w2 := below_step h k
theorem zR {w W : World} (h : Below w.heap.size w W) : w.heap.size ≤ W.heap.size := below_size h
theorem zS {a b : World} {ad : Addr} {v : Value} (hB : Below a.heap.size a b) (h : a.cell? ad = some v) : b.cell? ad = some v := (hB.cell (World.block_lt_of_cell? a ad h)).trans h
theorem zT {α : Type} {l : List α} {i : Nat} {a : α} : l.toArray.setIfInBounds i a = (l.set i a).toArray := by simp
theorem zU {α : Type} {l : List α} {a b : α} : (a :: l).set 0 b = b :: l := rfl
theorem zV {α : Type} {l : List α} {a b : α} {n : Nat} : (a :: l).set (n + 1) b = a :: l.set n b := rfl
theorem zW (w : World) (a b c : Nat) : (w.drewN (a + b)).drewN c = w.drewN (a + (b + c)) := Eq.trans (World.drewN_drewN _ _ _) (congrArg (World.drewN _) (Nat.add_assoc _ _ _))
def zzb (n k : Nat) : Array Bool := ((List.range n).map (Nat.testBit k)).toArray
section
variable {P : Program} {ops : Array Oper} {Q : Exit → Act → World → Prop} {md : Region.Mode} {S : World → Prop} {ds : List Nat}
theorem zzp {oi : Oper} {v : Value} {fuel : Nat} {l : Array Bool} {a a' : Act} {w : World} (i : Nat) (n : Tmp) (l' : Array Bool) (h : wpAnyLast P md ops Q S ds fuel l' a' w) (hi : ops[i]? = some oi := by exact rfl) (hN : oi.dst = some n := by exact rfl) (hc : anyB md ops l l' i = true := by kernel_rfl) (hQ : ∀ c a w, Q (.panic c) (a.put oi.dst v) w → Q (.panic c) a w := by exact fun _ _ _ h => h) (hg : Region.wanted oi (yielded ops a.tmps) = true := by rfl) (hy : ∀ w, (execOp a.eval oi).run P w = .ok (.value v) w := by intro w';go_simp;with_reducible rfl) (ha : a.put (some n) v = a' := by simp only [Act.put,zT,zU,zV,i64_w,i32_w];rfl) : wpAnyLast P md ops Q S ds (fuel + 1) l a w := pure_ l' hi hN hc hQ (Or.inl ⟨hg, hy⟩) ha h
theorem zzu {oi : Oper} {fuel : Nat} {l : Array Bool} {a a' : Act} {w : World} (i : Nat) (n : Tmp) (l' : Array Bool) (h : wpAnyLast P md ops Q S ds fuel l' a' w) (hi : ops[i]? = some oi := by exact rfl) (hN : oi.dst = some n := by exact rfl) (hc : anyB md ops l l' i = true := by kernel_rfl) (hQ : ∀ c a w, Q (.panic c) (a.put oi.dst undef) w → Q (.panic c) a w := by exact fun _ _ _ h => h) (hg : Region.wanted oi (yielded ops a.tmps) = false := by rfl) (ha : a.put (some n) undef = a' := by simp only [Act.put,zT,zU,zV,i64_w,i32_w];rfl) : wpAnyLast P md ops Q S ds (fuel + 1) l a w := pure_ l' hi hN hc hQ (Or.inr ⟨hg, rfl⟩) ha h
theorem zzt {oi : Oper} {v : Value} {fuel : Nat} {l : Array Bool} {a a' : Act} {w : World} (i : Nat) (n : Tmp) (l' : Array Bool) (hS : S w) (h : wpAnyLast P md ops Q S ds fuel l' a' w) (hi : ops[i]? = some oi := by exact rfl) (hN : oi.dst = some n := by exact rfl) (hc : takeB md ops ds l l' i = true := by kernel_rfl) (hQ : ∀ c a w, Q (.panic c) (a.put oi.dst v) w → Q (.panic c) a w := by exact fun _ _ _ h => h) (hg : Region.wanted oi (yielded ops a.tmps) = true := by rfl) (hy : ∀ w, S w → (execOp a.eval oi).run P w = .ok (.value v) w := by intro w' s0;go_simp;with_reducible rfl) (ha : a.put (some n) v = a' := by simp only [Act.put,zT,zU,zV,i64_w,i32_w];rfl) : wpAnyLast P md ops Q S ds (fuel + 1) l a w := take_ l' hi hN hc hQ (Or.inl ⟨hg, hy⟩) hS ha h
theorem zzn {fuel : Nat} {l : Array Bool} {a a' : Act} {v : Value} {w : World} (n : Tmp) (h : wpAnyLast P md ops Q S ds fuel l a' w) (ha : a.put (some n) v = a' := by simp only [Act.put,zT,zU,zV,i64_w,i32_w];rfl) : wpAnyLast P md ops Q S ds fuel l (a.put (some n) v) w := norm_ ha h
theorem zzx {T : Bool × List (List Nat × List Nat)} {l l' : Array Bool} {i : Nat} (hT : Aside0 (rtab md ops = T)) (h : anyT T l.toList l'.toList i = true := by kernel_rfl) : anyB md ops l l' i = true := any_of hT.out h
theorem zzy {T : Bool × List (List Nat × List Nat)} {B : List Nat} {l l' : Array Bool} {i : Nat} (hT : Aside0 (rtab md ops = T)) (hB : Aside0 (waitsOk T.2 B = true)) (h : takeW T B ds l.toList l'.toList i = true := by kernel_rfl) : takeB md ops ds l l' i = true := take_ofW hT.out hB.out h
theorem zzw {T : Bool × List (List Nat × List Nat)} {l l' : Array Bool} {i : Nat} (hT : Aside0 (rtab md ops = T)) (h : (readyT T.2 l.toList == [i] && l.toList.set i true == l'.toList) = true := by kernel_rfl) : readyB md ops l l' i = true := one_of hT.out h
theorem zzo {oi : Oper} {fuel : Nat} {l : Array Bool} {a : Act} {w : World} (i : Nat) (n : Tmp) (l' : Array Bool) (h : ∀ K : Act → World → Prop, Shut (∀ a' w', S w' → (S w' → wpAnyLast P md ops Q S ds fuel l' a' w') → K a' w') → if Region.wanted oi (yielded ops a.tmps) = true then Oper.wp P oi a w K Q else K (a.put (some n) undef) w) (hi : ops[i]? = some oi := by exact rfl) (hN : oi.dst = some n := by exact rfl) (hc : readyB md ops l l' i = true := by kernel_rfl) (hd : i ∉ ds := by decide) : wpAnyLast P md ops Q S ds (fuel + 1) l a w := one_ l' hi hN hc hd h
theorem zzf {oi : Oper} {N : Option Tmp} {a : Act} {w : World} {K : Act → World → Prop} {f : FuncId} {fn : Func} {ys : Array Operand} {ts : Array TypeId} (hf : P.funcs[f]? = some fn) (args : Array Value) (h : Calls P f args w fun e w' => ∃ v, e = .returned v ∧ K (a.put N v) w') (hname : (fn.name == "runtime.NumGoroutine") = false := by kernel_rfl) (hb : fn.body.isSome = true := by rfl) (hw : Region.wanted oi (yielded ops a.tmps) = true := by rfl) (hN : oi.dst = N := by exact rfl) (hop : oi.op = .call { callee := .value (.func f), args := ys, argTypes := ts } := by exact rfl) (hargs : ys.map a.eval = args := by (try simp only [List.map_toArray,List.map_cons,List.map_nil]);first|done|rfl|(simp only [List.length_drop,List.length_take];rfl)) : if Region.wanted oi (yielded ops a.tmps) = true then Oper.wp P oi a w K Q else K (a.put N undef) w := goes_ hf hname hb args hw hN hop hargs h
theorem zzc {o : Oper} {rest : List Oper} {a : Act} {W : World} (N : Tmp) (cs : Array Value) (t : TypeId) (h : ∀ g, g = W.heap.size → ∀ w1, w1.heap[g]? = some (.cells cs t (0, 0)) → Below W.heap.size W w1 → wpList P ops Q rest (a.put o.dst (.pointer (some ⟨g, 0, none⟩))) w1) (hgd : o.guard = none := by rfl) (hd : o.dst = some N := by rfl) (hrun : (execOp a.eval o).run P W = .ok (.value (.pointer (some ⟨W.heap.size, 0, none⟩))) (W.alloc (.cells cs t (0, 0))) := by first|(go_simp;done)|(go_simp;rfl)) : wpList P ops Q (o :: rest) a W := box_event hgd hd hrun h
end
theorem zzh {a W : World} (h : Below a.heap.size a W := by repeat (first|(with_reducible first|exact HB.out|apply zD|apply zE|apply zF|refine below_set ?_ (Aside0.out (by assumption)))|exact HB.out)) : Below a.heap.size a W := h
theorem zzi {p q : Prop} (h : Aside0 p) (k : p → q := by intro hz_;(with_reducible repeat (first|refine zJ ?_ _|refine zK ?_|refine zL ?_ _));exact hz_) : q := k h.out
theorem zzj {p q : Prop} (h : Aside0 p) (k : p → q := by intro hz_;(with_reducible repeat (first|apply Kd.S_alloc|apply Kd.S_drewN|apply Kd.S_drew));exact hz_) : q := k h.out
theorem zzl {p q : Prop} (h : Aside0 p) (k : p → q := by intro hz_;(with_reducible repeat (first|apply zA|apply zB|apply zC));exact hz_) : q := k h.out
theorem zzd {p : Prop} [Decidable p] (h : decide p = true := by first|(with_reducible assumption)|assumption) : p := of_decide_eq_true h
theorem zza {p : Prop} (h : p := by first|(with_reducible assumption)|assumption) : p := h
theorem zz0 {w : World} {g : Nat} {t : TypeId} {a : Value} {l : List Value} (h : Aside0 (w.heap[g]? = some (.cells (List.toArray (a :: l)) t (0, 0)))) : w.cell? ⟨g, 0, none⟩ = some a := (blk_cell h.out 0).trans rfl
theorem zz1 {w : World} {g : Nat} {t : TypeId} {a b : Value} {l : List Value} (h : Aside0 (w.heap[g]? = some (.cells (List.toArray (b :: a :: l)) t (0, 0)))) : w.cell? ⟨g, 1, none⟩ = some a := (blk_cell h.out 1).trans rfl
theorem zz2 {w : World} {g : Nat} {t : TypeId} {a b c : Value} {l : List Value} (h : Aside0 (w.heap[g]? = some (.cells (List.toArray (b :: c :: a :: l)) t (0, 0)))) : w.cell? ⟨g, 2, none⟩ = some a := (blk_cell h.out 2).trans rfl
end Go.Proofs.Ytbpccdbkaiigcaa.G

namespace Go.Proofs.Ytbpccdbkaiigcaa.G
open Go.RowKit Go.Proofs.YtbpccdbkaiigcaaW.PrintWords Go.Proofs.YtbpccdbkaiigcaaW.PrintLast
set_option linter.unusedVariables false
set_option linter.unusedSimpArgs false
/-! Plain laws on printed functions: what holds from some number of rounds on, case by case and loop by loop. -/
theorem Ev.ite {α : Type} {c : Prop} [Decidable c] {A B : Nat → Option α} {r : α} (h1 : c → Ev A r) (h2 : ¬ c → Ev B r) : Ev (fun k=>if c then A k else B k) r:=by
 by_cases h : c
 ·simpa only [if_pos h] using h1 h
 ·simpa only [if_neg h] using h2 h
theorem Ev.val {α : Type} {v r : α} (h : v = r) : Ev (fun _=>some v) r:=by rw [h];exact Ev.now r
theorem Ev.eq {α : Type} {g : Nat → Option α} {r r' : α} (h : Ev g r) (e : r = r') : Ev g r':=e ▸ h
theorem wrap64_id {x : Int} (h1 : -9223372036854775808 ≤ x) (h2 : x ≤ 9223372036854775807) : wrap64 x = x:=IntWalk.wrap64_in x ⟨h1,h2⟩
theorem wf_iff {x : Int} : (Lit.int .i64 x).wf = true ↔ -9223372036854775808 ≤ x ∧ x ≤ 9223372036854775807:=by
 have e : (Lit.int .i64 x).wf = (decide (-9223372036854775808 ≤ x) && decide (x ≤ 9223372036854775807)):=rfl
 rw [e]
 simp
/-- What holds of all indices from i up to, and without, n. -/
def All (P : Int → Prop) (i n : Int) : Prop := ∀ j,i ≤ j → j < n → P j
theorem All.end_ (P : Int → Prop) (n : Int) : All P n n:=fun j h1 h2=>by omega
theorem All.step {P : Int → Prop} {i n : Int} (h : i < n) : All P i n ↔ P i ∧ All P (i + 1) n:=by
 constructor
 ·intro a
  exact ⟨a i (Int.le_refl _) h,fun j h1 h2=>a j (by omega) h2⟩
 ·rintro ⟨p,a⟩ j h1 h2
  by_cases e : j = i
  ·rw [e];exact p
  ·exact a j (by omega) h2
/-- One of two values, by a statement. -/
noncomputable def chk {β : Type} (p : Prop) (a b : β) : β := @ite β p (Classical.propDecidable p) a b
theorem chk_pos {β : Type} {p : Prop} (h : p) (a b : β) : chk p a b = a:=by unfold chk;exact if_pos h
theorem chk_neg {β : Type} {p : Prop} (h : ¬ p) (a b : β) : chk p a b = b:=by unfold chk;exact if_neg h
theorem chk_congr {β : Type} {p q : Prop} (h : p ↔ q) (a b : β) : chk p a b = chk q a b:=by rw [propext h]
theorem chk_true {p : Prop} : chk p true false = true ↔ p:=by
 by_cases h : p
 ·rw [chk_pos h];exact ⟨fun _=>h,fun _=>rfl⟩
 ·rw [chk_neg h];exact ⟨(fun e=>by cases e),(fun e=>absurd e h)⟩
theorem chk_and {β : Type} {p q : Prop} (a b : β) : chk p (chk q a b) b = chk (p ∧ q) a b:=by
 by_cases h : p
 ·rw [chk_pos h]
  exact chk_congr ⟨fun x=>⟨h,x⟩,fun x=>x.2⟩ _ _
 ·rw [chk_neg h,chk_neg (fun x=>h x.1)]
/-- A loop that goes up, any state. -/
theorem Ev.up {σ β : Type} (g : Nat → σ → Int → Option β) (R : σ → Int → β) (I : σ → Int → Prop) (n : Int)
  (hend : ∀ s,I s n → Ev (fun k=>g k s n) (R s n))
  (hstep : ∀ s i,I s i → i < n → (∀ s',I s' (i + 1) → Ev (fun k=>g k s' (i + 1)) (R s' (i + 1))) → Ev (fun k=>g k s i) (R s i)) :
  ∀ s i,I s i → i ≤ n → Ev (fun k=>g k s i) (R s i):=by
 have main : ∀ (d : Nat) s i,I s i → i + d = n → Ev (fun k=>g k s i) (R s i):=by
  intro d
  induction d with
  | zero =>
   intro s i hI hd
   obtain rfl : i = n:=by omega
   exact hend s hI
  | succ d ih=>intro s i hI hd;exact hstep s i hI (by omega) (fun s' hI'=>ih s' (i + 1) hI' (by omega))
 intro s i hI hi
 exact main (n - i).toNat s i hI (by omega)
/-- A loop that tests each index. -/
theorem Ev.check {β : Type} (g : Nat → Int → Option β) (n : Int) (P : Int → Prop) (r0 r1 : β) (i0 : Int)
  (hend : Ev (fun k=>g k n) r0)
  (hstep : ∀ i,i0 ≤ i → i < n → ∀ r,Ev (fun k=>g k (i + 1)) r → Ev (fun k=>g k i) (chk (P i) r r1)) :
  ∀ i,i0 ≤ i → i ≤ n → Ev (fun k=>g k i) (chk (All P i n) r0 r1):=by
 intro i h0 hi
 refine Ev.up (fun k (_ : Unit) i=>g k i) (fun _ i=>chk (All P i n) r0 r1) (fun _ i=>i0 ≤ i) n (fun _ _=>?_) (fun _ i h0 hlt ih=>?_) () i h0 hi
 ·rw [chk_pos (All.end_ P n)];exact hend
 ·have:=hstep i h0 hlt _ (ih () (by omega))
  rw [chk_and,chk_congr (All.step hlt).symm] at this
  exact this
theorem Ev.upc {β : Type} (g : Nat → Int → Option β) (r : β) (n i0 : Int) (hend : Ev (fun k=>g k n) r) (hstep : ∀ i,i0 ≤ i → i < n → Ev (fun k=>g k (i + 1)) r → Ev (fun k=>g k i) r) :
  ∀ i,i0 ≤ i → i ≤ n → Ev (fun k=>g k i) r:=by
 intro i h0 hi
 exact Ev.up (fun k (_ : Unit) i=>g k i) (fun _ _=>r) (fun _ i=>i0 ≤ i) n (fun _ _=>hend) (fun _ i h0 hlt ih=>hstep i h0 hlt (ih () (by omega))) () i h0 hi
theorem getD_set {α : Type} (xs : List α) (i j : Nat) (v z : α) (hi : i < xs.length) : (xs.set i v).getD j z = if j = i then v else xs.getD j z:=by
 rw [List.getD_eq_getElem?_getD,List.getD_eq_getElem?_getD]
 by_cases h : j = i
 ·subst h;rw [List.getElem?_set_self hi,if_pos rfl];rfl
 ·rw [List.getElem?_set_ne (fun e=>h e.symm),if_neg h]
theorem ext_getD {α : Type} (z : α) {xs ys : List α} (hl : xs.length = ys.length) (h : ∀ j : Nat,j < xs.length → xs.getD j z = ys.getD j z) : xs = ys:=by
 apply List.ext_getElem hl
 intro i h1 h2
 have:=h i h1
 rw [List.getD_eq_getElem?_getD,List.getD_eq_getElem?_getD,List.getElem?_eq_getElem h1,List.getElem?_eq_getElem h2] at this
 exact this
theorem getD_map {α β : Type} (f : α → β) (xs : List α) (j : Nat) (z : α) (z' : β) (h : j < xs.length) : (xs.map f).getD j z' = f (xs.getD j z):=by
 rw [List.getD_eq_getElem?_getD,List.getD_eq_getElem?_getD,List.getElem?_map,List.getElem?_eq_getElem h];rfl
/-- out := make(n); out[i] = conv(xs[i]) for all i. -/
theorem Ev.fill {α β : Type} (g : Nat → List β → Int → Option (List β)) (xs : List α) (conv : α → β) (z : α) (z' : β)
  (hend : ∀ out,Ev (fun k=>g k out (xs.length : Int)) out)
  (hstep : ∀ out i,out.length = xs.length → 0 ≤ i → i < (xs.length : Int) → ∀ r,Ev (fun k=>g k (out.set i.toNat (conv (xs.getD i.toNat z))) (i + 1)) r → Ev (fun k=>g k out i) r) :
  Ev (fun k=>g k (List.replicate xs.length z') 0) (xs.map conv):=by
 refine Ev.up g (fun _ _=>xs.map conv) (fun out i=>0 ≤ i ∧ out.length = xs.length ∧ ∀ j : Nat,(j : Int) < i → out.getD j z' = conv (xs.getD j z)) (xs.length : Int) ?_ ?_ _ 0 ⟨by omega,by simp,fun j h=>by omega⟩ (by omega)
 ·rintro out ⟨_,hl,h⟩
  refine Ev.eq (hend out) (ext_getD z' (by simpa using hl) fun j hj=>?_)
  rw [h j (by omega),getD_map conv xs j z z' (by omega)]
 ·rintro out i ⟨h0,hl,h⟩ hlt ih
  refine hstep out i hl h0 hlt _ (ih _ ⟨by omega,by simpa using hl,fun j hj=>?_⟩)
  rw [getD_set _ _ _ _ _ (by omega)]
  by_cases e : j = i.toNat
  ·rw [if_pos e,e]
  ·rw [if_neg e];exact h j (by omega)
/-- A list that is marked with numbers, m an element. -/
theorem Ev.mark {α : Type} (g : Nat → List α → Int → Int → Option (Int × List α)) (n m : Int) (mk : Int → α) (z : α)
  (hend : ∀ xs c,(xs.length : Int) = n → Ev (fun k=>g k xs c n) (c,xs))
  (hstep : ∀ xs c i,(xs.length : Int) = n → 0 ≤ i → i < n → c = 1 + m * i → ∀ r,Ev (fun k=>g k (xs.set i.toNat (mk i)) (c + m) (i + 1)) r → Ev (fun k=>g k xs c i) r)
  (xs : List α) (hl : (xs.length : Int) = n) : ∃ ys : List α,Ev (fun k=>g k xs 1 0) (1 + m * n,ys) ∧ (ys.length : Int) = n ∧ ∀ j,0 ≤ j → j < n → ys.getD j.toNat z = mk j:=by
 have main : ∀ (d : Nat) (xs : List α) (i : Int),(xs.length : Int) = n → 0 ≤ i → i + d = n → (∀ j,0 ≤ j → j < i → xs.getD j.toNat z = mk j) → ∃ ys : List α,Ev (fun k=>g k xs (1 + m * i) i) (1 + m * n,ys) ∧ (ys.length : Int) = n ∧ ∀ j,0 ≤ j → j < n → ys.getD j.toNat z = mk j:=by
  intro d
  induction d with
  | zero =>
   intro xs i hl h0 hd h
   obtain rfl : i = n:=by omega
   exact ⟨xs,hend xs _ hl,hl,h⟩
  | succ d ih =>
   intro xs i hl h0 hd h
   obtain ⟨ys,h1,h2,h3⟩:=ih (xs.set i.toNat (mk i)) (i + 1) (by simpa using hl) (by omega) (by omega) (fun j hj0 hj=>by
    rw [getD_set _ _ _ _ _ (by omega)]
    by_cases e : j = i
    ·rw [if_pos (by rw [e]),e]
    ·rw [if_neg (by omega)];exact h j hj0 (by omega))
   refine ⟨ys,hstep xs _ i hl h0 (by omega) rfl _ ?_,h2,h3⟩
   rw [show 1 + m * i + m = 1 + m * (i + 1) from by rw [Int.mul_add];omega]
   exact h1
 obtain ⟨ys,h1,h2⟩:=main n.toNat xs 0 hl (by omega) (by omega) (fun j _ _=>by omega)
 exact ⟨ys,by simpa using h1,h2⟩
/-- The same from any number on. -/
theorem Ev.markFrom {α : Type} (g : Nat → List α → Int → Int → Option (Int × List α)) (n m s : Int) (mk : Int → α) (z : α)
  (hend : ∀ xs c,(xs.length : Int) = n → Ev (fun k=>g k xs c n) (c,xs))
  (hstep : ∀ xs c i,(xs.length : Int) = n → 0 ≤ i → i < n → c = s + m * i → ∀ r,Ev (fun k=>g k (xs.set i.toNat (mk i)) (c + m) (i + 1)) r → Ev (fun k=>g k xs c i) r)
  (xs : List α) (hl : (xs.length : Int) = n) : ∃ ys : List α,Ev (fun k=>g k xs s 0) (s + m * n,ys) ∧ (ys.length : Int) = n ∧ ∀ j,0 ≤ j → j < n → ys.getD j.toNat z = mk j:=by
 have main : ∀ (d : Nat) (xs : List α) (i : Int),(xs.length : Int) = n → 0 ≤ i → i + d = n → (∀ j,0 ≤ j → j < i → xs.getD j.toNat z = mk j) → ∃ ys : List α,Ev (fun k=>g k xs (s + m * i) i) (s + m * n,ys) ∧ (ys.length : Int) = n ∧ ∀ j,0 ≤ j → j < n → ys.getD j.toNat z = mk j:=by
  intro d
  induction d with
  | zero =>
   intro xs i hl h0 hd h
   obtain rfl : i = n:=by omega
   exact ⟨xs,hend xs _ hl,hl,h⟩
  | succ d ih =>
   intro xs i hl h0 hd h
   obtain ⟨ys,h1,h2,h3⟩:=ih (xs.set i.toNat (mk i)) (i + 1) (by simpa using hl) (by omega) (by omega) (fun j hj0 hj=>by
    rw [getD_set _ _ _ _ _ (by omega)]
    by_cases e : j = i
    ·rw [if_pos (by rw [e]),e]
    ·rw [if_neg (by omega)];exact h j hj0 (by omega))
   refine ⟨ys,hstep xs _ i hl h0 (by omega) rfl _ ?_,h2,h3⟩
   rw [show s + m * i + m = s + m * (i + 1) from by rw [Int.mul_add];omega]
   exact h1
 obtain ⟨ys,h1,h2⟩:=main n.toNat xs 0 hl (by omega) (by omega) (fun j _ _=>by omega)
 exact ⟨ys,by simpa using h1,h2⟩
/-- Two loops that go up together. -/
theorem Ev.both {σ β : Type} (g1 g2 : Nat → σ → Int → Option β) (I : σ → Int → Prop) (Q : β → Prop) (n : Int) (hend : ∀ s,I s n → ∃ r,Q r ∧ Ev (fun k=>g1 k s n) r ∧ Ev (fun k=>g2 k s n) r)
  (hstep : ∀ s i,I s i → i < n → (∃ r,Q r ∧ Ev (fun k=>g1 k s i) r ∧ Ev (fun k=>g2 k s i) r) ∨ ∃ s',I s' (i + 1) ∧ (∀ r,Ev (fun k=>g1 k s' (i + 1)) r → Ev (fun k=>g1 k s i) r) ∧ (∀ r,Ev (fun k=>g2 k s' (i + 1)) r → Ev (fun k=>g2 k s i) r)) :
  ∀ s i,I s i → i ≤ n → ∃ r,Q r ∧ Ev (fun k=>g1 k s i) r ∧ Ev (fun k=>g2 k s i) r:=by
 have main : ∀ (d : Nat) s i,I s i → i + d = n → ∃ r,Q r ∧ Ev (fun k=>g1 k s i) r ∧ Ev (fun k=>g2 k s i) r:=by
  intro d
  induction d with
  | zero =>
   intro s i hI hd
   obtain rfl : i = n:=by omega
   exact hend s hI
  | succ d ih =>
   intro s i hI hd
   rcases hstep s i hI (by omega) with h|⟨s',hI',h1,h2⟩
   ·exact h
   ·obtain ⟨r,hq,e1,e2⟩:=ih s' (i + 1) hI' (by omega)
    exact ⟨r,hq,h1 r e1,h2 r e2⟩
 intro s i hI hi
 exact main (n - i).toNat s i hI (by omega)
end Go.Proofs.Ytbpccdbkaiigcaa.G

-- Written by wip/tools/gen.py out of the translation (the kit's printer, one namespace a seat). Lean checks it.
namespace Go.Proofs.Ytbpccdbkaiigcaa.G
open Go.RowKit Go.Proofs.YtbpccdbkaiigcaaW.PrintWords Go.Proofs.YtbpccdbkaiigcaaW.PrintLast Go.Proofs.YtbpccdbkaiigcaaW.PrintMore
attribute [local go_sem] max2_int min2_int max_two min_two max_three min_three max_four min_four   -- for this text's walks alone
set_option linter.unusedVariables false
set_option linter.unusedSimpArgs false

/-! ### impl_within: function 54 -/
def impl_within.f (a0:Int) (a1:Int) (a2:Int):Option (Bool):=if a0 ≥ a1 then (some (decide (a0 ≤ a2))) else (some false)
set_option maxHeartbeats 8000000 in
set_option maxRecDepth 100000 in
theorem impl_within.calls (a0:Int) (a1:Int) (a2:Int) (r:Bool) (w:World) (h:impl_within.f a0 a1 a2 = some r) :
  Calls Try.prog 54 #[.int .i64 a0,.int .i64 a1,.int .i64 a2] w fun e w'=>e = .returned (.bool r) ∧ Drawn0 w w':=by
 have H:(if a0 ≥ a1 then (some (decide (a0 ≤ a2))) else (some false)) = some r:=h
 clear h;by_cases c4:a0 ≥ a1
 ·rw [if_pos c4] at H
  have c4b0:decide (a1 ≤ a0) = true:=decide_eq_true c4
  clear c4;obtain rfl:=Option.some.inj H;go_enter Try.func54,Try.ntmps54
  go_wp2
  go_ret
  exact ⟨by first|rfl|(simp;done)|(simp [*];done),by repeat (first|exact Drawn0.refl _|apply Drawn0.step)⟩
 ·rw [if_neg c4] at H
  have c4b0:decide (a1 ≤ a0) = false:=decide_eq_false c4
  clear c4;obtain rfl:=Option.some.inj H;go_enter Try.func54,Try.ntmps54
  go_wp2
  go_ret
  exact ⟨by first|rfl|(simp;done)|(simp [*];done),by repeat (first|exact Drawn0.refl _|apply Drawn0.step)⟩



/-! ### spec_l1In: function 80 -/
def spec_l1In.f (a0:Int) (a1:Int) (a2:Int):Option (Bool):=if a0 ≥ a1 then (some (decide (a0 ≤ a2))) else (some false)
set_option maxHeartbeats 8000000 in
set_option maxRecDepth 100000 in
theorem spec_l1In.calls (a0:Int) (a1:Int) (a2:Int) (r:Bool) (w:World) (h:spec_l1In.f a0 a1 a2 = some r) :
  Calls Try.prog 80 #[.int .i64 a0,.int .i64 a1,.int .i64 a2] w fun e w'=>e = .returned (.bool r) ∧ Drawn0 w w':=by
 have H:(if a0 ≥ a1 then (some (decide (a0 ≤ a2))) else (some false)) = some r:=h
 clear h;by_cases c4:a0 ≥ a1
 ·rw [if_pos c4] at H
  have c4b0:decide (a1 ≤ a0) = true:=decide_eq_true c4
  clear c4;obtain rfl:=Option.some.inj H;go_enter Try.func80,Try.ntmps80
  go_wp2
  go_ret
  exact ⟨by first|rfl|(simp;done)|(simp [*];done),by repeat (first|exact Drawn0.refl _|apply Drawn0.step)⟩
 ·rw [if_neg c4] at H
  have c4b0:decide (a1 ≤ a0) = false:=decide_eq_false c4
  clear c4;obtain rfl:=Option.some.inj H;go_enter Try.func80,Try.ntmps80
  go_wp2
  go_ret
  exact ⟨by first|rfl|(simp;done)|(simp [*];done),by repeat (first|exact Drawn0.refl _|apply Drawn0.step)⟩



/-! ### spec_l1Most: function 86 -/
def spec_l1Most.f (a0:Int) (a1:Int):Option (Int):=if a0 > a1 then (some a0) else (some a1)
set_option maxHeartbeats 8000000 in
set_option maxRecDepth 100000 in
theorem spec_l1Most.calls (a0:Int) (a1:Int) (r:Int) (w:World) (h:spec_l1Most.f a0 a1 = some r) :
  Calls Try.prog 86 #[.int .i64 a0,.int .i64 a1] w fun e w'=>e = .returned (.int .i64 r) ∧ Drawn0 w w':=by
 have H:(if a0 > a1 then (some a0) else (some a1)) = some r:=h
 clear h;by_cases c3:a0 > a1
 ·rw [if_pos c3] at H
  have c3b0:decide (a1 < a0) = true:=decide_eq_true c3
  clear c3;obtain rfl:=Option.some.inj H;go_enter Try.func86,Try.ntmps86
  go_wp2
  go_ret
  exact ⟨by first|rfl|(simp;done)|(simp [*];done),by repeat (first|exact Drawn0.refl _|apply Drawn0.step)⟩
 ·rw [if_neg c3] at H
  have c3b0:decide (a1 < a0) = false:=decide_eq_false c3
  clear c3;obtain rfl:=Option.some.inj H;go_enter Try.func86,Try.ntmps86
  go_wp2
  go_ret
  exact ⟨by first|rfl|(simp;done)|(simp [*];done),by repeat (first|exact Drawn0.refl _|apply Drawn0.step)⟩

end Go.Proofs.Ytbpccdbkaiigcaa.G

namespace Go.Proofs.Ytbpccdbkaiigcaa.G
open Go.RowKit Go.Proofs.YtbpccdbkaiigcaaW.PrintWords Go.Proofs.YtbpccdbkaiigcaaW.PrintLast
set_option linter.unusedVariables false
set_option linter.unusedSimpArgs false
theorem impl_within_eq (a b c : Int) : impl_within.f a b c = some (decide (b ≤ a ∧ a ≤ c)):=by
 unfold impl_within.f
 split
 ·rename_i h;congr 1;simp;omega
 ·rename_i h;congr 1;simp;omega
theorem spec_l1In_eq (a b c : Int) : spec_l1In.f a b c = some (decide (b ≤ a ∧ a ≤ c)):=by
 unfold spec_l1In.f
 split
 ·rename_i h;congr 1;simp;omega
 ·rename_i h;congr 1;simp;omega
theorem spec_most_eq (a b : Int) : spec_l1Most.f a b = some (mx a b):=by
 unfold spec_l1Most.f mx
 split <;> split <;> first|rfl|(congr 1;omega)
end Go.Proofs.Ytbpccdbkaiigcaa.G

-- Written by wip/tools/gen.py out of the translation (the kit's printer, one namespace a seat). Lean checks it.
namespace Go.Proofs.Ytbpccdbkaiigcaa.G
open Go.RowKit Go.Proofs.YtbpccdbkaiigcaaW.PrintWords Go.Proofs.YtbpccdbkaiigcaaW.PrintLast Go.Proofs.YtbpccdbkaiigcaaW.PrintMore
attribute [local go_sem] max2_int min2_int max_two min_two max_three min_three max_four min_four   -- for this text's walks alone
set_option linter.unusedVariables false
set_option linter.unusedSimpArgs false

/-! ### impl_onFloor: function 55 -/
def impl_onFloor.f (a0_0:Int) (a0_1:Int) (l0_2:List (S48)) (a1_0:Int) (a1_1:Int):Option (Bool):=(impl_within.f a1_0 0 (wrap64 (a0_0 - 1))).bind fun t136=>(if t136 = true then ((impl_within.f a1_1 0 (wrap64 (a0_1 - 1))).bind fun t137=>(some t137)) else (some false))
set_option maxHeartbeats 8000000 in
set_option maxRecDepth 100000 in
theorem impl_onFloor.calls (a0_0:Int) (a0_1:Int) (A0_2:Option Addr) (c0_2:Nat) (l0_2:List (S48)) (a1_0:Int) (a1_1:Int) (r:Bool) (w:World) (hr0_2:Kd.C k48 w A0_2 l0_2.length l0_2) (hc0_2:l0_2.length ≤ c0_2) (h:impl_onFloor.f a0_0 a0_1 l0_2 a1_0 a1_1 = some r) :
  Calls Try.prog 55 #[.agg #[.int .i64 a0_0,.int .i64 a0_1,.slice A0_2 l0_2.length c0_2],.agg #[.int .i64 a1_0,.int .i64 a1_1]] w fun e w'=>e = .returned (.bool r) ∧ Below w.heap.size w w':=by
 have hu29:=Try.underlying29;have hu48:=Try.underlying48;have HR0_2:=zM hr0_2;have HC0_2:=zM hc0_2;clear hr0_2 hc0_2;have HB:=zM (Below.refl w.heap.size w);have H:((impl_within.f a1_0 0 (wrap64 (a0_0 - 1))).bind fun t136=>(if t136 = true then ((impl_within.f a1_1 0 (wrap64 (a0_1 - 1))).bind fun t137=>(some t137)) else (some false))) = some r:=h
 clear h;replace H:=Option.bind_eq_some_iff.mp H;obtain ⟨t136,A30,H⟩:=H;replace H:(if t136 = true then ((impl_within.f a1_1 0 (wrap64 (a0_1 - 1))).bind fun t137=>(some t137)) else (some false)) = some r:=H
 have A3:=zM A30;clear A30;by_cases c4:t136 = true
 ·subst c4
  have H1:((impl_within.f a1_1 0 (wrap64 (a0_1 - 1))).bind fun t137=>(some t137)) = some r:=by rw [if_pos rfl] at H;exact H
  clear H;have H:=H1;clear H1;replace H:=Option.bind_eq_some_iff.mp H;obtain ⟨t137,A50,H⟩:=H;replace H:(some t137) = some r:=H
  have A5:=zM A50;clear A50;obtain rfl:=Option.some.inj H;go_enter Try.func55,Try.ntmps55
  go_wp2_with (first|((with_reducible refine gate_dst (N:=2) rfl ?_);refine zzc 2 #[.int .i64 a0_0,.int .i64 a0_1,.slice A0_2 l0_2.length c0_2] 29 ?_;intro gb134 hg w6 hbox hb;have n0_:=zM (zQ zzh hb);have n1_:=zM (hbox);have n2_:=zM ((by rw [hg];exact (zR zzh):w.heap.size ≤ gb134));have n3_:=zM ((by rw [hg];exact (zR zzh):w.heap.size ≤ gb134));clear HB;have HB:=n0_;have BK134:=n1_;have GW134:=n2_;have GE134:=n3_;clear n0_ n1_ n2_ n3_;clear hb hbox hg)|((with_reducible refine gate_dst (N:=3) rfl ?_);refine zzc 3 #[.int .i64 a1_0,.int .i64 a1_1] 48 ?_;intro gb135 hg w7 hbox hb;have n0_:=zM (blk_below (g:=gb134) (o := .cells #[.int .i64 a0_0,.int .i64 a0_1,.slice A0_2 l0_2.length c0_2] 29 (0,0)) (zzi BK134) hb);have n1_:=zM (zQ zzh hb);have n2_:=zM (hbox);have n3_:=zM ((by rw [hg];exact (zR zzh):w.heap.size ≤ gb135));have n4_:=zM ((by rw [hg];exact (zR zzh):w.heap.size ≤ gb135));have n5_:=zM ((by rw [hg];exact Nat.ne_of_lt (blk_lt (g:=gb134) (o := .cells #[.int .i64 a0_0,.int .i64 a0_1,.slice A0_2 l0_2.length c0_2] 29 (0,0)) (zzi BK134)):gb134 ≠ gb135));have n6_:=zM ((by rw [hg];exact Nat.ne_of_gt (blk_lt (g:=gb134) (o := .cells #[.int .i64 a0_0,.int .i64 a0_1,.slice A0_2 l0_2.length c0_2] 29 (0,0)) (zzi BK134)):gb135 ≠ gb134));clear BK134;clear HB;have BK134:=n0_;have HB:=n1_;have BK135:=n2_;have GW135:=n3_;have GE135:=n4_;have NB134_135:=n5_;have NB135_134:=n6_;clear n0_ n1_ n2_ n3_ n4_ n5_ n6_;clear hb hbox hg;have hnb8:=NB135_134.out;have hnc8:=NB134_135.out;have hcz9_0:=zz0 BK135;have hcz9_1:=zz1 BK135;have hfz9_0:=blk_frozen BK135.out 0;have hfz9_1:=blk_frozen BK135.out 1;have hcz10_0:=zz0 BK134;have hcz10_1:=zz1 BK134;have hcz10_2:=zz2 BK134;have hfz10_0:=blk_frozen BK134.out 0;have hfz10_1:=blk_frozen BK134.out 1;have hfz10_2:=blk_frozen BK134.out 2)|((with_reducible refine gate_callee (f:=54) rfl ?_);refine goesL_ (some 10) rfl rfl Try.func54 (by kernel_rfl) rfl #[.int .i64 a1_0,.int .i64 0,.int .i64 (wrap64 (a0_0 - 1))] rfl (by (try simp only [List.map_toArray,List.map_cons,List.map_nil]);first|done|rfl|(simp only [List.length_drop,List.length_take];rfl)) ?_;(with_reducible refine (impl_within.calls a1_0 0 (wrap64 (a0_0 - 1)) true _ A3.out).mono ?_);rintro e w' ⟨rfl,⟨nd,rfl⟩⟩;refine ⟨_,rfl,?_⟩)|(go_at_call 54;(with_reducible refine (impl_within.calls a1_1 0 (wrap64 (a0_1 - 1)) t137 _ A5.out).mono ?_);rintro e w' ⟨rfl,⟨nd,rfl⟩⟩))
  go_ret
  exact ⟨by first|rfl|(simp [errW_none,errW_some] <;> rfl)|(simp [*,errW_none,errW_some] <;> rfl),zzh⟩
 ·replace c4:=Bool.eq_false_iff.mpr c4
  subst c4;have H1:(some false) = some r:=by rw [if_neg (show ¬ (false = true) by decide)] at H;exact H
  clear H;have H:=H1;clear H1;obtain rfl:=Option.some.inj H;go_enter Try.func55,Try.ntmps55
  go_wp2_with (first|((with_reducible refine gate_dst (N:=2) rfl ?_);refine zzc 2 #[.int .i64 a0_0,.int .i64 a0_1,.slice A0_2 l0_2.length c0_2] 29 ?_;intro gb134 hg w11 hbox hb;have n0_:=zM (zQ zzh hb);have n1_:=zM (hbox);have n2_:=zM ((by rw [hg];exact (zR zzh):w.heap.size ≤ gb134));have n3_:=zM ((by rw [hg];exact (zR zzh):w.heap.size ≤ gb134));clear HB;have HB:=n0_;have BK134:=n1_;have GW134:=n2_;have GE134:=n3_;clear n0_ n1_ n2_ n3_;clear hb hbox hg)|((with_reducible refine gate_dst (N:=3) rfl ?_);refine zzc 3 #[.int .i64 a1_0,.int .i64 a1_1] 48 ?_;intro gb135 hg w12 hbox hb;have n0_:=zM (blk_below (g:=gb134) (o := .cells #[.int .i64 a0_0,.int .i64 a0_1,.slice A0_2 l0_2.length c0_2] 29 (0,0)) (zzi BK134) hb);have n1_:=zM (zQ zzh hb);have n2_:=zM (hbox);have n3_:=zM ((by rw [hg];exact (zR zzh):w.heap.size ≤ gb135));have n4_:=zM ((by rw [hg];exact (zR zzh):w.heap.size ≤ gb135));have n5_:=zM ((by rw [hg];exact Nat.ne_of_lt (blk_lt (g:=gb134) (o := .cells #[.int .i64 a0_0,.int .i64 a0_1,.slice A0_2 l0_2.length c0_2] 29 (0,0)) (zzi BK134)):gb134 ≠ gb135));have n6_:=zM ((by rw [hg];exact Nat.ne_of_gt (blk_lt (g:=gb134) (o := .cells #[.int .i64 a0_0,.int .i64 a0_1,.slice A0_2 l0_2.length c0_2] 29 (0,0)) (zzi BK134)):gb135 ≠ gb134));clear BK134;clear HB;have BK134:=n0_;have HB:=n1_;have BK135:=n2_;have GW135:=n3_;have GE135:=n4_;have NB134_135:=n5_;have NB135_134:=n6_;clear n0_ n1_ n2_ n3_ n4_ n5_ n6_;clear hb hbox hg;have hnb13:=NB135_134.out;have hnc13:=NB134_135.out;have hcz14_0:=zz0 BK135;have hcz14_1:=zz1 BK135;have hfz14_0:=blk_frozen BK135.out 0;have hfz14_1:=blk_frozen BK135.out 1;have hcz15_0:=zz0 BK134;have hcz15_1:=zz1 BK134;have hcz15_2:=zz2 BK134;have hfz15_0:=blk_frozen BK134.out 0;have hfz15_1:=blk_frozen BK134.out 1;have hfz15_2:=blk_frozen BK134.out 2)|((with_reducible refine gate_callee (f:=54) rfl ?_);refine goesL_ (some 10) rfl rfl Try.func54 (by kernel_rfl) rfl #[.int .i64 a1_0,.int .i64 0,.int .i64 (wrap64 (a0_0 - 1))] rfl (by (try simp only [List.map_toArray,List.map_cons,List.map_nil]);first|done|rfl|(simp only [List.length_drop,List.length_take];rfl)) ?_;(with_reducible refine (impl_within.calls a1_0 0 (wrap64 (a0_0 - 1)) false _ A3.out).mono ?_);rintro e w' ⟨rfl,⟨nd,rfl⟩⟩;refine ⟨_,rfl,?_⟩))
  go_ret
  exact ⟨by first|rfl|(simp [errW_none,errW_some] <;> rfl)|(simp [*,errW_none,errW_some] <;> rfl),zzh⟩



/-! ### impl_before: function 56 -/
def impl_before.f (a0_0:Int) (a0_1:Int) (a1_0:Int) (a1_1:Int):Option (Bool):=if a0_1 < a1_1 then (some true) else (if a0_1 = a1_1 then (some (decide (a0_0 < a1_0))) else (some false))
set_option maxHeartbeats 8000000 in
set_option maxRecDepth 100000 in
theorem impl_before.calls (a0_0:Int) (a0_1:Int) (a1_0:Int) (a1_1:Int) (r:Bool) (w:World) (h:impl_before.f a0_0 a0_1 a1_0 a1_1 = some r) :
  Calls Try.prog 56 #[.agg #[.int .i64 a0_0,.int .i64 a0_1],.agg #[.int .i64 a1_0,.int .i64 a1_1]] w fun e w'=>e = .returned (.bool r) ∧ Below w.heap.size w w':=by
 have hu48:=Try.underlying48;have HB:=zM (Below.refl w.heap.size w);have H:(if a0_1 < a1_1 then (some true) else (if a0_1 = a1_1 then (some (decide (a0_0 < a1_0))) else (some false))) = some r:=h
 clear h;by_cases c3:a0_1 < a1_1
 ·rw [if_pos c3] at H
  have c3b0:decide (a0_1 < a1_1) = true:=decide_eq_true c3
  clear c3;obtain rfl:=Option.some.inj H;go_enter Try.func56,Try.ntmps56
  go_wp2_with (first|((with_reducible refine gate_dst (N:=2) rfl ?_);refine zzc 2 #[.int .i64 a0_0,.int .i64 a0_1] 48 ?_;intro gb138 hg w4 hbox hb;have n0_:=zM (zQ zzh hb);have n1_:=zM (hbox);have n2_:=zM ((by rw [hg];exact (zR zzh):w.heap.size ≤ gb138));have n3_:=zM ((by rw [hg];exact (zR zzh):w.heap.size ≤ gb138));clear HB;have HB:=n0_;have BK138:=n1_;have GW138:=n2_;have GE138:=n3_;clear n0_ n1_ n2_ n3_;clear hb hbox hg)|((with_reducible refine gate_dst (N:=3) rfl ?_);refine zzc 3 #[.int .i64 a1_0,.int .i64 a1_1] 48 ?_;intro gb139 hg w5 hbox hb;have n0_:=zM (blk_below (g:=gb138) (o := .cells #[.int .i64 a0_0,.int .i64 a0_1] 48 (0,0)) (zzi BK138) hb);have n1_:=zM (zQ zzh hb);have n2_:=zM (hbox);have n3_:=zM ((by rw [hg];exact (zR zzh):w.heap.size ≤ gb139));have n4_:=zM ((by rw [hg];exact (zR zzh):w.heap.size ≤ gb139));have n5_:=zM ((by rw [hg];exact Nat.ne_of_lt (blk_lt (g:=gb138) (o := .cells #[.int .i64 a0_0,.int .i64 a0_1] 48 (0,0)) (zzi BK138)):gb138 ≠ gb139));have n6_:=zM ((by rw [hg];exact Nat.ne_of_gt (blk_lt (g:=gb138) (o := .cells #[.int .i64 a0_0,.int .i64 a0_1] 48 (0,0)) (zzi BK138)):gb139 ≠ gb138));clear BK138;clear HB;have BK138:=n0_;have HB:=n1_;have BK139:=n2_;have GW139:=n3_;have GE139:=n4_;have NB138_139:=n5_;have NB139_138:=n6_;clear n0_ n1_ n2_ n3_ n4_ n5_ n6_;clear hb hbox hg;have hnb6:=NB138_139.out;have hnc6:=NB139_138.out;have hcz7_0:=zz0 BK138;have hcz7_1:=zz1 BK138;have hfz7_0:=blk_frozen BK138.out 0;have hfz7_1:=blk_frozen BK138.out 1;have hcz8_0:=zz0 BK139;have hcz8_1:=zz1 BK139;have hfz8_0:=blk_frozen BK139.out 0;have hfz8_1:=blk_frozen BK139.out 1))
  go_ret
  exact ⟨by first|rfl|(simp [errW_none,errW_some] <;> rfl)|(simp [*,errW_none,errW_some] <;> rfl),zzh⟩
 ·rw [if_neg c3] at H
  have c3b0:decide (a0_1 < a1_1) = false:=decide_eq_false c3
  clear c3;by_cases c9:a0_1 = a1_1
  ·rw [if_pos c9] at H
   have c9b0:(a0_1 == a1_1) = true:=beq_iff_eq.mpr c9
   have c9b1:(a0_1 != a1_1) = false:=bne_eq_false_iff_eq.mpr c9
   clear c9;obtain rfl:=Option.some.inj H;go_enter Try.func56,Try.ntmps56
   go_wp2_with (first|((with_reducible refine gate_dst (N:=2) rfl ?_);refine zzc 2 #[.int .i64 a0_0,.int .i64 a0_1] 48 ?_;intro gb138 hg w10 hbox hb;have n0_:=zM (zQ zzh hb);have n1_:=zM (hbox);have n2_:=zM ((by rw [hg];exact (zR zzh):w.heap.size ≤ gb138));have n3_:=zM ((by rw [hg];exact (zR zzh):w.heap.size ≤ gb138));clear HB;have HB:=n0_;have BK138:=n1_;have GW138:=n2_;have GE138:=n3_;clear n0_ n1_ n2_ n3_;clear hb hbox hg)|((with_reducible refine gate_dst (N:=3) rfl ?_);refine zzc 3 #[.int .i64 a1_0,.int .i64 a1_1] 48 ?_;intro gb139 hg w11 hbox hb;have n0_:=zM (blk_below (g:=gb138) (o := .cells #[.int .i64 a0_0,.int .i64 a0_1] 48 (0,0)) (zzi BK138) hb);have n1_:=zM (zQ zzh hb);have n2_:=zM (hbox);have n3_:=zM ((by rw [hg];exact (zR zzh):w.heap.size ≤ gb139));have n4_:=zM ((by rw [hg];exact (zR zzh):w.heap.size ≤ gb139));have n5_:=zM ((by rw [hg];exact Nat.ne_of_lt (blk_lt (g:=gb138) (o := .cells #[.int .i64 a0_0,.int .i64 a0_1] 48 (0,0)) (zzi BK138)):gb138 ≠ gb139));have n6_:=zM ((by rw [hg];exact Nat.ne_of_gt (blk_lt (g:=gb138) (o := .cells #[.int .i64 a0_0,.int .i64 a0_1] 48 (0,0)) (zzi BK138)):gb139 ≠ gb138));clear BK138;clear HB;have BK138:=n0_;have HB:=n1_;have BK139:=n2_;have GW139:=n3_;have GE139:=n4_;have NB138_139:=n5_;have NB139_138:=n6_;clear n0_ n1_ n2_ n3_ n4_ n5_ n6_;clear hb hbox hg;have hnb12:=NB138_139.out;have hnc12:=NB139_138.out;have hcz13_0:=zz0 BK138;have hcz13_1:=zz1 BK138;have hfz13_0:=blk_frozen BK138.out 0;have hfz13_1:=blk_frozen BK138.out 1;have hcz14_0:=zz0 BK139;have hcz14_1:=zz1 BK139;have hfz14_0:=blk_frozen BK139.out 0;have hfz14_1:=blk_frozen BK139.out 1))
   go_ret
   exact ⟨by first|rfl|(simp [errW_none,errW_some] <;> rfl)|(simp [*,errW_none,errW_some] <;> rfl),zzh⟩
  ·rw [if_neg c9] at H
   have c9b0:(a0_1 == a1_1) = false:=beq_eq_false_iff_ne.mpr c9
   have c9b1:(a0_1 != a1_1) = true:=bne_iff_ne.mpr c9
   obtain rfl:=Option.some.inj H;go_enter Try.func56,Try.ntmps56
   go_wp2_with (first|((with_reducible refine gate_dst (N:=2) rfl ?_);refine zzc 2 #[.int .i64 a0_0,.int .i64 a0_1] 48 ?_;intro gb138 hg w15 hbox hb;have n0_:=zM (zQ zzh hb);have n1_:=zM (hbox);have n2_:=zM ((by rw [hg];exact (zR zzh):w.heap.size ≤ gb138));have n3_:=zM ((by rw [hg];exact (zR zzh):w.heap.size ≤ gb138));clear HB;have HB:=n0_;have BK138:=n1_;have GW138:=n2_;have GE138:=n3_;clear n0_ n1_ n2_ n3_;clear hb hbox hg)|((with_reducible refine gate_dst (N:=3) rfl ?_);refine zzc 3 #[.int .i64 a1_0,.int .i64 a1_1] 48 ?_;intro gb139 hg w16 hbox hb;have n0_:=zM (blk_below (g:=gb138) (o := .cells #[.int .i64 a0_0,.int .i64 a0_1] 48 (0,0)) (zzi BK138) hb);have n1_:=zM (zQ zzh hb);have n2_:=zM (hbox);have n3_:=zM ((by rw [hg];exact (zR zzh):w.heap.size ≤ gb139));have n4_:=zM ((by rw [hg];exact (zR zzh):w.heap.size ≤ gb139));have n5_:=zM ((by rw [hg];exact Nat.ne_of_lt (blk_lt (g:=gb138) (o := .cells #[.int .i64 a0_0,.int .i64 a0_1] 48 (0,0)) (zzi BK138)):gb138 ≠ gb139));have n6_:=zM ((by rw [hg];exact Nat.ne_of_gt (blk_lt (g:=gb138) (o := .cells #[.int .i64 a0_0,.int .i64 a0_1] 48 (0,0)) (zzi BK138)):gb139 ≠ gb138));clear BK138;clear HB;have BK138:=n0_;have HB:=n1_;have BK139:=n2_;have GW139:=n3_;have GE139:=n4_;have NB138_139:=n5_;have NB139_138:=n6_;clear n0_ n1_ n2_ n3_ n4_ n5_ n6_;clear hb hbox hg;have hnb17:=NB138_139.out;have hnc17:=NB139_138.out;have hcz18_0:=zz0 BK138;have hcz18_1:=zz1 BK138;have hfz18_0:=blk_frozen BK138.out 0;have hfz18_1:=blk_frozen BK138.out 1;have hcz19_0:=zz0 BK139;have hcz19_1:=zz1 BK139;have hfz19_0:=blk_frozen BK139.out 0;have hfz19_1:=blk_frozen BK139.out 1))
   go_ret
   exact ⟨by first|rfl|(simp [errW_none,errW_some] <;> rfl)|(simp [*,errW_none,errW_some] <;> rfl),zzh⟩



/-! ### impl_IsValidFloor: function 16 -/
mutual
def impl_IsValidFloor.j0:Nat → Bool → Int → Int → List (S48) → Option (Bool)
 | 0,_,_,_,_=>none
 | k + 1,x14,x141000,x141001,x141002=>if x14 = true then (some false) else (impl_IsValidFloor.l0 k x141002 (x141002.length:Int) 0 x141000 x141001 x141002)
def impl_IsValidFloor.l0:Nat → List (S48) → Int → Int → Int → Int → List (S48) → Option (Bool)
 | 0,_,_,_,_,_,_=>none
 | k + 1,x16,x17,x18,x141000,x141001,x141002=>if x18 < x17 then (if 0 ≤ x18 then (if x18 < (x16.length:Int) then ((impl_onFloor.f x141000 x141001 x141002 ((rd_T48 x16 x18).f0) ((rd_T48 x16 x18).f1)).bind fun t145=>(if t145 = true then (if x18 > 0 then (if 0 ≤ (wrap64 (x18 - 1)) then (if (wrap64 (x18 - 1)) < (x141002.length:Int) then ((impl_before.f ((rd_T48 x141002 (wrap64 (x18 - 1))).f0) ((rd_T48 x141002 (wrap64 (x18 - 1))).f1) ((rd_T48 x16 x18).f0) ((rd_T48 x16 x18).f1)).bind fun t147=>(if t147 = true then (impl_IsValidFloor.l0 k x16 x17 (wrap64 (x18 + 1)) x141000 x141001 x141002) else (some false))) else (none)) else (none)) else (impl_IsValidFloor.l0 k x16 x17 (wrap64 (x18 + 1)) x141000 x141001 x141002)) else (some false))) else (none)) else (none)) else (some true)
end
def impl_IsValidFloor.f (k:Nat) (a0_0:Int) (a0_1:Int) (l0_2:List (S48)):Option (Bool):=(impl_within.f a0_0 1 6).bind fun t141=>(if t141 = true then ((impl_within.f a0_1 1 6).bind fun t142=>(impl_IsValidFloor.j0 k (!t142) a0_0 a0_1 l0_2)) else (impl_IsValidFloor.j0 k true a0_0 a0_1 l0_2))
def impl_IsValidFloor.T6:Bool × List (List Nat × List Nat):=(true,[([],[]),([],[]),([0,1],[0,1]),([2],[2]),([3,2],[3]),([4],[4]),([5,4],[4,5]),([6,4,4],[4,6]),([7],[7]),([8,7],[7,8]),([7],[7]),([10,7],[7,10]),([9,11,7],[7,9,11]),([12,7],[7,12]),([7],[7]),([13,14,7,7],[7,13,14]),([15,7],[7,15]),([7,16,4],[4,7,16]),([4,17],[4,17])])
def impl_IsValidFloor.B6:List Nat:=[0,0,3,7,15,31,63,127,255,511,255,1279,4095,8191,255,32767,65535,131071,262143]
theorem impl_IsValidFloor.tab6:rtab .any (opsOf Try.f16 6) = impl_IsValidFloor.T6:=by kernel_rfl
theorem impl_IsValidFloor.bits6:waitsOk impl_IsValidFloor.T6.2 impl_IsValidFloor.B6 = true:=by kernel_rfl
set_option maxHeartbeats 8000000 in
set_option maxRecDepth 100000 in
theorem impl_IsValidFloor.calls (k:Nat) (a0_0:Int) (a0_1:Int) (A0_2:Option Addr) (c0_2:Nat) (l0_2:List (S48)) (r:Bool) (w:World) (hr0_2:Kd.C k48 w A0_2 l0_2.length l0_2) (hc0_2:l0_2.length ≤ c0_2) (h:impl_IsValidFloor.f k a0_0 a0_1 l0_2 = some r) :
  Calls Try.prog 16 #[.agg #[.int .i64 a0_0,.int .i64 a0_1,.slice A0_2 l0_2.length c0_2]] w fun e w'=>e = .returned (.bool r) ∧ Below w.heap.size w w':=by
 have hu29:=Try.underlying29;have hu48:=Try.underlying48;have HR0_2:=zM hr0_2;have HC0_2:=zM hc0_2;clear hr0_2 hc0_2;have HB:=zM (Below.refl w.heap.size w);have H:((impl_within.f a0_0 1 6).bind fun t141=>(if t141 = true then ((impl_within.f a0_1 1 6).bind fun t142=>(impl_IsValidFloor.j0 k (!t142) a0_0 a0_1 l0_2)) else (impl_IsValidFloor.j0 k true a0_0 a0_1 l0_2))) = some r:=h
 clear h;have HC2:=zM H;clear H;go_enter Try.func16,Try.ntmps16
 go_upto_region 1 with (first|((with_reducible refine gate_dst (N:=1) rfl ?_);refine zzc 1 #[.int .i64 a0_0,.int .i64 a0_1,.slice A0_2 l0_2.length c0_2] 29 ?_;intro gb140 hg w3 hbox hb;have n0_:=zM (zQ zzh hb);have n1_:=zM (hbox);have n2_:=zM ((by rw [hg];exact (zR zzh):w.heap.size ≤ gb140));have n3_:=zM ((by rw [hg];exact (zR zzh):w.heap.size ≤ gb140));clear HB;have HB:=n0_;have BK140:=n1_;have GW140:=n2_;have GE140:=n3_;clear n0_ n1_ n2_ n3_;clear hb hbox hg))
 (try simp only [Act.put,zT,zU,zV])
 go_cut [14] (fun v14 wc => ∃ (kq:Nat) (x14_1:Bool),v14 = .bool x14_1 ∧ Aside0 (impl_IsValidFloor.j0 kq x14_1 a0_0 a0_1 l0_2 = some r) ∧ Aside0 (kq ≤ k) ∧ Aside0 (wc.heap[gb140]? = some (.cells #[.int .i64 a0_0,.int .i64 a0_1,(.slice A0_2 l0_2.length c0_2)] 29 (0,0))) ∧ Aside0 (Below w.heap.size w wc))
 case first =>
  have H:=HC2.out;clear HC2;replace H:=Option.bind_eq_some_iff.mp H;obtain ⟨t141,A40,H⟩:=H;replace H:(if t141 = true then ((impl_within.f a0_1 1 6).bind fun t142=>(impl_IsValidFloor.j0 k (!t142) a0_0 a0_1 l0_2)) else (impl_IsValidFloor.j0 k true a0_0 a0_1 l0_2)) = some r:=H
  have A4:=zM A40;clear A40;by_cases c5:t141 = true
  ·subst c5
   have H1:((impl_within.f a0_1 1 6).bind fun t142=>(impl_IsValidFloor.j0 k (!t142) a0_0 a0_1 l0_2)) = some r:=by rw [if_pos rfl] at H;exact H
   clear H;have H:=H1;clear H1;replace H:=Option.bind_eq_some_iff.mp H;obtain ⟨t142,A60,H⟩:=H;replace H:(impl_IsValidFloor.j0 k (!t142) a0_0 a0_1 l0_2) = some r:=H
   have A6:=zM A60;clear A60;have H':=zM H;clear H;have hcz7_0:=zz0 BK140
   have hcz7_1:=zz1 BK140
   have hcz7_2:=zz2 BK140
   have hfz7_0:=blk_frozen BK140.out 0;have hfz7_1:=blk_frozen BK140.out 1;have hfz7_2:=blk_frozen BK140.out 2;go_wp2_with (first|((with_reducible refine gate_callee (f:=54) rfl ?_);refine goesL_ (some 7) rfl rfl Try.func54 (by kernel_rfl) rfl #[.int .i64 a0_0,.int .i64 1,.int .i64 6] rfl (by (try simp only [List.map_toArray,List.map_cons,List.map_nil]);first|done|rfl|(simp only [List.length_drop,List.length_take];rfl)) ?_;(with_reducible refine (impl_within.calls a0_0 1 6 true _ A4.out).mono ?_);rintro e w' ⟨rfl,⟨nd,rfl⟩⟩;refine ⟨_,rfl,?_⟩)|(go_at_call 54;(with_reducible refine (impl_within.calls a0_1 1 6 t142 _ A6.out).mono ?_);rintro e w' ⟨rfl,⟨nd,rfl⟩⟩))
   go_meet
   case rel=>exact ⟨_,(!t142),(by first|rfl|(simp;done)|(simp [*];done)),H',⟨by first|omega|exact Nat.le_refl _⟩,⟨zzi BK140⟩,⟨zzh⟩⟩
  ·replace c5:=Bool.eq_false_iff.mpr c5
   subst c5;have H1:(impl_IsValidFloor.j0 k true a0_0 a0_1 l0_2) = some r:=by rw [if_neg (show ¬ (false = true) by decide)] at H;exact H
   clear H;have H:=H1;clear H1;have H':=zM H;clear H;have hcz8_0:=zz0 BK140
   have hcz8_1:=zz1 BK140
   have hcz8_2:=zz2 BK140
   have hfz8_0:=blk_frozen BK140.out 0;have hfz8_1:=blk_frozen BK140.out 1;have hfz8_2:=blk_frozen BK140.out 2;go_wp2_with (first|((with_reducible refine gate_callee (f:=54) rfl ?_);refine goesL_ (some 7) rfl rfl Try.func54 (by kernel_rfl) rfl #[.int .i64 a0_0,.int .i64 1,.int .i64 6] rfl (by (try simp only [List.map_toArray,List.map_cons,List.map_nil]);first|done|rfl|(simp only [List.length_drop,List.length_take];rfl)) ?_;(with_reducible refine (impl_within.calls a0_0 1 6 false _ A4.out).mono ?_);rintro e w' ⟨rfl,⟨nd,rfl⟩⟩;refine ⟨_,rfl,?_⟩))
   go_meet
   case rel=>exact ⟨_,(true),(by first|rfl|(simp;done)|(simp [*];done)),H',⟨by first|omega|exact Nat.le_refl _⟩,⟨zzi BK140⟩,⟨zzh⟩⟩
 case rest =>
  clear HC2;(try clear c1);(try clear p2);(try clear c5);(try clear hcz7_0);(try clear hcz7_1);(try clear hcz7_2);(try clear hcz8_0);(try clear hcz8_1);(try clear hcz8_2);(try clear hfz7_0);(try clear hfz7_1);(try clear hfz7_2);(try clear hfz8_0);(try clear hfz8_1);(try clear hfz8_2);obtain ⟨kq,x14_1,rfl,HA,HJ1,BK140,HB⟩:=hcut;cases kq with
  | zero=>exact absurd HA.out (by simp [impl_IsValidFloor.j0])
  | succ kj1 =>
   have H:=HA.out;clear HA;simp only [impl_IsValidFloor.j0] at H
   by_cases c9:x14_1 = true
   ·subst c9
    have H1:(some false) = some r:=by rw [if_pos rfl] at H;exact H
    clear H;have H:=H1;clear H1;obtain rfl:=Option.some.inj H;go_wp2
    go_ret
    exact ⟨by first|rfl|(simp [errW_none,errW_some] <;> rfl)|(simp [*,errW_none,errW_some] <;> rfl),zzh⟩
   ·replace c9:=Bool.eq_false_iff.mpr c9
    subst c9;have H1:(impl_IsValidFloor.l0 kj1 l0_2 (l0_2.length:Int) 0 a0_0 a0_1 l0_2) = some r:=by rw [if_neg (show ¬ (false = true) by decide)] at H;exact H
    clear H;have H:=H1;clear H1;have H':=zM H;clear H;have hcz10_0:=zz0 BK140
    have hcz10_1:=zz1 BK140
    have hcz10_2:=zz2 BK140
    have hfz10_0:=blk_frozen BK140.out 0;have hfz10_1:=blk_frozen BK140.out 1;have hfz10_2:=blk_frozen BK140.out 2;go_wp2
    go_loopg [18] kj1 (fun kq v18 w' => ∃ (x18_2:Int),v18 = .int .i64 x18_2 ∧ Aside0 (impl_IsValidFloor.l0 kq l0_2 (l0_2.length:Int) x18_2 a0_0 a0_1 l0_2 = some r) ∧ Aside0 (kq ≤ kj1) ∧ Aside0 (w'.heap[gb140]? = some (.cells #[.int .i64 a0_0,.int .i64 a0_1,(.slice A0_2 l0_2.length c0_2)] 29 (0,0))) ∧ Aside0 (Below w.heap.size w w'))
    case atStart=>exact ⟨(0),(by first|rfl|(simp;done)|(simp [*];done)),H',⟨Nat.le_refl _⟩,⟨zzi BK140⟩,⟨zzh⟩⟩
    case round =>
     clear H';(try clear c1);(try clear p2);(try clear c5);(try clear c9);(try clear hcz10_0);(try clear hcz10_1);(try clear hcz10_2);(try clear hcz7_0);(try clear hcz7_1);(try clear hcz7_2);(try clear hcz8_0);(try clear hcz8_1);(try clear hcz8_2);(try clear hfz10_0);(try clear hfz10_1);(try clear hfz10_2);(try clear hfz7_0);(try clear hfz7_1);(try clear hfz7_2);(try clear hfz8_0);(try clear hfz8_1);(try clear hfz8_2);(try clear p2);obtain ⟨x18_2,rfl,HA,HK2,BK140,HB⟩:=hrel;cases gk with
     | zero=>exact absurd HA.out (by simp [impl_IsValidFloor.l0])
     | succ k2 =>
      have H:=HA.out;clear HA;simp only [impl_IsValidFloor.l0] at H
      by_cases c11:x18_2 < (l0_2.length:Int)
      ·rw [if_pos c11] at H
       have c11b0:decide (x18_2 < (l0_2.length:Int)) = true:=decide_eq_true c11
       clear c11;by_cases c12:0 ≤ x18_2
       ·rw [if_pos c12] at H
        have c12b0:decide (0 ≤ x18_2) = true:=decide_eq_true c12
        clear c12;by_cases c13:x18_2 < (l0_2.length:Int)
        ·rw [if_pos c13] at H
         have c13b0:decide (x18_2 < (l0_2.length:Int)) = true:=decide_eq_true c13
         clear c13;replace H:=Option.bind_eq_some_iff.mp H;obtain ⟨t145,A140,H⟩:=H;replace H:(if t145 = true then (if x18_2 > 0 then (if 0 ≤ (wrap64 (x18_2 - 1)) then (if (wrap64 (x18_2 - 1)) < (l0_2.length:Int) then ((impl_before.f ((rd_T48 l0_2 (wrap64 (x18_2 - 1))).f0) ((rd_T48 l0_2 (wrap64 (x18_2 - 1))).f1) ((rd_T48 l0_2 x18_2).f0) ((rd_T48 l0_2 x18_2).f1)).bind fun t147=>(if t147 = true then (impl_IsValidFloor.l0 k2 l0_2 (l0_2.length:Int) (wrap64 (x18_2 + 1)) a0_0 a0_1 l0_2) else (some false))) else (none)) else (none)) else (impl_IsValidFloor.l0 k2 l0_2 (l0_2.length:Int) (wrap64 (x18_2 + 1)) a0_0 a0_1 l0_2)) else (some false)) = some r:=H
         have A14:=zM A140;clear A140;by_cases c15:t145 = true
         ·subst c15
          have H1:(if x18_2 > 0 then (if 0 ≤ (wrap64 (x18_2 - 1)) then (if (wrap64 (x18_2 - 1)) < (l0_2.length:Int) then ((impl_before.f ((rd_T48 l0_2 (wrap64 (x18_2 - 1))).f0) ((rd_T48 l0_2 (wrap64 (x18_2 - 1))).f1) ((rd_T48 l0_2 x18_2).f0) ((rd_T48 l0_2 x18_2).f1)).bind fun t147=>(if t147 = true then (impl_IsValidFloor.l0 k2 l0_2 (l0_2.length:Int) (wrap64 (x18_2 + 1)) a0_0 a0_1 l0_2) else (some false))) else (none)) else (none)) else (impl_IsValidFloor.l0 k2 l0_2 (l0_2.length:Int) (wrap64 (x18_2 + 1)) a0_0 a0_1 l0_2)) = some r:=by rw [if_pos rfl] at H;exact H
          clear H;have H:=H1;clear H1;by_cases c16:x18_2 > 0
          ·rw [if_pos c16] at H
           have c16b0:decide (0 < x18_2) = true:=decide_eq_true c16
           clear c16;obtain ⟨ji17,hji17⟩ : ∃ j_:Int,(wrap64 (x18_2 - 1)) = j_:=⟨_,rfl⟩
           replace H:(if 0 ≤ (ji17) then (if (ji17) < (l0_2.length:Int) then ((impl_before.f ((rd_T48 l0_2 (ji17)).f0) ((rd_T48 l0_2 (ji17)).f1) ((rd_T48 l0_2 x18_2).f0) ((rd_T48 l0_2 x18_2).f1)).bind fun t147=>(if t147 = true then (impl_IsValidFloor.l0 k2 l0_2 (l0_2.length:Int) (wrap64 (x18_2 + 1)) a0_0 a0_1 l0_2) else (some false))) else (none)) else (none)) = some r:=by first|(rw [hji17] at H;exact H)|(simp only [hji17] at H ⊢;exact H)
           (try rw [hji17] at A14)
           have hji17w:(IntKind.i64.wrap (x18_2 - 1)) = ji17:=(i64_w _).trans hji17
           by_cases c18:0 ≤ (ji17)
           ·rw [if_pos c18] at H
            have c18b0:decide (0 ≤ (ji17)) = true:=decide_eq_true c18
            clear c18;by_cases c19:(ji17) < (l0_2.length:Int)
            ·rw [if_pos c19] at H
             have c19b0:decide ((ji17) < (l0_2.length:Int)) = true:=decide_eq_true c19
             clear c19;replace H:=Option.bind_eq_some_iff.mp H;obtain ⟨t147,A200,H⟩:=H;replace H:(if t147 = true then (impl_IsValidFloor.l0 k2 l0_2 (l0_2.length:Int) (wrap64 (x18_2 + 1)) a0_0 a0_1 l0_2) else (some false)) = some r:=H
             have A20:=zM A200;clear A200;by_cases c21:t147 = true
             ·subst c21
              have H1:(impl_IsValidFloor.l0 k2 l0_2 (l0_2.length:Int) (wrap64 (x18_2 + 1)) a0_0 a0_1 l0_2) = some r:=by rw [if_pos rfl] at H;exact H
              clear H;have H:=H1;clear H1;have H':=zM H;clear H;have p143:0 ≤ (x18_2:Int):=zzd
              have q143:x18_2 < (l0_2.length:Int):=zzd
              obtain ⟨ad143,e143,hx143_0,hx143_1⟩:=at_T48 HR0_2.out x18_2 p143 q143;cases e143
              replace hx143_0:=zS HB.out hx143_0;replace hx143_1:=zS HB.out hx143_1;replace p143:=eq_true p143;replace q143:=eq_true q143;try go_wp2_with (first|((with_reducible refine gate_dst (N:=4) rfl ?_);refine zzc 4 #[.int .i64 0,.int .i64 0] 48 ?_;intro gb144 hg w22 hbox hb;have n0_:=zM (blk_below (g:=gb140) (o := .cells #[.int .i64 a0_0,.int .i64 a0_1,.slice (some ad143) l0_2.length c0_2] 29 (0,0)) (zzi BK140) hb);have n1_:=zM (zQ zzh hb);have n2_:=zM (hbox);have n3_:=zM ((by rw [hg];exact (zR zzh):w.heap.size ≤ gb144));have n4_:=zM ((by rw [hg];exact (zR zzh):w.heap.size ≤ gb144));have n5_:=zM ((by rw [hg];exact Nat.ne_of_lt (blk_lt (g:=gb140) (o := .cells #[.int .i64 a0_0,.int .i64 a0_1,.slice (some ad143) l0_2.length c0_2] 29 (0,0)) (zzi BK140)):gb140 ≠ gb144));have n6_:=zM ((by rw [hg];exact Nat.ne_of_gt (blk_lt (g:=gb140) (o := .cells #[.int .i64 a0_0,.int .i64 a0_1,.slice (some ad143) l0_2.length c0_2] 29 (0,0)) (zzi BK140)):gb144 ≠ gb140));clear BK140;clear HB;have BK140:=n0_;have HB:=n1_;have BK144:=n2_;have GW144:=n3_;have GE144:=n4_;have NB140_144:=n5_;have NB144_140:=n6_;clear n0_ n1_ n2_ n3_ n4_ n5_ n6_;clear hb hbox hg;have hnb23:=NB144_140.out;have hnc23:=NB140_144.out;have hcz24_0:=zz0 BK144;have hcz24_1:=zz1 BK144;have hfz24_0:=blk_frozen BK144.out 0;have hfz24_1:=blk_frozen BK144.out 1))
              have n0_:Aside0 (((w22.setCell ⟨gb144,0,none⟩ (.int .i64 ((rd_T48 l0_2 x18_2).f0))).setCell ⟨gb144,1,none⟩ (.int .i64 ((rd_T48 l0_2 x18_2).f1))).heap[gb140]? = some (.cells #[.int .i64 a0_0,.int .i64 a0_1,.slice (some ad143) l0_2.length c0_2] 29 (0,0))):=⟨by (with_reducible repeat (first|refine zJ ?_ _|refine zK ?_|refine zL ?_ _));refine blk_far ?_ NB140_144.out _;(with_reducible repeat (first|refine zJ ?_ _|refine zK ?_|refine zL ?_ _));refine blk_far ?_ NB140_144.out _;(with_reducible repeat (first|refine zJ ?_ _|refine zK ?_|refine zL ?_ _));exact BK140.out⟩
              have n1_:Aside0 (((w22.setCell ⟨gb144,0,none⟩ (.int .i64 ((rd_T48 l0_2 x18_2).f0))).setCell ⟨gb144,1,none⟩ (.int .i64 ((rd_T48 l0_2 x18_2).f1))).heap[gb144]? = some (.cells #[.int .i64 ((rd_T48 l0_2 x18_2).f0),.int .i64 ((rd_T48 l0_2 x18_2).f1)] 48 (0,0))):=⟨by (with_reducible repeat (first|refine zJ ?_ _|refine zK ?_|refine zL ?_ _));refine blk_put (cs := #[.int .i64 ((rd_T48 l0_2 x18_2).f0),.int .i64 0]) ?_ 1 _ rfl;(with_reducible repeat (first|refine zJ ?_ _|refine zK ?_|refine zL ?_ _));refine blk_put (cs := #[.int .i64 0,.int .i64 0]) ?_ 0 _ rfl;(with_reducible repeat (first|refine zJ ?_ _|refine zK ?_|refine zL ?_ _));exact BK144.out⟩
              have n2_:Aside0 (Below w.heap.size w ((w22.setCell ⟨gb144,0,none⟩ (.int .i64 ((rd_T48 l0_2 x18_2).f0))).setCell ⟨gb144,1,none⟩ (.int .i64 ((rd_T48 l0_2 x18_2).f1)))):=⟨zzh⟩
              (try clear BK140)
              (try clear BK144)
              (try clear HB)
              generalize ((w22.setCell ⟨gb144,0,none⟩ (.int .i64 ((rd_T48 l0_2 x18_2).f0))).setCell ⟨gb144,1,none⟩ (.int .i64 ((rd_T48 l0_2 x18_2).f1))) = w25 at n0_ n1_ n2_ ⊢
              have BK140:=n0_;have BK144:=n1_;have HB:=n2_;clear n0_ n1_ n2_;have n0_:=zM (zK BK140.out);have n1_:=zM (zK BK144.out);have n2_:=zM (zF HB.out);clear BK140;clear BK144;clear HB;have BK140:=n0_;have BK144:=n1_;have HB:=n2_;clear n0_ n1_ n2_;have p146:0 ≤ ((ji17):Int):=zzd
              have q146:(ji17) < (l0_2.length:Int):=zzd
              obtain ⟨ad146,e146,hx146_0,hx146_1⟩:=at_T48 HR0_2.out (ji17) p146 q146;have hw146_1:=hx146_1;have hw146_0:=hx146_0;obtain rfl:ad143 = ad146:=(by injection e146)
              replace hx146_0:=zS HB.out hx146_0;replace hx146_1:=zS HB.out hx146_1;replace p146:=eq_true p146;replace q146:=eq_true q146;refine start_ (n:=19) (S:=fun w'=>w'.cell? ⟨gb140,0,none⟩ = some (.int .i64 a0_0) ∧ w'.cell? ⟨gb140,1,none⟩ = some (.int .i64 a0_1) ∧ w'.cell? ⟨gb140,2,none⟩ = some (.slice (some ad143) l0_2.length c0_2) ∧ w'.cell? ⟨gb144,0,none⟩ = some (.int .i64 ((rd_T48 l0_2 x18_2).f0)) ∧ w'.cell? ⟨gb144,1,none⟩ = some (.int .i64 ((rd_T48 l0_2 x18_2).f1)) ∧ w'.cell? (ad143.add (((ji17)).toNat * 2)) = some (.int .i64 ((rd_T48 l0_2 (ji17)).f0)) ∧ w'.cell? ⟨(ad143.add (((ji17)).toNat * 2)).block,(ad143.add (((ji17)).toNat * 2)).off + 1,none⟩ = some (.int .i64 ((rd_T48 l0_2 (ji17)).f1))) (ds:=[]) #[false,false,false,false,false,false,false,false,false,false,false,false,false,false,false,false,false,false,false] (by kernel_rfl) rfl rfl ⟨zz0 BK140,zz1 BK140,zz2 BK140,zz0 BK144,zz1 BK144,(zS HB.out hw146_0 :),(zS HB.out hw146_1 :)⟩ (fun hHeld=>?_);refine with_tabW impl_IsValidFloor.tab6 impl_IsValidFloor.bits6 (fun HT_ HW_=>?_)
              generalize w25.drew = w26 at BK140 BK144 HB hx146_0 hx146_1 hHeld ⊢
              refine zzt 0 23 (zzb 19 1) hHeld ?_ (hc:=zzy HT_ HW_) (hy:=by rintro w' ⟨s0,s1,s2,s3,s4,s5,s6⟩;go_simp;with_reducible rfl)
              refine zzt 1 24 (zzb 19 3) hHeld ?_ (hc:=zzy HT_ HW_) (hy:=by rintro w' ⟨s0,s1,s2,s3,s4,s5,s6⟩;go_simp;with_reducible rfl)
              refine zzo 2 25 (zzb 19 7) (hc:=zzw HT_) (fun K hK=>?_)
              refine zzf Try.func55 #[.agg #[.int .i64 a0_0,.int .i64 a0_1,.slice (some ad143) l0_2.length c0_2],.agg #[.int .i64 ((rd_T48 l0_2 x18_2).f0),.int .i64 ((rd_T48 l0_2 x18_2).f1)]] ?_
              with_reducible refine (impl_onFloor.calls a0_0 a0_1 _ _ l0_2 ((rd_T48 l0_2 x18_2).f0) ((rd_T48 l0_2 x18_2).f1) true _ ?side1 ?side2 A14.out).mono ?_
              (case side1=>repeat (first|exact (zO HR0_2.out HB.out)|(with_reducible first|refine zG ?_ _|refine zH ?_ _|refine zI ?_)))
              (case side2=>exact HC0_2.out)
              rintro e w27 ⟨rfl,hb⟩
              refine ⟨_,rfl,?_⟩
              have n0_:=zM (blk_below (g:=gb140) (o := .cells #[.int .i64 a0_0,.int .i64 a0_1,.slice (some ad143) l0_2.length c0_2] 29 (0,0)) (zzi BK140) hb)
              have n1_:=zM (blk_below (g:=gb144) (o := .cells #[.int .i64 ((rd_T48 l0_2 x18_2).f0),.int .i64 ((rd_T48 l0_2 x18_2).f1)] 48 (0,0)) (zzi BK144) hb)
              have n2_:=zM (zQ zzh hb)
              clear BK140;clear BK144;clear HB;have BK140:=n0_;have BK144:=n1_;have HB:=n2_;clear n0_ n1_ n2_;(try clear hb)
              (try clear hb2)
              (try clear hk)
              (try clear hi)
              refine hK.out _ _ ⟨zz0 BK140,zz1 BK140,zz2 BK140,zz0 BK144,zz1 BK144,(zS HB.out hw146_0 :),(zS HB.out hw146_1 :)⟩ (fun hHeld=>?_)
              clear hK K;refine zzn 25 ?_;refine zzp 3 26 (zzb 19 15) ?_ (hc:=zzx HT_);refine zzp 4 27 (zzb 19 31) ?_ (hc:=zzx HT_);refine zzp 5 28 (zzb 19 63) ?_ (hc:=zzx HT_);refine zzp 6 29 (zzb 19 127) ?_ (hc:=zzx HT_);refine zzp 7 30 (zzb 19 255) ?_ (hc:=zzx HT_);refine zzp 8 31 (zzb 19 511) ?_ (hc:=zzx HT_);refine zzp 10 33 (zzb 19 1535) ?_ (hc:=zzx HT_);refine zzp 11 34 (zzb 19 3583) ?_ (hc:=zzx HT_)
              refine zzt 9 32 (zzb 19 4095) hHeld ?_ (hc:=zzy HT_ HW_) (hy:=by rintro w' ⟨s0,s1,s2,s3,s4,s5,s6⟩;go_simp;with_reducible rfl);refine zzp 12 35 (zzb 19 8191) ?_ (hc:=zzx HT_)
              refine zzt 13 36 (zzb 19 16383) hHeld ?_ (hc:=zzy HT_ HW_) (hy:=by rintro w' ⟨s0,s1,s2,s3,s4,s5,s6⟩;go_simp;with_reducible rfl)
              refine zzt 14 37 (zzb 19 32767) hHeld ?_ (hc:=zzy HT_ HW_) (hy:=by rintro w' ⟨s0,s1,s2,s3,s4,s5,s6⟩;go_simp;with_reducible rfl)
              refine zzo 15 38 (zzb 19 65535) (hc:=zzw HT_) (fun K hK=>?_)
              refine goes_ Try.func56 (by kernel_rfl) rfl #[.agg #[.int .i64 ((rd_T48 l0_2 (ji17)).f0),.int .i64 ((rd_T48 l0_2 (ji17)).f1)],.agg #[.int .i64 ((rd_T48 l0_2 x18_2).f0),.int .i64 ((rd_T48 l0_2 x18_2).f1)]] (by rfl) rfl rfl (by (try simp only [List.map_toArray,List.map_cons,List.map_nil]);first|done|(simp only [hji17];rfl)|rfl|(simp only [List.length_drop,List.length_take];rfl)) ?_
              with_reducible refine (impl_before.calls ((rd_T48 l0_2 (ji17)).f0) ((rd_T48 l0_2 (ji17)).f1) ((rd_T48 l0_2 x18_2).f0) ((rd_T48 l0_2 x18_2).f1) true _ A20.out).mono ?_
              rintro e w28 ⟨rfl,hb⟩
              refine ⟨_,rfl,?_⟩
              have n0_:=zM (blk_below (g:=gb140) (o := .cells #[.int .i64 a0_0,.int .i64 a0_1,.slice (some ad143) l0_2.length c0_2] 29 (0,0)) (zzi BK140) hb)
              have n1_:=zM (blk_below (g:=gb144) (o := .cells #[.int .i64 ((rd_T48 l0_2 x18_2).f0),.int .i64 ((rd_T48 l0_2 x18_2).f1)] 48 (0,0)) (zzi BK144) hb)
              have n2_:=zM (zQ zzh hb)
              clear BK140;clear BK144;clear HB;have BK140:=n0_;have BK144:=n1_;have HB:=n2_;clear n0_ n1_ n2_;(try clear hb)
              (try clear hb2)
              (try clear hk)
              (try clear hi)
              refine hK.out _ _ ⟨zz0 BK140,zz1 BK140,zz2 BK140,zz0 BK144,zz1 BK144,(zS HB.out hw146_0 :),(zS HB.out hw146_1 :)⟩ (fun hHeld=>?_)
              clear hK K;refine zzn 38 ?_;refine zzp 16 39 (zzb 19 131071) ?_ (hc:=zzx HT_);refine zzp 17 40 (zzb 19 262143) ?_ (hc:=zzx HT_);refine zzp 18 41 (zzb 19 524287) ?_ (hc:=zzx HT_)
              refine done_ (done_of HT_.out (by kernel_rfl)) ?_
              try go_wp2
              go_roundg k2
              case measure=>have:=HJ1.out;have:=HK2.out;omega
              case rel=>exact ⟨(wrap64 (x18_2 + 1)),(by first|rfl|(simp;done)|(simp [*];done)),H',⟨by have:=HJ1.out;have:=HK2.out;omega⟩,⟨zzi BK140⟩,⟨zzh⟩⟩
             ·replace c21:=Bool.eq_false_iff.mpr c21
              subst c21;have H1:(some false) = some r:=by rw [if_neg (show ¬ (false = true) by decide)] at H;exact H
              clear H;have H:=H1;clear H1;obtain rfl:=Option.some.inj H;have p143:0 ≤ (x18_2:Int):=zzd
              have q143:x18_2 < (l0_2.length:Int):=zzd
              obtain ⟨ad143,e143,hx143_0,hx143_1⟩:=at_T48 HR0_2.out x18_2 p143 q143;cases e143
              replace hx143_0:=zS HB.out hx143_0;replace hx143_1:=zS HB.out hx143_1;replace p143:=eq_true p143;replace q143:=eq_true q143;try go_wp2_with (first|((with_reducible refine gate_dst (N:=4) rfl ?_);refine zzc 4 #[.int .i64 0,.int .i64 0] 48 ?_;intro gb144 hg w29 hbox hb;have n0_:=zM (blk_below (g:=gb140) (o := .cells #[.int .i64 a0_0,.int .i64 a0_1,.slice (some ad143) l0_2.length c0_2] 29 (0,0)) (zzi BK140) hb);have n1_:=zM (zQ zzh hb);have n2_:=zM (hbox);have n3_:=zM ((by rw [hg];exact (zR zzh):w.heap.size ≤ gb144));have n4_:=zM ((by rw [hg];exact (zR zzh):w.heap.size ≤ gb144));have n5_:=zM ((by rw [hg];exact Nat.ne_of_lt (blk_lt (g:=gb140) (o := .cells #[.int .i64 a0_0,.int .i64 a0_1,.slice (some ad143) l0_2.length c0_2] 29 (0,0)) (zzi BK140)):gb140 ≠ gb144));have n6_:=zM ((by rw [hg];exact Nat.ne_of_gt (blk_lt (g:=gb140) (o := .cells #[.int .i64 a0_0,.int .i64 a0_1,.slice (some ad143) l0_2.length c0_2] 29 (0,0)) (zzi BK140)):gb144 ≠ gb140));clear BK140;clear HB;have BK140:=n0_;have HB:=n1_;have BK144:=n2_;have GW144:=n3_;have GE144:=n4_;have NB140_144:=n5_;have NB144_140:=n6_;clear n0_ n1_ n2_ n3_ n4_ n5_ n6_;clear hb hbox hg;have hnb30:=NB144_140.out;have hnc30:=NB140_144.out;have hcz31_0:=zz0 BK144;have hcz31_1:=zz1 BK144;have hfz31_0:=blk_frozen BK144.out 0;have hfz31_1:=blk_frozen BK144.out 1))
              have n0_:Aside0 (((w29.setCell ⟨gb144,0,none⟩ (.int .i64 ((rd_T48 l0_2 x18_2).f0))).setCell ⟨gb144,1,none⟩ (.int .i64 ((rd_T48 l0_2 x18_2).f1))).heap[gb140]? = some (.cells #[.int .i64 a0_0,.int .i64 a0_1,.slice (some ad143) l0_2.length c0_2] 29 (0,0))):=⟨by (with_reducible repeat (first|refine zJ ?_ _|refine zK ?_|refine zL ?_ _));refine blk_far ?_ NB140_144.out _;(with_reducible repeat (first|refine zJ ?_ _|refine zK ?_|refine zL ?_ _));refine blk_far ?_ NB140_144.out _;(with_reducible repeat (first|refine zJ ?_ _|refine zK ?_|refine zL ?_ _));exact BK140.out⟩
              have n1_:Aside0 (((w29.setCell ⟨gb144,0,none⟩ (.int .i64 ((rd_T48 l0_2 x18_2).f0))).setCell ⟨gb144,1,none⟩ (.int .i64 ((rd_T48 l0_2 x18_2).f1))).heap[gb144]? = some (.cells #[.int .i64 ((rd_T48 l0_2 x18_2).f0),.int .i64 ((rd_T48 l0_2 x18_2).f1)] 48 (0,0))):=⟨by (with_reducible repeat (first|refine zJ ?_ _|refine zK ?_|refine zL ?_ _));refine blk_put (cs := #[.int .i64 ((rd_T48 l0_2 x18_2).f0),.int .i64 0]) ?_ 1 _ rfl;(with_reducible repeat (first|refine zJ ?_ _|refine zK ?_|refine zL ?_ _));refine blk_put (cs := #[.int .i64 0,.int .i64 0]) ?_ 0 _ rfl;(with_reducible repeat (first|refine zJ ?_ _|refine zK ?_|refine zL ?_ _));exact BK144.out⟩
              have n2_:Aside0 (Below w.heap.size w ((w29.setCell ⟨gb144,0,none⟩ (.int .i64 ((rd_T48 l0_2 x18_2).f0))).setCell ⟨gb144,1,none⟩ (.int .i64 ((rd_T48 l0_2 x18_2).f1)))):=⟨zzh⟩
              (try clear BK140)
              (try clear BK144)
              (try clear HB)
              generalize ((w29.setCell ⟨gb144,0,none⟩ (.int .i64 ((rd_T48 l0_2 x18_2).f0))).setCell ⟨gb144,1,none⟩ (.int .i64 ((rd_T48 l0_2 x18_2).f1))) = w32 at n0_ n1_ n2_ ⊢
              have BK140:=n0_;have BK144:=n1_;have HB:=n2_;clear n0_ n1_ n2_;have n0_:=zM (zK BK140.out);have n1_:=zM (zK BK144.out);have n2_:=zM (zF HB.out);clear BK140;clear BK144;clear HB;have BK140:=n0_;have BK144:=n1_;have HB:=n2_;clear n0_ n1_ n2_;have p146:0 ≤ ((ji17):Int):=zzd
              have q146:(ji17) < (l0_2.length:Int):=zzd
              obtain ⟨ad146,e146,hx146_0,hx146_1⟩:=at_T48 HR0_2.out (ji17) p146 q146;have hw146_1:=hx146_1;have hw146_0:=hx146_0;obtain rfl:ad143 = ad146:=(by injection e146)
              replace hx146_0:=zS HB.out hx146_0;replace hx146_1:=zS HB.out hx146_1;replace p146:=eq_true p146;replace q146:=eq_true q146;refine start_ (n:=19) (S:=fun w'=>w'.cell? ⟨gb140,0,none⟩ = some (.int .i64 a0_0) ∧ w'.cell? ⟨gb140,1,none⟩ = some (.int .i64 a0_1) ∧ w'.cell? ⟨gb140,2,none⟩ = some (.slice (some ad143) l0_2.length c0_2) ∧ w'.cell? ⟨gb144,0,none⟩ = some (.int .i64 ((rd_T48 l0_2 x18_2).f0)) ∧ w'.cell? ⟨gb144,1,none⟩ = some (.int .i64 ((rd_T48 l0_2 x18_2).f1)) ∧ w'.cell? (ad143.add (((ji17)).toNat * 2)) = some (.int .i64 ((rd_T48 l0_2 (ji17)).f0)) ∧ w'.cell? ⟨(ad143.add (((ji17)).toNat * 2)).block,(ad143.add (((ji17)).toNat * 2)).off + 1,none⟩ = some (.int .i64 ((rd_T48 l0_2 (ji17)).f1))) (ds:=[]) #[false,false,false,false,false,false,false,false,false,false,false,false,false,false,false,false,false,false,false] (by kernel_rfl) rfl rfl ⟨zz0 BK140,zz1 BK140,zz2 BK140,zz0 BK144,zz1 BK144,(zS HB.out hw146_0 :),(zS HB.out hw146_1 :)⟩ (fun hHeld=>?_);refine with_tabW impl_IsValidFloor.tab6 impl_IsValidFloor.bits6 (fun HT_ HW_=>?_)
              generalize w32.drew = w33 at BK140 BK144 HB hx146_0 hx146_1 hHeld ⊢
              refine zzt 0 23 (zzb 19 1) hHeld ?_ (hc:=zzy HT_ HW_) (hy:=by rintro w' ⟨s0,s1,s2,s3,s4,s5,s6⟩;go_simp;with_reducible rfl)
              refine zzt 1 24 (zzb 19 3) hHeld ?_ (hc:=zzy HT_ HW_) (hy:=by rintro w' ⟨s0,s1,s2,s3,s4,s5,s6⟩;go_simp;with_reducible rfl)
              refine zzo 2 25 (zzb 19 7) (hc:=zzw HT_) (fun K hK=>?_)
              refine zzf Try.func55 #[.agg #[.int .i64 a0_0,.int .i64 a0_1,.slice (some ad143) l0_2.length c0_2],.agg #[.int .i64 ((rd_T48 l0_2 x18_2).f0),.int .i64 ((rd_T48 l0_2 x18_2).f1)]] ?_
              with_reducible refine (impl_onFloor.calls a0_0 a0_1 _ _ l0_2 ((rd_T48 l0_2 x18_2).f0) ((rd_T48 l0_2 x18_2).f1) true _ ?side1 ?side2 A14.out).mono ?_
              (case side1=>repeat (first|exact (zO HR0_2.out HB.out)|(with_reducible first|refine zG ?_ _|refine zH ?_ _|refine zI ?_)))
              (case side2=>exact HC0_2.out)
              rintro e w34 ⟨rfl,hb⟩
              refine ⟨_,rfl,?_⟩
              have n0_:=zM (blk_below (g:=gb140) (o := .cells #[.int .i64 a0_0,.int .i64 a0_1,.slice (some ad143) l0_2.length c0_2] 29 (0,0)) (zzi BK140) hb)
              have n1_:=zM (blk_below (g:=gb144) (o := .cells #[.int .i64 ((rd_T48 l0_2 x18_2).f0),.int .i64 ((rd_T48 l0_2 x18_2).f1)] 48 (0,0)) (zzi BK144) hb)
              have n2_:=zM (zQ zzh hb)
              clear BK140;clear BK144;clear HB;have BK140:=n0_;have BK144:=n1_;have HB:=n2_;clear n0_ n1_ n2_;(try clear hb)
              (try clear hb2)
              (try clear hk)
              (try clear hi)
              refine hK.out _ _ ⟨zz0 BK140,zz1 BK140,zz2 BK140,zz0 BK144,zz1 BK144,(zS HB.out hw146_0 :),(zS HB.out hw146_1 :)⟩ (fun hHeld=>?_)
              clear hK K;refine zzn 25 ?_;refine zzp 3 26 (zzb 19 15) ?_ (hc:=zzx HT_);refine zzp 4 27 (zzb 19 31) ?_ (hc:=zzx HT_);refine zzp 5 28 (zzb 19 63) ?_ (hc:=zzx HT_);refine zzp 6 29 (zzb 19 127) ?_ (hc:=zzx HT_);refine zzp 7 30 (zzb 19 255) ?_ (hc:=zzx HT_);refine zzp 8 31 (zzb 19 511) ?_ (hc:=zzx HT_);refine zzp 10 33 (zzb 19 1535) ?_ (hc:=zzx HT_);refine zzp 11 34 (zzb 19 3583) ?_ (hc:=zzx HT_)
              refine zzt 9 32 (zzb 19 4095) hHeld ?_ (hc:=zzy HT_ HW_) (hy:=by rintro w' ⟨s0,s1,s2,s3,s4,s5,s6⟩;go_simp;with_reducible rfl);refine zzp 12 35 (zzb 19 8191) ?_ (hc:=zzx HT_)
              refine zzt 13 36 (zzb 19 16383) hHeld ?_ (hc:=zzy HT_ HW_) (hy:=by rintro w' ⟨s0,s1,s2,s3,s4,s5,s6⟩;go_simp;with_reducible rfl)
              refine zzt 14 37 (zzb 19 32767) hHeld ?_ (hc:=zzy HT_ HW_) (hy:=by rintro w' ⟨s0,s1,s2,s3,s4,s5,s6⟩;go_simp;with_reducible rfl)
              refine zzo 15 38 (zzb 19 65535) (hc:=zzw HT_) (fun K hK=>?_)
              refine goes_ Try.func56 (by kernel_rfl) rfl #[.agg #[.int .i64 ((rd_T48 l0_2 (ji17)).f0),.int .i64 ((rd_T48 l0_2 (ji17)).f1)],.agg #[.int .i64 ((rd_T48 l0_2 x18_2).f0),.int .i64 ((rd_T48 l0_2 x18_2).f1)]] (by rfl) rfl rfl (by (try simp only [List.map_toArray,List.map_cons,List.map_nil]);first|done|(simp only [hji17];rfl)|rfl|(simp only [List.length_drop,List.length_take];rfl)) ?_
              with_reducible refine (impl_before.calls ((rd_T48 l0_2 (ji17)).f0) ((rd_T48 l0_2 (ji17)).f1) ((rd_T48 l0_2 x18_2).f0) ((rd_T48 l0_2 x18_2).f1) false _ A20.out).mono ?_
              rintro e w35 ⟨rfl,hb⟩
              refine ⟨_,rfl,?_⟩
              have n0_:=zM (blk_below (g:=gb140) (o := .cells #[.int .i64 a0_0,.int .i64 a0_1,.slice (some ad143) l0_2.length c0_2] 29 (0,0)) (zzi BK140) hb)
              have n1_:=zM (blk_below (g:=gb144) (o := .cells #[.int .i64 ((rd_T48 l0_2 x18_2).f0),.int .i64 ((rd_T48 l0_2 x18_2).f1)] 48 (0,0)) (zzi BK144) hb)
              have n2_:=zM (zQ zzh hb)
              clear BK140;clear BK144;clear HB;have BK140:=n0_;have BK144:=n1_;have HB:=n2_;clear n0_ n1_ n2_;(try clear hb)
              (try clear hb2)
              (try clear hk)
              (try clear hi)
              refine hK.out _ _ ⟨zz0 BK140,zz1 BK140,zz2 BK140,zz0 BK144,zz1 BK144,(zS HB.out hw146_0 :),(zS HB.out hw146_1 :)⟩ (fun hHeld=>?_)
              clear hK K;refine zzn 38 ?_;refine zzp 16 39 (zzb 19 131071) ?_ (hc:=zzx HT_);refine zzp 17 40 (zzb 19 262143) ?_ (hc:=zzx HT_);refine zzp 18 41 (zzb 19 524287) ?_ (hc:=zzx HT_)
              refine done_ (done_of HT_.out (by kernel_rfl)) ?_
              try go_wp2
              go_ret
              exact ⟨by first|rfl|(simp [errW_none,errW_some] <;> rfl)|(simp only [← hji17];first|rfl|(simp [errW_none,errW_some] <;> rfl))|(simp [*,errW_none,errW_some] <;> rfl),zzh⟩
            ·rw [if_neg c19] at H
             exact absurd H (by simp)
           ·rw [if_neg c18] at H
            exact absurd H (by simp)
          ·rw [if_neg c16] at H
           have c16b0:decide (0 < x18_2) = false:=decide_eq_false c16
           clear c16;have H':=zM H;clear H;have p143:0 ≤ (x18_2:Int):=zzd
           have q143:x18_2 < (l0_2.length:Int):=zzd
           obtain ⟨ad143,e143,hx143_0,hx143_1⟩:=at_T48 HR0_2.out x18_2 p143 q143;cases e143
           replace hx143_0:=zS HB.out hx143_0;replace hx143_1:=zS HB.out hx143_1;replace p143:=eq_true p143;replace q143:=eq_true q143;try go_wp2_with (first|((with_reducible refine gate_dst (N:=4) rfl ?_);refine zzc 4 #[.int .i64 0,.int .i64 0] 48 ?_;intro gb144 hg w36 hbox hb;have n0_:=zM (blk_below (g:=gb140) (o := .cells #[.int .i64 a0_0,.int .i64 a0_1,.slice (some ad143) l0_2.length c0_2] 29 (0,0)) (zzi BK140) hb);have n1_:=zM (zQ zzh hb);have n2_:=zM (hbox);have n3_:=zM ((by rw [hg];exact (zR zzh):w.heap.size ≤ gb144));have n4_:=zM ((by rw [hg];exact (zR zzh):w.heap.size ≤ gb144));have n5_:=zM ((by rw [hg];exact Nat.ne_of_lt (blk_lt (g:=gb140) (o := .cells #[.int .i64 a0_0,.int .i64 a0_1,.slice (some ad143) l0_2.length c0_2] 29 (0,0)) (zzi BK140)):gb140 ≠ gb144));have n6_:=zM ((by rw [hg];exact Nat.ne_of_gt (blk_lt (g:=gb140) (o := .cells #[.int .i64 a0_0,.int .i64 a0_1,.slice (some ad143) l0_2.length c0_2] 29 (0,0)) (zzi BK140)):gb144 ≠ gb140));clear BK140;clear HB;have BK140:=n0_;have HB:=n1_;have BK144:=n2_;have GW144:=n3_;have GE144:=n4_;have NB140_144:=n5_;have NB144_140:=n6_;clear n0_ n1_ n2_ n3_ n4_ n5_ n6_;clear hb hbox hg;have hnb37:=NB144_140.out;have hnc37:=NB140_144.out;have hcz38_0:=zz0 BK144;have hcz38_1:=zz1 BK144;have hfz38_0:=blk_frozen BK144.out 0;have hfz38_1:=blk_frozen BK144.out 1))
           have n0_:Aside0 (((w36.setCell ⟨gb144,0,none⟩ (.int .i64 ((rd_T48 l0_2 x18_2).f0))).setCell ⟨gb144,1,none⟩ (.int .i64 ((rd_T48 l0_2 x18_2).f1))).heap[gb140]? = some (.cells #[.int .i64 a0_0,.int .i64 a0_1,.slice (some ad143) l0_2.length c0_2] 29 (0,0))):=⟨by (with_reducible repeat (first|refine zJ ?_ _|refine zK ?_|refine zL ?_ _));refine blk_far ?_ NB140_144.out _;(with_reducible repeat (first|refine zJ ?_ _|refine zK ?_|refine zL ?_ _));refine blk_far ?_ NB140_144.out _;(with_reducible repeat (first|refine zJ ?_ _|refine zK ?_|refine zL ?_ _));exact BK140.out⟩
           have n1_:Aside0 (((w36.setCell ⟨gb144,0,none⟩ (.int .i64 ((rd_T48 l0_2 x18_2).f0))).setCell ⟨gb144,1,none⟩ (.int .i64 ((rd_T48 l0_2 x18_2).f1))).heap[gb144]? = some (.cells #[.int .i64 ((rd_T48 l0_2 x18_2).f0),.int .i64 ((rd_T48 l0_2 x18_2).f1)] 48 (0,0))):=⟨by (with_reducible repeat (first|refine zJ ?_ _|refine zK ?_|refine zL ?_ _));refine blk_put (cs := #[.int .i64 ((rd_T48 l0_2 x18_2).f0),.int .i64 0]) ?_ 1 _ rfl;(with_reducible repeat (first|refine zJ ?_ _|refine zK ?_|refine zL ?_ _));refine blk_put (cs := #[.int .i64 0,.int .i64 0]) ?_ 0 _ rfl;(with_reducible repeat (first|refine zJ ?_ _|refine zK ?_|refine zL ?_ _));exact BK144.out⟩
           have n2_:Aside0 (Below w.heap.size w ((w36.setCell ⟨gb144,0,none⟩ (.int .i64 ((rd_T48 l0_2 x18_2).f0))).setCell ⟨gb144,1,none⟩ (.int .i64 ((rd_T48 l0_2 x18_2).f1)))):=⟨zzh⟩
           (try clear BK140)
           (try clear BK144)
           (try clear HB)
           generalize ((w36.setCell ⟨gb144,0,none⟩ (.int .i64 ((rd_T48 l0_2 x18_2).f0))).setCell ⟨gb144,1,none⟩ (.int .i64 ((rd_T48 l0_2 x18_2).f1))) = w39 at n0_ n1_ n2_ ⊢
           have BK140:=n0_;have BK144:=n1_;have HB:=n2_;clear n0_ n1_ n2_;have n0_:=zM (zK BK140.out);have n1_:=zM (zK BK144.out);have n2_:=zM (zF HB.out);clear BK140;clear BK144;clear HB;have BK140:=n0_;have BK144:=n1_;have HB:=n2_;clear n0_ n1_ n2_;refine start_ (n:=19) (S:=fun w'=>w'.cell? ⟨gb140,0,none⟩ = some (.int .i64 a0_0) ∧ w'.cell? ⟨gb140,1,none⟩ = some (.int .i64 a0_1) ∧ w'.cell? ⟨gb140,2,none⟩ = some (.slice (some ad143) l0_2.length c0_2) ∧ w'.cell? ⟨gb144,0,none⟩ = some (.int .i64 ((rd_T48 l0_2 x18_2).f0)) ∧ w'.cell? ⟨gb144,1,none⟩ = some (.int .i64 ((rd_T48 l0_2 x18_2).f1))) (ds:=[]) #[false,false,false,false,false,false,false,false,false,false,false,false,false,false,false,false,false,false,false] (by kernel_rfl) rfl rfl ⟨zz0 BK140,zz1 BK140,zz2 BK140,zz0 BK144,zz1 BK144⟩ (fun hHeld=>?_);refine with_tabW impl_IsValidFloor.tab6 impl_IsValidFloor.bits6 (fun HT_ HW_=>?_)
           generalize w39.drew = w40 at BK140 BK144 HB hHeld ⊢
           refine zzt 0 23 (zzb 19 1) hHeld ?_ (hc:=zzy HT_ HW_) (hy:=by rintro w' ⟨s0,s1,s2,s3,s4⟩;go_simp;with_reducible rfl)
           refine zzt 1 24 (zzb 19 3) hHeld ?_ (hc:=zzy HT_ HW_) (hy:=by rintro w' ⟨s0,s1,s2,s3,s4⟩;go_simp;with_reducible rfl)
           refine zzo 2 25 (zzb 19 7) (hc:=zzw HT_) (fun K hK=>?_)
           refine zzf Try.func55 #[.agg #[.int .i64 a0_0,.int .i64 a0_1,.slice (some ad143) l0_2.length c0_2],.agg #[.int .i64 ((rd_T48 l0_2 x18_2).f0),.int .i64 ((rd_T48 l0_2 x18_2).f1)]] ?_
           with_reducible refine (impl_onFloor.calls a0_0 a0_1 _ _ l0_2 ((rd_T48 l0_2 x18_2).f0) ((rd_T48 l0_2 x18_2).f1) true _ ?side1 ?side2 A14.out).mono ?_
           (case side1=>repeat (first|exact (zO HR0_2.out HB.out)|(with_reducible first|refine zG ?_ _|refine zH ?_ _|refine zI ?_)))
           (case side2=>exact HC0_2.out)
           rintro e w41 ⟨rfl,hb⟩
           refine ⟨_,rfl,?_⟩
           have n0_:=zM (blk_below (g:=gb140) (o := .cells #[.int .i64 a0_0,.int .i64 a0_1,.slice (some ad143) l0_2.length c0_2] 29 (0,0)) (zzi BK140) hb)
           have n1_:=zM (blk_below (g:=gb144) (o := .cells #[.int .i64 ((rd_T48 l0_2 x18_2).f0),.int .i64 ((rd_T48 l0_2 x18_2).f1)] 48 (0,0)) (zzi BK144) hb)
           have n2_:=zM (zQ zzh hb)
           clear BK140;clear BK144;clear HB;have BK140:=n0_;have BK144:=n1_;have HB:=n2_;clear n0_ n1_ n2_;(try clear hb)
           (try clear hb2)
           (try clear hk)
           (try clear hi)
           refine hK.out _ _ ⟨zz0 BK140,zz1 BK140,zz2 BK140,zz0 BK144,zz1 BK144⟩ (fun hHeld=>?_)
           clear hK K;refine zzn 25 ?_;refine zzp 3 26 (zzb 19 15) ?_ (hc:=zzx HT_);refine zzp 4 27 (zzb 19 31) ?_ (hc:=zzx HT_);refine zzp 5 28 (zzb 19 63) ?_ (hc:=zzx HT_);refine zzp 6 29 (zzb 19 127) ?_ (hc:=zzx HT_);refine zzp 7 30 (zzb 19 255) ?_ (hc:=zzx HT_);refine zzu 8 31 (zzb 19 511) ?_ (hc:=zzx HT_);refine zzu 9 32 (zzb 19 1023) ?_ (hc:=zzx HT_);refine zzu 10 33 (zzb 19 2047) ?_ (hc:=zzx HT_);refine zzu 11 34 (zzb 19 4095) ?_ (hc:=zzx HT_);refine zzu 12 35 (zzb 19 8191) ?_ (hc:=zzx HT_);refine zzu 13 36 (zzb 19 16383) ?_ (hc:=zzx HT_);refine zzu 14 37 (zzb 19 32767) ?_ (hc:=zzx HT_);refine zzu 15 38 (zzb 19 65535) ?_ (hc:=zzx HT_);refine zzu 16 39 (zzb 19 131071) ?_ (hc:=zzx HT_);refine zzp 17 40 (zzb 19 262143) ?_ (hc:=zzx HT_);refine zzp 18 41 (zzb 19 524287) ?_ (hc:=zzx HT_)
           refine done_ (done_of HT_.out (by kernel_rfl)) ?_
           try go_wp2
           go_roundg k2
           case measure=>have:=HJ1.out;have:=HK2.out;omega
           case rel=>exact ⟨(wrap64 (x18_2 + 1)),(by first|rfl|(simp;done)|(simp [*];done)),H',⟨by have:=HJ1.out;have:=HK2.out;omega⟩,⟨zzi BK140⟩,⟨zzh⟩⟩
         ·replace c15:=Bool.eq_false_iff.mpr c15
          subst c15;have H1:(some false) = some r:=by rw [if_neg (show ¬ (false = true) by decide)] at H;exact H
          clear H;have H:=H1;clear H1;obtain rfl:=Option.some.inj H;have p143:0 ≤ (x18_2:Int):=zzd
          have q143:x18_2 < (l0_2.length:Int):=zzd
          obtain ⟨ad143,e143,hx143_0,hx143_1⟩:=at_T48 HR0_2.out x18_2 p143 q143;cases e143
          replace hx143_0:=zS HB.out hx143_0;replace hx143_1:=zS HB.out hx143_1;replace p143:=eq_true p143;replace q143:=eq_true q143;try go_wp2_with (first|((with_reducible refine gate_dst (N:=4) rfl ?_);refine zzc 4 #[.int .i64 0,.int .i64 0] 48 ?_;intro gb144 hg w42 hbox hb;have n0_:=zM (blk_below (g:=gb140) (o := .cells #[.int .i64 a0_0,.int .i64 a0_1,.slice (some ad143) l0_2.length c0_2] 29 (0,0)) (zzi BK140) hb);have n1_:=zM (zQ zzh hb);have n2_:=zM (hbox);have n3_:=zM ((by rw [hg];exact (zR zzh):w.heap.size ≤ gb144));have n4_:=zM ((by rw [hg];exact (zR zzh):w.heap.size ≤ gb144));have n5_:=zM ((by rw [hg];exact Nat.ne_of_lt (blk_lt (g:=gb140) (o := .cells #[.int .i64 a0_0,.int .i64 a0_1,.slice (some ad143) l0_2.length c0_2] 29 (0,0)) (zzi BK140)):gb140 ≠ gb144));have n6_:=zM ((by rw [hg];exact Nat.ne_of_gt (blk_lt (g:=gb140) (o := .cells #[.int .i64 a0_0,.int .i64 a0_1,.slice (some ad143) l0_2.length c0_2] 29 (0,0)) (zzi BK140)):gb144 ≠ gb140));clear BK140;clear HB;have BK140:=n0_;have HB:=n1_;have BK144:=n2_;have GW144:=n3_;have GE144:=n4_;have NB140_144:=n5_;have NB144_140:=n6_;clear n0_ n1_ n2_ n3_ n4_ n5_ n6_;clear hb hbox hg;have hnb43:=NB144_140.out;have hnc43:=NB140_144.out;have hcz44_0:=zz0 BK144;have hcz44_1:=zz1 BK144;have hfz44_0:=blk_frozen BK144.out 0;have hfz44_1:=blk_frozen BK144.out 1))
          have n0_:Aside0 (((w42.setCell ⟨gb144,0,none⟩ (.int .i64 ((rd_T48 l0_2 x18_2).f0))).setCell ⟨gb144,1,none⟩ (.int .i64 ((rd_T48 l0_2 x18_2).f1))).heap[gb140]? = some (.cells #[.int .i64 a0_0,.int .i64 a0_1,.slice (some ad143) l0_2.length c0_2] 29 (0,0))):=⟨by (with_reducible repeat (first|refine zJ ?_ _|refine zK ?_|refine zL ?_ _));refine blk_far ?_ NB140_144.out _;(with_reducible repeat (first|refine zJ ?_ _|refine zK ?_|refine zL ?_ _));refine blk_far ?_ NB140_144.out _;(with_reducible repeat (first|refine zJ ?_ _|refine zK ?_|refine zL ?_ _));exact BK140.out⟩
          have n1_:Aside0 (((w42.setCell ⟨gb144,0,none⟩ (.int .i64 ((rd_T48 l0_2 x18_2).f0))).setCell ⟨gb144,1,none⟩ (.int .i64 ((rd_T48 l0_2 x18_2).f1))).heap[gb144]? = some (.cells #[.int .i64 ((rd_T48 l0_2 x18_2).f0),.int .i64 ((rd_T48 l0_2 x18_2).f1)] 48 (0,0))):=⟨by (with_reducible repeat (first|refine zJ ?_ _|refine zK ?_|refine zL ?_ _));refine blk_put (cs := #[.int .i64 ((rd_T48 l0_2 x18_2).f0),.int .i64 0]) ?_ 1 _ rfl;(with_reducible repeat (first|refine zJ ?_ _|refine zK ?_|refine zL ?_ _));refine blk_put (cs := #[.int .i64 0,.int .i64 0]) ?_ 0 _ rfl;(with_reducible repeat (first|refine zJ ?_ _|refine zK ?_|refine zL ?_ _));exact BK144.out⟩
          have n2_:Aside0 (Below w.heap.size w ((w42.setCell ⟨gb144,0,none⟩ (.int .i64 ((rd_T48 l0_2 x18_2).f0))).setCell ⟨gb144,1,none⟩ (.int .i64 ((rd_T48 l0_2 x18_2).f1)))):=⟨zzh⟩
          (try clear BK140)
          (try clear BK144)
          (try clear HB)
          generalize ((w42.setCell ⟨gb144,0,none⟩ (.int .i64 ((rd_T48 l0_2 x18_2).f0))).setCell ⟨gb144,1,none⟩ (.int .i64 ((rd_T48 l0_2 x18_2).f1))) = w45 at n0_ n1_ n2_ ⊢
          have BK140:=n0_;have BK144:=n1_;have HB:=n2_;clear n0_ n1_ n2_;have n0_:=zM (zK BK140.out);have n1_:=zM (zK BK144.out);have n2_:=zM (zF HB.out);clear BK140;clear BK144;clear HB;have BK140:=n0_;have BK144:=n1_;have HB:=n2_;clear n0_ n1_ n2_;refine start_ (n:=19) (S:=fun w'=>w'.cell? ⟨gb140,0,none⟩ = some (.int .i64 a0_0) ∧ w'.cell? ⟨gb140,1,none⟩ = some (.int .i64 a0_1) ∧ w'.cell? ⟨gb140,2,none⟩ = some (.slice (some ad143) l0_2.length c0_2) ∧ w'.cell? ⟨gb144,0,none⟩ = some (.int .i64 ((rd_T48 l0_2 x18_2).f0)) ∧ w'.cell? ⟨gb144,1,none⟩ = some (.int .i64 ((rd_T48 l0_2 x18_2).f1))) (ds:=[]) #[false,false,false,false,false,false,false,false,false,false,false,false,false,false,false,false,false,false,false] (by kernel_rfl) rfl rfl ⟨zz0 BK140,zz1 BK140,zz2 BK140,zz0 BK144,zz1 BK144⟩ (fun hHeld=>?_);refine with_tabW impl_IsValidFloor.tab6 impl_IsValidFloor.bits6 (fun HT_ HW_=>?_)
          generalize w45.drew = w46 at BK140 BK144 HB hHeld ⊢
          refine zzt 0 23 (zzb 19 1) hHeld ?_ (hc:=zzy HT_ HW_) (hy:=by rintro w' ⟨s0,s1,s2,s3,s4⟩;go_simp;with_reducible rfl)
          refine zzt 1 24 (zzb 19 3) hHeld ?_ (hc:=zzy HT_ HW_) (hy:=by rintro w' ⟨s0,s1,s2,s3,s4⟩;go_simp;with_reducible rfl)
          refine zzo 2 25 (zzb 19 7) (hc:=zzw HT_) (fun K hK=>?_)
          refine zzf Try.func55 #[.agg #[.int .i64 a0_0,.int .i64 a0_1,.slice (some ad143) l0_2.length c0_2],.agg #[.int .i64 ((rd_T48 l0_2 x18_2).f0),.int .i64 ((rd_T48 l0_2 x18_2).f1)]] ?_
          with_reducible refine (impl_onFloor.calls a0_0 a0_1 _ _ l0_2 ((rd_T48 l0_2 x18_2).f0) ((rd_T48 l0_2 x18_2).f1) false _ ?side1 ?side2 A14.out).mono ?_
          (case side1=>repeat (first|exact (zO HR0_2.out HB.out)|(with_reducible first|refine zG ?_ _|refine zH ?_ _|refine zI ?_)))
          (case side2=>exact HC0_2.out)
          rintro e w47 ⟨rfl,hb⟩
          refine ⟨_,rfl,?_⟩
          have n0_:=zM (blk_below (g:=gb140) (o := .cells #[.int .i64 a0_0,.int .i64 a0_1,.slice (some ad143) l0_2.length c0_2] 29 (0,0)) (zzi BK140) hb)
          have n1_:=zM (blk_below (g:=gb144) (o := .cells #[.int .i64 ((rd_T48 l0_2 x18_2).f0),.int .i64 ((rd_T48 l0_2 x18_2).f1)] 48 (0,0)) (zzi BK144) hb)
          have n2_:=zM (zQ zzh hb)
          clear BK140;clear BK144;clear HB;have BK140:=n0_;have BK144:=n1_;have HB:=n2_;clear n0_ n1_ n2_;(try clear hb)
          (try clear hb2)
          (try clear hk)
          (try clear hi)
          refine hK.out _ _ ⟨zz0 BK140,zz1 BK140,zz2 BK140,zz0 BK144,zz1 BK144⟩ (fun hHeld=>?_)
          clear hK K;refine zzn 25 ?_;refine zzp 3 26 (zzb 19 15) ?_ (hc:=zzx HT_);refine zzp 4 27 (zzb 19 31) ?_ (hc:=zzx HT_);refine zzu 5 28 (zzb 19 63) ?_ (hc:=zzx HT_);refine zzu 6 29 (zzb 19 127) ?_ (hc:=zzx HT_);refine zzu 7 30 (zzb 19 255) ?_ (hc:=zzx HT_);refine zzu 8 31 (zzb 19 511) ?_ (hc:=zzx HT_);refine zzu 9 32 (zzb 19 1023) ?_ (hc:=zzx HT_);refine zzu 10 33 (zzb 19 2047) ?_ (hc:=zzx HT_);refine zzu 11 34 (zzb 19 4095) ?_ (hc:=zzx HT_);refine zzu 12 35 (zzb 19 8191) ?_ (hc:=zzx HT_);refine zzu 13 36 (zzb 19 16383) ?_ (hc:=zzx HT_);refine zzu 14 37 (zzb 19 32767) ?_ (hc:=zzx HT_);refine zzu 15 38 (zzb 19 65535) ?_ (hc:=zzx HT_);refine zzu 16 39 (zzb 19 131071) ?_ (hc:=zzx HT_);refine zzu 17 40 (zzb 19 262143) ?_ (hc:=zzx HT_);refine zzp 18 41 (zzb 19 524287) ?_ (hc:=zzx HT_)
          refine done_ (done_of HT_.out (by kernel_rfl)) ?_
          try go_wp2
          go_ret
          exact ⟨by first|rfl|(simp [errW_none,errW_some] <;> rfl)|(simp [*,errW_none,errW_some] <;> rfl),zzh⟩
        ·rw [if_neg c13] at H
         exact absurd H (by simp)
       ·rw [if_neg c12] at H
        exact absurd H (by simp)
      ·rw [if_neg c11] at H
       have c11b0:decide (x18_2 < (l0_2.length:Int)) = false:=decide_eq_false c11
       clear c11;obtain rfl:=Option.some.inj H;go_wp2
       go_ret
       exact ⟨by first|rfl|(simp [errW_none,errW_some] <;> rfl)|(simp [*,errW_none,errW_some] <;> rfl),zzh⟩



/-! ### spec_l16Inside: function 81 -/
def spec_l16Inside.f (a0_0:Int) (a0_1:Int) (l0_2:List (S48)) (a1_0:Int) (a1_1:Int):Option (Bool):=(spec_l1In.f a1_0 0 (wrap64 (a0_0 - 1))).bind fun t105=>(if t105 = true then ((spec_l1In.f a1_1 0 (wrap64 (a0_1 - 1))).bind fun t106=>(some t106)) else (some false))
set_option maxHeartbeats 8000000 in
set_option maxRecDepth 100000 in
theorem spec_l16Inside.calls (a0_0:Int) (a0_1:Int) (A0_2:Option Addr) (c0_2:Nat) (l0_2:List (S48)) (a1_0:Int) (a1_1:Int) (r:Bool) (w:World) (hr0_2:Kd.C k48 w A0_2 l0_2.length l0_2) (hc0_2:l0_2.length ≤ c0_2) (h:spec_l16Inside.f a0_0 a0_1 l0_2 a1_0 a1_1 = some r) :
  Calls Try.prog 81 #[.agg #[.int .i64 a0_0,.int .i64 a0_1,.slice A0_2 l0_2.length c0_2],.agg #[.int .i64 a1_0,.int .i64 a1_1]] w fun e w'=>e = .returned (.bool r) ∧ Below w.heap.size w w':=by
 have hu29:=Try.underlying29;have hu48:=Try.underlying48;have HR0_2:=zM hr0_2;have HC0_2:=zM hc0_2;clear hr0_2 hc0_2;have HB:=zM (Below.refl w.heap.size w);have H:((spec_l1In.f a1_0 0 (wrap64 (a0_0 - 1))).bind fun t105=>(if t105 = true then ((spec_l1In.f a1_1 0 (wrap64 (a0_1 - 1))).bind fun t106=>(some t106)) else (some false))) = some r:=h
 clear h;replace H:=Option.bind_eq_some_iff.mp H;obtain ⟨t105,A30,H⟩:=H;replace H:(if t105 = true then ((spec_l1In.f a1_1 0 (wrap64 (a0_1 - 1))).bind fun t106=>(some t106)) else (some false)) = some r:=H
 have A3:=zM A30;clear A30;by_cases c4:t105 = true
 ·subst c4
  have H1:((spec_l1In.f a1_1 0 (wrap64 (a0_1 - 1))).bind fun t106=>(some t106)) = some r:=by rw [if_pos rfl] at H;exact H
  clear H;have H:=H1;clear H1;replace H:=Option.bind_eq_some_iff.mp H;obtain ⟨t106,A50,H⟩:=H;replace H:(some t106) = some r:=H
  have A5:=zM A50;clear A50;obtain rfl:=Option.some.inj H;go_enter Try.func81,Try.ntmps81
  go_wp2_with (first|((with_reducible refine gate_dst (N:=2) rfl ?_);refine zzc 2 #[.int .i64 a0_0,.int .i64 a0_1,.slice A0_2 l0_2.length c0_2] 29 ?_;intro gb103 hg w6 hbox hb;have n0_:=zM (zQ zzh hb);have n1_:=zM (hbox);have n2_:=zM ((by rw [hg];exact (zR zzh):w.heap.size ≤ gb103));have n3_:=zM ((by rw [hg];exact (zR zzh):w.heap.size ≤ gb103));clear HB;have HB:=n0_;have BK103:=n1_;have GW103:=n2_;have GE103:=n3_;clear n0_ n1_ n2_ n3_;clear hb hbox hg)|((with_reducible refine gate_dst (N:=3) rfl ?_);refine zzc 3 #[.int .i64 a1_0,.int .i64 a1_1] 48 ?_;intro gb104 hg w7 hbox hb;have n0_:=zM (blk_below (g:=gb103) (o := .cells #[.int .i64 a0_0,.int .i64 a0_1,.slice A0_2 l0_2.length c0_2] 29 (0,0)) (zzi BK103) hb);have n1_:=zM (zQ zzh hb);have n2_:=zM (hbox);have n3_:=zM ((by rw [hg];exact (zR zzh):w.heap.size ≤ gb104));have n4_:=zM ((by rw [hg];exact (zR zzh):w.heap.size ≤ gb104));have n5_:=zM ((by rw [hg];exact Nat.ne_of_lt (blk_lt (g:=gb103) (o := .cells #[.int .i64 a0_0,.int .i64 a0_1,.slice A0_2 l0_2.length c0_2] 29 (0,0)) (zzi BK103)):gb103 ≠ gb104));have n6_:=zM ((by rw [hg];exact Nat.ne_of_gt (blk_lt (g:=gb103) (o := .cells #[.int .i64 a0_0,.int .i64 a0_1,.slice A0_2 l0_2.length c0_2] 29 (0,0)) (zzi BK103)):gb104 ≠ gb103));clear BK103;clear HB;have BK103:=n0_;have HB:=n1_;have BK104:=n2_;have GW104:=n3_;have GE104:=n4_;have NB103_104:=n5_;have NB104_103:=n6_;clear n0_ n1_ n2_ n3_ n4_ n5_ n6_;clear hb hbox hg;have hnb8:=NB104_103.out;have hnc8:=NB103_104.out;have hcz9_0:=zz0 BK104;have hcz9_1:=zz1 BK104;have hfz9_0:=blk_frozen BK104.out 0;have hfz9_1:=blk_frozen BK104.out 1;have hcz10_0:=zz0 BK103;have hcz10_1:=zz1 BK103;have hcz10_2:=zz2 BK103;have hfz10_0:=blk_frozen BK103.out 0;have hfz10_1:=blk_frozen BK103.out 1;have hfz10_2:=blk_frozen BK103.out 2)|((with_reducible refine gate_callee (f:=80) rfl ?_);refine goesL_ (some 10) rfl rfl Try.func80 (by kernel_rfl) rfl #[.int .i64 a1_0,.int .i64 0,.int .i64 (wrap64 (a0_0 - 1))] rfl (by (try simp only [List.map_toArray,List.map_cons,List.map_nil]);first|done|rfl|(simp only [List.length_drop,List.length_take];rfl)) ?_;(with_reducible refine (spec_l1In.calls a1_0 0 (wrap64 (a0_0 - 1)) true _ A3.out).mono ?_);rintro e w' ⟨rfl,⟨nd,rfl⟩⟩;refine ⟨_,rfl,?_⟩)|(go_at_call 80;(with_reducible refine (spec_l1In.calls a1_1 0 (wrap64 (a0_1 - 1)) t106 _ A5.out).mono ?_);rintro e w' ⟨rfl,⟨nd,rfl⟩⟩))
  go_ret
  exact ⟨by first|rfl|(simp [errW_none,errW_some] <;> rfl)|(simp [*,errW_none,errW_some] <;> rfl),zzh⟩
 ·replace c4:=Bool.eq_false_iff.mpr c4
  subst c4;have H1:(some false) = some r:=by rw [if_neg (show ¬ (false = true) by decide)] at H;exact H
  clear H;have H:=H1;clear H1;obtain rfl:=Option.some.inj H;go_enter Try.func81,Try.ntmps81
  go_wp2_with (first|((with_reducible refine gate_dst (N:=2) rfl ?_);refine zzc 2 #[.int .i64 a0_0,.int .i64 a0_1,.slice A0_2 l0_2.length c0_2] 29 ?_;intro gb103 hg w11 hbox hb;have n0_:=zM (zQ zzh hb);have n1_:=zM (hbox);have n2_:=zM ((by rw [hg];exact (zR zzh):w.heap.size ≤ gb103));have n3_:=zM ((by rw [hg];exact (zR zzh):w.heap.size ≤ gb103));clear HB;have HB:=n0_;have BK103:=n1_;have GW103:=n2_;have GE103:=n3_;clear n0_ n1_ n2_ n3_;clear hb hbox hg)|((with_reducible refine gate_dst (N:=3) rfl ?_);refine zzc 3 #[.int .i64 a1_0,.int .i64 a1_1] 48 ?_;intro gb104 hg w12 hbox hb;have n0_:=zM (blk_below (g:=gb103) (o := .cells #[.int .i64 a0_0,.int .i64 a0_1,.slice A0_2 l0_2.length c0_2] 29 (0,0)) (zzi BK103) hb);have n1_:=zM (zQ zzh hb);have n2_:=zM (hbox);have n3_:=zM ((by rw [hg];exact (zR zzh):w.heap.size ≤ gb104));have n4_:=zM ((by rw [hg];exact (zR zzh):w.heap.size ≤ gb104));have n5_:=zM ((by rw [hg];exact Nat.ne_of_lt (blk_lt (g:=gb103) (o := .cells #[.int .i64 a0_0,.int .i64 a0_1,.slice A0_2 l0_2.length c0_2] 29 (0,0)) (zzi BK103)):gb103 ≠ gb104));have n6_:=zM ((by rw [hg];exact Nat.ne_of_gt (blk_lt (g:=gb103) (o := .cells #[.int .i64 a0_0,.int .i64 a0_1,.slice A0_2 l0_2.length c0_2] 29 (0,0)) (zzi BK103)):gb104 ≠ gb103));clear BK103;clear HB;have BK103:=n0_;have HB:=n1_;have BK104:=n2_;have GW104:=n3_;have GE104:=n4_;have NB103_104:=n5_;have NB104_103:=n6_;clear n0_ n1_ n2_ n3_ n4_ n5_ n6_;clear hb hbox hg;have hnb13:=NB104_103.out;have hnc13:=NB103_104.out;have hcz14_0:=zz0 BK104;have hcz14_1:=zz1 BK104;have hfz14_0:=blk_frozen BK104.out 0;have hfz14_1:=blk_frozen BK104.out 1;have hcz15_0:=zz0 BK103;have hcz15_1:=zz1 BK103;have hcz15_2:=zz2 BK103;have hfz15_0:=blk_frozen BK103.out 0;have hfz15_1:=blk_frozen BK103.out 1;have hfz15_2:=blk_frozen BK103.out 2)|((with_reducible refine gate_callee (f:=80) rfl ?_);refine goesL_ (some 10) rfl rfl Try.func80 (by kernel_rfl) rfl #[.int .i64 a1_0,.int .i64 0,.int .i64 (wrap64 (a0_0 - 1))] rfl (by (try simp only [List.map_toArray,List.map_cons,List.map_nil]);first|done|rfl|(simp only [List.length_drop,List.length_take];rfl)) ?_;(with_reducible refine (spec_l1In.calls a1_0 0 (wrap64 (a0_0 - 1)) false _ A3.out).mono ?_);rintro e w' ⟨rfl,⟨nd,rfl⟩⟩;refine ⟨_,rfl,?_⟩))
  go_ret
  exact ⟨by first|rfl|(simp [errW_none,errW_some] <;> rfl)|(simp [*,errW_none,errW_some] <;> rfl),zzh⟩



/-! ### spec_l16Good: function 53 -/
mutual
def spec_l16Good.j0:Nat → Bool → Int → Int → List (S48) → Option (Bool)
 | 0,_,_,_,_=>none
 | k + 1,x13,x108000,x108001,x108002=>if x13 = true then (some false) else (spec_l16Good.l0 k 0 x108000 x108001 x108002)
def spec_l16Good.l0:Nat → Int → Int → Int → List (S48) → Option (Bool)
 | 0,_,_,_,_=>none
 | k + 1,x3,x108000,x108001,x108002=>if x3 < (x108002.length:Int) then (if 0 ≤ x3 then ((spec_l16Inside.f x108000 x108001 x108002 ((rd_T48 x108002 x3).f0) ((rd_T48 x108002 x3).f1)).bind fun t111=>(if t111 = true then (if x3 > 0 then (if 0 ≤ (wrap64 (x3 - 1)) then (if (wrap64 (x3 - 1)) < (x108002.length:Int) then (if (wrap64 ((wrap64 (((rd_T48 x108002 (wrap64 (x3 - 1))).f1) * 10)) + ((rd_T48 x108002 (wrap64 (x3 - 1))).f0))) ≥ (wrap64 ((wrap64 (((rd_T48 x108002 x3).f1) * 10)) + ((rd_T48 x108002 x3).f0))) then (some false) else (spec_l16Good.l0 k (wrap64 (x3 + 1)) x108000 x108001 x108002)) else (none)) else (none)) else (spec_l16Good.l0 k (wrap64 (x3 + 1)) x108000 x108001 x108002)) else (some false))) else (none)) else (some true)
end
def spec_l16Good.f (k:Nat) (a0_0:Int) (a0_1:Int) (l0_2:List (S48)):Option (Bool):=(spec_l1In.f a0_0 1 6).bind fun t108=>(if t108 = true then ((spec_l1In.f a0_1 1 6).bind fun t109=>(spec_l16Good.j0 k (!t109) a0_0 a0_1 l0_2)) else (spec_l16Good.j0 k true a0_0 a0_1 l0_2))
def spec_l16Good.T6:Bool × List (List Nat × List Nat):=(true,[([],[]),([],[]),([1],[1]),([],[]),([2,3],[2,3]),([4],[4]),([0,5],[0,5]),([6],[6])])
def spec_l16Good.B6:List Nat:=[0,0,2,0,14,30,63,127]
theorem spec_l16Good.tab6:rtab .any (opsOf Try.f53 6) = spec_l16Good.T6:=by kernel_rfl
theorem spec_l16Good.bits6:waitsOk spec_l16Good.T6.2 spec_l16Good.B6 = true:=by kernel_rfl
def spec_l16Good.T8:Bool × List (List Nat × List Nat):=(true,[([],[]),([0],[0]),([1],[1]),([2],[2]),([3,2],[2,3]),([2],[2]),([5,2],[2,5]),([4,6,2],[2,4,6]),([7,2],[2,7]),([8,2],[2,8]),([9,2],[2,9]),([2],[2]),([11,2],[2,11]),([2],[2]),([13,2],[2,13]),([12,14,2],[2,12,14]),([15,2],[2,15]),([16,2],[2,16]),([10,17,2],[2,10,17]),([2],[2]),([19,2],[2,19]),([2],[2]),([20,21,2],[2,20,21]),([22,2],[2,22]),([23,2],[2,23]),([24,2],[2,24]),([2],[2]),([26,2],[2,26]),([2],[2]),([27,28,2],[2,27,28]),([29,2],[2,29]),([30,2],[2,30]),([25,31,2],[2,25,31]),([18,32,2],[2,18,32]),([2,33],[2,33])])
def spec_l16Good.B8:List Nat:=[0,1,3,7,15,7,39,127,255,511,1023,7,2055,7,8199,30727,63495,129031,262143,7,524295,7,3670023,7864327,16252935,33030151,7,67108871,7,469762055,1006632967,2080374791,4294443015,8589934591,17179869183]
theorem spec_l16Good.tab8:rtab .any (opsOf Try.f53 8) = spec_l16Good.T8:=by kernel_rfl
theorem spec_l16Good.bits8:waitsOk spec_l16Good.T8.2 spec_l16Good.B8 = true:=by kernel_rfl
set_option maxHeartbeats 8000000 in
set_option maxRecDepth 100000 in
theorem spec_l16Good.calls (k:Nat) (a0_0:Int) (a0_1:Int) (A0_2:Option Addr) (c0_2:Nat) (l0_2:List (S48)) (r:Bool) (w:World) (hr0_2:Kd.C k48 w A0_2 l0_2.length l0_2) (hc0_2:l0_2.length ≤ c0_2) (h:spec_l16Good.f k a0_0 a0_1 l0_2 = some r) :
  Calls Try.prog 53 #[.agg #[.int .i64 a0_0,.int .i64 a0_1,.slice A0_2 l0_2.length c0_2]] w fun e w'=>e = .returned (.bool r) ∧ Below w.heap.size w w':=by
 have hu29:=Try.underlying29;have hu48:=Try.underlying48;have HR0_2:=zM hr0_2;have HC0_2:=zM hc0_2;clear hr0_2 hc0_2;have HB:=zM (Below.refl w.heap.size w);have H:((spec_l1In.f a0_0 1 6).bind fun t108=>(if t108 = true then ((spec_l1In.f a0_1 1 6).bind fun t109=>(spec_l16Good.j0 k (!t109) a0_0 a0_1 l0_2)) else (spec_l16Good.j0 k true a0_0 a0_1 l0_2))) = some r:=h
 clear h;have HC2:=zM H;clear H;go_enter Try.func53,Try.ntmps53
 go_upto_region 1 with (first|((with_reducible refine gate_dst (N:=1) rfl ?_);refine zzc 1 #[.int .i64 a0_0,.int .i64 a0_1,.slice A0_2 l0_2.length c0_2] 29 ?_;intro gb107 hg w3 hbox hb;have n0_:=zM (zQ zzh hb);have n1_:=zM (hbox);have n2_:=zM ((by rw [hg];exact (zR zzh):w.heap.size ≤ gb107));have n3_:=zM ((by rw [hg];exact (zR zzh):w.heap.size ≤ gb107));clear HB;have HB:=n0_;have BK107:=n1_;have GW107:=n2_;have GE107:=n3_;clear n0_ n1_ n2_ n3_;clear hb hbox hg))
 (try simp only [Act.put,zT,zU,zV])
 go_cut [13] (fun v13 wc => ∃ (kq:Nat) (x13_1:Bool),v13 = .bool x13_1 ∧ Aside0 (spec_l16Good.j0 kq x13_1 a0_0 a0_1 l0_2 = some r) ∧ Aside0 (kq ≤ k) ∧ Aside0 (wc.heap[gb107]? = some (.cells #[.int .i64 a0_0,.int .i64 a0_1,(.slice A0_2 l0_2.length c0_2)] 29 (0,0))) ∧ Aside0 (Below w.heap.size w wc))
 case first =>
  have H:=HC2.out;clear HC2;replace H:=Option.bind_eq_some_iff.mp H;obtain ⟨t108,A40,H⟩:=H;replace H:(if t108 = true then ((spec_l1In.f a0_1 1 6).bind fun t109=>(spec_l16Good.j0 k (!t109) a0_0 a0_1 l0_2)) else (spec_l16Good.j0 k true a0_0 a0_1 l0_2)) = some r:=H
  have A4:=zM A40;clear A40;by_cases c5:t108 = true
  ·subst c5
   have H1:((spec_l1In.f a0_1 1 6).bind fun t109=>(spec_l16Good.j0 k (!t109) a0_0 a0_1 l0_2)) = some r:=by rw [if_pos rfl] at H;exact H
   clear H;have H:=H1;clear H1;replace H:=Option.bind_eq_some_iff.mp H;obtain ⟨t109,A60,H⟩:=H;replace H:(spec_l16Good.j0 k (!t109) a0_0 a0_1 l0_2) = some r:=H
   have A6:=zM A60;clear A60;have H':=zM H;clear H;have hcz7_0:=zz0 BK107
   have hcz7_1:=zz1 BK107
   have hcz7_2:=zz2 BK107
   have hfz7_0:=blk_frozen BK107.out 0;have hfz7_1:=blk_frozen BK107.out 1;have hfz7_2:=blk_frozen BK107.out 2;go_wp2_with (first|((with_reducible refine gate_callee (f:=80) rfl ?_);refine goesL_ (some 6) rfl rfl Try.func80 (by kernel_rfl) rfl #[.int .i64 a0_0,.int .i64 1,.int .i64 6] rfl (by (try simp only [List.map_toArray,List.map_cons,List.map_nil]);first|done|rfl|(simp only [List.length_drop,List.length_take];rfl)) ?_;(with_reducible refine (spec_l1In.calls a0_0 1 6 true _ A4.out).mono ?_);rintro e w' ⟨rfl,⟨nd,rfl⟩⟩;refine ⟨_,rfl,?_⟩)|(go_at_call 80;(with_reducible refine (spec_l1In.calls a0_1 1 6 t109 _ A6.out).mono ?_);rintro e w' ⟨rfl,⟨nd,rfl⟩⟩))
   go_meet
   case rel=>exact ⟨_,(!t109),(by first|rfl|(simp;done)|(simp [*];done)),H',⟨by first|omega|exact Nat.le_refl _⟩,⟨zzi BK107⟩,⟨zzh⟩⟩
  ·replace c5:=Bool.eq_false_iff.mpr c5
   subst c5;have H1:(spec_l16Good.j0 k true a0_0 a0_1 l0_2) = some r:=by rw [if_neg (show ¬ (false = true) by decide)] at H;exact H
   clear H;have H:=H1;clear H1;have H':=zM H;clear H;have hcz8_0:=zz0 BK107
   have hcz8_1:=zz1 BK107
   have hcz8_2:=zz2 BK107
   have hfz8_0:=blk_frozen BK107.out 0;have hfz8_1:=blk_frozen BK107.out 1;have hfz8_2:=blk_frozen BK107.out 2;go_wp2_with (first|((with_reducible refine gate_callee (f:=80) rfl ?_);refine goesL_ (some 6) rfl rfl Try.func80 (by kernel_rfl) rfl #[.int .i64 a0_0,.int .i64 1,.int .i64 6] rfl (by (try simp only [List.map_toArray,List.map_cons,List.map_nil]);first|done|rfl|(simp only [List.length_drop,List.length_take];rfl)) ?_;(with_reducible refine (spec_l1In.calls a0_0 1 6 false _ A4.out).mono ?_);rintro e w' ⟨rfl,⟨nd,rfl⟩⟩;refine ⟨_,rfl,?_⟩))
   go_meet
   case rel=>exact ⟨_,(true),(by first|rfl|(simp;done)|(simp [*];done)),H',⟨by first|omega|exact Nat.le_refl _⟩,⟨zzi BK107⟩,⟨zzh⟩⟩
 case rest =>
  clear HC2;(try clear p2);(try clear c5);(try clear c8);(try clear hcz7_0);(try clear hcz7_1);(try clear hcz7_2);(try clear hcz8_0);(try clear hcz8_1);(try clear hcz8_2);(try clear hfz7_0);(try clear hfz7_1);(try clear hfz7_2);(try clear hfz8_0);(try clear hfz8_1);(try clear hfz8_2);obtain ⟨kq,x13_1,rfl,HA,HJ1,BK107,HB⟩:=hcut;cases kq with
  | zero=>exact absurd HA.out (by simp [spec_l16Good.j0])
  | succ kj1 =>
   have H:=HA.out;clear HA;simp only [spec_l16Good.j0] at H
   by_cases c9:x13_1 = true
   ·subst c9
    have H1:(some false) = some r:=by rw [if_pos rfl] at H;exact H
    clear H;have H:=H1;clear H1;obtain rfl:=Option.some.inj H;go_wp2
    go_ret
    exact ⟨by first|rfl|(simp [errW_none,errW_some] <;> rfl)|(simp [*,errW_none,errW_some] <;> rfl),zzh⟩
   ·replace c9:=Bool.eq_false_iff.mpr c9
    subst c9;have H1:(spec_l16Good.l0 kj1 0 a0_0 a0_1 l0_2) = some r:=by rw [if_neg (show ¬ (false = true) by decide)] at H;exact H
    clear H;have H:=H1;clear H1;have H':=zM H;clear H;go_wp2
    go_loopg [3] kj1 (fun kq v3 w' => ∃ (x3_2:Int),v3 = .int .i64 x3_2 ∧ Aside0 (spec_l16Good.l0 kq x3_2 a0_0 a0_1 l0_2 = some r) ∧ Aside0 (kq ≤ kj1) ∧ Aside0 (w'.heap[gb107]? = some (.cells #[.int .i64 a0_0,.int .i64 a0_1,(.slice A0_2 l0_2.length c0_2)] 29 (0,0))) ∧ Aside0 (Below w.heap.size w w'))
    case atStart=>exact ⟨(0),(by first|rfl|(simp;done)|(simp [*];done)),H',⟨Nat.le_refl _⟩,⟨zzi BK107⟩,⟨zzh⟩⟩
    case round =>
     clear H';(try clear p2);(try clear c5);(try clear c8);(try clear c9);(try clear hcz7_0);(try clear hcz7_1);(try clear hcz7_2);(try clear hcz8_0);(try clear hcz8_1);(try clear hcz8_2);(try clear hfz7_0);(try clear hfz7_1);(try clear hfz7_2);(try clear hfz8_0);(try clear hfz8_1);(try clear hfz8_2);(try clear p2);obtain ⟨x3_2,rfl,HA,HK2,BK107,HB⟩:=hrel;cases gk with
     | zero=>exact absurd HA.out (by simp [spec_l16Good.l0])
     | succ k2 =>
      have H:=HA.out;clear HA;simp only [spec_l16Good.l0] at H
      by_cases c10:x3_2 < (l0_2.length:Int)
      ·rw [if_pos c10] at H
       have c10b0:decide (x3_2 < (l0_2.length:Int)) = true:=decide_eq_true c10
       clear c10;by_cases c11:0 ≤ x3_2
       ·rw [if_pos c11] at H
        have c11b0:decide (0 ≤ x3_2) = true:=decide_eq_true c11
        clear c11;replace H:=Option.bind_eq_some_iff.mp H;obtain ⟨t111,A120,H⟩:=H;replace H:(if t111 = true then (if x3_2 > 0 then (if 0 ≤ (wrap64 (x3_2 - 1)) then (if (wrap64 (x3_2 - 1)) < (l0_2.length:Int) then (if (wrap64 ((wrap64 (((rd_T48 l0_2 (wrap64 (x3_2 - 1))).f1) * 10)) + ((rd_T48 l0_2 (wrap64 (x3_2 - 1))).f0))) ≥ (wrap64 ((wrap64 (((rd_T48 l0_2 x3_2).f1) * 10)) + ((rd_T48 l0_2 x3_2).f0))) then (some false) else (spec_l16Good.l0 k2 (wrap64 (x3_2 + 1)) a0_0 a0_1 l0_2)) else (none)) else (none)) else (spec_l16Good.l0 k2 (wrap64 (x3_2 + 1)) a0_0 a0_1 l0_2)) else (some false)) = some r:=H
        have A12:=zM A120;clear A120;by_cases c13:t111 = true
        ·subst c13
         have H1:(if x3_2 > 0 then (if 0 ≤ (wrap64 (x3_2 - 1)) then (if (wrap64 (x3_2 - 1)) < (l0_2.length:Int) then (if (wrap64 ((wrap64 (((rd_T48 l0_2 (wrap64 (x3_2 - 1))).f1) * 10)) + ((rd_T48 l0_2 (wrap64 (x3_2 - 1))).f0))) ≥ (wrap64 ((wrap64 (((rd_T48 l0_2 x3_2).f1) * 10)) + ((rd_T48 l0_2 x3_2).f0))) then (some false) else (spec_l16Good.l0 k2 (wrap64 (x3_2 + 1)) a0_0 a0_1 l0_2)) else (none)) else (none)) else (spec_l16Good.l0 k2 (wrap64 (x3_2 + 1)) a0_0 a0_1 l0_2)) = some r:=by rw [if_pos rfl] at H;exact H
         clear H;have H:=H1;clear H1;by_cases c14:x3_2 > 0
         ·rw [if_pos c14] at H
          have c14b0:decide (0 < x3_2) = true:=decide_eq_true c14
          clear c14;obtain ⟨ji15,hji15⟩ : ∃ j_:Int,(wrap64 (x3_2 - 1)) = j_:=⟨_,rfl⟩
          replace H:(if 0 ≤ (ji15) then (if (ji15) < (l0_2.length:Int) then (if (wrap64 ((wrap64 (((rd_T48 l0_2 (ji15)).f1) * 10)) + ((rd_T48 l0_2 (ji15)).f0))) ≥ (wrap64 ((wrap64 (((rd_T48 l0_2 x3_2).f1) * 10)) + ((rd_T48 l0_2 x3_2).f0))) then (some false) else (spec_l16Good.l0 k2 (wrap64 (x3_2 + 1)) a0_0 a0_1 l0_2)) else (none)) else (none)) = some r:=by first|(rw [hji15] at H;exact H)|(simp only [hji15] at H ⊢;exact H)
          (try rw [hji15] at A12)
          have hji15w:(IntKind.i64.wrap (x3_2 - 1)) = ji15:=(i64_w _).trans hji15
          by_cases c16:0 ≤ (ji15)
          ·rw [if_pos c16] at H
           have c16b0:decide (0 ≤ (ji15)) = true:=decide_eq_true c16
           clear c16;by_cases c17:(ji15) < (l0_2.length:Int)
           ·rw [if_pos c17] at H
            have c17b0:decide ((ji15) < (l0_2.length:Int)) = true:=decide_eq_true c17
            clear c17;by_cases c18:(wrap64 ((wrap64 (((rd_T48 l0_2 (ji15)).f1) * 10)) + ((rd_T48 l0_2 (ji15)).f0))) ≥ (wrap64 ((wrap64 (((rd_T48 l0_2 x3_2).f1) * 10)) + ((rd_T48 l0_2 x3_2).f0)))
            ·rw [if_pos c18] at H
             have c18b0:decide ((wrap64 ((wrap64 (((rd_T48 l0_2 x3_2).f1) * 10)) + ((rd_T48 l0_2 x3_2).f0))) ≤ (wrap64 ((wrap64 (((rd_T48 l0_2 (ji15)).f1) * 10)) + ((rd_T48 l0_2 (ji15)).f0)))) = true:=decide_eq_true c18
             clear c18;obtain rfl:=Option.some.inj H;have hcz19_0:=zz0 BK107
             have hcz19_1:=zz1 BK107
             have hcz19_2:=zz2 BK107
             have hfz19_0:=blk_frozen BK107.out 0;have hfz19_1:=blk_frozen BK107.out 1;have hfz19_2:=blk_frozen BK107.out 2;try go_wp2
             have n0_:=zM (zK BK107.out);have n1_:=zM (zF HB.out);clear BK107;clear HB;have BK107:=n0_;have HB:=n1_;clear n0_ n1_;have p110:0 ≤ (x3_2:Int):=zzd
             have q110:x3_2 < (l0_2.length:Int):=zzd
             obtain ⟨ad110,e110,hx110_0,hx110_1⟩:=at_T48 HR0_2.out x3_2 p110 q110;have hw110_1:=hx110_1;have hw110_0:=hx110_0;cases e110
             replace hx110_0:=zS HB.out hx110_0;replace hx110_1:=zS HB.out hx110_1;replace p110:=eq_true p110;replace q110:=eq_true q110;refine start_ (n:=8) (S:=fun w'=>w'.cell? ⟨gb107,0,none⟩ = some (.int .i64 a0_0) ∧ w'.cell? ⟨gb107,1,none⟩ = some (.int .i64 a0_1) ∧ w'.cell? ⟨gb107,2,none⟩ = some (.slice (some ad110) l0_2.length c0_2) ∧ w'.cell? (ad110.add ((x3_2).toNat * 2)) = some (.int .i64 ((rd_T48 l0_2 x3_2).f0)) ∧ w'.cell? ⟨(ad110.add ((x3_2).toNat * 2)).block,(ad110.add ((x3_2).toNat * 2)).off + 1,none⟩ = some (.int .i64 ((rd_T48 l0_2 x3_2).f1))) (ds:=[]) #[false,false,false,false,false,false,false,false] (by kernel_rfl) rfl rfl ⟨zz0 BK107,zz1 BK107,zz2 BK107,(zS HB.out hw110_0 :),(zS HB.out hw110_1 :)⟩ (fun hHeld=>?_);refine with_tabW spec_l16Good.tab6 spec_l16Good.bits6 (fun HT_ HW_=>?_)
             generalize wr.drew = w20 at BK107 HB hx110_0 hx110_1 hHeld ⊢
             refine zzp 1 22 (zzb 8 2) ?_ (hc:=zzx HT_);refine zzp 3 24 (zzb 8 10) ?_ (hc:=zzx HT_)
             refine zzt 0 21 (zzb 8 11) hHeld ?_ (hc:=zzy HT_ HW_) (hy:=by rintro w' ⟨s0,s1,s2,s3,s4⟩;go_simp;with_reducible rfl)
             refine zzt 2 23 (zzb 8 15) hHeld ?_ (hc:=zzy HT_ HW_) (hy:=by rintro w' ⟨s0,s1,s2,s3,s4⟩;go_simp;with_reducible rfl);refine zzp 4 25 (zzb 8 31) ?_ (hc:=zzx HT_)
             refine zzt 5 26 (zzb 8 63) hHeld ?_ (hc:=zzy HT_ HW_) (hy:=by rintro w' ⟨s0,s1,s2,s3,s4⟩;go_simp;with_reducible rfl)
             refine zzo 6 27 (zzb 8 127) (hc:=zzw HT_) (fun K hK=>?_)
             refine zzf Try.func81 #[.agg #[.int .i64 a0_0,.int .i64 a0_1,.slice (some ad110) l0_2.length c0_2],.agg #[.int .i64 ((rd_T48 l0_2 x3_2).f0),.int .i64 ((rd_T48 l0_2 x3_2).f1)]] ?_
             with_reducible refine (spec_l16Inside.calls a0_0 a0_1 _ _ l0_2 ((rd_T48 l0_2 x3_2).f0) ((rd_T48 l0_2 x3_2).f1) true _ ?side1 ?side2 A12.out).mono ?_
             (case side1=>repeat (first|exact (zO HR0_2.out HB.out)|(with_reducible first|refine zG ?_ _|refine zH ?_ _|refine zI ?_)))
             (case side2=>exact HC0_2.out)
             rintro e w21 ⟨rfl,hb⟩
             refine ⟨_,rfl,?_⟩
             have n0_:=zM (blk_below (g:=gb107) (o := .cells #[.int .i64 a0_0,.int .i64 a0_1,.slice (some ad110) l0_2.length c0_2] 29 (0,0)) (zzi BK107) hb)
             have n1_:=zM (zQ zzh hb)
             clear BK107;clear HB;have BK107:=n0_;have HB:=n1_;clear n0_ n1_;(try clear hb)
             (try clear hb2)
             (try clear hk)
             (try clear hi)
             refine hK.out _ _ ⟨zz0 BK107,zz1 BK107,zz2 BK107,(zS HB.out hw110_0 :),(zS HB.out hw110_1 :)⟩ (fun hHeld=>?_)
             clear hK K;refine zzn 27 ?_;refine zzp 7 28 (zzb 8 255) ?_ (hc:=zzx HT_)
             refine done_ (done_of HT_.out (by kernel_rfl)) ?_
             try go_wp2
             have n0_:=zM (zK BK107.out);have n1_:=zM (zF HB.out);clear BK107;clear HB;have BK107:=n0_;have HB:=n1_;clear n0_ n1_;have p112:0 ≤ ((ji15):Int):=zzd
             have q112:(ji15) < (l0_2.length:Int):=zzd
             obtain ⟨ad112,e112,hx112_0,hx112_1⟩:=at_T48 HR0_2.out (ji15) p112 q112;have hw112_1:=hx112_1;have hw112_0:=hx112_0;obtain rfl:ad110 = ad112:=(by injection e112)
             replace hx112_0:=zS HB.out hx112_0;replace hx112_1:=zS HB.out hx112_1;replace p112:=eq_true p112;replace q112:=eq_true q112;have p113:0 ≤ ((ji15):Int):=zzd
             have q113:(ji15) < (l0_2.length:Int):=zzd
             obtain ⟨ad113,e113,hx113_0,hx113_1⟩:=at_T48 HR0_2.out (ji15) p113 q113;have hw113_1:=hx113_1;have hw113_0:=hx113_0;obtain rfl:ad110 = ad113:=(by injection e113)
             replace hx113_0:=zS HB.out hx113_0;replace hx113_1:=zS HB.out hx113_1;replace p113:=eq_true p113;replace q113:=eq_true q113;have p114:0 ≤ (x3_2:Int):=zzd
             have q114:x3_2 < (l0_2.length:Int):=zzd
             obtain ⟨ad114,e114,hx114_0,hx114_1⟩:=at_T48 HR0_2.out x3_2 p114 q114;have hw114_1:=hx114_1;have hw114_0:=hx114_0;obtain rfl:ad110 = ad114:=(by injection e114)
             replace hx114_0:=zS HB.out hx114_0;replace hx114_1:=zS HB.out hx114_1;replace p114:=eq_true p114;replace q114:=eq_true q114;have p115:0 ≤ (x3_2:Int):=zzd
             have q115:x3_2 < (l0_2.length:Int):=zzd
             obtain ⟨ad115,e115,hx115_0,hx115_1⟩:=at_T48 HR0_2.out x3_2 p115 q115;have hw115_1:=hx115_1;have hw115_0:=hx115_0;obtain rfl:ad110 = ad115:=(by injection e115)
             replace hx115_0:=zS HB.out hx115_0;replace hx115_1:=zS HB.out hx115_1;replace p115:=eq_true p115;replace q115:=eq_true q115;refine start_ (n:=35) (S:=fun w'=>w'.cell? ⟨gb107,0,none⟩ = some (.int .i64 a0_0) ∧ w'.cell? ⟨gb107,1,none⟩ = some (.int .i64 a0_1) ∧ w'.cell? ⟨gb107,2,none⟩ = some (.slice (some ad110) l0_2.length c0_2) ∧ w'.cell? (ad110.add (((ji15)).toNat * 2)) = some (.int .i64 ((rd_T48 l0_2 (ji15)).f0)) ∧ w'.cell? ⟨(ad110.add (((ji15)).toNat * 2)).block,(ad110.add (((ji15)).toNat * 2)).off + 1,none⟩ = some (.int .i64 ((rd_T48 l0_2 (ji15)).f1)) ∧ w'.cell? (ad110.add (((ji15)).toNat * 2)) = some (.int .i64 ((rd_T48 l0_2 (ji15)).f0)) ∧ w'.cell? ⟨(ad110.add (((ji15)).toNat * 2)).block,(ad110.add (((ji15)).toNat * 2)).off + 1,none⟩ = some (.int .i64 ((rd_T48 l0_2 (ji15)).f1)) ∧ w'.cell? (ad110.add ((x3_2).toNat * 2)) = some (.int .i64 ((rd_T48 l0_2 x3_2).f0)) ∧ w'.cell? ⟨(ad110.add ((x3_2).toNat * 2)).block,(ad110.add ((x3_2).toNat * 2)).off + 1,none⟩ = some (.int .i64 ((rd_T48 l0_2 x3_2).f1)) ∧ w'.cell? (ad110.add ((x3_2).toNat * 2)) = some (.int .i64 ((rd_T48 l0_2 x3_2).f0)) ∧ w'.cell? ⟨(ad110.add ((x3_2).toNat * 2)).block,(ad110.add ((x3_2).toNat * 2)).off + 1,none⟩ = some (.int .i64 ((rd_T48 l0_2 x3_2).f1))) (ds:=[]) #[false,false,false,false,false,false,false,false,false,false,false,false,false,false,false,false,false,false,false,false,false,false,false,false,false,false,false,false,false,false,false,false,false,false,false] (by kernel_rfl) rfl rfl ⟨zz0 BK107,zz1 BK107,zz2 BK107,(zS HB.out hw112_0 :),(zS HB.out hw112_1 :),(zS HB.out hw113_0 :),(zS HB.out hw113_1 :),(zS HB.out hw114_0 :),(zS HB.out hw114_1 :),(zS HB.out hw115_0 :),(zS HB.out hw115_1 :)⟩ (fun hHeld=>?_);refine with_tabW spec_l16Good.tab8 spec_l16Good.bits8 (fun HT_ HW_=>?_)
             generalize w21.drew = w22 at BK107 HB hx112_0 hx112_1 hx113_0 hx113_1 hx114_0 hx114_1 hx115_0 hx115_1 hHeld ⊢
             refine zzp 0 29 (zzb 35 1) ?_ (hc:=zzx HT_);refine zzp 1 30 (zzb 35 3) ?_ (hc:=zzx HT_);refine zzp 2 31 (zzb 35 7) ?_ (hc:=zzx HT_);refine zzp 3 32 (zzb 35 15) ?_ (hc:=zzx HT_);refine zzp 5 34 (zzb 35 47) ?_ (hc:=zzx HT_);refine zzp 6 35 (zzb 35 111) ?_ (hc:=zzx HT_);refine zzp 11 40 (zzb 35 2159) ?_ (hc:=zzx HT_);refine zzp 13 42 (zzb 35 10351) ?_ (hc:=zzx HT_);refine zzp 14 43 (zzb 35 26735) ?_ (hc:=zzx HT_);refine zzp 19 48 (zzb 35 551023) ?_ (hc:=zzx HT_);refine zzp 21 50 (zzb 35 2648175) ?_ (hc:=zzx HT_);refine zzp 26 55 (zzb 35 69757039) ?_ (hc:=zzx HT_);refine zzp 28 57 (zzb 35 338192495) ?_ (hc:=zzx HT_)
             refine zzt 4 33 (zzb 35 338192511) hHeld ?_ (hc:=zzy HT_ HW_) (hy:=by rintro w' ⟨s0,s1,s2,s3,s4,s5,s6,s7,s8,s9,s10⟩;go_simp;with_reducible rfl);refine zzp 7 36 (zzb 35 338192639) ?_ (hc:=zzx HT_);refine zzp 8 37 (zzb 35 338192895) ?_ (hc:=zzx HT_)
             refine zzt 9 38 (zzb 35 338193407) hHeld ?_ (hc:=zzy HT_ HW_) (hy:=by rintro w' ⟨s0,s1,s2,s3,s4,s5,s6,s7,s8,s9,s10⟩;go_simp;with_reducible rfl);refine zzp 10 39 (zzb 35 338194431) ?_ (hc:=zzx HT_)
             refine zzt 12 41 (zzb 35 338198527) hHeld ?_ (hc:=zzy HT_ HW_) (hy:=by rintro w' ⟨s0,s1,s2,s3,s4,s5,s6,s7,s8,s9,s10⟩;go_simp;with_reducible rfl);refine zzp 15 44 (zzb 35 338231295) ?_ (hc:=zzx HT_);refine zzp 16 45 (zzb 35 338296831) ?_ (hc:=zzx HT_)
             refine zzt 17 46 (zzb 35 338427903) hHeld ?_ (hc:=zzy HT_ HW_) (hy:=by rintro w' ⟨s0,s1,s2,s3,s4,s5,s6,s7,s8,s9,s10⟩;go_simp;with_reducible rfl);refine zzp 18 47 (zzb 35 338690047) ?_ (hc:=zzx HT_)
             refine zzt 20 49 (zzb 35 339738623) hHeld ?_ (hc:=zzy HT_ HW_) (hy:=by rintro w' ⟨s0,s1,s2,s3,s4,s5,s6,s7,s8,s9,s10⟩;go_simp;with_reducible rfl);refine zzp 22 51 (zzb 35 343932927) ?_ (hc:=zzx HT_);refine zzp 23 52 (zzb 35 352321535) ?_ (hc:=zzx HT_)
             refine zzt 24 53 (zzb 35 369098751) hHeld ?_ (hc:=zzy HT_ HW_) (hy:=by rintro w' ⟨s0,s1,s2,s3,s4,s5,s6,s7,s8,s9,s10⟩;go_simp;with_reducible rfl);refine zzp 25 54 (zzb 35 402653183) ?_ (hc:=zzx HT_)
             refine zzt 27 56 (zzb 35 536870911) hHeld ?_ (hc:=zzy HT_ HW_) (hy:=by rintro w' ⟨s0,s1,s2,s3,s4,s5,s6,s7,s8,s9,s10⟩;go_simp;with_reducible rfl);refine zzp 29 58 (zzb 35 1073741823) ?_ (hc:=zzx HT_);refine zzp 30 59 (zzb 35 2147483647) ?_ (hc:=zzx HT_)
             refine zzt 31 60 (zzb 35 4294967295) hHeld ?_ (hc:=zzy HT_ HW_) (hy:=by rintro w' ⟨s0,s1,s2,s3,s4,s5,s6,s7,s8,s9,s10⟩;go_simp;with_reducible rfl);refine zzp 32 61 (zzb 35 8589934591) ?_ (hc:=zzx HT_);refine zzp 33 62 (zzb 35 17179869183) ?_ (hc:=zzx HT_);refine zzp 34 63 (zzb 35 34359738367) ?_ (hc:=zzx HT_)
             refine done_ (done_of HT_.out (by kernel_rfl)) ?_
             try go_wp2
             go_ret
             exact ⟨by first|rfl|(simp [errW_none,errW_some] <;> rfl)|(simp only [← hji15];first|rfl|(simp [errW_none,errW_some] <;> rfl))|(simp [*,errW_none,errW_some] <;> rfl),zzh⟩
            ·rw [if_neg c18] at H
             have c18b0:decide ((wrap64 ((wrap64 (((rd_T48 l0_2 x3_2).f1) * 10)) + ((rd_T48 l0_2 x3_2).f0))) ≤ (wrap64 ((wrap64 (((rd_T48 l0_2 (ji15)).f1) * 10)) + ((rd_T48 l0_2 (ji15)).f0)))) = false:=decide_eq_false c18
             clear c18;have H':=zM H;clear H;have hcz23_0:=zz0 BK107
             have hcz23_1:=zz1 BK107
             have hcz23_2:=zz2 BK107
             have hfz23_0:=blk_frozen BK107.out 0;have hfz23_1:=blk_frozen BK107.out 1;have hfz23_2:=blk_frozen BK107.out 2;try go_wp2
             have n0_:=zM (zK BK107.out);have n1_:=zM (zF HB.out);clear BK107;clear HB;have BK107:=n0_;have HB:=n1_;clear n0_ n1_;have p110:0 ≤ (x3_2:Int):=zzd
             have q110:x3_2 < (l0_2.length:Int):=zzd
             obtain ⟨ad110,e110,hx110_0,hx110_1⟩:=at_T48 HR0_2.out x3_2 p110 q110;have hw110_1:=hx110_1;have hw110_0:=hx110_0;cases e110
             replace hx110_0:=zS HB.out hx110_0;replace hx110_1:=zS HB.out hx110_1;replace p110:=eq_true p110;replace q110:=eq_true q110;refine start_ (n:=8) (S:=fun w'=>w'.cell? ⟨gb107,0,none⟩ = some (.int .i64 a0_0) ∧ w'.cell? ⟨gb107,1,none⟩ = some (.int .i64 a0_1) ∧ w'.cell? ⟨gb107,2,none⟩ = some (.slice (some ad110) l0_2.length c0_2) ∧ w'.cell? (ad110.add ((x3_2).toNat * 2)) = some (.int .i64 ((rd_T48 l0_2 x3_2).f0)) ∧ w'.cell? ⟨(ad110.add ((x3_2).toNat * 2)).block,(ad110.add ((x3_2).toNat * 2)).off + 1,none⟩ = some (.int .i64 ((rd_T48 l0_2 x3_2).f1))) (ds:=[]) #[false,false,false,false,false,false,false,false] (by kernel_rfl) rfl rfl ⟨zz0 BK107,zz1 BK107,zz2 BK107,(zS HB.out hw110_0 :),(zS HB.out hw110_1 :)⟩ (fun hHeld=>?_);refine with_tabW spec_l16Good.tab6 spec_l16Good.bits6 (fun HT_ HW_=>?_)
             generalize wr.drew = w24 at BK107 HB hx110_0 hx110_1 hHeld ⊢
             refine zzp 1 22 (zzb 8 2) ?_ (hc:=zzx HT_);refine zzp 3 24 (zzb 8 10) ?_ (hc:=zzx HT_)
             refine zzt 0 21 (zzb 8 11) hHeld ?_ (hc:=zzy HT_ HW_) (hy:=by rintro w' ⟨s0,s1,s2,s3,s4⟩;go_simp;with_reducible rfl)
             refine zzt 2 23 (zzb 8 15) hHeld ?_ (hc:=zzy HT_ HW_) (hy:=by rintro w' ⟨s0,s1,s2,s3,s4⟩;go_simp;with_reducible rfl);refine zzp 4 25 (zzb 8 31) ?_ (hc:=zzx HT_)
             refine zzt 5 26 (zzb 8 63) hHeld ?_ (hc:=zzy HT_ HW_) (hy:=by rintro w' ⟨s0,s1,s2,s3,s4⟩;go_simp;with_reducible rfl)
             refine zzo 6 27 (zzb 8 127) (hc:=zzw HT_) (fun K hK=>?_)
             refine zzf Try.func81 #[.agg #[.int .i64 a0_0,.int .i64 a0_1,.slice (some ad110) l0_2.length c0_2],.agg #[.int .i64 ((rd_T48 l0_2 x3_2).f0),.int .i64 ((rd_T48 l0_2 x3_2).f1)]] ?_
             with_reducible refine (spec_l16Inside.calls a0_0 a0_1 _ _ l0_2 ((rd_T48 l0_2 x3_2).f0) ((rd_T48 l0_2 x3_2).f1) true _ ?side1 ?side2 A12.out).mono ?_
             (case side1=>repeat (first|exact (zO HR0_2.out HB.out)|(with_reducible first|refine zG ?_ _|refine zH ?_ _|refine zI ?_)))
             (case side2=>exact HC0_2.out)
             rintro e w25 ⟨rfl,hb⟩
             refine ⟨_,rfl,?_⟩
             have n0_:=zM (blk_below (g:=gb107) (o := .cells #[.int .i64 a0_0,.int .i64 a0_1,.slice (some ad110) l0_2.length c0_2] 29 (0,0)) (zzi BK107) hb)
             have n1_:=zM (zQ zzh hb)
             clear BK107;clear HB;have BK107:=n0_;have HB:=n1_;clear n0_ n1_;(try clear hb)
             (try clear hb2)
             (try clear hk)
             (try clear hi)
             refine hK.out _ _ ⟨zz0 BK107,zz1 BK107,zz2 BK107,(zS HB.out hw110_0 :),(zS HB.out hw110_1 :)⟩ (fun hHeld=>?_)
             clear hK K;refine zzn 27 ?_;refine zzp 7 28 (zzb 8 255) ?_ (hc:=zzx HT_)
             refine done_ (done_of HT_.out (by kernel_rfl)) ?_
             try go_wp2
             have n0_:=zM (zK BK107.out);have n1_:=zM (zF HB.out);clear BK107;clear HB;have BK107:=n0_;have HB:=n1_;clear n0_ n1_;have p112:0 ≤ ((ji15):Int):=zzd
             have q112:(ji15) < (l0_2.length:Int):=zzd
             obtain ⟨ad112,e112,hx112_0,hx112_1⟩:=at_T48 HR0_2.out (ji15) p112 q112;have hw112_1:=hx112_1;have hw112_0:=hx112_0;obtain rfl:ad110 = ad112:=(by injection e112)
             replace hx112_0:=zS HB.out hx112_0;replace hx112_1:=zS HB.out hx112_1;replace p112:=eq_true p112;replace q112:=eq_true q112;have p113:0 ≤ ((ji15):Int):=zzd
             have q113:(ji15) < (l0_2.length:Int):=zzd
             obtain ⟨ad113,e113,hx113_0,hx113_1⟩:=at_T48 HR0_2.out (ji15) p113 q113;have hw113_1:=hx113_1;have hw113_0:=hx113_0;obtain rfl:ad110 = ad113:=(by injection e113)
             replace hx113_0:=zS HB.out hx113_0;replace hx113_1:=zS HB.out hx113_1;replace p113:=eq_true p113;replace q113:=eq_true q113;have p114:0 ≤ (x3_2:Int):=zzd
             have q114:x3_2 < (l0_2.length:Int):=zzd
             obtain ⟨ad114,e114,hx114_0,hx114_1⟩:=at_T48 HR0_2.out x3_2 p114 q114;have hw114_1:=hx114_1;have hw114_0:=hx114_0;obtain rfl:ad110 = ad114:=(by injection e114)
             replace hx114_0:=zS HB.out hx114_0;replace hx114_1:=zS HB.out hx114_1;replace p114:=eq_true p114;replace q114:=eq_true q114;have p115:0 ≤ (x3_2:Int):=zzd
             have q115:x3_2 < (l0_2.length:Int):=zzd
             obtain ⟨ad115,e115,hx115_0,hx115_1⟩:=at_T48 HR0_2.out x3_2 p115 q115;have hw115_1:=hx115_1;have hw115_0:=hx115_0;obtain rfl:ad110 = ad115:=(by injection e115)
             replace hx115_0:=zS HB.out hx115_0;replace hx115_1:=zS HB.out hx115_1;replace p115:=eq_true p115;replace q115:=eq_true q115;refine start_ (n:=35) (S:=fun w'=>w'.cell? ⟨gb107,0,none⟩ = some (.int .i64 a0_0) ∧ w'.cell? ⟨gb107,1,none⟩ = some (.int .i64 a0_1) ∧ w'.cell? ⟨gb107,2,none⟩ = some (.slice (some ad110) l0_2.length c0_2) ∧ w'.cell? (ad110.add (((ji15)).toNat * 2)) = some (.int .i64 ((rd_T48 l0_2 (ji15)).f0)) ∧ w'.cell? ⟨(ad110.add (((ji15)).toNat * 2)).block,(ad110.add (((ji15)).toNat * 2)).off + 1,none⟩ = some (.int .i64 ((rd_T48 l0_2 (ji15)).f1)) ∧ w'.cell? (ad110.add (((ji15)).toNat * 2)) = some (.int .i64 ((rd_T48 l0_2 (ji15)).f0)) ∧ w'.cell? ⟨(ad110.add (((ji15)).toNat * 2)).block,(ad110.add (((ji15)).toNat * 2)).off + 1,none⟩ = some (.int .i64 ((rd_T48 l0_2 (ji15)).f1)) ∧ w'.cell? (ad110.add ((x3_2).toNat * 2)) = some (.int .i64 ((rd_T48 l0_2 x3_2).f0)) ∧ w'.cell? ⟨(ad110.add ((x3_2).toNat * 2)).block,(ad110.add ((x3_2).toNat * 2)).off + 1,none⟩ = some (.int .i64 ((rd_T48 l0_2 x3_2).f1)) ∧ w'.cell? (ad110.add ((x3_2).toNat * 2)) = some (.int .i64 ((rd_T48 l0_2 x3_2).f0)) ∧ w'.cell? ⟨(ad110.add ((x3_2).toNat * 2)).block,(ad110.add ((x3_2).toNat * 2)).off + 1,none⟩ = some (.int .i64 ((rd_T48 l0_2 x3_2).f1))) (ds:=[]) #[false,false,false,false,false,false,false,false,false,false,false,false,false,false,false,false,false,false,false,false,false,false,false,false,false,false,false,false,false,false,false,false,false,false,false] (by kernel_rfl) rfl rfl ⟨zz0 BK107,zz1 BK107,zz2 BK107,(zS HB.out hw112_0 :),(zS HB.out hw112_1 :),(zS HB.out hw113_0 :),(zS HB.out hw113_1 :),(zS HB.out hw114_0 :),(zS HB.out hw114_1 :),(zS HB.out hw115_0 :),(zS HB.out hw115_1 :)⟩ (fun hHeld=>?_);refine with_tabW spec_l16Good.tab8 spec_l16Good.bits8 (fun HT_ HW_=>?_)
             generalize w25.drew = w26 at BK107 HB hx112_0 hx112_1 hx113_0 hx113_1 hx114_0 hx114_1 hx115_0 hx115_1 hHeld ⊢
             refine zzp 0 29 (zzb 35 1) ?_ (hc:=zzx HT_);refine zzp 1 30 (zzb 35 3) ?_ (hc:=zzx HT_);refine zzp 2 31 (zzb 35 7) ?_ (hc:=zzx HT_);refine zzp 3 32 (zzb 35 15) ?_ (hc:=zzx HT_);refine zzp 5 34 (zzb 35 47) ?_ (hc:=zzx HT_);refine zzp 6 35 (zzb 35 111) ?_ (hc:=zzx HT_);refine zzp 11 40 (zzb 35 2159) ?_ (hc:=zzx HT_);refine zzp 13 42 (zzb 35 10351) ?_ (hc:=zzx HT_);refine zzp 14 43 (zzb 35 26735) ?_ (hc:=zzx HT_);refine zzp 19 48 (zzb 35 551023) ?_ (hc:=zzx HT_);refine zzp 21 50 (zzb 35 2648175) ?_ (hc:=zzx HT_);refine zzp 26 55 (zzb 35 69757039) ?_ (hc:=zzx HT_);refine zzp 28 57 (zzb 35 338192495) ?_ (hc:=zzx HT_)
             refine zzt 4 33 (zzb 35 338192511) hHeld ?_ (hc:=zzy HT_ HW_) (hy:=by rintro w' ⟨s0,s1,s2,s3,s4,s5,s6,s7,s8,s9,s10⟩;go_simp;with_reducible rfl);refine zzp 7 36 (zzb 35 338192639) ?_ (hc:=zzx HT_);refine zzp 8 37 (zzb 35 338192895) ?_ (hc:=zzx HT_)
             refine zzt 9 38 (zzb 35 338193407) hHeld ?_ (hc:=zzy HT_ HW_) (hy:=by rintro w' ⟨s0,s1,s2,s3,s4,s5,s6,s7,s8,s9,s10⟩;go_simp;with_reducible rfl);refine zzp 10 39 (zzb 35 338194431) ?_ (hc:=zzx HT_)
             refine zzt 12 41 (zzb 35 338198527) hHeld ?_ (hc:=zzy HT_ HW_) (hy:=by rintro w' ⟨s0,s1,s2,s3,s4,s5,s6,s7,s8,s9,s10⟩;go_simp;with_reducible rfl);refine zzp 15 44 (zzb 35 338231295) ?_ (hc:=zzx HT_);refine zzp 16 45 (zzb 35 338296831) ?_ (hc:=zzx HT_)
             refine zzt 17 46 (zzb 35 338427903) hHeld ?_ (hc:=zzy HT_ HW_) (hy:=by rintro w' ⟨s0,s1,s2,s3,s4,s5,s6,s7,s8,s9,s10⟩;go_simp;with_reducible rfl);refine zzp 18 47 (zzb 35 338690047) ?_ (hc:=zzx HT_)
             refine zzt 20 49 (zzb 35 339738623) hHeld ?_ (hc:=zzy HT_ HW_) (hy:=by rintro w' ⟨s0,s1,s2,s3,s4,s5,s6,s7,s8,s9,s10⟩;go_simp;with_reducible rfl);refine zzp 22 51 (zzb 35 343932927) ?_ (hc:=zzx HT_);refine zzp 23 52 (zzb 35 352321535) ?_ (hc:=zzx HT_)
             refine zzt 24 53 (zzb 35 369098751) hHeld ?_ (hc:=zzy HT_ HW_) (hy:=by rintro w' ⟨s0,s1,s2,s3,s4,s5,s6,s7,s8,s9,s10⟩;go_simp;with_reducible rfl);refine zzp 25 54 (zzb 35 402653183) ?_ (hc:=zzx HT_)
             refine zzt 27 56 (zzb 35 536870911) hHeld ?_ (hc:=zzy HT_ HW_) (hy:=by rintro w' ⟨s0,s1,s2,s3,s4,s5,s6,s7,s8,s9,s10⟩;go_simp;with_reducible rfl);refine zzp 29 58 (zzb 35 1073741823) ?_ (hc:=zzx HT_);refine zzp 30 59 (zzb 35 2147483647) ?_ (hc:=zzx HT_)
             refine zzt 31 60 (zzb 35 4294967295) hHeld ?_ (hc:=zzy HT_ HW_) (hy:=by rintro w' ⟨s0,s1,s2,s3,s4,s5,s6,s7,s8,s9,s10⟩;go_simp;with_reducible rfl);refine zzp 32 61 (zzb 35 8589934591) ?_ (hc:=zzx HT_);refine zzp 33 62 (zzb 35 17179869183) ?_ (hc:=zzx HT_);refine zzp 34 63 (zzb 35 34359738367) ?_ (hc:=zzx HT_)
             refine done_ (done_of HT_.out (by kernel_rfl)) ?_
             try go_wp2
             go_roundg k2
             case measure=>have:=HJ1.out;have:=HK2.out;omega
             case rel=>exact ⟨(wrap64 (x3_2 + 1)),(by first|rfl|(simp;done)|(simp [*];done)),H',⟨by have:=HJ1.out;have:=HK2.out;omega⟩,⟨zzi BK107⟩,⟨zzh⟩⟩
           ·rw [if_neg c17] at H
            exact absurd H (by simp)
          ·rw [if_neg c16] at H
           exact absurd H (by simp)
         ·rw [if_neg c14] at H
          have c14b0:decide (0 < x3_2) = false:=decide_eq_false c14
          clear c14;have H':=zM H;clear H;have hcz27_0:=zz0 BK107
          have hcz27_1:=zz1 BK107
          have hcz27_2:=zz2 BK107
          have hfz27_0:=blk_frozen BK107.out 0;have hfz27_1:=blk_frozen BK107.out 1;have hfz27_2:=blk_frozen BK107.out 2;try go_wp2
          have n0_:=zM (zK BK107.out);have n1_:=zM (zF HB.out);clear BK107;clear HB;have BK107:=n0_;have HB:=n1_;clear n0_ n1_;have p110:0 ≤ (x3_2:Int):=zzd
          have q110:x3_2 < (l0_2.length:Int):=zzd
          obtain ⟨ad110,e110,hx110_0,hx110_1⟩:=at_T48 HR0_2.out x3_2 p110 q110;have hw110_1:=hx110_1;have hw110_0:=hx110_0;cases e110
          replace hx110_0:=zS HB.out hx110_0;replace hx110_1:=zS HB.out hx110_1;replace p110:=eq_true p110;replace q110:=eq_true q110;refine start_ (n:=8) (S:=fun w'=>w'.cell? ⟨gb107,0,none⟩ = some (.int .i64 a0_0) ∧ w'.cell? ⟨gb107,1,none⟩ = some (.int .i64 a0_1) ∧ w'.cell? ⟨gb107,2,none⟩ = some (.slice (some ad110) l0_2.length c0_2) ∧ w'.cell? (ad110.add ((x3_2).toNat * 2)) = some (.int .i64 ((rd_T48 l0_2 x3_2).f0)) ∧ w'.cell? ⟨(ad110.add ((x3_2).toNat * 2)).block,(ad110.add ((x3_2).toNat * 2)).off + 1,none⟩ = some (.int .i64 ((rd_T48 l0_2 x3_2).f1))) (ds:=[]) #[false,false,false,false,false,false,false,false] (by kernel_rfl) rfl rfl ⟨zz0 BK107,zz1 BK107,zz2 BK107,(zS HB.out hw110_0 :),(zS HB.out hw110_1 :)⟩ (fun hHeld=>?_);refine with_tabW spec_l16Good.tab6 spec_l16Good.bits6 (fun HT_ HW_=>?_)
          generalize wr.drew = w28 at BK107 HB hx110_0 hx110_1 hHeld ⊢
          refine zzp 1 22 (zzb 8 2) ?_ (hc:=zzx HT_);refine zzp 3 24 (zzb 8 10) ?_ (hc:=zzx HT_)
          refine zzt 0 21 (zzb 8 11) hHeld ?_ (hc:=zzy HT_ HW_) (hy:=by rintro w' ⟨s0,s1,s2,s3,s4⟩;go_simp;with_reducible rfl)
          refine zzt 2 23 (zzb 8 15) hHeld ?_ (hc:=zzy HT_ HW_) (hy:=by rintro w' ⟨s0,s1,s2,s3,s4⟩;go_simp;with_reducible rfl);refine zzp 4 25 (zzb 8 31) ?_ (hc:=zzx HT_)
          refine zzt 5 26 (zzb 8 63) hHeld ?_ (hc:=zzy HT_ HW_) (hy:=by rintro w' ⟨s0,s1,s2,s3,s4⟩;go_simp;with_reducible rfl)
          refine zzo 6 27 (zzb 8 127) (hc:=zzw HT_) (fun K hK=>?_)
          refine zzf Try.func81 #[.agg #[.int .i64 a0_0,.int .i64 a0_1,.slice (some ad110) l0_2.length c0_2],.agg #[.int .i64 ((rd_T48 l0_2 x3_2).f0),.int .i64 ((rd_T48 l0_2 x3_2).f1)]] ?_
          with_reducible refine (spec_l16Inside.calls a0_0 a0_1 _ _ l0_2 ((rd_T48 l0_2 x3_2).f0) ((rd_T48 l0_2 x3_2).f1) true _ ?side1 ?side2 A12.out).mono ?_
          (case side1=>repeat (first|exact (zO HR0_2.out HB.out)|(with_reducible first|refine zG ?_ _|refine zH ?_ _|refine zI ?_)))
          (case side2=>exact HC0_2.out)
          rintro e w29 ⟨rfl,hb⟩
          refine ⟨_,rfl,?_⟩
          have n0_:=zM (blk_below (g:=gb107) (o := .cells #[.int .i64 a0_0,.int .i64 a0_1,.slice (some ad110) l0_2.length c0_2] 29 (0,0)) (zzi BK107) hb)
          have n1_:=zM (zQ zzh hb)
          clear BK107;clear HB;have BK107:=n0_;have HB:=n1_;clear n0_ n1_;(try clear hb)
          (try clear hb2)
          (try clear hk)
          (try clear hi)
          refine hK.out _ _ ⟨zz0 BK107,zz1 BK107,zz2 BK107,(zS HB.out hw110_0 :),(zS HB.out hw110_1 :)⟩ (fun hHeld=>?_)
          clear hK K;refine zzn 27 ?_;refine zzp 7 28 (zzb 8 255) ?_ (hc:=zzx HT_)
          refine done_ (done_of HT_.out (by kernel_rfl)) ?_
          try go_wp2
          have n0_:=zM (zK BK107.out);have n1_:=zM (zF HB.out);clear BK107;clear HB;have BK107:=n0_;have HB:=n1_;clear n0_ n1_;refine start_ (n:=35) (S:=fun w'=>True) (ds:=[]) #[false,false,false,false,false,false,false,false,false,false,false,false,false,false,false,false,false,false,false,false,false,false,false,false,false,false,false,false,false,false,false,false,false,false,false] (by kernel_rfl) rfl rfl trivial (fun hHeld=>?_);refine with_tabW spec_l16Good.tab8 spec_l16Good.bits8 (fun HT_ HW_=>?_)
          generalize w29.drew = w30 at BK107 HB hHeld ⊢
          refine zzp 0 29 (zzb 35 1) ?_ (hc:=zzx HT_);refine zzp 1 30 (zzb 35 3) ?_ (hc:=zzx HT_);refine zzp 2 31 (zzb 35 7) ?_ (hc:=zzx HT_);refine zzu 3 32 (zzb 35 15) ?_ (hc:=zzx HT_);refine zzu 4 33 (zzb 35 31) ?_ (hc:=zzx HT_);refine zzu 5 34 (zzb 35 63) ?_ (hc:=zzx HT_);refine zzu 6 35 (zzb 35 127) ?_ (hc:=zzx HT_);refine zzu 7 36 (zzb 35 255) ?_ (hc:=zzx HT_);refine zzu 8 37 (zzb 35 511) ?_ (hc:=zzx HT_);refine zzu 9 38 (zzb 35 1023) ?_ (hc:=zzx HT_);refine zzu 10 39 (zzb 35 2047) ?_ (hc:=zzx HT_);refine zzu 11 40 (zzb 35 4095) ?_ (hc:=zzx HT_);refine zzu 12 41 (zzb 35 8191) ?_ (hc:=zzx HT_);refine zzu 13 42 (zzb 35 16383) ?_ (hc:=zzx HT_);refine zzu 14 43 (zzb 35 32767) ?_ (hc:=zzx HT_);refine zzu 15 44 (zzb 35 65535) ?_ (hc:=zzx HT_);refine zzu 16 45 (zzb 35 131071) ?_ (hc:=zzx HT_);refine zzu 17 46 (zzb 35 262143) ?_ (hc:=zzx HT_);refine zzu 18 47 (zzb 35 524287) ?_ (hc:=zzx HT_)
          refine zzu 19 48 (zzb 35 1048575) ?_ (hc:=zzx HT_);refine zzu 20 49 (zzb 35 2097151) ?_ (hc:=zzx HT_);refine zzu 21 50 (zzb 35 4194303) ?_ (hc:=zzx HT_);refine zzu 22 51 (zzb 35 8388607) ?_ (hc:=zzx HT_);refine zzu 23 52 (zzb 35 16777215) ?_ (hc:=zzx HT_);refine zzu 24 53 (zzb 35 33554431) ?_ (hc:=zzx HT_);refine zzu 25 54 (zzb 35 67108863) ?_ (hc:=zzx HT_);refine zzu 26 55 (zzb 35 134217727) ?_ (hc:=zzx HT_);refine zzu 27 56 (zzb 35 268435455) ?_ (hc:=zzx HT_);refine zzu 28 57 (zzb 35 536870911) ?_ (hc:=zzx HT_);refine zzu 29 58 (zzb 35 1073741823) ?_ (hc:=zzx HT_);refine zzu 30 59 (zzb 35 2147483647) ?_ (hc:=zzx HT_);refine zzu 31 60 (zzb 35 4294967295) ?_ (hc:=zzx HT_);refine zzu 32 61 (zzb 35 8589934591) ?_ (hc:=zzx HT_);refine zzu 33 62 (zzb 35 17179869183) ?_ (hc:=zzx HT_);refine zzp 34 63 (zzb 35 34359738367) ?_ (hc:=zzx HT_)
          refine done_ (done_of HT_.out (by kernel_rfl)) ?_
          try go_wp2
          go_roundg k2
          case measure=>have:=HJ1.out;have:=HK2.out;omega
          case rel=>exact ⟨(wrap64 (x3_2 + 1)),(by first|rfl|(simp;done)|(simp [*];done)),H',⟨by have:=HJ1.out;have:=HK2.out;omega⟩,⟨zzi BK107⟩,⟨zzh⟩⟩
        ·replace c13:=Bool.eq_false_iff.mpr c13
         subst c13;have H1:(some false) = some r:=by rw [if_neg (show ¬ (false = true) by decide)] at H;exact H
         clear H;have H:=H1;clear H1;obtain rfl:=Option.some.inj H;have hcz31_0:=zz0 BK107
         have hcz31_1:=zz1 BK107
         have hcz31_2:=zz2 BK107
         have hfz31_0:=blk_frozen BK107.out 0;have hfz31_1:=blk_frozen BK107.out 1;have hfz31_2:=blk_frozen BK107.out 2;try go_wp2
         have n0_:=zM (zK BK107.out);have n1_:=zM (zF HB.out);clear BK107;clear HB;have BK107:=n0_;have HB:=n1_;clear n0_ n1_;have p110:0 ≤ (x3_2:Int):=zzd
         have q110:x3_2 < (l0_2.length:Int):=zzd
         obtain ⟨ad110,e110,hx110_0,hx110_1⟩:=at_T48 HR0_2.out x3_2 p110 q110;have hw110_1:=hx110_1;have hw110_0:=hx110_0;cases e110
         replace hx110_0:=zS HB.out hx110_0;replace hx110_1:=zS HB.out hx110_1;replace p110:=eq_true p110;replace q110:=eq_true q110;refine start_ (n:=8) (S:=fun w'=>w'.cell? ⟨gb107,0,none⟩ = some (.int .i64 a0_0) ∧ w'.cell? ⟨gb107,1,none⟩ = some (.int .i64 a0_1) ∧ w'.cell? ⟨gb107,2,none⟩ = some (.slice (some ad110) l0_2.length c0_2) ∧ w'.cell? (ad110.add ((x3_2).toNat * 2)) = some (.int .i64 ((rd_T48 l0_2 x3_2).f0)) ∧ w'.cell? ⟨(ad110.add ((x3_2).toNat * 2)).block,(ad110.add ((x3_2).toNat * 2)).off + 1,none⟩ = some (.int .i64 ((rd_T48 l0_2 x3_2).f1))) (ds:=[]) #[false,false,false,false,false,false,false,false] (by kernel_rfl) rfl rfl ⟨zz0 BK107,zz1 BK107,zz2 BK107,(zS HB.out hw110_0 :),(zS HB.out hw110_1 :)⟩ (fun hHeld=>?_);refine with_tabW spec_l16Good.tab6 spec_l16Good.bits6 (fun HT_ HW_=>?_)
         generalize wr.drew = w32 at BK107 HB hx110_0 hx110_1 hHeld ⊢
         refine zzp 1 22 (zzb 8 2) ?_ (hc:=zzx HT_);refine zzp 3 24 (zzb 8 10) ?_ (hc:=zzx HT_)
         refine zzt 0 21 (zzb 8 11) hHeld ?_ (hc:=zzy HT_ HW_) (hy:=by rintro w' ⟨s0,s1,s2,s3,s4⟩;go_simp;with_reducible rfl)
         refine zzt 2 23 (zzb 8 15) hHeld ?_ (hc:=zzy HT_ HW_) (hy:=by rintro w' ⟨s0,s1,s2,s3,s4⟩;go_simp;with_reducible rfl);refine zzp 4 25 (zzb 8 31) ?_ (hc:=zzx HT_)
         refine zzt 5 26 (zzb 8 63) hHeld ?_ (hc:=zzy HT_ HW_) (hy:=by rintro w' ⟨s0,s1,s2,s3,s4⟩;go_simp;with_reducible rfl)
         refine zzo 6 27 (zzb 8 127) (hc:=zzw HT_) (fun K hK=>?_)
         refine zzf Try.func81 #[.agg #[.int .i64 a0_0,.int .i64 a0_1,.slice (some ad110) l0_2.length c0_2],.agg #[.int .i64 ((rd_T48 l0_2 x3_2).f0),.int .i64 ((rd_T48 l0_2 x3_2).f1)]] ?_
         with_reducible refine (spec_l16Inside.calls a0_0 a0_1 _ _ l0_2 ((rd_T48 l0_2 x3_2).f0) ((rd_T48 l0_2 x3_2).f1) false _ ?side1 ?side2 A12.out).mono ?_
         (case side1=>repeat (first|exact (zO HR0_2.out HB.out)|(with_reducible first|refine zG ?_ _|refine zH ?_ _|refine zI ?_)))
         (case side2=>exact HC0_2.out)
         rintro e w33 ⟨rfl,hb⟩
         refine ⟨_,rfl,?_⟩
         have n0_:=zM (blk_below (g:=gb107) (o := .cells #[.int .i64 a0_0,.int .i64 a0_1,.slice (some ad110) l0_2.length c0_2] 29 (0,0)) (zzi BK107) hb)
         have n1_:=zM (zQ zzh hb)
         clear BK107;clear HB;have BK107:=n0_;have HB:=n1_;clear n0_ n1_;(try clear hb)
         (try clear hb2)
         (try clear hk)
         (try clear hi)
         refine hK.out _ _ ⟨zz0 BK107,zz1 BK107,zz2 BK107,(zS HB.out hw110_0 :),(zS HB.out hw110_1 :)⟩ (fun hHeld=>?_)
         clear hK K;refine zzn 27 ?_;refine zzp 7 28 (zzb 8 255) ?_ (hc:=zzx HT_)
         refine done_ (done_of HT_.out (by kernel_rfl)) ?_
         try go_wp2
         go_ret
         exact ⟨by first|rfl|(simp [errW_none,errW_some] <;> rfl)|(simp [*,errW_none,errW_some] <;> rfl),zzh⟩
       ·rw [if_neg c11] at H
        exact absurd H (by simp)
      ·rw [if_neg c10] at H
       have c10b0:decide (x3_2 < (l0_2.length:Int)) = false:=decide_eq_false c10
       clear c10;obtain rfl:=Option.some.inj H;have hcz34_0:=zz0 BK107
       have hcz34_1:=zz1 BK107
       have hcz34_2:=zz2 BK107
       have hfz34_0:=blk_frozen BK107.out 0;have hfz34_1:=blk_frozen BK107.out 1;have hfz34_2:=blk_frozen BK107.out 2;go_wp2
       go_ret
       exact ⟨by first|rfl|(simp [errW_none,errW_some] <;> rfl)|(simp [*,errW_none,errW_some] <;> rfl),zzh⟩



/-! ### spec_IsValidFloor: function 14 -/
def spec_IsValidFloor.f (k:Nat) (a0_0:Int) (a0_1:Int) (l0_2:List (S48)):Option (Bool):=(spec_l16Good.f k a0_0 a0_1 l0_2).bind fun t117=>(some t117)
end Go.Proofs.Ytbpccdbkaiigcaa.G

namespace Go.Proofs.Ytbpccdbkaiigcaa.G
open Go.RowKit Go.Proofs.YtbpccdbkaiigcaaW.PrintWords Go.Proofs.YtbpccdbkaiigcaaW.PrintLast
set_option linter.unusedVariables false
set_option linter.unusedSimpArgs false
def In (w h : Int) (c : S48) : Prop:=(0 ≤ c.f0 ∧ c.f0 ≤ w - 1) ∧ (0 ≤ c.f1 ∧ c.f1 ≤ h - 1)
def Bef (a b : S48) : Prop:=a.f1 < b.f1 ∨ a.f1 = b.f1 ∧ a.f0 < b.f0
def okB (w h : Int) (bl : List S48) (i : Int) : Prop:=In w h (rd_T48 bl i) ∧ (0 < i → Bef (rd_T48 bl (i - 1)) (rd_T48 bl i))
def FloorOk (w h : Int) (bl : List S48) : Prop:=(1 ≤ w ∧ w ≤ 6) ∧ (1 ≤ h ∧ h ≤ 6) ∧ All (okB w h bl) 0 (bl.length : Int)
theorem impl_on (w h : Int) (bl : List S48) (c : S48) (hw : 1 ≤ w ∧ w ≤ 6) (hh : 1 ≤ h ∧ h ≤ 6) : impl_onFloor.f w h bl c.f0 c.f1 = some (chk (In w h c) true false):=by
 unfold impl_onFloor.f
 simp (disch:=omega) only [impl_within_eq,Option.bind_some,wrap64_id,decide_eq_true_eq]
 split
 ·rename_i h1
  congr 1
  by_cases h2 : 0 ≤ c.f1 ∧ c.f1 ≤ h - 1
  ·rw [chk_pos ⟨h1,h2⟩];exact decide_eq_true h2
  ·rw [chk_neg (fun m : In w h c=>h2 m.2)];exact decide_eq_false h2
 ·rename_i h1
  rw [chk_neg (fun m : In w h c=>h1 m.1)]
theorem spec_in (w h : Int) (bl : List S48) (c : S48) (hw : 1 ≤ w ∧ w ≤ 6) (hh : 1 ≤ h ∧ h ≤ 6) : spec_l16Inside.f w h bl c.f0 c.f1 = some (chk (In w h c) true false):=by
 unfold spec_l16Inside.f
 simp (disch:=omega) only [spec_l1In_eq,Option.bind_some,wrap64_id,decide_eq_true_eq]
 split
 ·rename_i h1
  congr 1
  by_cases h2 : 0 ≤ c.f1 ∧ c.f1 ≤ h - 1
  ·rw [chk_pos ⟨h1,h2⟩];exact decide_eq_true h2
  ·rw [chk_neg (fun m : In w h c=>h2 m.2)];exact decide_eq_false h2
 ·rename_i h1
  rw [chk_neg (fun m : In w h c=>h1 m.1)]
theorem impl_bef (a b : S48) : impl_before.f a.f0 a.f1 b.f0 b.f1 = some (chk (Bef a b) true false):=by
 unfold impl_before.f
 split
 ·rename_i h;rw [chk_pos (show Bef a b from .inl h)]
 ·rename_i h
  split
  ·rename_i h2
   congr 1
   by_cases h3 : a.f0 < b.f0
   ·rw [chk_pos (show Bef a b from .inr ⟨h2,h3⟩)];exact decide_eq_true h3
   ·rw [chk_neg (fun m : Bef a b=>m.elim h (fun x=>h3 x.2))];exact decide_eq_false h3
  ·rename_i h2
   rw [chk_neg (fun m : Bef a b=>m.elim h (fun x=>h2 x.1))]
theorem impl_floor (w h : Int) (bl : List S48) (hb : (bl.length : Int) ≤ 1099511627776) : Ev (fun k=>impl_IsValidFloor.f k w h bl) (chk (FloorOk w h bl) true false):=by
 have no : ¬ FloorOk w h bl → Ev (fun k=>impl_IsValidFloor.j0 k true w h bl) (chk (FloorOk w h bl) true false):=by
  intro n
  rw [chk_neg n]
  refine Ev.step (fun k=>by rw [impl_IsValidFloor.j0]) ?_
  simp only [if_true];exact Ev.now _
 unfold impl_IsValidFloor.f
 simp only [impl_within_eq,Option.bind_some,decide_eq_true_eq]
 refine Ev.ite (fun h1=>?_) (fun h1=>no (fun m=>h1 m.1))
 by_cases h2 : 1 ≤ h ∧ h ≤ 6
 ·rw [decide_eq_true h2]
  refine Ev.step (fun k=>by rw [impl_IsValidFloor.j0]) ?_
  simp only [Bool.not_true,Bool.false_eq_true,if_false]
  rw [chk_congr (show FloorOk w h bl ↔ All (okB w h bl) 0 (bl.length : Int) from ⟨fun m=>m.2.2,fun m=>⟨h1,h2,m⟩⟩)]
  refine Ev.check (fun k i=>impl_IsValidFloor.l0 k bl (bl.length : Int) i w h bl) (bl.length : Int) (okB w h bl) true false 0 ?_ ?_ 0 (by omega) (by omega)
  ·refine Ev.step (fun k=>by rw [impl_IsValidFloor.l0]) ?_
   simp only [Int.lt_irrefl,if_false]
   exact Ev.now _
  ·intro i h0 hlt r hr
   refine Ev.step (fun k=>by rw [impl_IsValidFloor.l0]) ?_
   simp (disch:=omega) only [if_pos,wrap64_id,impl_on w h bl _ h1 h2,impl_bef,Option.bind_some]
   refine Ev.ite (fun g1=>?_) (fun g1=>?_)
   ·have g1:=chk_true.1 g1
    refine Ev.ite (fun g2=>?_) (fun g2=>?_)
    ·try simp (disch:=omega) only [if_pos]
     refine Ev.ite (fun g3=>?_) (fun g3=>?_)
     ·rw [chk_pos ⟨g1,fun _=>chk_true.1 g3⟩];exact hr
     ·rw [chk_neg (fun m : okB w h bl i=>g3 (chk_true.2 (m.2 g2)))];exact Ev.now _
    ·rw [chk_pos ⟨g1,fun x=>absurd x g2⟩];exact hr
   ·rw [chk_neg (fun m : okB w h bl i=>g1 (chk_true.2 m.1))];exact Ev.now _
 ·rw [decide_eq_false h2]
  exact no (fun m=>h2 m.2.1)
/-- The reference's order of two cells. -/
def okS (w h : Int) (bl : List S48) (i : Int) : Prop:=In w h (rd_T48 bl i) ∧ (0 < i → wrap64 (wrap64 ((rd_T48 bl (i - 1)).f1 * 10) + (rd_T48 bl (i - 1)).f0) < wrap64 (wrap64 ((rd_T48 bl i).f1 * 10) + (rd_T48 bl i).f0))
theorem okS_iff (w h : Int) (bl : List S48) (h1 : 1 ≤ w ∧ w ≤ 6) (h2 : 1 ≤ h ∧ h ≤ 6) : All (okS w h bl) 0 (bl.length : Int) ↔ All (okB w h bl) 0 (bl.length : Int):=by
 have key : ∀ a b : S48,In w h a → In w h b → (wrap64 (wrap64 (a.f1 * 10) + a.f0) < wrap64 (wrap64 (b.f1 * 10) + b.f0) ↔ Bef a b):=by
  intro a b ha hb
  unfold In at ha hb
  rw [wrap64_id (x:=a.f1 * 10) (by omega) (by omega),wrap64_id (x:=b.f1 * 10) (by omega) (by omega),wrap64_id (by omega) (by omega),wrap64_id (by omega) (by omega)]
  unfold Bef
  omega
 constructor
 ·intro a i i0 i1
  refine ⟨(a i i0 i1).1,fun hp=>?_⟩
  exact (key _ _ (a (i - 1) (by omega) (by omega)).1 (a i i0 i1).1).1 ((a i i0 i1).2 hp)
 ·intro a i i0 i1
  refine ⟨(a i i0 i1).1,fun hp=>?_⟩
  exact (key _ _ (a (i - 1) (by omega) (by omega)).1 (a i i0 i1).1).2 ((a i i0 i1).2 hp)
theorem spec_floor (w h : Int) (bl : List S48) (hb : (bl.length : Int) ≤ 1099511627776) : Ev (fun k=>spec_l16Good.f k w h bl) (chk (FloorOk w h bl) true false):=by
 have no : ¬ FloorOk w h bl → Ev (fun k=>spec_l16Good.j0 k true w h bl) (chk (FloorOk w h bl) true false):=by
  intro n
  rw [chk_neg n]
  refine Ev.step (fun k=>by rw [spec_l16Good.j0]) ?_
  simp only [if_true];exact Ev.now _
 unfold spec_l16Good.f
 simp only [spec_l1In_eq,Option.bind_some,decide_eq_true_eq]
 refine Ev.ite (fun h1=>?_) (fun h1=>no (fun m=>h1 m.1))
 by_cases h2 : 1 ≤ h ∧ h ≤ 6
 ·rw [decide_eq_true h2]
  refine Ev.step (fun k=>by rw [spec_l16Good.j0]) ?_
  simp only [Bool.not_true,Bool.false_eq_true,if_false]
  rw [chk_congr (show FloorOk w h bl ↔ All (okS w h bl) 0 (bl.length : Int) from ⟨fun m=>(okS_iff w h bl h1 h2).2 m.2.2,fun m=>⟨h1,h2,(okS_iff w h bl h1 h2).1 m⟩⟩)]
  refine Ev.check (fun k i=>spec_l16Good.l0 k i w h bl) (bl.length : Int) (okS w h bl) true false 0 ?_ ?_ 0 (by omega) (by omega)
  ·refine Ev.step (fun k=>by rw [spec_l16Good.l0]) ?_
   simp only [Int.lt_irrefl,if_false]
   exact Ev.now _
  ·intro i h0 hlt r hr
   have e1 : wrap64 (i - 1) = i - 1:=wrap64_id (by omega) (by omega)
   have e2 : wrap64 (i + 1) = i + 1:=wrap64_id (by omega) (by omega)
   refine Ev.step (fun k=>by rw [spec_l16Good.l0]) ?_
   simp (disch:=omega) only [if_pos,e1,e2,spec_in w h bl _ h1 h2,Option.bind_some]
   refine Ev.ite (fun g1=>?_) (fun g1=>?_)
   ·have g1:=chk_true.1 g1
    refine Ev.ite (fun g2=>?_) (fun g2=>?_)
    ·try simp (disch:=omega) only [if_pos]
     refine Ev.ite (fun g3=>?_) (fun g3=>?_)
     ·rw [chk_neg (fun m : okS w h bl i=>by have:=m.2 g2;omega)];exact Ev.now _
     ·rw [chk_pos ⟨g1,fun _=>by omega⟩];exact hr
    ·rw [chk_pos ⟨g1,fun x=>absurd x g2⟩];exact hr
   ·rw [chk_neg (fun m : okS w h bl i=>g1 (chk_true.2 m.1))];exact Ev.now _
 ·rw [decide_eq_false h2]
  exact no (fun m=>h2 m.2.1)
end Go.Proofs.Ytbpccdbkaiigcaa.G

-- Written by wip/tools/gen.py out of the translation (the kit's printer, one namespace a seat). Lean checks it.
namespace Go.Proofs.Ytbpccdbkaiigcaa.G
open Go.RowKit Go.Proofs.YtbpccdbkaiigcaaW.PrintWords Go.Proofs.YtbpccdbkaiigcaaW.PrintLast Go.Proofs.YtbpccdbkaiigcaaW.PrintMore
attribute [local go_sem] max2_int min2_int max_two min_two max_three min_three max_four min_four   -- for this text's walks alone
set_option linter.unusedVariables false
set_option linter.unusedSimpArgs false

theorem eqA48 (d:Nat) (w:World) (x0 y0:Int) (x1 y1:Int) :
  (Op.equalIn (d + 2) 48 (.agg #[.int .i64 x0,.int .i64 x1]) (.agg #[.int .i64 y0,.int .i64 y1])).run Try.prog w = .ok (x0 == y0 && (x1 == y1)) w:=by
 refine eqA_of Try.underlying48 (by kernel_rfl) ?_
 refine eqf_cons (by rfl) (by go_simp;rfl) (by go_simp;rfl) (by go_simp) ?_
 exact eqf_last (by rfl) (by go_simp;rfl) (by go_simp;rfl) (by go_simp)


attribute [local go_sem high] eqA48
/-! ### impl_Cell_97: function 97 -/
def impl_Cell_97.l0:Nat → List (S48) → Int → Int → Int → Int → Option (Int)
 | 0,_,_,_,_,_=>none
 | k + 1,x0,x7,x8,x199000,x199001=>if x8 < x7 then (if 0 ≤ x8 then (if x8 < (x0.length:Int) then (if (x199000 == ((rd_T48 x0 x8).f0) && (x199001 == ((rd_T48 x0 x8).f1))) = true then (some x8) else (impl_Cell_97.l0 k x0 x7 (wrap64 (x8 + 1)) x199000 x199001)) else (none)) else (none)) else (some (-1))
def impl_Cell_97.f (k:Nat) (l0:List (S48)) (a1_0:Int) (a1_1:Int):Option (Int):=impl_Cell_97.l0 k l0 (l0.length:Int) 0 a1_0 a1_1
set_option maxHeartbeats 8000000 in
set_option maxRecDepth 100000 in
theorem impl_Cell_97.calls (k:Nat) (A0:Option Addr) (c0:Nat) (l0:List (S48)) (a1_0:Int) (a1_1:Int) (r:Int) (w:World) (hr0:Kd.C k48 w A0 l0.length l0) (hc0:l0.length ≤ c0) (h:impl_Cell_97.f k l0 a1_0 a1_1 = some r) :
  Calls Try.prog 97 #[.slice A0 l0.length c0,.agg #[.int .i64 a1_0,.int .i64 a1_1]] w fun e w'=>e = .returned (.int .i64 r) ∧ Below w.heap.size w w':=by
 have hu48:=Try.underlying48;have HR0:=zM hr0;have HC0:=zM hc0;clear hr0 hc0;have HB:=zM (Below.refl w.heap.size w);have H:(impl_Cell_97.l0 k l0 (l0.length:Int) 0 a1_0 a1_1) = some r:=h
 clear h;have H':=zM H;clear H;go_enter Try.func97,Try.ntmps97
 go_wp2_with (first|((with_reducible refine gate_dst (N:=3) rfl ?_);refine zzc 3 #[.int .i64 a1_0,.int .i64 a1_1] 48 ?_;intro gb198 hg w3 hbox hb;have n0_:=zM (zQ zzh hb);have n1_:=zM (hbox);have n2_:=zM ((by rw [hg];exact (zR zzh):w.heap.size ≤ gb198));have n3_:=zM ((by rw [hg];exact (zR zzh):w.heap.size ≤ gb198));clear HB;have HB:=n0_;have BK198:=n1_;have GW198:=n2_;have GE198:=n3_;clear n0_ n1_ n2_ n3_;clear hb hbox hg))
 repeat (go_quiet (first|((with_reducible refine gate_dst (N:=3) rfl ?_);refine zzc 3 #[.int .i64 a1_0,.int .i64 a1_1] 48 ?_;intro gb198 hg w3 hbox hb;have n0_:=zM (zQ zzh hb);have n1_:=zM (hbox);have n2_:=zM ((by rw [hg];exact (zR zzh):w.heap.size ≤ gb198));have n3_:=zM ((by rw [hg];exact (zR zzh):w.heap.size ≤ gb198));clear HB;have HB:=n0_;have BK198:=n1_;have GW198:=n2_;have GE198:=n3_;clear n0_ n1_ n2_ n3_;clear hb hbox hg));try go_wp2_with (first|((with_reducible refine gate_dst (N:=3) rfl ?_);refine zzc 3 #[.int .i64 a1_0,.int .i64 a1_1] 48 ?_;intro gb198 hg w3 hbox hb;have n0_:=zM (zQ zzh hb);have n1_:=zM (hbox);have n2_:=zM ((by rw [hg];exact (zR zzh):w.heap.size ≤ gb198));have n3_:=zM ((by rw [hg];exact (zR zzh):w.heap.size ≤ gb198));clear HB;have HB:=n0_;have BK198:=n1_;have GW198:=n2_;have GE198:=n3_;clear n0_ n1_ n2_ n3_;clear hb hbox hg)))
 go_loopg [8] k (fun kq v8 w' => ∃ (x8_1:Int),v8 = .int .i64 x8_1 ∧ Aside0 (impl_Cell_97.l0 kq l0 (l0.length:Int) x8_1 a1_0 a1_1 = some r) ∧ Aside0 (kq ≤ k) ∧ Aside0 (w'.heap[gb198]? = some (.cells #[.int .i64 a1_0,.int .i64 a1_1] 48 (0,0))) ∧ Aside0 (Below w.heap.size w w'))
 case atStart=>exact ⟨(0),(by first|rfl|(simp;done)|(simp [*];done)),H',⟨Nat.le_refl _⟩,⟨zzi BK198⟩,⟨zzh⟩⟩
 case round =>
  clear H';(try clear p2);obtain ⟨x8_1,rfl,HA,HK1,BK198,HB⟩:=hrel;cases gk with
  | zero=>exact absurd HA.out (by simp [impl_Cell_97.l0])
  | succ k1 =>
   have H:=HA.out;clear HA;simp only [impl_Cell_97.l0] at H
   by_cases c4:x8_1 < (l0.length:Int)
   ·rw [if_pos c4] at H
    have c4b0:decide (x8_1 < (l0.length:Int)) = true:=decide_eq_true c4
    clear c4;by_cases c5:0 ≤ x8_1
    ·rw [if_pos c5] at H
     have c5b0:decide (0 ≤ x8_1) = true:=decide_eq_true c5
     clear c5;by_cases c6:x8_1 < (l0.length:Int)
     ·rw [if_pos c6] at H
      have c6b0:decide (x8_1 < (l0.length:Int)) = true:=decide_eq_true c6
      clear c6;by_cases c7:(a1_0 == ((rd_T48 l0 x8_1).f0) && (a1_1 == ((rd_T48 l0 x8_1).f1))) = true
      ·rw [if_pos c7] at H
       have c7b0:(a1_0 == ((rd_T48 l0 x8_1).f0) && (a1_1 == ((rd_T48 l0 x8_1).f1))) = true:=c7
       (try (have c7b1:decide (a1_0 = ((rd_T48 l0 x8_1).f0) && (a1_1 == ((rd_T48 l0 x8_1).f1))) = true:=by simpa using c7))
       (try (have c7b2:(a1_0 == ((rd_T48 l0 x8_1).f0) && (a1_1 == ((rd_T48 l0 x8_1).f1))) = true:=by simpa using c7))
       clear c7;obtain rfl:=Option.some.inj H;have hcz8_0:=zz0 BK198
       have hcz8_1:=zz1 BK198
       have hfz8_0:=blk_frozen BK198.out 0;have hfz8_1:=blk_frozen BK198.out 1;have p199:0 ≤ (x8_1:Int):=zzd
       have q199:x8_1 < (l0.length:Int):=zzd
       obtain ⟨ad199,e199,hx199_0,hx199_1⟩:=at_T48 HR0.out x8_1 p199 q199;cases e199
       replace hx199_0:=zS HB.out hx199_0;replace hx199_1:=zS HB.out hx199_1;replace p199:=eq_true p199;replace q199:=eq_true q199;go_wp2
       repeat (go_quiet (fail);try go_wp2)
       go_ret
       exact ⟨by first|rfl|(simp [errW_none,errW_some] <;> rfl)|(simp [*,errW_none,errW_some] <;> rfl),zzh⟩
      ·rw [if_neg c7] at H
       have c7b0:(a1_0 == ((rd_T48 l0 x8_1).f0) && (a1_1 == ((rd_T48 l0 x8_1).f1))) = false:=by simpa using c7
       (try (have c7b1:decide (a1_0 = ((rd_T48 l0 x8_1).f0) && (a1_1 == ((rd_T48 l0 x8_1).f1))) = false:=by simpa using c7))
       (try (have c7b2:(a1_0 == ((rd_T48 l0 x8_1).f0) && (a1_1 == ((rd_T48 l0 x8_1).f1))) = false:=by simpa using c7))
       (try (have c7b3:¬ (a1_0 = ((rd_T48 l0 x8_1).f0) && (a1_1 == ((rd_T48 l0 x8_1).f1))):=by simpa using c7))
       clear c7;have H':=zM H;clear H;have hcz9_0:=zz0 BK198
       have hcz9_1:=zz1 BK198
       have hfz9_0:=blk_frozen BK198.out 0;have hfz9_1:=blk_frozen BK198.out 1;have p199:0 ≤ (x8_1:Int):=zzd
       have q199:x8_1 < (l0.length:Int):=zzd
       obtain ⟨ad199,e199,hx199_0,hx199_1⟩:=at_T48 HR0.out x8_1 p199 q199;cases e199
       replace hx199_0:=zS HB.out hx199_0;replace hx199_1:=zS HB.out hx199_1;replace p199:=eq_true p199;replace q199:=eq_true q199;go_wp2
       repeat (go_quiet (fail);try go_wp2)
       go_roundg k1
       case measure=>have:=HK1.out;omega
       case rel=>exact ⟨(wrap64 (x8_1 + 1)),(by first|rfl|(simp;done)|(simp [*];done)),H',⟨by have:=HK1.out;omega⟩,⟨zzi BK198⟩,⟨zzh⟩⟩
     ·rw [if_neg c6] at H
      exact absurd H (by simp)
    ·rw [if_neg c5] at H
     exact absurd H (by simp)
   ·rw [if_neg c4] at H
    have c4b0:decide (x8_1 < (l0.length:Int)) = false:=decide_eq_false c4
    clear c4;obtain rfl:=Option.some.inj H;go_wp2
    repeat (go_quiet (fail);try go_wp2)
    go_ret
    exact ⟨by first|rfl|(simp [errW_none,errW_some] <;> rfl)|(simp [*,errW_none,errW_some] <;> rfl),zzh⟩



/-! ### impl_Cell_84: function 84 -/
def impl_Cell_84.f (k:Nat) (l0:List (S48)) (a1_0:Int) (a1_1:Int):Option (Bool):=(impl_Cell_97.f k l0 a1_0 a1_1).bind fun t201=>(some (decide (t201 ≥ 0)))
set_option maxHeartbeats 8000000 in
set_option maxRecDepth 100000 in
theorem impl_Cell_84.calls (k:Nat) (A0:Option Addr) (c0:Nat) (l0:List (S48)) (a1_0:Int) (a1_1:Int) (r:Bool) (w:World) (hr0:Kd.C k48 w A0 l0.length l0) (hc0:l0.length ≤ c0) (h:impl_Cell_84.f k l0 a1_0 a1_1 = some r) :
  Calls Try.prog 84 #[.slice A0 l0.length c0,.agg #[.int .i64 a1_0,.int .i64 a1_1]] w fun e w'=>e = .returned (.bool r) ∧ Below w.heap.size w w':=by
 have hu48:=Try.underlying48;have HR0:=zM hr0;have HC0:=zM hc0;clear hr0 hc0;have HB:=zM (Below.refl w.heap.size w);have H:((impl_Cell_97.f k l0 a1_0 a1_1).bind fun t201=>(some (decide (t201 ≥ 0)))) = some r:=h
 clear h;replace H:=Option.bind_eq_some_iff.mp H;obtain ⟨t201,A30,H⟩:=H;replace H:(some (decide (t201 ≥ 0))) = some r:=H
 have A3:=zM A30;clear A30;obtain rfl:=Option.some.inj H;go_enter Try.func84,Try.ntmps84
 go_wp2_with (first|((with_reducible refine gate_dst (N:=3) rfl ?_);refine zzc 3 #[.int .i64 a1_0,.int .i64 a1_1] 48 ?_;intro gb200 hg w4 hbox hb;have n0_:=zM (zQ zzh hb);have n1_:=zM (hbox);have n2_:=zM ((by rw [hg];exact (zR zzh):w.heap.size ≤ gb200));have n3_:=zM ((by rw [hg];exact (zR zzh):w.heap.size ≤ gb200));clear HB;have HB:=n0_;have BK200:=n1_;have GW200:=n2_;have GE200:=n3_;clear n0_ n1_ n2_ n3_;clear hb hbox hg;have hcz5_0:=zz0 BK200;have hcz5_1:=zz1 BK200;have hfz5_0:=blk_frozen BK200.out 0;have hfz5_1:=blk_frozen BK200.out 1)|((with_reducible refine gate_callee (f:=97) rfl ?_);refine goesL_ (some 7) rfl rfl Try.func97 (by kernel_rfl) rfl #[.slice A0 l0.length c0,.agg #[.int .i64 a1_0,.int .i64 a1_1]] rfl (by (try simp only [List.map_toArray,List.map_cons,List.map_nil]);first|done|rfl|(simp only [List.length_drop,List.length_take];rfl)) ?_;(with_reducible refine (impl_Cell_97.calls k _ _ l0 a1_0 a1_1 t201 _ ?side1 ?side2 A3.out).mono ?_);(case side1=>repeat (first|exact (zO HR0.out HB.out)|(with_reducible first|refine zG ?_ _|refine zH ?_ _|refine zI ?_)));(case side2=>exact HC0.out);rintro e w6 ⟨rfl,hb⟩;refine ⟨_,rfl,?_⟩;have n0_:=zM (blk_below (g:=gb200) (o := .cells #[.int .i64 a1_0,.int .i64 a1_1] 48 (0,0)) (zzi BK200) hb);have n1_:=zM (zQ zzh hb);clear BK200;clear HB;have BK200:=n0_;have HB:=n1_;clear n0_ n1_;(try clear hb);(try clear hb2);(try clear hk);(try clear hi)))
 go_ret
 exact ⟨by first|rfl|(simp [errW_none,errW_some] <;> rfl)|(simp [*,errW_none,errW_some] <;> rfl),zzh⟩



/-! ### impl_isFree: function 58 -/
def impl_isFree.f (k:Nat) (a0_0:Int) (a0_1:Int) (l0_2:List (S48)) (a1_0:Int) (a1_1:Int):Option (Bool):=(impl_onFloor.f a0_0 a0_1 l0_2 a1_0 a1_1).bind fun t204=>(if t204 = true then ((impl_Cell_84.f k l0_2 a1_0 a1_1).bind fun t205=>(some (!t205))) else (some false))
set_option maxHeartbeats 8000000 in
set_option maxRecDepth 100000 in
theorem impl_isFree.calls (k:Nat) (a0_0:Int) (a0_1:Int) (A0_2:Option Addr) (c0_2:Nat) (l0_2:List (S48)) (a1_0:Int) (a1_1:Int) (r:Bool) (w:World) (hr0_2:Kd.C k48 w A0_2 l0_2.length l0_2) (hc0_2:l0_2.length ≤ c0_2) (h:impl_isFree.f k a0_0 a0_1 l0_2 a1_0 a1_1 = some r) :
  Calls Try.prog 58 #[.agg #[.int .i64 a0_0,.int .i64 a0_1,.slice A0_2 l0_2.length c0_2],.agg #[.int .i64 a1_0,.int .i64 a1_1]] w fun e w'=>e = .returned (.bool r) ∧ Below w.heap.size w w':=by
 have hu29:=Try.underlying29;have hu48:=Try.underlying48;have HR0_2:=zM hr0_2;have HC0_2:=zM hc0_2;clear hr0_2 hc0_2;have HB:=zM (Below.refl w.heap.size w);have H:((impl_onFloor.f a0_0 a0_1 l0_2 a1_0 a1_1).bind fun t204=>(if t204 = true then ((impl_Cell_84.f k l0_2 a1_0 a1_1).bind fun t205=>(some (!t205))) else (some false))) = some r:=h
 clear h;replace H:=Option.bind_eq_some_iff.mp H;obtain ⟨t204,A30,H⟩:=H;replace H:(if t204 = true then ((impl_Cell_84.f k l0_2 a1_0 a1_1).bind fun t205=>(some (!t205))) else (some false)) = some r:=H
 have A3:=zM A30;clear A30;by_cases c4:t204 = true
 ·subst c4
  have H1:((impl_Cell_84.f k l0_2 a1_0 a1_1).bind fun t205=>(some (!t205))) = some r:=by rw [if_pos rfl] at H;exact H
  clear H;have H:=H1;clear H1;replace H:=Option.bind_eq_some_iff.mp H;obtain ⟨t205,A50,H⟩:=H;replace H:(some (!t205)) = some r:=H
  have A5:=zM A50;clear A50;obtain rfl:=Option.some.inj H;go_enter Try.func58,Try.ntmps58
  go_wp2_with (first|((with_reducible refine gate_dst (N:=2) rfl ?_);refine zzc 2 #[.int .i64 a0_0,.int .i64 a0_1,.slice A0_2 l0_2.length c0_2] 29 ?_;intro gb202 hg w6 hbox hb;have n0_:=zM (zQ zzh hb);have n1_:=zM (hbox);have n2_:=zM ((by rw [hg];exact (zR zzh):w.heap.size ≤ gb202));have n3_:=zM ((by rw [hg];exact (zR zzh):w.heap.size ≤ gb202));clear HB;have HB:=n0_;have BK202:=n1_;have GW202:=n2_;have GE202:=n3_;clear n0_ n1_ n2_ n3_;clear hb hbox hg)|((with_reducible refine gate_dst (N:=3) rfl ?_);refine zzc 3 #[.int .i64 a1_0,.int .i64 a1_1] 48 ?_;intro gb203 hg w7 hbox hb;have n0_:=zM (blk_below (g:=gb202) (o := .cells #[.int .i64 a0_0,.int .i64 a0_1,.slice A0_2 l0_2.length c0_2] 29 (0,0)) (zzi BK202) hb);have n1_:=zM (zQ zzh hb);have n2_:=zM (hbox);have n3_:=zM ((by rw [hg];exact (zR zzh):w.heap.size ≤ gb203));have n4_:=zM ((by rw [hg];exact (zR zzh):w.heap.size ≤ gb203));have n5_:=zM ((by rw [hg];exact Nat.ne_of_lt (blk_lt (g:=gb202) (o := .cells #[.int .i64 a0_0,.int .i64 a0_1,.slice A0_2 l0_2.length c0_2] 29 (0,0)) (zzi BK202)):gb202 ≠ gb203));have n6_:=zM ((by rw [hg];exact Nat.ne_of_gt (blk_lt (g:=gb202) (o := .cells #[.int .i64 a0_0,.int .i64 a0_1,.slice A0_2 l0_2.length c0_2] 29 (0,0)) (zzi BK202)):gb203 ≠ gb202));clear BK202;clear HB;have BK202:=n0_;have HB:=n1_;have BK203:=n2_;have GW203:=n3_;have GE203:=n4_;have NB202_203:=n5_;have NB203_202:=n6_;clear n0_ n1_ n2_ n3_ n4_ n5_ n6_;clear hb hbox hg;have hnb8:=NB202_203.out;have hnc8:=NB203_202.out;have hcz9_0:=zz0 BK202;have hcz9_1:=zz1 BK202;have hcz9_2:=zz2 BK202;have hfz9_0:=blk_frozen BK202.out 0;have hfz9_1:=blk_frozen BK202.out 1;have hfz9_2:=blk_frozen BK202.out 2;have hcz10_0:=zz0 BK203;have hcz10_1:=zz1 BK203;have hfz10_0:=blk_frozen BK203.out 0;have hfz10_1:=blk_frozen BK203.out 1)|((with_reducible refine gate_callee (f:=55) rfl ?_);refine goesL_ (some 7) rfl rfl Try.func55 (by kernel_rfl) rfl #[.agg #[.int .i64 a0_0,.int .i64 a0_1,.slice A0_2 l0_2.length c0_2],.agg #[.int .i64 a1_0,.int .i64 a1_1]] rfl (by (try simp only [List.map_toArray,List.map_cons,List.map_nil]);first|done|rfl|(simp only [List.length_drop,List.length_take];rfl)) ?_;(with_reducible refine (impl_onFloor.calls a0_0 a0_1 _ _ l0_2 a1_0 a1_1 true _ ?side1 ?side2 A3.out).mono ?_);(case side1=>repeat (first|exact (zO HR0_2.out HB.out)|(with_reducible first|refine zG ?_ _|refine zH ?_ _|refine zI ?_)));(case side2=>exact HC0_2.out);rintro e w11 ⟨rfl,hb⟩;refine ⟨_,rfl,?_⟩;have n0_:=zM (blk_below (g:=gb202) (o := .cells #[.int .i64 a0_0,.int .i64 a0_1,.slice A0_2 l0_2.length c0_2] 29 (0,0)) (zzi BK202) hb);have n1_:=zM (blk_below (g:=gb203) (o := .cells #[.int .i64 a1_0,.int .i64 a1_1] 48 (0,0)) (zzi BK203) hb);have n2_:=zM (zQ zzh hb);clear BK202;clear BK203;clear HB;have BK202:=n0_;have BK203:=n1_;have HB:=n2_;clear n0_ n1_ n2_;(try clear hb);(try clear hb2);(try clear hk);(try clear hi);have hcz12_0:=zz0 BK202;have hcz12_1:=zz1 BK202;have hcz12_2:=zz2 BK202;have hfz12_0:=blk_frozen BK202.out 0;have hfz12_1:=blk_frozen BK202.out 1;have hfz12_2:=blk_frozen BK202.out 2;have hcz13_0:=zz0 BK203;have hcz13_1:=zz1 BK203;have hfz13_0:=blk_frozen BK203.out 0;have hfz13_1:=blk_frozen BK203.out 1)|(go_at_call 84;(with_reducible refine (impl_Cell_84.calls k _ _ l0_2 a1_0 a1_1 t205 _ ?side1 ?side2 A5.out).mono ?_);(case side1=>repeat (first|exact (zO HR0_2.out HB.out)|(with_reducible first|refine zG ?_ _|refine zH ?_ _|refine zI ?_)));(case side2=>exact HC0_2.out);rintro e w14 ⟨rfl,hb⟩;have n0_:=zM (blk_below (g:=gb202) (o := .cells #[.int .i64 a0_0,.int .i64 a0_1,.slice A0_2 l0_2.length c0_2] 29 (0,0)) (zzi BK202) hb);have n1_:=zM (blk_below (g:=gb203) (o := .cells #[.int .i64 a1_0,.int .i64 a1_1] 48 (0,0)) (zzi BK203) hb);have n2_:=zM (zQ zzh hb);clear BK202;clear BK203;clear HB;have BK202:=n0_;have BK203:=n1_;have HB:=n2_;clear n0_ n1_ n2_;(try clear hb);(try clear hb2);(try clear hk);(try clear hi)))
  go_ret
  exact ⟨by first|rfl|(simp [errW_none,errW_some] <;> rfl)|(simp [*,errW_none,errW_some] <;> rfl),zzh⟩
 ·replace c4:=Bool.eq_false_iff.mpr c4
  subst c4;have H1:(some false) = some r:=by rw [if_neg (show ¬ (false = true) by decide)] at H;exact H
  clear H;have H:=H1;clear H1;obtain rfl:=Option.some.inj H;go_enter Try.func58,Try.ntmps58
  go_wp2_with (first|((with_reducible refine gate_dst (N:=2) rfl ?_);refine zzc 2 #[.int .i64 a0_0,.int .i64 a0_1,.slice A0_2 l0_2.length c0_2] 29 ?_;intro gb202 hg w15 hbox hb;have n0_:=zM (zQ zzh hb);have n1_:=zM (hbox);have n2_:=zM ((by rw [hg];exact (zR zzh):w.heap.size ≤ gb202));have n3_:=zM ((by rw [hg];exact (zR zzh):w.heap.size ≤ gb202));clear HB;have HB:=n0_;have BK202:=n1_;have GW202:=n2_;have GE202:=n3_;clear n0_ n1_ n2_ n3_;clear hb hbox hg)|((with_reducible refine gate_dst (N:=3) rfl ?_);refine zzc 3 #[.int .i64 a1_0,.int .i64 a1_1] 48 ?_;intro gb203 hg w16 hbox hb;have n0_:=zM (blk_below (g:=gb202) (o := .cells #[.int .i64 a0_0,.int .i64 a0_1,.slice A0_2 l0_2.length c0_2] 29 (0,0)) (zzi BK202) hb);have n1_:=zM (zQ zzh hb);have n2_:=zM (hbox);have n3_:=zM ((by rw [hg];exact (zR zzh):w.heap.size ≤ gb203));have n4_:=zM ((by rw [hg];exact (zR zzh):w.heap.size ≤ gb203));have n5_:=zM ((by rw [hg];exact Nat.ne_of_lt (blk_lt (g:=gb202) (o := .cells #[.int .i64 a0_0,.int .i64 a0_1,.slice A0_2 l0_2.length c0_2] 29 (0,0)) (zzi BK202)):gb202 ≠ gb203));have n6_:=zM ((by rw [hg];exact Nat.ne_of_gt (blk_lt (g:=gb202) (o := .cells #[.int .i64 a0_0,.int .i64 a0_1,.slice A0_2 l0_2.length c0_2] 29 (0,0)) (zzi BK202)):gb203 ≠ gb202));clear BK202;clear HB;have BK202:=n0_;have HB:=n1_;have BK203:=n2_;have GW203:=n3_;have GE203:=n4_;have NB202_203:=n5_;have NB203_202:=n6_;clear n0_ n1_ n2_ n3_ n4_ n5_ n6_;clear hb hbox hg;have hnb17:=NB202_203.out;have hnc17:=NB203_202.out;have hcz18_0:=zz0 BK202;have hcz18_1:=zz1 BK202;have hcz18_2:=zz2 BK202;have hfz18_0:=blk_frozen BK202.out 0;have hfz18_1:=blk_frozen BK202.out 1;have hfz18_2:=blk_frozen BK202.out 2;have hcz19_0:=zz0 BK203;have hcz19_1:=zz1 BK203;have hfz19_0:=blk_frozen BK203.out 0;have hfz19_1:=blk_frozen BK203.out 1)|((with_reducible refine gate_callee (f:=55) rfl ?_);refine goesL_ (some 7) rfl rfl Try.func55 (by kernel_rfl) rfl #[.agg #[.int .i64 a0_0,.int .i64 a0_1,.slice A0_2 l0_2.length c0_2],.agg #[.int .i64 a1_0,.int .i64 a1_1]] rfl (by (try simp only [List.map_toArray,List.map_cons,List.map_nil]);first|done|rfl|(simp only [List.length_drop,List.length_take];rfl)) ?_;(with_reducible refine (impl_onFloor.calls a0_0 a0_1 _ _ l0_2 a1_0 a1_1 false _ ?side1 ?side2 A3.out).mono ?_);(case side1=>repeat (first|exact (zO HR0_2.out HB.out)|(with_reducible first|refine zG ?_ _|refine zH ?_ _|refine zI ?_)));(case side2=>exact HC0_2.out);rintro e w20 ⟨rfl,hb⟩;refine ⟨_,rfl,?_⟩;have n0_:=zM (blk_below (g:=gb202) (o := .cells #[.int .i64 a0_0,.int .i64 a0_1,.slice A0_2 l0_2.length c0_2] 29 (0,0)) (zzi BK202) hb);have n1_:=zM (blk_below (g:=gb203) (o := .cells #[.int .i64 a1_0,.int .i64 a1_1] 48 (0,0)) (zzi BK203) hb);have n2_:=zM (zQ zzh hb);clear BK202;clear BK203;clear HB;have BK202:=n0_;have BK203:=n1_;have HB:=n2_;clear n0_ n1_ n2_;(try clear hb);(try clear hb2);(try clear hk);(try clear hi)))
  go_ret
  exact ⟨by first|rfl|(simp [errW_none,errW_some] <;> rfl)|(simp [*,errW_none,errW_some] <;> rfl),zzh⟩



/-! ### impl_size: function 85 -/
def impl_size.f (a0:Int):Option (Int):=some (mx a0 (wrap64 (-a0)))
set_option maxHeartbeats 8000000 in
set_option maxRecDepth 100000 in
theorem impl_size.calls (a0:Int) (r:Int) (w:World) (h:impl_size.f a0 = some r) :
  Calls Try.prog 85 #[.int .i64 a0] w fun e w'=>e = .returned (.int .i64 r) ∧ Below w.heap.size w w':=by
 have HB:=zM (Below.refl w.heap.size w);have H:(some (mx a0 (wrap64 (-a0)))) = some r:=h
 clear h;obtain ⟨ji2,hji2⟩ : ∃ j_:Int,(mx a0 (wrap64 (-a0))) = j_:=⟨_,rfl⟩
 replace H:(some ji2) = some r:=by first|(rw [hji2] at H;exact H)|(simp only [hji2] at H ⊢;exact H)
 have hji2_:(if a0 < (wrap64 (-a0)) then (wrap64 (-a0)) else a0) = ji2:=hji2
 obtain rfl:=Option.some.inj H;go_enter Try.func85,Try.ntmps85
 go_wp2
 go_ret
 exact ⟨by first|rfl|(simp [errW_none,errW_some] <;> rfl)|(simp only [← hji2];first|rfl|(simp [errW_none,errW_some] <;> rfl))|(simp [*,errW_none,errW_some] <;> rfl),zzh⟩



/-! ### impl_besides: function 59 -/
def impl_besides.f (a0_0:Int) (a0_1:Int) (a1_0:Int) (a1_1:Int):Option (Bool):=(impl_size.f (wrap64 (a0_0 - a1_0))).bind fun t208=>((impl_size.f (wrap64 (a0_1 - a1_1))).bind fun t209=>(some (decide ((wrap64 (t208 + t209)) ≤ 1))))
def impl_besides.T1:Bool × List (List Nat × List Nat):=(true,[([],[]),([0],[0]),([],[]),([2],[2]),([1,3],[1,3]),([4],[4]),([],[]),([6],[6]),([],[]),([8],[8]),([7,9],[7,9]),([10,5],[10]),([5,11],[5,11]),([12],[12]),([13,11,0,1,2,3,4,5,6,7,8,9,10,11,12,13],[13])])
def impl_besides.B1:List Nat:=[0,1,0,4,15,31,0,64,0,256,960,2047,4095,8191,16383]
theorem impl_besides.tab1:rtab .any (opsOf Try.f59 1) = impl_besides.T1:=by kernel_rfl
theorem impl_besides.bits1:waitsOk impl_besides.T1.2 impl_besides.B1 = true:=by kernel_rfl
set_option maxHeartbeats 8000000 in
set_option maxRecDepth 100000 in
theorem impl_besides.calls (a0_0:Int) (a0_1:Int) (a1_0:Int) (a1_1:Int) (r:Bool) (w:World) (h:impl_besides.f a0_0 a0_1 a1_0 a1_1 = some r) :
  Calls Try.prog 59 #[.agg #[.int .i64 a0_0,.int .i64 a0_1],.agg #[.int .i64 a1_0,.int .i64 a1_1]] w fun e w'=>e = .returned (.bool r) ∧ Below w.heap.size w w':=by
 have hu48:=Try.underlying48;have HB:=zM (Below.refl w.heap.size w);have H:((impl_size.f (wrap64 (a0_0 - a1_0))).bind fun t208=>((impl_size.f (wrap64 (a0_1 - a1_1))).bind fun t209=>(some (decide ((wrap64 (t208 + t209)) ≤ 1))))) = some r:=h
 clear h;replace H:=Option.bind_eq_some_iff.mp H;obtain ⟨t208,A30,H⟩:=H;replace H:((impl_size.f (wrap64 (a0_1 - a1_1))).bind fun t209=>(some (decide ((wrap64 (t208 + t209)) ≤ 1)))) = some r:=H
 have A3:=zM A30;clear A30;replace H:=Option.bind_eq_some_iff.mp H;obtain ⟨t209,A40,H⟩:=H;replace H:(some (decide ((wrap64 (t208 + t209)) ≤ 1))) = some r:=H
 have A4:=zM A40;clear A40;obtain rfl:=Option.some.inj H;go_enter Try.func59,Try.ntmps59
 try go_wp2_with (first|((with_reducible refine gate_dst (N:=2) rfl ?_);refine zzc 2 #[.int .i64 a0_0,.int .i64 a0_1] 48 ?_;intro gb206 hg w5 hbox hb;have n0_:=zM (zQ zzh hb);have n1_:=zM (hbox);have n2_:=zM ((by rw [hg];exact (zR zzh):w.heap.size ≤ gb206));have n3_:=zM ((by rw [hg];exact (zR zzh):w.heap.size ≤ gb206));clear HB;have HB:=n0_;have BK206:=n1_;have GW206:=n2_;have GE206:=n3_;clear n0_ n1_ n2_ n3_;clear hb hbox hg)|((with_reducible refine gate_dst (N:=3) rfl ?_);refine zzc 3 #[.int .i64 a1_0,.int .i64 a1_1] 48 ?_;intro gb207 hg w6 hbox hb;have n0_:=zM (blk_below (g:=gb206) (o := .cells #[.int .i64 a0_0,.int .i64 a0_1] 48 (0,0)) (zzi BK206) hb);have n1_:=zM (zQ zzh hb);have n2_:=zM (hbox);have n3_:=zM ((by rw [hg];exact (zR zzh):w.heap.size ≤ gb207));have n4_:=zM ((by rw [hg];exact (zR zzh):w.heap.size ≤ gb207));have n5_:=zM ((by rw [hg];exact Nat.ne_of_lt (blk_lt (g:=gb206) (o := .cells #[.int .i64 a0_0,.int .i64 a0_1] 48 (0,0)) (zzi BK206)):gb206 ≠ gb207));have n6_:=zM ((by rw [hg];exact Nat.ne_of_gt (blk_lt (g:=gb206) (o := .cells #[.int .i64 a0_0,.int .i64 a0_1] 48 (0,0)) (zzi BK206)):gb207 ≠ gb206));clear BK206;clear HB;have BK206:=n0_;have HB:=n1_;have BK207:=n2_;have GW207:=n3_;have GE207:=n4_;have NB206_207:=n5_;have NB207_206:=n6_;clear n0_ n1_ n2_ n3_ n4_ n5_ n6_;clear hb hbox hg))
 have n0_:=zM (zK BK206.out);have n1_:=zM (zK BK207.out);have n2_:=zM (zF HB.out);clear BK206;clear BK207;clear HB;have BK206:=n0_;have BK207:=n1_;have HB:=n2_;clear n0_ n1_ n2_;refine start_ (n:=15) (S:=fun w'=>w'.cell? ⟨gb206,0,none⟩ = some (.int .i64 a0_0) ∧ w'.cell? ⟨gb206,1,none⟩ = some (.int .i64 a0_1) ∧ w'.cell? ⟨gb207,0,none⟩ = some (.int .i64 a1_0) ∧ w'.cell? ⟨gb207,1,none⟩ = some (.int .i64 a1_1)) (ds:=[]) #[false,false,false,false,false,false,false,false,false,false,false,false,false,false,false] (by kernel_rfl) rfl rfl ⟨zz0 BK206,zz1 BK206,zz0 BK207,zz1 BK207⟩ (fun hHeld=>?_);refine with_tabW impl_besides.tab1 impl_besides.bits1 (fun HT_ HW_=>?_)
 generalize w6.drew = w7 at BK206 BK207 HB hHeld ⊢
 refine zzp 0 5 (zzb 15 1) ?_ (hc:=zzx HT_);refine zzp 2 7 (zzb 15 5) ?_ (hc:=zzx HT_);refine zzp 6 11 (zzb 15 69) ?_ (hc:=zzx HT_);refine zzp 8 13 (zzb 15 325) ?_ (hc:=zzx HT_)
 refine zzt 1 6 (zzb 15 327) hHeld ?_ (hc:=zzy HT_ HW_) (hy:=by rintro w' ⟨s0,s1,s2,s3⟩;go_simp;with_reducible rfl)
 refine zzt 3 8 (zzb 15 335) hHeld ?_ (hc:=zzy HT_ HW_) (hy:=by rintro w' ⟨s0,s1,s2,s3⟩;go_simp;with_reducible rfl);refine zzp 4 9 (zzb 15 351) ?_ (hc:=zzx HT_)
 refine zzt 7 12 (zzb 15 479) hHeld ?_ (hc:=zzy HT_ HW_) (hy:=by rintro w' ⟨s0,s1,s2,s3⟩;go_simp;with_reducible rfl)
 refine zzt 9 14 (zzb 15 991) hHeld ?_ (hc:=zzy HT_ HW_) (hy:=by rintro w' ⟨s0,s1,s2,s3⟩;go_simp;with_reducible rfl);refine zzp 10 15 (zzb 15 2015) ?_ (hc:=zzx HT_)
 refine zzo 5 10 (zzb 15 2047) (hc:=zzw HT_) (fun K hK=>?_)
 refine zzf Try.func85 #[.int .i64 (wrap64 (a0_0 - a1_0))] ?_
 with_reducible refine (impl_size.calls (wrap64 (a0_0 - a1_0)) t208 _ A3.out).mono ?_
 rintro e w8 ⟨rfl,hb⟩
 refine ⟨_,rfl,?_⟩
 have n0_:=zM (blk_below (g:=gb206) (o := .cells #[.int .i64 a0_0,.int .i64 a0_1] 48 (0,0)) (zzi BK206) hb)
 have n1_:=zM (blk_below (g:=gb207) (o := .cells #[.int .i64 a1_0,.int .i64 a1_1] 48 (0,0)) (zzi BK207) hb)
 have n2_:=zM (zQ zzh hb)
 clear BK206;clear BK207;clear HB;have BK206:=n0_;have BK207:=n1_;have HB:=n2_;clear n0_ n1_ n2_;(try clear hb)
 (try clear hb2)
 (try clear hk)
 (try clear hi)
 refine hK.out _ _ ⟨zz0 BK206,zz1 BK206,zz0 BK207,zz1 BK207⟩ (fun hHeld=>?_)
 clear hK K;refine zzn 10 ?_
 refine zzo 11 16 (zzb 15 4095) (hc:=zzw HT_) (fun K hK=>?_)
 refine zzf Try.func85 #[.int .i64 (wrap64 (a0_1 - a1_1))] ?_
 with_reducible refine (impl_size.calls (wrap64 (a0_1 - a1_1)) t209 _ A4.out).mono ?_
 rintro e w9 ⟨rfl,hb⟩
 refine ⟨_,rfl,?_⟩
 have n0_:=zM (blk_below (g:=gb206) (o := .cells #[.int .i64 a0_0,.int .i64 a0_1] 48 (0,0)) (zzi BK206) hb)
 have n1_:=zM (blk_below (g:=gb207) (o := .cells #[.int .i64 a1_0,.int .i64 a1_1] 48 (0,0)) (zzi BK207) hb)
 have n2_:=zM (zQ zzh hb)
 clear BK206;clear BK207;clear HB;have BK206:=n0_;have BK207:=n1_;have HB:=n2_;clear n0_ n1_ n2_;(try clear hb)
 (try clear hb2)
 (try clear hk)
 (try clear hi)
 refine hK.out _ _ ⟨zz0 BK206,zz1 BK206,zz0 BK207,zz1 BK207⟩ (fun hHeld=>?_)
 clear hK K;refine zzn 16 ?_;refine zzp 12 17 (zzb 15 8191) ?_ (hc:=zzx HT_);refine zzp 13 18 (zzb 15 16383) ?_ (hc:=zzx HT_);refine zzp 14 4 (zzb 15 32767) ?_ (hc:=zzx HT_)
 refine done_ (done_of HT_.out (by kernel_rfl)) ?_
 try go_wp2
 go_ret
 exact ⟨by first|rfl|(simp [errW_none,errW_some] <;> rfl)|(simp [*,errW_none,errW_some] <;> rfl),zzh⟩



/-! ### impl_IsValidPath: function 21 -/
mutual
def impl_IsValidPath.j0:Nat → List (S48) → Bool → Int → Int → List (S48) → Option (Bool)
 | 0,_,_,_,_,_=>none
 | k + 1,x1,x15,x211000,x211001,x211002=>if x15 = true then (some false) else (impl_IsValidPath.l0 k x1 x1 (x1.length:Int) 0 x211000 x211001 x211002)
def impl_IsValidPath.l0:Nat → List (S48) → List (S48) → Int → Int → Int → Int → List (S48) → Option (Bool)
 | 0,_,_,_,_,_,_,_=>none
 | k + 1,x1,x16,x17,x18,x211000,x211001,x211002=>if x18 < x17 then (if 0 ≤ x18 then (if x18 < (x16.length:Int) then ((impl_isFree.f k x211000 x211001 x211002 ((rd_T48 x16 x18).f0) ((rd_T48 x16 x18).f1)).bind fun t215=>(if t215 = true then (if x18 > 0 then (if 0 ≤ (wrap64 (x18 - 1)) then (if (wrap64 (x18 - 1)) < (x1.length:Int) then ((impl_besides.f ((rd_T48 x1 (wrap64 (x18 - 1))).f0) ((rd_T48 x1 (wrap64 (x18 - 1))).f1) ((rd_T48 x16 x18).f0) ((rd_T48 x16 x18).f1)).bind fun t217=>(if t217 = true then (impl_IsValidPath.l0 k x1 x16 x17 (wrap64 (x18 + 1)) x211000 x211001 x211002) else (some false))) else (none)) else (none)) else (impl_IsValidPath.l0 k x1 x16 x17 (wrap64 (x18 + 1)) x211000 x211001 x211002)) else (some false))) else (none)) else (none)) else (some true)
end
def impl_IsValidPath.f (k:Nat) (a0_0:Int) (a0_1:Int) (l0_2:List (S48)) (l1:List (S48)):Option (Bool):=(impl_IsValidFloor.f k a0_0 a0_1 l0_2).bind fun t211=>(if t211 = true then ((impl_within.f (l1.length:Int) 1 25).bind fun t212=>(impl_IsValidPath.j0 k l1 (!t212) a0_0 a0_1 l0_2)) else (impl_IsValidPath.j0 k l1 true a0_0 a0_1 l0_2))
def impl_IsValidPath.T6:Bool × List (List Nat × List Nat):=(true,[([],[]),([],[]),([0,1],[0,1]),([2],[2]),([3,2],[3]),([4],[4]),([5,4],[4,5]),([6,4,4],[4,6]),([7],[7]),([7],[7]),([9,7],[7,9]),([8,10,7],[7,8,10]),([11,7],[7,11]),([7],[7]),([12,13,7,7],[7,12,13]),([14,7],[7,14]),([7,15,4],[4,7,15]),([4,16],[4,16])])
def impl_IsValidPath.B6:List Nat:=[0,0,3,7,15,31,63,127,255,255,767,2047,4095,255,16383,32767,65535,131071]
theorem impl_IsValidPath.tab6:rtab .any (opsOf Try.f21 6) = impl_IsValidPath.T6:=by kernel_rfl
theorem impl_IsValidPath.bits6:waitsOk impl_IsValidPath.T6.2 impl_IsValidPath.B6 = true:=by kernel_rfl
set_option maxHeartbeats 8000000 in
set_option maxRecDepth 100000 in
theorem impl_IsValidPath.calls (k:Nat) (a0_0:Int) (a0_1:Int) (A0_2:Option Addr) (c0_2:Nat) (l0_2:List (S48)) (A1:Option Addr) (c1:Nat) (l1:List (S48)) (r:Bool) (w:World) (hr0_2:Kd.C k48 w A0_2 l0_2.length l0_2) (hc0_2:l0_2.length ≤ c0_2) (hr1:Kd.C k48 w A1 l1.length l1) (hc1:l1.length ≤ c1) (h:impl_IsValidPath.f k a0_0 a0_1 l0_2 l1 = some r) :
  Calls Try.prog 21 #[.agg #[.int .i64 a0_0,.int .i64 a0_1,.slice A0_2 l0_2.length c0_2],.slice A1 l1.length c1] w fun e w'=>e = .returned (.bool r) ∧ Below w.heap.size w w':=by
 have hu29:=Try.underlying29;have hu48:=Try.underlying48;have HR0_2:=zM hr0_2;have HC0_2:=zM hc0_2;clear hr0_2 hc0_2;have HR1:=zM hr1;have HC1:=zM hc1;clear hr1 hc1;have HB:=zM (Below.refl w.heap.size w);have H:((impl_IsValidFloor.f k a0_0 a0_1 l0_2).bind fun t211=>(if t211 = true then ((impl_within.f (l1.length:Int) 1 25).bind fun t212=>(impl_IsValidPath.j0 k l1 (!t212) a0_0 a0_1 l0_2)) else (impl_IsValidPath.j0 k l1 true a0_0 a0_1 l0_2))) = some r:=h
 clear h;have HC3:=zM H;clear H;go_enter Try.func21,Try.ntmps21
 go_upto_region 1 with (first|((with_reducible refine gate_dst (N:=2) rfl ?_);(try (refine gate_guard (by rfl) ?_;dsimp only));refine zzc 2 #[.int .i64 a0_0,.int .i64 a0_1,.slice A0_2 l0_2.length c0_2] 29 ?_;intro gb210 hg w4 hbox hb;have n0_:=zM (zQ zzh hb);have n1_:=zM (hbox);have n2_:=zM ((by rw [hg];exact (zR zzh):w.heap.size ≤ gb210));have n3_:=zM ((by rw [hg];exact (zR zzh):w.heap.size ≤ gb210));clear HB;have HB:=n0_;have BK210:=n1_;have GW210:=n2_;have GE210:=n3_;clear n0_ n1_ n2_ n3_;clear hb hbox hg))
 (try simp only [Act.put,zT,zU,zV])
 go_cut [15] (fun v15 wc => ∃ (kq:Nat) (x15_2:Bool),v15 = .bool x15_2 ∧ Aside0 (impl_IsValidPath.j0 kq l1 x15_2 a0_0 a0_1 l0_2 = some r) ∧ Aside0 (kq ≤ k) ∧ Aside0 (wc.heap[gb210]? = some (.cells #[.int .i64 a0_0,.int .i64 a0_1,(.slice A0_2 l0_2.length c0_2)] 29 (0,0))) ∧ Aside0 (Below w.heap.size w wc))
 case first =>
  have H:=HC3.out;clear HC3;replace H:=Option.bind_eq_some_iff.mp H;obtain ⟨t211,A50,H⟩:=H;replace H:(if t211 = true then ((impl_within.f (l1.length:Int) 1 25).bind fun t212=>(impl_IsValidPath.j0 k l1 (!t212) a0_0 a0_1 l0_2)) else (impl_IsValidPath.j0 k l1 true a0_0 a0_1 l0_2)) = some r:=H
  have A5:=zM A50;clear A50;by_cases c6:t211 = true
  ·subst c6
   have H1:((impl_within.f (l1.length:Int) 1 25).bind fun t212=>(impl_IsValidPath.j0 k l1 (!t212) a0_0 a0_1 l0_2)) = some r:=by rw [if_pos rfl] at H;exact H
   clear H;have H:=H1;clear H1;replace H:=Option.bind_eq_some_iff.mp H;obtain ⟨t212,A70,H⟩:=H;replace H:(impl_IsValidPath.j0 k l1 (!t212) a0_0 a0_1 l0_2) = some r:=H
   have A7:=zM A70;clear A70;have H':=zM H;clear H;have hcz8_0:=zz0 BK210
   have hcz8_1:=zz1 BK210
   have hcz8_2:=zz2 BK210
   have hfz8_0:=blk_frozen BK210.out 0;have hfz8_1:=blk_frozen BK210.out 1;have hfz8_2:=blk_frozen BK210.out 2;go_wp2_with (first|((with_reducible refine gate_callee (f:=16) rfl ?_);refine goesL_ (some 8) rfl rfl Try.func16 (by kernel_rfl) rfl #[.agg #[.int .i64 a0_0,.int .i64 a0_1,.slice A0_2 l0_2.length c0_2]] rfl (by (try simp only [List.map_toArray,List.map_cons,List.map_nil]);first|done|rfl|(simp only [List.length_drop,List.length_take];rfl)) ?_;(with_reducible refine (impl_IsValidFloor.calls k a0_0 a0_1 _ _ l0_2 true _ ?side1 ?side2 A5.out).mono ?_);(case side1=>repeat (first|exact (zO HR0_2.out HB.out)|(with_reducible first|refine zG ?_ _|refine zH ?_ _|refine zI ?_)));(case side2=>exact HC0_2.out);rintro e w9 ⟨rfl,hb⟩;refine ⟨_,rfl,?_⟩;have n0_:=zM (blk_below (g:=gb210) (o := .cells #[.int .i64 a0_0,.int .i64 a0_1,.slice A0_2 l0_2.length c0_2] 29 (0,0)) (zzi BK210) hb);have n1_:=zM (zQ zzh hb);clear BK210;clear HB;have BK210:=n0_;have HB:=n1_;clear n0_ n1_;(try clear hb);(try clear hb2);(try clear hk);(try clear hi))|(go_at_call 54;(with_reducible refine (impl_within.calls (l1.length:Int) 1 25 t212 _ A7.out).mono ?_);rintro e w' ⟨rfl,⟨nd,rfl⟩⟩))
   go_meet
   case rel=>exact ⟨_,(!t212),(by first|rfl|(simp;done)|(simp [*];done)),H',⟨by first|omega|exact Nat.le_refl _⟩,⟨zzi BK210⟩,⟨zzh⟩⟩
  ·replace c6:=Bool.eq_false_iff.mpr c6
   subst c6;have H1:(impl_IsValidPath.j0 k l1 true a0_0 a0_1 l0_2) = some r:=by rw [if_neg (show ¬ (false = true) by decide)] at H;exact H
   clear H;have H:=H1;clear H1;have H':=zM H;clear H;have hcz10_0:=zz0 BK210
   have hcz10_1:=zz1 BK210
   have hcz10_2:=zz2 BK210
   have hfz10_0:=blk_frozen BK210.out 0;have hfz10_1:=blk_frozen BK210.out 1;have hfz10_2:=blk_frozen BK210.out 2;go_wp2_with (first|((with_reducible refine gate_callee (f:=16) rfl ?_);refine goesL_ (some 8) rfl rfl Try.func16 (by kernel_rfl) rfl #[.agg #[.int .i64 a0_0,.int .i64 a0_1,.slice A0_2 l0_2.length c0_2]] rfl (by (try simp only [List.map_toArray,List.map_cons,List.map_nil]);first|done|rfl|(simp only [List.length_drop,List.length_take];rfl)) ?_;(with_reducible refine (impl_IsValidFloor.calls k a0_0 a0_1 _ _ l0_2 false _ ?side1 ?side2 A5.out).mono ?_);(case side1=>repeat (first|exact (zO HR0_2.out HB.out)|(with_reducible first|refine zG ?_ _|refine zH ?_ _|refine zI ?_)));(case side2=>exact HC0_2.out);rintro e w11 ⟨rfl,hb⟩;refine ⟨_,rfl,?_⟩;have n0_:=zM (blk_below (g:=gb210) (o := .cells #[.int .i64 a0_0,.int .i64 a0_1,.slice A0_2 l0_2.length c0_2] 29 (0,0)) (zzi BK210) hb);have n1_:=zM (zQ zzh hb);clear BK210;clear HB;have BK210:=n0_;have HB:=n1_;clear n0_ n1_;(try clear hb);(try clear hb2);(try clear hk);(try clear hi)))
   go_meet
   case rel=>exact ⟨_,(true),(by first|rfl|(simp;done)|(simp [*];done)),H',⟨by first|omega|exact Nat.le_refl _⟩,⟨zzi BK210⟩,⟨zzh⟩⟩
 case rest =>
  clear HC3;(try clear c1);(try clear c2);(try clear p2);(try clear c6);(try clear hcz10_0);(try clear hcz10_1);(try clear hcz10_2);(try clear hcz8_0);(try clear hcz8_1);(try clear hcz8_2);(try clear hfz10_0);(try clear hfz10_1);(try clear hfz10_2);(try clear hfz8_0);(try clear hfz8_1);(try clear hfz8_2);obtain ⟨kq,x15_2,rfl,HA,HJ2,BK210,HB⟩:=hcut;cases kq with
  | zero=>exact absurd HA.out (by simp [impl_IsValidPath.j0])
  | succ kj2 =>
   have H:=HA.out;clear HA;simp only [impl_IsValidPath.j0] at H
   by_cases c12:x15_2 = true
   ·subst c12
    have H1:(some false) = some r:=by rw [if_pos rfl] at H;exact H
    clear H;have H:=H1;clear H1;obtain rfl:=Option.some.inj H;go_wp2
    go_ret
    exact ⟨by first|rfl|(simp [errW_none,errW_some] <;> rfl)|(simp [*,errW_none,errW_some] <;> rfl),zzh⟩
   ·replace c12:=Bool.eq_false_iff.mpr c12
    subst c12;have H1:(impl_IsValidPath.l0 kj2 l1 l1 (l1.length:Int) 0 a0_0 a0_1 l0_2) = some r:=by rw [if_neg (show ¬ (false = true) by decide)] at H;exact H
    clear H;have H:=H1;clear H1;have H':=zM H;clear H;go_wp2
    go_loopg [18] kj2 (fun kq v18 w' => ∃ (x18_2:Int),v18 = .int .i64 x18_2 ∧ Aside0 (impl_IsValidPath.l0 kq l1 l1 (l1.length:Int) x18_2 a0_0 a0_1 l0_2 = some r) ∧ Aside0 (kq ≤ kj2) ∧ Aside0 (w'.heap[gb210]? = some (.cells #[.int .i64 a0_0,.int .i64 a0_1,(.slice A0_2 l0_2.length c0_2)] 29 (0,0))) ∧ Aside0 (Below w.heap.size w w'))
    case atStart=>exact ⟨(0),(by first|rfl|(simp;done)|(simp [*];done)),H',⟨Nat.le_refl _⟩,⟨zzi BK210⟩,⟨zzh⟩⟩
    case round =>
     clear H';(try clear c1);(try clear c2);(try clear p2);(try clear c6);(try clear c12);(try clear hcz10_0);(try clear hcz10_1);(try clear hcz10_2);(try clear hcz8_0);(try clear hcz8_1);(try clear hcz8_2);(try clear hfz10_0);(try clear hfz10_1);(try clear hfz10_2);(try clear hfz8_0);(try clear hfz8_1);(try clear hfz8_2);(try clear p2);obtain ⟨x18_2,rfl,HA,HK2,BK210,HB⟩:=hrel;cases gk with
     | zero=>exact absurd HA.out (by simp [impl_IsValidPath.l0])
     | succ k2 =>
      have H:=HA.out;clear HA;simp only [impl_IsValidPath.l0] at H
      by_cases c13:x18_2 < (l1.length:Int)
      ·rw [if_pos c13] at H
       have c13b0:decide (x18_2 < (l1.length:Int)) = true:=decide_eq_true c13
       clear c13;by_cases c14:0 ≤ x18_2
       ·rw [if_pos c14] at H
        have c14b0:decide (0 ≤ x18_2) = true:=decide_eq_true c14
        clear c14;by_cases c15:x18_2 < (l1.length:Int)
        ·rw [if_pos c15] at H
         have c15b0:decide (x18_2 < (l1.length:Int)) = true:=decide_eq_true c15
         clear c15;replace H:=Option.bind_eq_some_iff.mp H;obtain ⟨t215,A160,H⟩:=H;replace H:(if t215 = true then (if x18_2 > 0 then (if 0 ≤ (wrap64 (x18_2 - 1)) then (if (wrap64 (x18_2 - 1)) < (l1.length:Int) then ((impl_besides.f ((rd_T48 l1 (wrap64 (x18_2 - 1))).f0) ((rd_T48 l1 (wrap64 (x18_2 - 1))).f1) ((rd_T48 l1 x18_2).f0) ((rd_T48 l1 x18_2).f1)).bind fun t217=>(if t217 = true then (impl_IsValidPath.l0 k2 l1 l1 (l1.length:Int) (wrap64 (x18_2 + 1)) a0_0 a0_1 l0_2) else (some false))) else (none)) else (none)) else (impl_IsValidPath.l0 k2 l1 l1 (l1.length:Int) (wrap64 (x18_2 + 1)) a0_0 a0_1 l0_2)) else (some false)) = some r:=H
         have A16:=zM A160;clear A160;by_cases c17:t215 = true
         ·subst c17
          have H1:(if x18_2 > 0 then (if 0 ≤ (wrap64 (x18_2 - 1)) then (if (wrap64 (x18_2 - 1)) < (l1.length:Int) then ((impl_besides.f ((rd_T48 l1 (wrap64 (x18_2 - 1))).f0) ((rd_T48 l1 (wrap64 (x18_2 - 1))).f1) ((rd_T48 l1 x18_2).f0) ((rd_T48 l1 x18_2).f1)).bind fun t217=>(if t217 = true then (impl_IsValidPath.l0 k2 l1 l1 (l1.length:Int) (wrap64 (x18_2 + 1)) a0_0 a0_1 l0_2) else (some false))) else (none)) else (none)) else (impl_IsValidPath.l0 k2 l1 l1 (l1.length:Int) (wrap64 (x18_2 + 1)) a0_0 a0_1 l0_2)) = some r:=by rw [if_pos rfl] at H;exact H
          clear H;have H:=H1;clear H1;by_cases c18:x18_2 > 0
          ·rw [if_pos c18] at H
           have c18b0:decide (0 < x18_2) = true:=decide_eq_true c18
           clear c18;obtain ⟨ji19,hji19⟩ : ∃ j_:Int,(wrap64 (x18_2 - 1)) = j_:=⟨_,rfl⟩
           replace H:(if 0 ≤ (ji19) then (if (ji19) < (l1.length:Int) then ((impl_besides.f ((rd_T48 l1 (ji19)).f0) ((rd_T48 l1 (ji19)).f1) ((rd_T48 l1 x18_2).f0) ((rd_T48 l1 x18_2).f1)).bind fun t217=>(if t217 = true then (impl_IsValidPath.l0 k2 l1 l1 (l1.length:Int) (wrap64 (x18_2 + 1)) a0_0 a0_1 l0_2) else (some false))) else (none)) else (none)) = some r:=by first|(rw [hji19] at H;exact H)|(simp only [hji19] at H ⊢;exact H)
           (try rw [hji19] at A16)
           have hji19w:(IntKind.i64.wrap (x18_2 - 1)) = ji19:=(i64_w _).trans hji19
           by_cases c20:0 ≤ (ji19)
           ·rw [if_pos c20] at H
            have c20b0:decide (0 ≤ (ji19)) = true:=decide_eq_true c20
            clear c20;by_cases c21:(ji19) < (l1.length:Int)
            ·rw [if_pos c21] at H
             have c21b0:decide ((ji19) < (l1.length:Int)) = true:=decide_eq_true c21
             clear c21;replace H:=Option.bind_eq_some_iff.mp H;obtain ⟨t217,A220,H⟩:=H;replace H:(if t217 = true then (impl_IsValidPath.l0 k2 l1 l1 (l1.length:Int) (wrap64 (x18_2 + 1)) a0_0 a0_1 l0_2) else (some false)) = some r:=H
             have A22:=zM A220;clear A220;by_cases c23:t217 = true
             ·subst c23
              have H1:(impl_IsValidPath.l0 k2 l1 l1 (l1.length:Int) (wrap64 (x18_2 + 1)) a0_0 a0_1 l0_2) = some r:=by rw [if_pos rfl] at H;exact H
              clear H;have H:=H1;clear H1;have H':=zM H;clear H;have p213:0 ≤ (x18_2:Int):=zzd
              have q213:x18_2 < (l1.length:Int):=zzd
              obtain ⟨ad213,e213,hx213_0,hx213_1⟩:=at_T48 HR1.out x18_2 p213 q213;cases e213
              replace hx213_0:=zS HB.out hx213_0;replace hx213_1:=zS HB.out hx213_1;replace p213:=eq_true p213;replace q213:=eq_true q213;try go_wp2_with (first|((with_reducible refine gate_dst (N:=6) rfl ?_);(try (refine gate_guard (by rfl) ?_;dsimp only));refine zzc 6 #[.int .i64 0,.int .i64 0] 48 ?_;intro gb214 hg w24 hbox hb;have n0_:=zM (blk_below (g:=gb210) (o := .cells #[.int .i64 a0_0,.int .i64 a0_1,.slice A0_2 l0_2.length c0_2] 29 (0,0)) (zzi BK210) hb);have n1_:=zM (zQ zzh hb);have n2_:=zM (hbox);have n3_:=zM ((by rw [hg];exact (zR zzh):w.heap.size ≤ gb214));have n4_:=zM ((by rw [hg];exact (zR zzh):w.heap.size ≤ gb214));have n5_:=zM ((by rw [hg];exact Nat.ne_of_lt (blk_lt (g:=gb210) (o := .cells #[.int .i64 a0_0,.int .i64 a0_1,.slice A0_2 l0_2.length c0_2] 29 (0,0)) (zzi BK210)):gb210 ≠ gb214));have n6_:=zM ((by rw [hg];exact Nat.ne_of_gt (blk_lt (g:=gb210) (o := .cells #[.int .i64 a0_0,.int .i64 a0_1,.slice A0_2 l0_2.length c0_2] 29 (0,0)) (zzi BK210)):gb214 ≠ gb210));clear BK210;clear HB;have BK210:=n0_;have HB:=n1_;have BK214:=n2_;have GW214:=n3_;have GE214:=n4_;have NB210_214:=n5_;have NB214_210:=n6_;clear n0_ n1_ n2_ n3_ n4_ n5_ n6_;clear hb hbox hg;have hnb25:=NB214_210.out;have hnc25:=NB210_214.out;have hcz26_0:=zz0 BK214;have hcz26_1:=zz1 BK214;have hfz26_0:=blk_frozen BK214.out 0;have hfz26_1:=blk_frozen BK214.out 1))
              have n0_:Aside0 (((w24.setCell ⟨gb214,0,none⟩ (.int .i64 ((rd_T48 l1 x18_2).f0))).setCell ⟨gb214,1,none⟩ (.int .i64 ((rd_T48 l1 x18_2).f1))).heap[gb210]? = some (.cells #[.int .i64 a0_0,.int .i64 a0_1,.slice A0_2 l0_2.length c0_2] 29 (0,0))):=⟨by (with_reducible repeat (first|refine zJ ?_ _|refine zK ?_|refine zL ?_ _));refine blk_far ?_ NB210_214.out _;(with_reducible repeat (first|refine zJ ?_ _|refine zK ?_|refine zL ?_ _));refine blk_far ?_ NB210_214.out _;(with_reducible repeat (first|refine zJ ?_ _|refine zK ?_|refine zL ?_ _));exact BK210.out⟩
              have n1_:Aside0 (((w24.setCell ⟨gb214,0,none⟩ (.int .i64 ((rd_T48 l1 x18_2).f0))).setCell ⟨gb214,1,none⟩ (.int .i64 ((rd_T48 l1 x18_2).f1))).heap[gb214]? = some (.cells #[.int .i64 ((rd_T48 l1 x18_2).f0),.int .i64 ((rd_T48 l1 x18_2).f1)] 48 (0,0))):=⟨by (with_reducible repeat (first|refine zJ ?_ _|refine zK ?_|refine zL ?_ _));refine blk_put (cs := #[.int .i64 ((rd_T48 l1 x18_2).f0),.int .i64 0]) ?_ 1 _ rfl;(with_reducible repeat (first|refine zJ ?_ _|refine zK ?_|refine zL ?_ _));refine blk_put (cs := #[.int .i64 0,.int .i64 0]) ?_ 0 _ rfl;(with_reducible repeat (first|refine zJ ?_ _|refine zK ?_|refine zL ?_ _));exact BK214.out⟩
              have n2_:Aside0 (Below w.heap.size w ((w24.setCell ⟨gb214,0,none⟩ (.int .i64 ((rd_T48 l1 x18_2).f0))).setCell ⟨gb214,1,none⟩ (.int .i64 ((rd_T48 l1 x18_2).f1)))):=⟨zzh⟩
              (try clear BK210)
              (try clear BK214)
              (try clear HB)
              generalize ((w24.setCell ⟨gb214,0,none⟩ (.int .i64 ((rd_T48 l1 x18_2).f0))).setCell ⟨gb214,1,none⟩ (.int .i64 ((rd_T48 l1 x18_2).f1))) = w27 at n0_ n1_ n2_ ⊢
              have BK210:=n0_;have BK214:=n1_;have HB:=n2_;clear n0_ n1_ n2_;have n0_:=zM (zK BK210.out);have n1_:=zM (zK BK214.out);have n2_:=zM (zF HB.out);clear BK210;clear BK214;clear HB;have BK210:=n0_;have BK214:=n1_;have HB:=n2_;clear n0_ n1_ n2_;have p216:0 ≤ ((ji19):Int):=zzd
              have q216:(ji19) < (l1.length:Int):=zzd
              obtain ⟨ad216,e216,hx216_0,hx216_1⟩:=at_T48 HR1.out (ji19) p216 q216;have hw216_1:=hx216_1;have hw216_0:=hx216_0;obtain rfl:ad213 = ad216:=(by injection e216)
              replace hx216_0:=zS HB.out hx216_0;replace hx216_1:=zS HB.out hx216_1;replace p216:=eq_true p216;replace q216:=eq_true q216;refine start_ (n:=18) (S:=fun w'=>w'.cell? ⟨gb210,0,none⟩ = some (.int .i64 a0_0) ∧ w'.cell? ⟨gb210,1,none⟩ = some (.int .i64 a0_1) ∧ w'.cell? ⟨gb210,2,none⟩ = some (.slice A0_2 l0_2.length c0_2) ∧ w'.cell? ⟨gb214,0,none⟩ = some (.int .i64 ((rd_T48 l1 x18_2).f0)) ∧ w'.cell? ⟨gb214,1,none⟩ = some (.int .i64 ((rd_T48 l1 x18_2).f1)) ∧ w'.cell? (ad213.add (((ji19)).toNat * 2)) = some (.int .i64 ((rd_T48 l1 (ji19)).f0)) ∧ w'.cell? ⟨(ad213.add (((ji19)).toNat * 2)).block,(ad213.add (((ji19)).toNat * 2)).off + 1,none⟩ = some (.int .i64 ((rd_T48 l1 (ji19)).f1))) (ds:=[]) #[false,false,false,false,false,false,false,false,false,false,false,false,false,false,false,false,false,false] (by kernel_rfl) rfl rfl ⟨zz0 BK210,zz1 BK210,zz2 BK210,zz0 BK214,zz1 BK214,(zS HB.out hw216_0 :),(zS HB.out hw216_1 :)⟩ (fun hHeld=>?_);refine with_tabW impl_IsValidPath.tab6 impl_IsValidPath.bits6 (fun HT_ HW_=>?_)
              generalize w27.drew = w28 at BK210 BK214 HB hx216_0 hx216_1 hHeld ⊢
              refine zzt 0 23 (zzb 18 1) hHeld ?_ (hc:=zzy HT_ HW_) (hy:=by rintro w' ⟨s0,s1,s2,s3,s4,s5,s6⟩;go_simp;with_reducible rfl)
              refine zzt 1 24 (zzb 18 3) hHeld ?_ (hc:=zzy HT_ HW_) (hy:=by rintro w' ⟨s0,s1,s2,s3,s4,s5,s6⟩;go_simp;with_reducible rfl)
              refine zzo 2 25 (zzb 18 7) (hc:=zzw HT_) (fun K hK=>?_)
              refine zzf Try.func58 #[.agg #[.int .i64 a0_0,.int .i64 a0_1,.slice A0_2 l0_2.length c0_2],.agg #[.int .i64 ((rd_T48 l1 x18_2).f0),.int .i64 ((rd_T48 l1 x18_2).f1)]] ?_
              with_reducible refine (impl_isFree.calls k2 a0_0 a0_1 _ _ l0_2 ((rd_T48 l1 x18_2).f0) ((rd_T48 l1 x18_2).f1) true _ ?side1 ?side2 A16.out).mono ?_
              (case side1=>repeat (first|exact (zO HR0_2.out HB.out)|(with_reducible first|refine zG ?_ _|refine zH ?_ _|refine zI ?_)))
              (case side2=>exact HC0_2.out)
              rintro e w29 ⟨rfl,hb⟩
              refine ⟨_,rfl,?_⟩
              have n0_:=zM (blk_below (g:=gb210) (o := .cells #[.int .i64 a0_0,.int .i64 a0_1,.slice A0_2 l0_2.length c0_2] 29 (0,0)) (zzi BK210) hb)
              have n1_:=zM (blk_below (g:=gb214) (o := .cells #[.int .i64 ((rd_T48 l1 x18_2).f0),.int .i64 ((rd_T48 l1 x18_2).f1)] 48 (0,0)) (zzi BK214) hb)
              have n2_:=zM (zQ zzh hb)
              clear BK210;clear BK214;clear HB;have BK210:=n0_;have BK214:=n1_;have HB:=n2_;clear n0_ n1_ n2_;(try clear hb)
              (try clear hb2)
              (try clear hk)
              (try clear hi)
              refine hK.out _ _ ⟨zz0 BK210,zz1 BK210,zz2 BK210,zz0 BK214,zz1 BK214,(zS HB.out hw216_0 :),(zS HB.out hw216_1 :)⟩ (fun hHeld=>?_)
              clear hK K;refine zzn 25 ?_;refine zzp 3 26 (zzb 18 15) ?_ (hc:=zzx HT_);refine zzp 4 27 (zzb 18 31) ?_ (hc:=zzx HT_);refine zzp 5 28 (zzb 18 63) ?_ (hc:=zzx HT_);refine zzp 6 29 (zzb 18 127) ?_ (hc:=zzx HT_);refine zzp 7 30 (zzb 18 255) ?_ (hc:=zzx HT_);refine zzp 8 31 (zzb 18 511) ?_ (hc:=zzx HT_);refine zzp 9 32 (zzb 18 1023) ?_ (hc:=zzx HT_);refine zzp 10 33 (zzb 18 2047) ?_ (hc:=zzx HT_);refine zzp 11 34 (zzb 18 4095) ?_ (hc:=zzx HT_)
              refine zzt 12 35 (zzb 18 8191) hHeld ?_ (hc:=zzy HT_ HW_) (hy:=by rintro w' ⟨s0,s1,s2,s3,s4,s5,s6⟩;go_simp;with_reducible rfl)
              refine zzt 13 36 (zzb 18 16383) hHeld ?_ (hc:=zzy HT_ HW_) (hy:=by rintro w' ⟨s0,s1,s2,s3,s4,s5,s6⟩;go_simp;with_reducible rfl)
              refine zzo 14 37 (zzb 18 32767) (hc:=zzw HT_) (fun K hK=>?_)
              refine goes_ Try.func59 (by kernel_rfl) rfl #[.agg #[.int .i64 ((rd_T48 l1 (ji19)).f0),.int .i64 ((rd_T48 l1 (ji19)).f1)],.agg #[.int .i64 ((rd_T48 l1 x18_2).f0),.int .i64 ((rd_T48 l1 x18_2).f1)]] (by rfl) rfl rfl (by (try simp only [List.map_toArray,List.map_cons,List.map_nil]);first|done|(simp only [hji19];rfl)|rfl|(simp only [List.length_drop,List.length_take];rfl)) ?_
              with_reducible refine (impl_besides.calls ((rd_T48 l1 (ji19)).f0) ((rd_T48 l1 (ji19)).f1) ((rd_T48 l1 x18_2).f0) ((rd_T48 l1 x18_2).f1) true _ A22.out).mono ?_
              rintro e w30 ⟨rfl,hb⟩
              refine ⟨_,rfl,?_⟩
              have n0_:=zM (blk_below (g:=gb210) (o := .cells #[.int .i64 a0_0,.int .i64 a0_1,.slice A0_2 l0_2.length c0_2] 29 (0,0)) (zzi BK210) hb)
              have n1_:=zM (blk_below (g:=gb214) (o := .cells #[.int .i64 ((rd_T48 l1 x18_2).f0),.int .i64 ((rd_T48 l1 x18_2).f1)] 48 (0,0)) (zzi BK214) hb)
              have n2_:=zM (zQ zzh hb)
              clear BK210;clear BK214;clear HB;have BK210:=n0_;have BK214:=n1_;have HB:=n2_;clear n0_ n1_ n2_;(try clear hb)
              (try clear hb2)
              (try clear hk)
              (try clear hi)
              refine hK.out _ _ ⟨zz0 BK210,zz1 BK210,zz2 BK210,zz0 BK214,zz1 BK214,(zS HB.out hw216_0 :),(zS HB.out hw216_1 :)⟩ (fun hHeld=>?_)
              clear hK K;refine zzn 37 ?_;refine zzp 15 38 (zzb 18 65535) ?_ (hc:=zzx HT_);refine zzp 16 39 (zzb 18 131071) ?_ (hc:=zzx HT_);refine zzp 17 40 (zzb 18 262143) ?_ (hc:=zzx HT_)
              refine done_ (done_of HT_.out (by kernel_rfl)) ?_
              try go_wp2
              go_roundg k2
              case measure=>have:=HJ2.out;have:=HK2.out;omega
              case rel=>exact ⟨(wrap64 (x18_2 + 1)),(by first|rfl|(simp;done)|(simp [*];done)),H',⟨by have:=HJ2.out;have:=HK2.out;omega⟩,⟨zzi BK210⟩,⟨zzh⟩⟩
             ·replace c23:=Bool.eq_false_iff.mpr c23
              subst c23;have H1:(some false) = some r:=by rw [if_neg (show ¬ (false = true) by decide)] at H;exact H
              clear H;have H:=H1;clear H1;obtain rfl:=Option.some.inj H;have p213:0 ≤ (x18_2:Int):=zzd
              have q213:x18_2 < (l1.length:Int):=zzd
              obtain ⟨ad213,e213,hx213_0,hx213_1⟩:=at_T48 HR1.out x18_2 p213 q213;cases e213
              replace hx213_0:=zS HB.out hx213_0;replace hx213_1:=zS HB.out hx213_1;replace p213:=eq_true p213;replace q213:=eq_true q213;try go_wp2_with (first|((with_reducible refine gate_dst (N:=6) rfl ?_);(try (refine gate_guard (by rfl) ?_;dsimp only));refine zzc 6 #[.int .i64 0,.int .i64 0] 48 ?_;intro gb214 hg w31 hbox hb;have n0_:=zM (blk_below (g:=gb210) (o := .cells #[.int .i64 a0_0,.int .i64 a0_1,.slice A0_2 l0_2.length c0_2] 29 (0,0)) (zzi BK210) hb);have n1_:=zM (zQ zzh hb);have n2_:=zM (hbox);have n3_:=zM ((by rw [hg];exact (zR zzh):w.heap.size ≤ gb214));have n4_:=zM ((by rw [hg];exact (zR zzh):w.heap.size ≤ gb214));have n5_:=zM ((by rw [hg];exact Nat.ne_of_lt (blk_lt (g:=gb210) (o := .cells #[.int .i64 a0_0,.int .i64 a0_1,.slice A0_2 l0_2.length c0_2] 29 (0,0)) (zzi BK210)):gb210 ≠ gb214));have n6_:=zM ((by rw [hg];exact Nat.ne_of_gt (blk_lt (g:=gb210) (o := .cells #[.int .i64 a0_0,.int .i64 a0_1,.slice A0_2 l0_2.length c0_2] 29 (0,0)) (zzi BK210)):gb214 ≠ gb210));clear BK210;clear HB;have BK210:=n0_;have HB:=n1_;have BK214:=n2_;have GW214:=n3_;have GE214:=n4_;have NB210_214:=n5_;have NB214_210:=n6_;clear n0_ n1_ n2_ n3_ n4_ n5_ n6_;clear hb hbox hg;have hnb32:=NB214_210.out;have hnc32:=NB210_214.out;have hcz33_0:=zz0 BK214;have hcz33_1:=zz1 BK214;have hfz33_0:=blk_frozen BK214.out 0;have hfz33_1:=blk_frozen BK214.out 1))
              have n0_:Aside0 (((w31.setCell ⟨gb214,0,none⟩ (.int .i64 ((rd_T48 l1 x18_2).f0))).setCell ⟨gb214,1,none⟩ (.int .i64 ((rd_T48 l1 x18_2).f1))).heap[gb210]? = some (.cells #[.int .i64 a0_0,.int .i64 a0_1,.slice A0_2 l0_2.length c0_2] 29 (0,0))):=⟨by (with_reducible repeat (first|refine zJ ?_ _|refine zK ?_|refine zL ?_ _));refine blk_far ?_ NB210_214.out _;(with_reducible repeat (first|refine zJ ?_ _|refine zK ?_|refine zL ?_ _));refine blk_far ?_ NB210_214.out _;(with_reducible repeat (first|refine zJ ?_ _|refine zK ?_|refine zL ?_ _));exact BK210.out⟩
              have n1_:Aside0 (((w31.setCell ⟨gb214,0,none⟩ (.int .i64 ((rd_T48 l1 x18_2).f0))).setCell ⟨gb214,1,none⟩ (.int .i64 ((rd_T48 l1 x18_2).f1))).heap[gb214]? = some (.cells #[.int .i64 ((rd_T48 l1 x18_2).f0),.int .i64 ((rd_T48 l1 x18_2).f1)] 48 (0,0))):=⟨by (with_reducible repeat (first|refine zJ ?_ _|refine zK ?_|refine zL ?_ _));refine blk_put (cs := #[.int .i64 ((rd_T48 l1 x18_2).f0),.int .i64 0]) ?_ 1 _ rfl;(with_reducible repeat (first|refine zJ ?_ _|refine zK ?_|refine zL ?_ _));refine blk_put (cs := #[.int .i64 0,.int .i64 0]) ?_ 0 _ rfl;(with_reducible repeat (first|refine zJ ?_ _|refine zK ?_|refine zL ?_ _));exact BK214.out⟩
              have n2_:Aside0 (Below w.heap.size w ((w31.setCell ⟨gb214,0,none⟩ (.int .i64 ((rd_T48 l1 x18_2).f0))).setCell ⟨gb214,1,none⟩ (.int .i64 ((rd_T48 l1 x18_2).f1)))):=⟨zzh⟩
              (try clear BK210)
              (try clear BK214)
              (try clear HB)
              generalize ((w31.setCell ⟨gb214,0,none⟩ (.int .i64 ((rd_T48 l1 x18_2).f0))).setCell ⟨gb214,1,none⟩ (.int .i64 ((rd_T48 l1 x18_2).f1))) = w34 at n0_ n1_ n2_ ⊢
              have BK210:=n0_;have BK214:=n1_;have HB:=n2_;clear n0_ n1_ n2_;have n0_:=zM (zK BK210.out);have n1_:=zM (zK BK214.out);have n2_:=zM (zF HB.out);clear BK210;clear BK214;clear HB;have BK210:=n0_;have BK214:=n1_;have HB:=n2_;clear n0_ n1_ n2_;have p216:0 ≤ ((ji19):Int):=zzd
              have q216:(ji19) < (l1.length:Int):=zzd
              obtain ⟨ad216,e216,hx216_0,hx216_1⟩:=at_T48 HR1.out (ji19) p216 q216;have hw216_1:=hx216_1;have hw216_0:=hx216_0;obtain rfl:ad213 = ad216:=(by injection e216)
              replace hx216_0:=zS HB.out hx216_0;replace hx216_1:=zS HB.out hx216_1;replace p216:=eq_true p216;replace q216:=eq_true q216;refine start_ (n:=18) (S:=fun w'=>w'.cell? ⟨gb210,0,none⟩ = some (.int .i64 a0_0) ∧ w'.cell? ⟨gb210,1,none⟩ = some (.int .i64 a0_1) ∧ w'.cell? ⟨gb210,2,none⟩ = some (.slice A0_2 l0_2.length c0_2) ∧ w'.cell? ⟨gb214,0,none⟩ = some (.int .i64 ((rd_T48 l1 x18_2).f0)) ∧ w'.cell? ⟨gb214,1,none⟩ = some (.int .i64 ((rd_T48 l1 x18_2).f1)) ∧ w'.cell? (ad213.add (((ji19)).toNat * 2)) = some (.int .i64 ((rd_T48 l1 (ji19)).f0)) ∧ w'.cell? ⟨(ad213.add (((ji19)).toNat * 2)).block,(ad213.add (((ji19)).toNat * 2)).off + 1,none⟩ = some (.int .i64 ((rd_T48 l1 (ji19)).f1))) (ds:=[]) #[false,false,false,false,false,false,false,false,false,false,false,false,false,false,false,false,false,false] (by kernel_rfl) rfl rfl ⟨zz0 BK210,zz1 BK210,zz2 BK210,zz0 BK214,zz1 BK214,(zS HB.out hw216_0 :),(zS HB.out hw216_1 :)⟩ (fun hHeld=>?_);refine with_tabW impl_IsValidPath.tab6 impl_IsValidPath.bits6 (fun HT_ HW_=>?_)
              generalize w34.drew = w35 at BK210 BK214 HB hx216_0 hx216_1 hHeld ⊢
              refine zzt 0 23 (zzb 18 1) hHeld ?_ (hc:=zzy HT_ HW_) (hy:=by rintro w' ⟨s0,s1,s2,s3,s4,s5,s6⟩;go_simp;with_reducible rfl)
              refine zzt 1 24 (zzb 18 3) hHeld ?_ (hc:=zzy HT_ HW_) (hy:=by rintro w' ⟨s0,s1,s2,s3,s4,s5,s6⟩;go_simp;with_reducible rfl)
              refine zzo 2 25 (zzb 18 7) (hc:=zzw HT_) (fun K hK=>?_)
              refine zzf Try.func58 #[.agg #[.int .i64 a0_0,.int .i64 a0_1,.slice A0_2 l0_2.length c0_2],.agg #[.int .i64 ((rd_T48 l1 x18_2).f0),.int .i64 ((rd_T48 l1 x18_2).f1)]] ?_
              with_reducible refine (impl_isFree.calls k2 a0_0 a0_1 _ _ l0_2 ((rd_T48 l1 x18_2).f0) ((rd_T48 l1 x18_2).f1) true _ ?side1 ?side2 A16.out).mono ?_
              (case side1=>repeat (first|exact (zO HR0_2.out HB.out)|(with_reducible first|refine zG ?_ _|refine zH ?_ _|refine zI ?_)))
              (case side2=>exact HC0_2.out)
              rintro e w36 ⟨rfl,hb⟩
              refine ⟨_,rfl,?_⟩
              have n0_:=zM (blk_below (g:=gb210) (o := .cells #[.int .i64 a0_0,.int .i64 a0_1,.slice A0_2 l0_2.length c0_2] 29 (0,0)) (zzi BK210) hb)
              have n1_:=zM (blk_below (g:=gb214) (o := .cells #[.int .i64 ((rd_T48 l1 x18_2).f0),.int .i64 ((rd_T48 l1 x18_2).f1)] 48 (0,0)) (zzi BK214) hb)
              have n2_:=zM (zQ zzh hb)
              clear BK210;clear BK214;clear HB;have BK210:=n0_;have BK214:=n1_;have HB:=n2_;clear n0_ n1_ n2_;(try clear hb)
              (try clear hb2)
              (try clear hk)
              (try clear hi)
              refine hK.out _ _ ⟨zz0 BK210,zz1 BK210,zz2 BK210,zz0 BK214,zz1 BK214,(zS HB.out hw216_0 :),(zS HB.out hw216_1 :)⟩ (fun hHeld=>?_)
              clear hK K;refine zzn 25 ?_;refine zzp 3 26 (zzb 18 15) ?_ (hc:=zzx HT_);refine zzp 4 27 (zzb 18 31) ?_ (hc:=zzx HT_);refine zzp 5 28 (zzb 18 63) ?_ (hc:=zzx HT_);refine zzp 6 29 (zzb 18 127) ?_ (hc:=zzx HT_);refine zzp 7 30 (zzb 18 255) ?_ (hc:=zzx HT_);refine zzp 8 31 (zzb 18 511) ?_ (hc:=zzx HT_);refine zzp 9 32 (zzb 18 1023) ?_ (hc:=zzx HT_);refine zzp 10 33 (zzb 18 2047) ?_ (hc:=zzx HT_);refine zzp 11 34 (zzb 18 4095) ?_ (hc:=zzx HT_)
              refine zzt 12 35 (zzb 18 8191) hHeld ?_ (hc:=zzy HT_ HW_) (hy:=by rintro w' ⟨s0,s1,s2,s3,s4,s5,s6⟩;go_simp;with_reducible rfl)
              refine zzt 13 36 (zzb 18 16383) hHeld ?_ (hc:=zzy HT_ HW_) (hy:=by rintro w' ⟨s0,s1,s2,s3,s4,s5,s6⟩;go_simp;with_reducible rfl)
              refine zzo 14 37 (zzb 18 32767) (hc:=zzw HT_) (fun K hK=>?_)
              refine goes_ Try.func59 (by kernel_rfl) rfl #[.agg #[.int .i64 ((rd_T48 l1 (ji19)).f0),.int .i64 ((rd_T48 l1 (ji19)).f1)],.agg #[.int .i64 ((rd_T48 l1 x18_2).f0),.int .i64 ((rd_T48 l1 x18_2).f1)]] (by rfl) rfl rfl (by (try simp only [List.map_toArray,List.map_cons,List.map_nil]);first|done|(simp only [hji19];rfl)|rfl|(simp only [List.length_drop,List.length_take];rfl)) ?_
              with_reducible refine (impl_besides.calls ((rd_T48 l1 (ji19)).f0) ((rd_T48 l1 (ji19)).f1) ((rd_T48 l1 x18_2).f0) ((rd_T48 l1 x18_2).f1) false _ A22.out).mono ?_
              rintro e w37 ⟨rfl,hb⟩
              refine ⟨_,rfl,?_⟩
              have n0_:=zM (blk_below (g:=gb210) (o := .cells #[.int .i64 a0_0,.int .i64 a0_1,.slice A0_2 l0_2.length c0_2] 29 (0,0)) (zzi BK210) hb)
              have n1_:=zM (blk_below (g:=gb214) (o := .cells #[.int .i64 ((rd_T48 l1 x18_2).f0),.int .i64 ((rd_T48 l1 x18_2).f1)] 48 (0,0)) (zzi BK214) hb)
              have n2_:=zM (zQ zzh hb)
              clear BK210;clear BK214;clear HB;have BK210:=n0_;have BK214:=n1_;have HB:=n2_;clear n0_ n1_ n2_;(try clear hb)
              (try clear hb2)
              (try clear hk)
              (try clear hi)
              refine hK.out _ _ ⟨zz0 BK210,zz1 BK210,zz2 BK210,zz0 BK214,zz1 BK214,(zS HB.out hw216_0 :),(zS HB.out hw216_1 :)⟩ (fun hHeld=>?_)
              clear hK K;refine zzn 37 ?_;refine zzp 15 38 (zzb 18 65535) ?_ (hc:=zzx HT_);refine zzp 16 39 (zzb 18 131071) ?_ (hc:=zzx HT_);refine zzp 17 40 (zzb 18 262143) ?_ (hc:=zzx HT_)
              refine done_ (done_of HT_.out (by kernel_rfl)) ?_
              try go_wp2
              go_ret
              exact ⟨by first|rfl|(simp [errW_none,errW_some] <;> rfl)|(simp only [← hji19];first|rfl|(simp [errW_none,errW_some] <;> rfl))|(simp [*,errW_none,errW_some] <;> rfl),zzh⟩
            ·rw [if_neg c21] at H
             exact absurd H (by simp)
           ·rw [if_neg c20] at H
            exact absurd H (by simp)
          ·rw [if_neg c18] at H
           have c18b0:decide (0 < x18_2) = false:=decide_eq_false c18
           clear c18;have H':=zM H;clear H;have p213:0 ≤ (x18_2:Int):=zzd
           have q213:x18_2 < (l1.length:Int):=zzd
           obtain ⟨ad213,e213,hx213_0,hx213_1⟩:=at_T48 HR1.out x18_2 p213 q213;cases e213
           replace hx213_0:=zS HB.out hx213_0;replace hx213_1:=zS HB.out hx213_1;replace p213:=eq_true p213;replace q213:=eq_true q213;try go_wp2_with (first|((with_reducible refine gate_dst (N:=6) rfl ?_);(try (refine gate_guard (by rfl) ?_;dsimp only));refine zzc 6 #[.int .i64 0,.int .i64 0] 48 ?_;intro gb214 hg w38 hbox hb;have n0_:=zM (blk_below (g:=gb210) (o := .cells #[.int .i64 a0_0,.int .i64 a0_1,.slice A0_2 l0_2.length c0_2] 29 (0,0)) (zzi BK210) hb);have n1_:=zM (zQ zzh hb);have n2_:=zM (hbox);have n3_:=zM ((by rw [hg];exact (zR zzh):w.heap.size ≤ gb214));have n4_:=zM ((by rw [hg];exact (zR zzh):w.heap.size ≤ gb214));have n5_:=zM ((by rw [hg];exact Nat.ne_of_lt (blk_lt (g:=gb210) (o := .cells #[.int .i64 a0_0,.int .i64 a0_1,.slice A0_2 l0_2.length c0_2] 29 (0,0)) (zzi BK210)):gb210 ≠ gb214));have n6_:=zM ((by rw [hg];exact Nat.ne_of_gt (blk_lt (g:=gb210) (o := .cells #[.int .i64 a0_0,.int .i64 a0_1,.slice A0_2 l0_2.length c0_2] 29 (0,0)) (zzi BK210)):gb214 ≠ gb210));clear BK210;clear HB;have BK210:=n0_;have HB:=n1_;have BK214:=n2_;have GW214:=n3_;have GE214:=n4_;have NB210_214:=n5_;have NB214_210:=n6_;clear n0_ n1_ n2_ n3_ n4_ n5_ n6_;clear hb hbox hg;have hnb39:=NB214_210.out;have hnc39:=NB210_214.out;have hcz40_0:=zz0 BK214;have hcz40_1:=zz1 BK214;have hfz40_0:=blk_frozen BK214.out 0;have hfz40_1:=blk_frozen BK214.out 1))
           have n0_:Aside0 (((w38.setCell ⟨gb214,0,none⟩ (.int .i64 ((rd_T48 l1 x18_2).f0))).setCell ⟨gb214,1,none⟩ (.int .i64 ((rd_T48 l1 x18_2).f1))).heap[gb210]? = some (.cells #[.int .i64 a0_0,.int .i64 a0_1,.slice A0_2 l0_2.length c0_2] 29 (0,0))):=⟨by (with_reducible repeat (first|refine zJ ?_ _|refine zK ?_|refine zL ?_ _));refine blk_far ?_ NB210_214.out _;(with_reducible repeat (first|refine zJ ?_ _|refine zK ?_|refine zL ?_ _));refine blk_far ?_ NB210_214.out _;(with_reducible repeat (first|refine zJ ?_ _|refine zK ?_|refine zL ?_ _));exact BK210.out⟩
           have n1_:Aside0 (((w38.setCell ⟨gb214,0,none⟩ (.int .i64 ((rd_T48 l1 x18_2).f0))).setCell ⟨gb214,1,none⟩ (.int .i64 ((rd_T48 l1 x18_2).f1))).heap[gb214]? = some (.cells #[.int .i64 ((rd_T48 l1 x18_2).f0),.int .i64 ((rd_T48 l1 x18_2).f1)] 48 (0,0))):=⟨by (with_reducible repeat (first|refine zJ ?_ _|refine zK ?_|refine zL ?_ _));refine blk_put (cs := #[.int .i64 ((rd_T48 l1 x18_2).f0),.int .i64 0]) ?_ 1 _ rfl;(with_reducible repeat (first|refine zJ ?_ _|refine zK ?_|refine zL ?_ _));refine blk_put (cs := #[.int .i64 0,.int .i64 0]) ?_ 0 _ rfl;(with_reducible repeat (first|refine zJ ?_ _|refine zK ?_|refine zL ?_ _));exact BK214.out⟩
           have n2_:Aside0 (Below w.heap.size w ((w38.setCell ⟨gb214,0,none⟩ (.int .i64 ((rd_T48 l1 x18_2).f0))).setCell ⟨gb214,1,none⟩ (.int .i64 ((rd_T48 l1 x18_2).f1)))):=⟨zzh⟩
           (try clear BK210)
           (try clear BK214)
           (try clear HB)
           generalize ((w38.setCell ⟨gb214,0,none⟩ (.int .i64 ((rd_T48 l1 x18_2).f0))).setCell ⟨gb214,1,none⟩ (.int .i64 ((rd_T48 l1 x18_2).f1))) = w41 at n0_ n1_ n2_ ⊢
           have BK210:=n0_;have BK214:=n1_;have HB:=n2_;clear n0_ n1_ n2_;have n0_:=zM (zK BK210.out);have n1_:=zM (zK BK214.out);have n2_:=zM (zF HB.out);clear BK210;clear BK214;clear HB;have BK210:=n0_;have BK214:=n1_;have HB:=n2_;clear n0_ n1_ n2_;refine start_ (n:=18) (S:=fun w'=>w'.cell? ⟨gb210,0,none⟩ = some (.int .i64 a0_0) ∧ w'.cell? ⟨gb210,1,none⟩ = some (.int .i64 a0_1) ∧ w'.cell? ⟨gb210,2,none⟩ = some (.slice A0_2 l0_2.length c0_2) ∧ w'.cell? ⟨gb214,0,none⟩ = some (.int .i64 ((rd_T48 l1 x18_2).f0)) ∧ w'.cell? ⟨gb214,1,none⟩ = some (.int .i64 ((rd_T48 l1 x18_2).f1))) (ds:=[]) #[false,false,false,false,false,false,false,false,false,false,false,false,false,false,false,false,false,false] (by kernel_rfl) rfl rfl ⟨zz0 BK210,zz1 BK210,zz2 BK210,zz0 BK214,zz1 BK214⟩ (fun hHeld=>?_);refine with_tabW impl_IsValidPath.tab6 impl_IsValidPath.bits6 (fun HT_ HW_=>?_)
           generalize w41.drew = w42 at BK210 BK214 HB hHeld ⊢
           refine zzt 0 23 (zzb 18 1) hHeld ?_ (hc:=zzy HT_ HW_) (hy:=by rintro w' ⟨s0,s1,s2,s3,s4⟩;go_simp;with_reducible rfl)
           refine zzt 1 24 (zzb 18 3) hHeld ?_ (hc:=zzy HT_ HW_) (hy:=by rintro w' ⟨s0,s1,s2,s3,s4⟩;go_simp;with_reducible rfl)
           refine zzo 2 25 (zzb 18 7) (hc:=zzw HT_) (fun K hK=>?_)
           refine zzf Try.func58 #[.agg #[.int .i64 a0_0,.int .i64 a0_1,.slice A0_2 l0_2.length c0_2],.agg #[.int .i64 ((rd_T48 l1 x18_2).f0),.int .i64 ((rd_T48 l1 x18_2).f1)]] ?_
           with_reducible refine (impl_isFree.calls k2 a0_0 a0_1 _ _ l0_2 ((rd_T48 l1 x18_2).f0) ((rd_T48 l1 x18_2).f1) true _ ?side1 ?side2 A16.out).mono ?_
           (case side1=>repeat (first|exact (zO HR0_2.out HB.out)|(with_reducible first|refine zG ?_ _|refine zH ?_ _|refine zI ?_)))
           (case side2=>exact HC0_2.out)
           rintro e w43 ⟨rfl,hb⟩
           refine ⟨_,rfl,?_⟩
           have n0_:=zM (blk_below (g:=gb210) (o := .cells #[.int .i64 a0_0,.int .i64 a0_1,.slice A0_2 l0_2.length c0_2] 29 (0,0)) (zzi BK210) hb)
           have n1_:=zM (blk_below (g:=gb214) (o := .cells #[.int .i64 ((rd_T48 l1 x18_2).f0),.int .i64 ((rd_T48 l1 x18_2).f1)] 48 (0,0)) (zzi BK214) hb)
           have n2_:=zM (zQ zzh hb)
           clear BK210;clear BK214;clear HB;have BK210:=n0_;have BK214:=n1_;have HB:=n2_;clear n0_ n1_ n2_;(try clear hb)
           (try clear hb2)
           (try clear hk)
           (try clear hi)
           refine hK.out _ _ ⟨zz0 BK210,zz1 BK210,zz2 BK210,zz0 BK214,zz1 BK214⟩ (fun hHeld=>?_)
           clear hK K;refine zzn 25 ?_;refine zzp 3 26 (zzb 18 15) ?_ (hc:=zzx HT_);refine zzp 4 27 (zzb 18 31) ?_ (hc:=zzx HT_);refine zzp 5 28 (zzb 18 63) ?_ (hc:=zzx HT_);refine zzp 6 29 (zzb 18 127) ?_ (hc:=zzx HT_);refine zzp 7 30 (zzb 18 255) ?_ (hc:=zzx HT_);refine zzu 8 31 (zzb 18 511) ?_ (hc:=zzx HT_);refine zzu 9 32 (zzb 18 1023) ?_ (hc:=zzx HT_);refine zzu 10 33 (zzb 18 2047) ?_ (hc:=zzx HT_);refine zzu 11 34 (zzb 18 4095) ?_ (hc:=zzx HT_);refine zzu 12 35 (zzb 18 8191) ?_ (hc:=zzx HT_);refine zzu 13 36 (zzb 18 16383) ?_ (hc:=zzx HT_);refine zzu 14 37 (zzb 18 32767) ?_ (hc:=zzx HT_);refine zzu 15 38 (zzb 18 65535) ?_ (hc:=zzx HT_);refine zzp 16 39 (zzb 18 131071) ?_ (hc:=zzx HT_);refine zzp 17 40 (zzb 18 262143) ?_ (hc:=zzx HT_)
           refine done_ (done_of HT_.out (by kernel_rfl)) ?_
           try go_wp2
           go_roundg k2
           case measure=>have:=HJ2.out;have:=HK2.out;omega
           case rel=>exact ⟨(wrap64 (x18_2 + 1)),(by first|rfl|(simp;done)|(simp [*];done)),H',⟨by have:=HJ2.out;have:=HK2.out;omega⟩,⟨zzi BK210⟩,⟨zzh⟩⟩
         ·replace c17:=Bool.eq_false_iff.mpr c17
          subst c17;have H1:(some false) = some r:=by rw [if_neg (show ¬ (false = true) by decide)] at H;exact H
          clear H;have H:=H1;clear H1;obtain rfl:=Option.some.inj H;have p213:0 ≤ (x18_2:Int):=zzd
          have q213:x18_2 < (l1.length:Int):=zzd
          obtain ⟨ad213,e213,hx213_0,hx213_1⟩:=at_T48 HR1.out x18_2 p213 q213;cases e213
          replace hx213_0:=zS HB.out hx213_0;replace hx213_1:=zS HB.out hx213_1;replace p213:=eq_true p213;replace q213:=eq_true q213;try go_wp2_with (first|((with_reducible refine gate_dst (N:=6) rfl ?_);(try (refine gate_guard (by rfl) ?_;dsimp only));refine zzc 6 #[.int .i64 0,.int .i64 0] 48 ?_;intro gb214 hg w44 hbox hb;have n0_:=zM (blk_below (g:=gb210) (o := .cells #[.int .i64 a0_0,.int .i64 a0_1,.slice A0_2 l0_2.length c0_2] 29 (0,0)) (zzi BK210) hb);have n1_:=zM (zQ zzh hb);have n2_:=zM (hbox);have n3_:=zM ((by rw [hg];exact (zR zzh):w.heap.size ≤ gb214));have n4_:=zM ((by rw [hg];exact (zR zzh):w.heap.size ≤ gb214));have n5_:=zM ((by rw [hg];exact Nat.ne_of_lt (blk_lt (g:=gb210) (o := .cells #[.int .i64 a0_0,.int .i64 a0_1,.slice A0_2 l0_2.length c0_2] 29 (0,0)) (zzi BK210)):gb210 ≠ gb214));have n6_:=zM ((by rw [hg];exact Nat.ne_of_gt (blk_lt (g:=gb210) (o := .cells #[.int .i64 a0_0,.int .i64 a0_1,.slice A0_2 l0_2.length c0_2] 29 (0,0)) (zzi BK210)):gb214 ≠ gb210));clear BK210;clear HB;have BK210:=n0_;have HB:=n1_;have BK214:=n2_;have GW214:=n3_;have GE214:=n4_;have NB210_214:=n5_;have NB214_210:=n6_;clear n0_ n1_ n2_ n3_ n4_ n5_ n6_;clear hb hbox hg;have hnb45:=NB214_210.out;have hnc45:=NB210_214.out;have hcz46_0:=zz0 BK214;have hcz46_1:=zz1 BK214;have hfz46_0:=blk_frozen BK214.out 0;have hfz46_1:=blk_frozen BK214.out 1))
          have n0_:Aside0 (((w44.setCell ⟨gb214,0,none⟩ (.int .i64 ((rd_T48 l1 x18_2).f0))).setCell ⟨gb214,1,none⟩ (.int .i64 ((rd_T48 l1 x18_2).f1))).heap[gb210]? = some (.cells #[.int .i64 a0_0,.int .i64 a0_1,.slice A0_2 l0_2.length c0_2] 29 (0,0))):=⟨by (with_reducible repeat (first|refine zJ ?_ _|refine zK ?_|refine zL ?_ _));refine blk_far ?_ NB210_214.out _;(with_reducible repeat (first|refine zJ ?_ _|refine zK ?_|refine zL ?_ _));refine blk_far ?_ NB210_214.out _;(with_reducible repeat (first|refine zJ ?_ _|refine zK ?_|refine zL ?_ _));exact BK210.out⟩
          have n1_:Aside0 (((w44.setCell ⟨gb214,0,none⟩ (.int .i64 ((rd_T48 l1 x18_2).f0))).setCell ⟨gb214,1,none⟩ (.int .i64 ((rd_T48 l1 x18_2).f1))).heap[gb214]? = some (.cells #[.int .i64 ((rd_T48 l1 x18_2).f0),.int .i64 ((rd_T48 l1 x18_2).f1)] 48 (0,0))):=⟨by (with_reducible repeat (first|refine zJ ?_ _|refine zK ?_|refine zL ?_ _));refine blk_put (cs := #[.int .i64 ((rd_T48 l1 x18_2).f0),.int .i64 0]) ?_ 1 _ rfl;(with_reducible repeat (first|refine zJ ?_ _|refine zK ?_|refine zL ?_ _));refine blk_put (cs := #[.int .i64 0,.int .i64 0]) ?_ 0 _ rfl;(with_reducible repeat (first|refine zJ ?_ _|refine zK ?_|refine zL ?_ _));exact BK214.out⟩
          have n2_:Aside0 (Below w.heap.size w ((w44.setCell ⟨gb214,0,none⟩ (.int .i64 ((rd_T48 l1 x18_2).f0))).setCell ⟨gb214,1,none⟩ (.int .i64 ((rd_T48 l1 x18_2).f1)))):=⟨zzh⟩
          (try clear BK210)
          (try clear BK214)
          (try clear HB)
          generalize ((w44.setCell ⟨gb214,0,none⟩ (.int .i64 ((rd_T48 l1 x18_2).f0))).setCell ⟨gb214,1,none⟩ (.int .i64 ((rd_T48 l1 x18_2).f1))) = w47 at n0_ n1_ n2_ ⊢
          have BK210:=n0_;have BK214:=n1_;have HB:=n2_;clear n0_ n1_ n2_;have n0_:=zM (zK BK210.out);have n1_:=zM (zK BK214.out);have n2_:=zM (zF HB.out);clear BK210;clear BK214;clear HB;have BK210:=n0_;have BK214:=n1_;have HB:=n2_;clear n0_ n1_ n2_;refine start_ (n:=18) (S:=fun w'=>w'.cell? ⟨gb210,0,none⟩ = some (.int .i64 a0_0) ∧ w'.cell? ⟨gb210,1,none⟩ = some (.int .i64 a0_1) ∧ w'.cell? ⟨gb210,2,none⟩ = some (.slice A0_2 l0_2.length c0_2) ∧ w'.cell? ⟨gb214,0,none⟩ = some (.int .i64 ((rd_T48 l1 x18_2).f0)) ∧ w'.cell? ⟨gb214,1,none⟩ = some (.int .i64 ((rd_T48 l1 x18_2).f1))) (ds:=[]) #[false,false,false,false,false,false,false,false,false,false,false,false,false,false,false,false,false,false] (by kernel_rfl) rfl rfl ⟨zz0 BK210,zz1 BK210,zz2 BK210,zz0 BK214,zz1 BK214⟩ (fun hHeld=>?_);refine with_tabW impl_IsValidPath.tab6 impl_IsValidPath.bits6 (fun HT_ HW_=>?_)
          generalize w47.drew = w48 at BK210 BK214 HB hHeld ⊢
          refine zzt 0 23 (zzb 18 1) hHeld ?_ (hc:=zzy HT_ HW_) (hy:=by rintro w' ⟨s0,s1,s2,s3,s4⟩;go_simp;with_reducible rfl)
          refine zzt 1 24 (zzb 18 3) hHeld ?_ (hc:=zzy HT_ HW_) (hy:=by rintro w' ⟨s0,s1,s2,s3,s4⟩;go_simp;with_reducible rfl)
          refine zzo 2 25 (zzb 18 7) (hc:=zzw HT_) (fun K hK=>?_)
          refine zzf Try.func58 #[.agg #[.int .i64 a0_0,.int .i64 a0_1,.slice A0_2 l0_2.length c0_2],.agg #[.int .i64 ((rd_T48 l1 x18_2).f0),.int .i64 ((rd_T48 l1 x18_2).f1)]] ?_
          with_reducible refine (impl_isFree.calls k2 a0_0 a0_1 _ _ l0_2 ((rd_T48 l1 x18_2).f0) ((rd_T48 l1 x18_2).f1) false _ ?side1 ?side2 A16.out).mono ?_
          (case side1=>repeat (first|exact (zO HR0_2.out HB.out)|(with_reducible first|refine zG ?_ _|refine zH ?_ _|refine zI ?_)))
          (case side2=>exact HC0_2.out)
          rintro e w49 ⟨rfl,hb⟩
          refine ⟨_,rfl,?_⟩
          have n0_:=zM (blk_below (g:=gb210) (o := .cells #[.int .i64 a0_0,.int .i64 a0_1,.slice A0_2 l0_2.length c0_2] 29 (0,0)) (zzi BK210) hb)
          have n1_:=zM (blk_below (g:=gb214) (o := .cells #[.int .i64 ((rd_T48 l1 x18_2).f0),.int .i64 ((rd_T48 l1 x18_2).f1)] 48 (0,0)) (zzi BK214) hb)
          have n2_:=zM (zQ zzh hb)
          clear BK210;clear BK214;clear HB;have BK210:=n0_;have BK214:=n1_;have HB:=n2_;clear n0_ n1_ n2_;(try clear hb)
          (try clear hb2)
          (try clear hk)
          (try clear hi)
          refine hK.out _ _ ⟨zz0 BK210,zz1 BK210,zz2 BK210,zz0 BK214,zz1 BK214⟩ (fun hHeld=>?_)
          clear hK K;refine zzn 25 ?_;refine zzp 3 26 (zzb 18 15) ?_ (hc:=zzx HT_);refine zzp 4 27 (zzb 18 31) ?_ (hc:=zzx HT_);refine zzu 5 28 (zzb 18 63) ?_ (hc:=zzx HT_);refine zzu 6 29 (zzb 18 127) ?_ (hc:=zzx HT_);refine zzu 7 30 (zzb 18 255) ?_ (hc:=zzx HT_);refine zzu 8 31 (zzb 18 511) ?_ (hc:=zzx HT_);refine zzu 9 32 (zzb 18 1023) ?_ (hc:=zzx HT_);refine zzu 10 33 (zzb 18 2047) ?_ (hc:=zzx HT_);refine zzu 11 34 (zzb 18 4095) ?_ (hc:=zzx HT_);refine zzu 12 35 (zzb 18 8191) ?_ (hc:=zzx HT_);refine zzu 13 36 (zzb 18 16383) ?_ (hc:=zzx HT_);refine zzu 14 37 (zzb 18 32767) ?_ (hc:=zzx HT_);refine zzu 15 38 (zzb 18 65535) ?_ (hc:=zzx HT_);refine zzu 16 39 (zzb 18 131071) ?_ (hc:=zzx HT_);refine zzp 17 40 (zzb 18 262143) ?_ (hc:=zzx HT_)
          refine done_ (done_of HT_.out (by kernel_rfl)) ?_
          try go_wp2
          go_ret
          exact ⟨by first|rfl|(simp [errW_none,errW_some] <;> rfl)|(simp [*,errW_none,errW_some] <;> rfl),zzh⟩
        ·rw [if_neg c15] at H
         exact absurd H (by simp)
       ·rw [if_neg c14] at H
        exact absurd H (by simp)
      ·rw [if_neg c13] at H
       have c13b0:decide (x18_2 < (l1.length:Int)) = false:=decide_eq_false c13
       clear c13;obtain rfl:=Option.some.inj H;go_wp2
       go_ret
       exact ⟨by first|rfl|(simp [errW_none,errW_some] <;> rfl)|(simp [*,errW_none,errW_some] <;> rfl),zzh⟩



attribute [local go_sem high] eqA48
/-! ### spec_l16Blocked: function 96 -/
def spec_l16Blocked.l0:Nat → Int → Int → Int → List (S48) → Int → Int → Option (Bool)
 | 0,_,_,_,_,_,_=>none
 | k + 1,x5,x178000,x178001,x178002,x179000,x179001=>if x5 < (x178002.length:Int) then (if 0 ≤ x5 then (if (((rd_T48 x178002 x5).f0) == x179000 && (((rd_T48 x178002 x5).f1) == x179001)) = true then (some true) else (spec_l16Blocked.l0 k (wrap64 (x5 + 1)) x178000 x178001 x178002 x179000 x179001)) else (none)) else (some false)
def spec_l16Blocked.f (k:Nat) (a0_0:Int) (a0_1:Int) (l0_2:List (S48)) (a1_0:Int) (a1_1:Int):Option (Bool):=spec_l16Blocked.l0 k 0 a0_0 a0_1 l0_2 a1_0 a1_1
set_option maxHeartbeats 8000000 in
set_option maxRecDepth 100000 in
theorem spec_l16Blocked.calls (k:Nat) (a0_0:Int) (a0_1:Int) (A0_2:Option Addr) (c0_2:Nat) (l0_2:List (S48)) (a1_0:Int) (a1_1:Int) (r:Bool) (w:World) (hr0_2:Kd.C k48 w A0_2 l0_2.length l0_2) (hc0_2:l0_2.length ≤ c0_2) (h:spec_l16Blocked.f k a0_0 a0_1 l0_2 a1_0 a1_1 = some r) :
  Calls Try.prog 96 #[.agg #[.int .i64 a0_0,.int .i64 a0_1,.slice A0_2 l0_2.length c0_2],.agg #[.int .i64 a1_0,.int .i64 a1_1]] w fun e w'=>e = .returned (.bool r) ∧ Below w.heap.size w w':=by
 have hu29:=Try.underlying29;have hu48:=Try.underlying48;have HR0_2:=zM hr0_2;have HC0_2:=zM hc0_2;clear hr0_2 hc0_2;have HB:=zM (Below.refl w.heap.size w);have H:(spec_l16Blocked.l0 k 0 a0_0 a0_1 l0_2 a1_0 a1_1) = some r:=h
 clear h;have H':=zM H;clear H;go_enter Try.func96,Try.ntmps96
 go_wp2_with (first|((with_reducible refine gate_dst (N:=2) rfl ?_);refine zzc 2 #[.int .i64 a0_0,.int .i64 a0_1,.slice A0_2 l0_2.length c0_2] 29 ?_;intro gb177 hg w3 hbox hb;have n0_:=zM (zQ zzh hb);have n1_:=zM (hbox);have n2_:=zM ((by rw [hg];exact (zR zzh):w.heap.size ≤ gb177));have n3_:=zM ((by rw [hg];exact (zR zzh):w.heap.size ≤ gb177));clear HB;have HB:=n0_;have BK177:=n1_;have GW177:=n2_;have GE177:=n3_;clear n0_ n1_ n2_ n3_;clear hb hbox hg)|((with_reducible refine gate_dst (N:=3) rfl ?_);refine zzc 3 #[.int .i64 a1_0,.int .i64 a1_1] 48 ?_;intro gb178 hg w4 hbox hb;have n0_:=zM (blk_below (g:=gb177) (o := .cells #[.int .i64 a0_0,.int .i64 a0_1,.slice A0_2 l0_2.length c0_2] 29 (0,0)) (zzi BK177) hb);have n1_:=zM (zQ zzh hb);have n2_:=zM (hbox);have n3_:=zM ((by rw [hg];exact (zR zzh):w.heap.size ≤ gb178));have n4_:=zM ((by rw [hg];exact (zR zzh):w.heap.size ≤ gb178));have n5_:=zM ((by rw [hg];exact Nat.ne_of_lt (blk_lt (g:=gb177) (o := .cells #[.int .i64 a0_0,.int .i64 a0_1,.slice A0_2 l0_2.length c0_2] 29 (0,0)) (zzi BK177)):gb177 ≠ gb178));have n6_:=zM ((by rw [hg];exact Nat.ne_of_gt (blk_lt (g:=gb177) (o := .cells #[.int .i64 a0_0,.int .i64 a0_1,.slice A0_2 l0_2.length c0_2] 29 (0,0)) (zzi BK177)):gb178 ≠ gb177));clear BK177;clear HB;have BK177:=n0_;have HB:=n1_;have BK178:=n2_;have GW178:=n3_;have GE178:=n4_;have NB177_178:=n5_;have NB178_177:=n6_;clear n0_ n1_ n2_ n3_ n4_ n5_ n6_;clear hb hbox hg))
 repeat (go_quiet (first|((with_reducible refine gate_dst (N:=2) rfl ?_);refine zzc 2 #[.int .i64 a0_0,.int .i64 a0_1,.slice A0_2 l0_2.length c0_2] 29 ?_;intro gb177 hg w3 hbox hb;have n0_:=zM (zQ zzh hb);have n1_:=zM (hbox);have n2_:=zM ((by rw [hg];exact (zR zzh):w.heap.size ≤ gb177));have n3_:=zM ((by rw [hg];exact (zR zzh):w.heap.size ≤ gb177));clear HB;have HB:=n0_;have BK177:=n1_;have GW177:=n2_;have GE177:=n3_;clear n0_ n1_ n2_ n3_;clear hb hbox hg)|((with_reducible refine gate_dst (N:=3) rfl ?_);refine zzc 3 #[.int .i64 a1_0,.int .i64 a1_1] 48 ?_;intro gb178 hg w4 hbox hb;have n0_:=zM (blk_below (g:=gb177) (o := .cells #[.int .i64 a0_0,.int .i64 a0_1,.slice A0_2 l0_2.length c0_2] 29 (0,0)) (zzi BK177) hb);have n1_:=zM (zQ zzh hb);have n2_:=zM (hbox);have n3_:=zM ((by rw [hg];exact (zR zzh):w.heap.size ≤ gb178));have n4_:=zM ((by rw [hg];exact (zR zzh):w.heap.size ≤ gb178));have n5_:=zM ((by rw [hg];exact Nat.ne_of_lt (blk_lt (g:=gb177) (o := .cells #[.int .i64 a0_0,.int .i64 a0_1,.slice A0_2 l0_2.length c0_2] 29 (0,0)) (zzi BK177)):gb177 ≠ gb178));have n6_:=zM ((by rw [hg];exact Nat.ne_of_gt (blk_lt (g:=gb177) (o := .cells #[.int .i64 a0_0,.int .i64 a0_1,.slice A0_2 l0_2.length c0_2] 29 (0,0)) (zzi BK177)):gb178 ≠ gb177));clear BK177;clear HB;have BK177:=n0_;have HB:=n1_;have BK178:=n2_;have GW178:=n3_;have GE178:=n4_;have NB177_178:=n5_;have NB178_177:=n6_;clear n0_ n1_ n2_ n3_ n4_ n5_ n6_;clear hb hbox hg));try go_wp2_with (first|((with_reducible refine gate_dst (N:=2) rfl ?_);refine zzc 2 #[.int .i64 a0_0,.int .i64 a0_1,.slice A0_2 l0_2.length c0_2] 29 ?_;intro gb177 hg w3 hbox hb;have n0_:=zM (zQ zzh hb);have n1_:=zM (hbox);have n2_:=zM ((by rw [hg];exact (zR zzh):w.heap.size ≤ gb177));have n3_:=zM ((by rw [hg];exact (zR zzh):w.heap.size ≤ gb177));clear HB;have HB:=n0_;have BK177:=n1_;have GW177:=n2_;have GE177:=n3_;clear n0_ n1_ n2_ n3_;clear hb hbox hg)|((with_reducible refine gate_dst (N:=3) rfl ?_);refine zzc 3 #[.int .i64 a1_0,.int .i64 a1_1] 48 ?_;intro gb178 hg w4 hbox hb;have n0_:=zM (blk_below (g:=gb177) (o := .cells #[.int .i64 a0_0,.int .i64 a0_1,.slice A0_2 l0_2.length c0_2] 29 (0,0)) (zzi BK177) hb);have n1_:=zM (zQ zzh hb);have n2_:=zM (hbox);have n3_:=zM ((by rw [hg];exact (zR zzh):w.heap.size ≤ gb178));have n4_:=zM ((by rw [hg];exact (zR zzh):w.heap.size ≤ gb178));have n5_:=zM ((by rw [hg];exact Nat.ne_of_lt (blk_lt (g:=gb177) (o := .cells #[.int .i64 a0_0,.int .i64 a0_1,.slice A0_2 l0_2.length c0_2] 29 (0,0)) (zzi BK177)):gb177 ≠ gb178));have n6_:=zM ((by rw [hg];exact Nat.ne_of_gt (blk_lt (g:=gb177) (o := .cells #[.int .i64 a0_0,.int .i64 a0_1,.slice A0_2 l0_2.length c0_2] 29 (0,0)) (zzi BK177)):gb178 ≠ gb177));clear BK177;clear HB;have BK177:=n0_;have HB:=n1_;have BK178:=n2_;have GW178:=n3_;have GE178:=n4_;have NB177_178:=n5_;have NB178_177:=n6_;clear n0_ n1_ n2_ n3_ n4_ n5_ n6_;clear hb hbox hg)))
 go_loopg [5] k (fun kq v5 w' => ∃ (x5_1:Int),v5 = .int .i64 x5_1 ∧ Aside0 (spec_l16Blocked.l0 kq x5_1 a0_0 a0_1 l0_2 a1_0 a1_1 = some r) ∧ Aside0 (kq ≤ k) ∧ Aside0 (w'.heap[gb177]? = some (.cells #[.int .i64 a0_0,.int .i64 a0_1,(.slice A0_2 l0_2.length c0_2)] 29 (0,0))) ∧ Aside0 (w'.heap[gb178]? = some (.cells #[.int .i64 a1_0,.int .i64 a1_1] 48 (0,0))) ∧ Aside0 (Below w.heap.size w w'))
 case atStart=>exact ⟨(0),(by first|rfl|(simp;done)|(simp [*];done)),H',⟨Nat.le_refl _⟩,⟨zzi BK177⟩,⟨zzi BK178⟩,⟨zzh⟩⟩
 case round =>
  clear H';(try clear p2);obtain ⟨x5_1,rfl,HA,HK1,BK177,BK178,HB⟩:=hrel;cases gk with
  | zero=>exact absurd HA.out (by simp [spec_l16Blocked.l0])
  | succ k1 =>
   have H:=HA.out;clear HA;simp only [spec_l16Blocked.l0] at H
   by_cases c5:x5_1 < (l0_2.length:Int)
   ·rw [if_pos c5] at H
    have c5b0:decide (x5_1 < (l0_2.length:Int)) = true:=decide_eq_true c5
    clear c5;by_cases c6:0 ≤ x5_1
    ·rw [if_pos c6] at H
     have c6b0:decide (0 ≤ x5_1) = true:=decide_eq_true c6
     clear c6;by_cases c7:(((rd_T48 l0_2 x5_1).f0) == a1_0 && (((rd_T48 l0_2 x5_1).f1) == a1_1)) = true
     ·rw [if_pos c7] at H
      have c7b0:(((rd_T48 l0_2 x5_1).f0) == a1_0 && (((rd_T48 l0_2 x5_1).f1) == a1_1)) = true:=c7
      (try (have c7b1:decide (((rd_T48 l0_2 x5_1).f0) = a1_0 && (((rd_T48 l0_2 x5_1).f1) == a1_1)) = true:=by simpa using c7))
      (try (have c7b2:(((rd_T48 l0_2 x5_1).f0) == a1_0 && (((rd_T48 l0_2 x5_1).f1) == a1_1)) = true:=by simpa using c7))
      clear c7;obtain rfl:=Option.some.inj H;have hnb8:=NB177_178.out;have hnc8:=NB178_177.out;have hcz9_0:=zz0 BK177
      have hcz9_1:=zz1 BK177
      have hcz9_2:=zz2 BK177
      have hfz9_0:=blk_frozen BK177.out 0;have hfz9_1:=blk_frozen BK177.out 1;have hfz9_2:=blk_frozen BK177.out 2;have p179:0 ≤ (x5_1:Int):=zzd
      have q179:x5_1 < (l0_2.length:Int):=zzd
      obtain ⟨ad179,e179,hx179_0,hx179_1⟩:=at_T48 HR0_2.out x5_1 p179 q179;cases e179
      replace hx179_0:=zS HB.out hx179_0;replace hx179_1:=zS HB.out hx179_1;replace p179:=eq_true p179;replace q179:=eq_true q179;have hcz10_0:=zz0 BK178
      have hcz10_1:=zz1 BK178
      have hfz10_0:=blk_frozen BK178.out 0;have hfz10_1:=blk_frozen BK178.out 1;go_wp2
      repeat (go_quiet (fail);try go_wp2)
      go_ret
      exact ⟨by first|rfl|(simp [errW_none,errW_some] <;> rfl)|(simp [*,errW_none,errW_some] <;> rfl),zzh⟩
     ·rw [if_neg c7] at H
      have c7b0:(((rd_T48 l0_2 x5_1).f0) == a1_0 && (((rd_T48 l0_2 x5_1).f1) == a1_1)) = false:=by simpa using c7
      (try (have c7b1:decide (((rd_T48 l0_2 x5_1).f0) = a1_0 && (((rd_T48 l0_2 x5_1).f1) == a1_1)) = false:=by simpa using c7))
      (try (have c7b2:(((rd_T48 l0_2 x5_1).f0) == a1_0 && (((rd_T48 l0_2 x5_1).f1) == a1_1)) = false:=by simpa using c7))
      (try (have c7b3:¬ (((rd_T48 l0_2 x5_1).f0) = a1_0 && (((rd_T48 l0_2 x5_1).f1) == a1_1)):=by simpa using c7))
      clear c7;have H':=zM H;clear H;have hnb11:=NB177_178.out;have hnc11:=NB178_177.out;have hcz12_0:=zz0 BK177
      have hcz12_1:=zz1 BK177
      have hcz12_2:=zz2 BK177
      have hfz12_0:=blk_frozen BK177.out 0;have hfz12_1:=blk_frozen BK177.out 1;have hfz12_2:=blk_frozen BK177.out 2;have p179:0 ≤ (x5_1:Int):=zzd
      have q179:x5_1 < (l0_2.length:Int):=zzd
      obtain ⟨ad179,e179,hx179_0,hx179_1⟩:=at_T48 HR0_2.out x5_1 p179 q179;cases e179
      replace hx179_0:=zS HB.out hx179_0;replace hx179_1:=zS HB.out hx179_1;replace p179:=eq_true p179;replace q179:=eq_true q179;have hcz13_0:=zz0 BK178
      have hcz13_1:=zz1 BK178
      have hfz13_0:=blk_frozen BK178.out 0;have hfz13_1:=blk_frozen BK178.out 1;go_wp2
      repeat (go_quiet (fail);try go_wp2)
      go_roundg k1
      case measure=>have:=HK1.out;omega
      case rel=>exact ⟨(wrap64 (x5_1 + 1)),(by first|rfl|(simp;done)|(simp [*];done)),H',⟨by have:=HK1.out;omega⟩,⟨zzi BK177⟩,⟨zzi BK178⟩,⟨zzh⟩⟩
    ·rw [if_neg c6] at H
     exact absurd H (by simp)
   ·rw [if_neg c5] at H
    have c5b0:decide (x5_1 < (l0_2.length:Int)) = false:=decide_eq_false c5
    clear c5;obtain rfl:=Option.some.inj H;have hnb14:=NB177_178.out;have hnc14:=NB178_177.out;have hcz15_0:=zz0 BK177
    have hcz15_1:=zz1 BK177
    have hcz15_2:=zz2 BK177
    have hfz15_0:=blk_frozen BK177.out 0;have hfz15_1:=blk_frozen BK177.out 1;have hfz15_2:=blk_frozen BK177.out 2;go_wp2
    repeat (go_quiet (fail);try go_wp2)
    go_ret
    exact ⟨by first|rfl|(simp [errW_none,errW_some] <;> rfl)|(simp [*,errW_none,errW_some] <;> rfl),zzh⟩



/-! ### spec_l16Free: function 82 -/
def spec_l16Free.f (k:Nat) (a0_0:Int) (a0_1:Int) (l0_2:List (S48)) (a1_0:Int) (a1_1:Int):Option (Bool):=(spec_l16Inside.f a0_0 a0_1 l0_2 a1_0 a1_1).bind fun t182=>(if t182 = true then ((spec_l16Blocked.f k a0_0 a0_1 l0_2 a1_0 a1_1).bind fun t183=>(some (!t183))) else (some false))
set_option maxHeartbeats 8000000 in
set_option maxRecDepth 100000 in
theorem spec_l16Free.calls (k:Nat) (a0_0:Int) (a0_1:Int) (A0_2:Option Addr) (c0_2:Nat) (l0_2:List (S48)) (a1_0:Int) (a1_1:Int) (r:Bool) (w:World) (hr0_2:Kd.C k48 w A0_2 l0_2.length l0_2) (hc0_2:l0_2.length ≤ c0_2) (h:spec_l16Free.f k a0_0 a0_1 l0_2 a1_0 a1_1 = some r) :
  Calls Try.prog 82 #[.agg #[.int .i64 a0_0,.int .i64 a0_1,.slice A0_2 l0_2.length c0_2],.agg #[.int .i64 a1_0,.int .i64 a1_1]] w fun e w'=>e = .returned (.bool r) ∧ Below w.heap.size w w':=by
 have hu29:=Try.underlying29;have hu48:=Try.underlying48;have HR0_2:=zM hr0_2;have HC0_2:=zM hc0_2;clear hr0_2 hc0_2;have HB:=zM (Below.refl w.heap.size w);have H:((spec_l16Inside.f a0_0 a0_1 l0_2 a1_0 a1_1).bind fun t182=>(if t182 = true then ((spec_l16Blocked.f k a0_0 a0_1 l0_2 a1_0 a1_1).bind fun t183=>(some (!t183))) else (some false))) = some r:=h
 clear h;replace H:=Option.bind_eq_some_iff.mp H;obtain ⟨t182,A30,H⟩:=H;replace H:(if t182 = true then ((spec_l16Blocked.f k a0_0 a0_1 l0_2 a1_0 a1_1).bind fun t183=>(some (!t183))) else (some false)) = some r:=H
 have A3:=zM A30;clear A30;by_cases c4:t182 = true
 ·subst c4
  have H1:((spec_l16Blocked.f k a0_0 a0_1 l0_2 a1_0 a1_1).bind fun t183=>(some (!t183))) = some r:=by rw [if_pos rfl] at H;exact H
  clear H;have H:=H1;clear H1;replace H:=Option.bind_eq_some_iff.mp H;obtain ⟨t183,A50,H⟩:=H;replace H:(some (!t183)) = some r:=H
  have A5:=zM A50;clear A50;obtain rfl:=Option.some.inj H;go_enter Try.func82,Try.ntmps82
  go_wp2_with (first|((with_reducible refine gate_dst (N:=2) rfl ?_);refine zzc 2 #[.int .i64 a0_0,.int .i64 a0_1,.slice A0_2 l0_2.length c0_2] 29 ?_;intro gb180 hg w6 hbox hb;have n0_:=zM (zQ zzh hb);have n1_:=zM (hbox);have n2_:=zM ((by rw [hg];exact (zR zzh):w.heap.size ≤ gb180));have n3_:=zM ((by rw [hg];exact (zR zzh):w.heap.size ≤ gb180));clear HB;have HB:=n0_;have BK180:=n1_;have GW180:=n2_;have GE180:=n3_;clear n0_ n1_ n2_ n3_;clear hb hbox hg)|((with_reducible refine gate_dst (N:=3) rfl ?_);refine zzc 3 #[.int .i64 a1_0,.int .i64 a1_1] 48 ?_;intro gb181 hg w7 hbox hb;have n0_:=zM (blk_below (g:=gb180) (o := .cells #[.int .i64 a0_0,.int .i64 a0_1,.slice A0_2 l0_2.length c0_2] 29 (0,0)) (zzi BK180) hb);have n1_:=zM (zQ zzh hb);have n2_:=zM (hbox);have n3_:=zM ((by rw [hg];exact (zR zzh):w.heap.size ≤ gb181));have n4_:=zM ((by rw [hg];exact (zR zzh):w.heap.size ≤ gb181));have n5_:=zM ((by rw [hg];exact Nat.ne_of_lt (blk_lt (g:=gb180) (o := .cells #[.int .i64 a0_0,.int .i64 a0_1,.slice A0_2 l0_2.length c0_2] 29 (0,0)) (zzi BK180)):gb180 ≠ gb181));have n6_:=zM ((by rw [hg];exact Nat.ne_of_gt (blk_lt (g:=gb180) (o := .cells #[.int .i64 a0_0,.int .i64 a0_1,.slice A0_2 l0_2.length c0_2] 29 (0,0)) (zzi BK180)):gb181 ≠ gb180));clear BK180;clear HB;have BK180:=n0_;have HB:=n1_;have BK181:=n2_;have GW181:=n3_;have GE181:=n4_;have NB180_181:=n5_;have NB181_180:=n6_;clear n0_ n1_ n2_ n3_ n4_ n5_ n6_;clear hb hbox hg;have hnb8:=NB180_181.out;have hnc8:=NB181_180.out;have hcz9_0:=zz0 BK180;have hcz9_1:=zz1 BK180;have hcz9_2:=zz2 BK180;have hfz9_0:=blk_frozen BK180.out 0;have hfz9_1:=blk_frozen BK180.out 1;have hfz9_2:=blk_frozen BK180.out 2;have hcz10_0:=zz0 BK181;have hcz10_1:=zz1 BK181;have hfz10_0:=blk_frozen BK181.out 0;have hfz10_1:=blk_frozen BK181.out 1)|((with_reducible refine gate_callee (f:=81) rfl ?_);refine goesL_ (some 7) rfl rfl Try.func81 (by kernel_rfl) rfl #[.agg #[.int .i64 a0_0,.int .i64 a0_1,.slice A0_2 l0_2.length c0_2],.agg #[.int .i64 a1_0,.int .i64 a1_1]] rfl (by (try simp only [List.map_toArray,List.map_cons,List.map_nil]);first|done|rfl|(simp only [List.length_drop,List.length_take];rfl)) ?_;(with_reducible refine (spec_l16Inside.calls a0_0 a0_1 _ _ l0_2 a1_0 a1_1 true _ ?side1 ?side2 A3.out).mono ?_);(case side1=>repeat (first|exact (zO HR0_2.out HB.out)|(with_reducible first|refine zG ?_ _|refine zH ?_ _|refine zI ?_)));(case side2=>exact HC0_2.out);rintro e w11 ⟨rfl,hb⟩;refine ⟨_,rfl,?_⟩;have n0_:=zM (blk_below (g:=gb180) (o := .cells #[.int .i64 a0_0,.int .i64 a0_1,.slice A0_2 l0_2.length c0_2] 29 (0,0)) (zzi BK180) hb);have n1_:=zM (blk_below (g:=gb181) (o := .cells #[.int .i64 a1_0,.int .i64 a1_1] 48 (0,0)) (zzi BK181) hb);have n2_:=zM (zQ zzh hb);clear BK180;clear BK181;clear HB;have BK180:=n0_;have BK181:=n1_;have HB:=n2_;clear n0_ n1_ n2_;(try clear hb);(try clear hb2);(try clear hk);(try clear hi);have hcz12_0:=zz0 BK180;have hcz12_1:=zz1 BK180;have hcz12_2:=zz2 BK180;have hfz12_0:=blk_frozen BK180.out 0;have hfz12_1:=blk_frozen BK180.out 1;have hfz12_2:=blk_frozen BK180.out 2;have hcz13_0:=zz0 BK181;have hcz13_1:=zz1 BK181;have hfz13_0:=blk_frozen BK181.out 0;have hfz13_1:=blk_frozen BK181.out 1)|(go_at_call 96;(with_reducible refine (spec_l16Blocked.calls k a0_0 a0_1 _ _ l0_2 a1_0 a1_1 t183 _ ?side1 ?side2 A5.out).mono ?_);(case side1=>repeat (first|exact (zO HR0_2.out HB.out)|(with_reducible first|refine zG ?_ _|refine zH ?_ _|refine zI ?_)));(case side2=>exact HC0_2.out);rintro e w14 ⟨rfl,hb⟩;have n0_:=zM (blk_below (g:=gb180) (o := .cells #[.int .i64 a0_0,.int .i64 a0_1,.slice A0_2 l0_2.length c0_2] 29 (0,0)) (zzi BK180) hb);have n1_:=zM (blk_below (g:=gb181) (o := .cells #[.int .i64 a1_0,.int .i64 a1_1] 48 (0,0)) (zzi BK181) hb);have n2_:=zM (zQ zzh hb);clear BK180;clear BK181;clear HB;have BK180:=n0_;have BK181:=n1_;have HB:=n2_;clear n0_ n1_ n2_;(try clear hb);(try clear hb2);(try clear hk);(try clear hi)))
  go_ret
  exact ⟨by first|rfl|(simp [errW_none,errW_some] <;> rfl)|(simp [*,errW_none,errW_some] <;> rfl),zzh⟩
 ·replace c4:=Bool.eq_false_iff.mpr c4
  subst c4;have H1:(some false) = some r:=by rw [if_neg (show ¬ (false = true) by decide)] at H;exact H
  clear H;have H:=H1;clear H1;obtain rfl:=Option.some.inj H;go_enter Try.func82,Try.ntmps82
  go_wp2_with (first|((with_reducible refine gate_dst (N:=2) rfl ?_);refine zzc 2 #[.int .i64 a0_0,.int .i64 a0_1,.slice A0_2 l0_2.length c0_2] 29 ?_;intro gb180 hg w15 hbox hb;have n0_:=zM (zQ zzh hb);have n1_:=zM (hbox);have n2_:=zM ((by rw [hg];exact (zR zzh):w.heap.size ≤ gb180));have n3_:=zM ((by rw [hg];exact (zR zzh):w.heap.size ≤ gb180));clear HB;have HB:=n0_;have BK180:=n1_;have GW180:=n2_;have GE180:=n3_;clear n0_ n1_ n2_ n3_;clear hb hbox hg)|((with_reducible refine gate_dst (N:=3) rfl ?_);refine zzc 3 #[.int .i64 a1_0,.int .i64 a1_1] 48 ?_;intro gb181 hg w16 hbox hb;have n0_:=zM (blk_below (g:=gb180) (o := .cells #[.int .i64 a0_0,.int .i64 a0_1,.slice A0_2 l0_2.length c0_2] 29 (0,0)) (zzi BK180) hb);have n1_:=zM (zQ zzh hb);have n2_:=zM (hbox);have n3_:=zM ((by rw [hg];exact (zR zzh):w.heap.size ≤ gb181));have n4_:=zM ((by rw [hg];exact (zR zzh):w.heap.size ≤ gb181));have n5_:=zM ((by rw [hg];exact Nat.ne_of_lt (blk_lt (g:=gb180) (o := .cells #[.int .i64 a0_0,.int .i64 a0_1,.slice A0_2 l0_2.length c0_2] 29 (0,0)) (zzi BK180)):gb180 ≠ gb181));have n6_:=zM ((by rw [hg];exact Nat.ne_of_gt (blk_lt (g:=gb180) (o := .cells #[.int .i64 a0_0,.int .i64 a0_1,.slice A0_2 l0_2.length c0_2] 29 (0,0)) (zzi BK180)):gb181 ≠ gb180));clear BK180;clear HB;have BK180:=n0_;have HB:=n1_;have BK181:=n2_;have GW181:=n3_;have GE181:=n4_;have NB180_181:=n5_;have NB181_180:=n6_;clear n0_ n1_ n2_ n3_ n4_ n5_ n6_;clear hb hbox hg;have hnb17:=NB180_181.out;have hnc17:=NB181_180.out;have hcz18_0:=zz0 BK180;have hcz18_1:=zz1 BK180;have hcz18_2:=zz2 BK180;have hfz18_0:=blk_frozen BK180.out 0;have hfz18_1:=blk_frozen BK180.out 1;have hfz18_2:=blk_frozen BK180.out 2;have hcz19_0:=zz0 BK181;have hcz19_1:=zz1 BK181;have hfz19_0:=blk_frozen BK181.out 0;have hfz19_1:=blk_frozen BK181.out 1)|((with_reducible refine gate_callee (f:=81) rfl ?_);refine goesL_ (some 7) rfl rfl Try.func81 (by kernel_rfl) rfl #[.agg #[.int .i64 a0_0,.int .i64 a0_1,.slice A0_2 l0_2.length c0_2],.agg #[.int .i64 a1_0,.int .i64 a1_1]] rfl (by (try simp only [List.map_toArray,List.map_cons,List.map_nil]);first|done|rfl|(simp only [List.length_drop,List.length_take];rfl)) ?_;(with_reducible refine (spec_l16Inside.calls a0_0 a0_1 _ _ l0_2 a1_0 a1_1 false _ ?side1 ?side2 A3.out).mono ?_);(case side1=>repeat (first|exact (zO HR0_2.out HB.out)|(with_reducible first|refine zG ?_ _|refine zH ?_ _|refine zI ?_)));(case side2=>exact HC0_2.out);rintro e w20 ⟨rfl,hb⟩;refine ⟨_,rfl,?_⟩;have n0_:=zM (blk_below (g:=gb180) (o := .cells #[.int .i64 a0_0,.int .i64 a0_1,.slice A0_2 l0_2.length c0_2] 29 (0,0)) (zzi BK180) hb);have n1_:=zM (blk_below (g:=gb181) (o := .cells #[.int .i64 a1_0,.int .i64 a1_1] 48 (0,0)) (zzi BK181) hb);have n2_:=zM (zQ zzh hb);clear BK180;clear BK181;clear HB;have BK180:=n0_;have BK181:=n1_;have HB:=n2_;clear n0_ n1_ n2_;(try clear hb);(try clear hb2);(try clear hk);(try clear hi)))
  go_ret
  exact ⟨by first|rfl|(simp [errW_none,errW_some] <;> rfl)|(simp [*,errW_none,errW_some] <;> rfl),zzh⟩



/-! ### spec_l16Near: function 83 -/
def spec_l16Near.f (a0_0:Int) (a0_1:Int) (a1_0:Int) (a1_1:Int):Option (Bool):=(spec_l1Most.f (wrap64 (a0_0 - a1_0)) (wrap64 (a1_0 - a0_0))).bind fun t186=>((spec_l1Most.f (wrap64 (a0_1 - a1_1)) (wrap64 (a1_1 - a0_1))).bind fun t187=>(some (decide ((wrap64 (t186 + t187)) ≤ 1))))
set_option maxHeartbeats 8000000 in
set_option maxRecDepth 100000 in
theorem spec_l16Near.calls (a0_0:Int) (a0_1:Int) (a1_0:Int) (a1_1:Int) (r:Bool) (w:World) (h:spec_l16Near.f a0_0 a0_1 a1_0 a1_1 = some r) :
  Calls Try.prog 83 #[.agg #[.int .i64 a0_0,.int .i64 a0_1],.agg #[.int .i64 a1_0,.int .i64 a1_1]] w fun e w'=>e = .returned (.bool r) ∧ Below w.heap.size w w':=by
 have hu48:=Try.underlying48;have HB:=zM (Below.refl w.heap.size w);have H:((spec_l1Most.f (wrap64 (a0_0 - a1_0)) (wrap64 (a1_0 - a0_0))).bind fun t186=>((spec_l1Most.f (wrap64 (a0_1 - a1_1)) (wrap64 (a1_1 - a0_1))).bind fun t187=>(some (decide ((wrap64 (t186 + t187)) ≤ 1))))) = some r:=h
 clear h;replace H:=Option.bind_eq_some_iff.mp H;obtain ⟨t186,A30,H⟩:=H;replace H:((spec_l1Most.f (wrap64 (a0_1 - a1_1)) (wrap64 (a1_1 - a0_1))).bind fun t187=>(some (decide ((wrap64 (t186 + t187)) ≤ 1)))) = some r:=H
 have A3:=zM A30;clear A30;replace H:=Option.bind_eq_some_iff.mp H;obtain ⟨t187,A40,H⟩:=H;replace H:(some (decide ((wrap64 (t186 + t187)) ≤ 1))) = some r:=H
 have A4:=zM A40;clear A40;obtain rfl:=Option.some.inj H;go_enter Try.func83,Try.ntmps83
 go_wp2_with (first|((with_reducible refine gate_dst (N:=2) rfl ?_);refine zzc 2 #[.int .i64 a0_0,.int .i64 a0_1] 48 ?_;intro gb184 hg w5 hbox hb;have n0_:=zM (zQ zzh hb);have n1_:=zM (hbox);have n2_:=zM ((by rw [hg];exact (zR zzh):w.heap.size ≤ gb184));have n3_:=zM ((by rw [hg];exact (zR zzh):w.heap.size ≤ gb184));clear HB;have HB:=n0_;have BK184:=n1_;have GW184:=n2_;have GE184:=n3_;clear n0_ n1_ n2_ n3_;clear hb hbox hg)|((with_reducible refine gate_dst (N:=3) rfl ?_);refine zzc 3 #[.int .i64 a1_0,.int .i64 a1_1] 48 ?_;intro gb185 hg w6 hbox hb;have n0_:=zM (blk_below (g:=gb184) (o := .cells #[.int .i64 a0_0,.int .i64 a0_1] 48 (0,0)) (zzi BK184) hb);have n1_:=zM (zQ zzh hb);have n2_:=zM (hbox);have n3_:=zM ((by rw [hg];exact (zR zzh):w.heap.size ≤ gb185));have n4_:=zM ((by rw [hg];exact (zR zzh):w.heap.size ≤ gb185));have n5_:=zM ((by rw [hg];exact Nat.ne_of_lt (blk_lt (g:=gb184) (o := .cells #[.int .i64 a0_0,.int .i64 a0_1] 48 (0,0)) (zzi BK184)):gb184 ≠ gb185));have n6_:=zM ((by rw [hg];exact Nat.ne_of_gt (blk_lt (g:=gb184) (o := .cells #[.int .i64 a0_0,.int .i64 a0_1] 48 (0,0)) (zzi BK184)):gb185 ≠ gb184));clear BK184;clear HB;have BK184:=n0_;have HB:=n1_;have BK185:=n2_;have GW185:=n3_;have GE185:=n4_;have NB184_185:=n5_;have NB185_184:=n6_;clear n0_ n1_ n2_ n3_ n4_ n5_ n6_;clear hb hbox hg;have hnb7:=NB184_185.out;have hnc7:=NB185_184.out;have hcz8_0:=zz0 BK184;have hcz8_1:=zz1 BK184;have hfz8_0:=blk_frozen BK184.out 0;have hfz8_1:=blk_frozen BK184.out 1;have hcz9_0:=zz0 BK185;have hcz9_1:=zz1 BK185;have hfz9_0:=blk_frozen BK185.out 0;have hfz9_1:=blk_frozen BK185.out 1)|(go_at_call 86;(with_reducible refine (spec_l1Most.calls (wrap64 (a0_0 - a1_0)) (wrap64 (a1_0 - a0_0)) t186 _ A3.out).mono ?_);rintro e w' ⟨rfl,⟨nd,rfl⟩⟩;(try first|exact ⟨rfl,_,World.drewN_drewN _ _ _⟩|exact ⟨rfl,_,zW _ _ _ _⟩))|(go_at_call 86;(with_reducible refine (spec_l1Most.calls (wrap64 (a0_1 - a1_1)) (wrap64 (a1_1 - a0_1)) t187 _ A4.out).mono ?_);rintro e w' ⟨rfl,⟨nd,rfl⟩⟩;(try first|exact ⟨rfl,_,World.drewN_drewN _ _ _⟩|exact ⟨rfl,_,zW _ _ _ _⟩)))
 repeat (go_quiet (first|((with_reducible refine gate_dst (N:=2) rfl ?_);refine zzc 2 #[.int .i64 a0_0,.int .i64 a0_1] 48 ?_;intro gb184 hg w5 hbox hb;have n0_:=zM (zQ zzh hb);have n1_:=zM (hbox);have n2_:=zM ((by rw [hg];exact (zR zzh):w.heap.size ≤ gb184));have n3_:=zM ((by rw [hg];exact (zR zzh):w.heap.size ≤ gb184));clear HB;have HB:=n0_;have BK184:=n1_;have GW184:=n2_;have GE184:=n3_;clear n0_ n1_ n2_ n3_;clear hb hbox hg)|((with_reducible refine gate_dst (N:=3) rfl ?_);refine zzc 3 #[.int .i64 a1_0,.int .i64 a1_1] 48 ?_;intro gb185 hg w6 hbox hb;have n0_:=zM (blk_below (g:=gb184) (o := .cells #[.int .i64 a0_0,.int .i64 a0_1] 48 (0,0)) (zzi BK184) hb);have n1_:=zM (zQ zzh hb);have n2_:=zM (hbox);have n3_:=zM ((by rw [hg];exact (zR zzh):w.heap.size ≤ gb185));have n4_:=zM ((by rw [hg];exact (zR zzh):w.heap.size ≤ gb185));have n5_:=zM ((by rw [hg];exact Nat.ne_of_lt (blk_lt (g:=gb184) (o := .cells #[.int .i64 a0_0,.int .i64 a0_1] 48 (0,0)) (zzi BK184)):gb184 ≠ gb185));have n6_:=zM ((by rw [hg];exact Nat.ne_of_gt (blk_lt (g:=gb184) (o := .cells #[.int .i64 a0_0,.int .i64 a0_1] 48 (0,0)) (zzi BK184)):gb185 ≠ gb184));clear BK184;clear HB;have BK184:=n0_;have HB:=n1_;have BK185:=n2_;have GW185:=n3_;have GE185:=n4_;have NB184_185:=n5_;have NB185_184:=n6_;clear n0_ n1_ n2_ n3_ n4_ n5_ n6_;clear hb hbox hg;have hnb7:=NB184_185.out;have hnc7:=NB185_184.out;have hcz8_0:=zz0 BK184;have hcz8_1:=zz1 BK184;have hfz8_0:=blk_frozen BK184.out 0;have hfz8_1:=blk_frozen BK184.out 1;have hcz9_0:=zz0 BK185;have hcz9_1:=zz1 BK185;have hfz9_0:=blk_frozen BK185.out 0;have hfz9_1:=blk_frozen BK185.out 1)|(go_at_call 86;(with_reducible refine (spec_l1Most.calls (wrap64 (a0_0 - a1_0)) (wrap64 (a1_0 - a0_0)) t186 _ A3.out).mono ?_);rintro e w' ⟨rfl,⟨nd,rfl⟩⟩;(try first|exact ⟨rfl,_,World.drewN_drewN _ _ _⟩|exact ⟨rfl,_,zW _ _ _ _⟩))|(go_at_call 86;(with_reducible refine (spec_l1Most.calls (wrap64 (a0_1 - a1_1)) (wrap64 (a1_1 - a0_1)) t187 _ A4.out).mono ?_);rintro e w' ⟨rfl,⟨nd,rfl⟩⟩;(try first|exact ⟨rfl,_,World.drewN_drewN _ _ _⟩|exact ⟨rfl,_,zW _ _ _ _⟩)));try go_wp2_with (first|((with_reducible refine gate_dst (N:=2) rfl ?_);refine zzc 2 #[.int .i64 a0_0,.int .i64 a0_1] 48 ?_;intro gb184 hg w5 hbox hb;have n0_:=zM (zQ zzh hb);have n1_:=zM (hbox);have n2_:=zM ((by rw [hg];exact (zR zzh):w.heap.size ≤ gb184));have n3_:=zM ((by rw [hg];exact (zR zzh):w.heap.size ≤ gb184));clear HB;have HB:=n0_;have BK184:=n1_;have GW184:=n2_;have GE184:=n3_;clear n0_ n1_ n2_ n3_;clear hb hbox hg)|((with_reducible refine gate_dst (N:=3) rfl ?_);refine zzc 3 #[.int .i64 a1_0,.int .i64 a1_1] 48 ?_;intro gb185 hg w6 hbox hb;have n0_:=zM (blk_below (g:=gb184) (o := .cells #[.int .i64 a0_0,.int .i64 a0_1] 48 (0,0)) (zzi BK184) hb);have n1_:=zM (zQ zzh hb);have n2_:=zM (hbox);have n3_:=zM ((by rw [hg];exact (zR zzh):w.heap.size ≤ gb185));have n4_:=zM ((by rw [hg];exact (zR zzh):w.heap.size ≤ gb185));have n5_:=zM ((by rw [hg];exact Nat.ne_of_lt (blk_lt (g:=gb184) (o := .cells #[.int .i64 a0_0,.int .i64 a0_1] 48 (0,0)) (zzi BK184)):gb184 ≠ gb185));have n6_:=zM ((by rw [hg];exact Nat.ne_of_gt (blk_lt (g:=gb184) (o := .cells #[.int .i64 a0_0,.int .i64 a0_1] 48 (0,0)) (zzi BK184)):gb185 ≠ gb184));clear BK184;clear HB;have BK184:=n0_;have HB:=n1_;have BK185:=n2_;have GW185:=n3_;have GE185:=n4_;have NB184_185:=n5_;have NB185_184:=n6_;clear n0_ n1_ n2_ n3_ n4_ n5_ n6_;clear hb hbox hg;have hnb7:=NB184_185.out;have hnc7:=NB185_184.out;have hcz8_0:=zz0 BK184;have hcz8_1:=zz1 BK184;have hfz8_0:=blk_frozen BK184.out 0;have hfz8_1:=blk_frozen BK184.out 1;have hcz9_0:=zz0 BK185;have hcz9_1:=zz1 BK185;have hfz9_0:=blk_frozen BK185.out 0;have hfz9_1:=blk_frozen BK185.out 1)|(go_at_call 86;(with_reducible refine (spec_l1Most.calls (wrap64 (a0_0 - a1_0)) (wrap64 (a1_0 - a0_0)) t186 _ A3.out).mono ?_);rintro e w' ⟨rfl,⟨nd,rfl⟩⟩;(try first|exact ⟨rfl,_,World.drewN_drewN _ _ _⟩|exact ⟨rfl,_,zW _ _ _ _⟩))|(go_at_call 86;(with_reducible refine (spec_l1Most.calls (wrap64 (a0_1 - a1_1)) (wrap64 (a1_1 - a0_1)) t187 _ A4.out).mono ?_);rintro e w' ⟨rfl,⟨nd,rfl⟩⟩;(try first|exact ⟨rfl,_,World.drewN_drewN _ _ _⟩|exact ⟨rfl,_,zW _ _ _ _⟩))))
 go_ret
 exact ⟨by first|rfl|(simp [errW_none,errW_some] <;> rfl)|(simp [*,errW_none,errW_some] <;> rfl),zzh⟩

end Go.Proofs.Ytbpccdbkaiigcaa.G
