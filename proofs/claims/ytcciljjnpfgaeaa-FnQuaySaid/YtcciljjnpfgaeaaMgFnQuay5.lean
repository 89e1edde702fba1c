/- Texts of the proof of FnQuay, joined in build order. -/
import Derived.Test.YtcciljjnpfgaeaaMgFnQuay1
import Derived.Test.YtcciljjnpfgaeaaMgFnQuay4
import Derived.Test.YtcciljjnpfgaeaaMgFnQuay3
import Derived.IntWalk
-- Written by wip/tools/gen.py out of the translation (the kit's printer, one namespace a seat). Lean checks it.
namespace Go.Proofs.Ytcciljjnpfgaeaa.G
open Go.RowKit Go.Proofs.YtcciljjnpfgaeaaW.PrintWords Go.Proofs.YtcciljjnpfgaeaaW.PrintLast Go.Proofs.YtcciljjnpfgaeaaW.PrintMore
attribute [local go_sem] max2_int min2_int max_two min_two max_three min_three max_four min_four   -- for this text's walks alone
set_option linter.unusedVariables false
set_option linter.unusedSimpArgs false

/-! ### spec_l1Cur_berths: function 76 -/
mutual
def spec_l1Cur_berths.l0 : Nat → Int → List (S62) → List Int → Int → List Int → Int → Int → Option ((List (S37)) × Int × Int)
 | 0,_,_,_,_,_,_,_=>none
 | k + 1,x1,x2,x7,x8,x1000,x1001,x1002=>if x8 ≥ 0 then ((spec_l1Cur_pick.f x1000 x1001 x1002 (wrap64 ((x7.length : Int) + 1))).bind fun bt957=>((some (([] : List Int) : List Int)).bind fun y960=>(if 0 ≤ bt957.1 then (if bt957.1 ≤ (x7.length : Int) then ((some (x7.take (bt957.1 : Int).toNat : List Int)).bind fun y963=>(if y960.length + y963.length < 17592186044416 then ((some (y960 ++ y963 : List Int)).bind fun y967=>((some (([x8] : List Int) : List Int)).bind fun y970=>(if y967.length + y970.length < 17592186044416 then ((some (y967 ++ y970 : List Int)).bind fun y973=>((some (x7.drop (bt957.1 : Int).toNat : List Int)).bind fun y976=>(if y973.length + y976.length < 17592186044416 then (spec_l1Cur_berths.l0 k x1 x2 (y973 ++ y976) (wrap64 (x8 - 1)) x1000 bt957.2.1 bt957.2.2) else (none)))) else (none)))) else (none))) else (none)) else (none)))) else ((spec_l14Ships.f k x1 x2).bind fun t986=>(if t986 = true then ((spec_l14InOrder.f k x1 x2 x7).bind fun bt987=>(spec_l1Cur_berths.j1 k bt987.1 x1000 x1001 x1002)) else (spec_l1Cur_berths.j1 k (([] : List (S37))) x1000 x1001 x1002)))
def spec_l1Cur_berths.j1 : Nat → List (S37) → List Int → Int → Int → Option ((List (S37)) × Int × Int)
 | 0,_,_,_,_=>none
 | k + 1,x10,x1000,x1001,x1002=>if (x10.length : Int) > 0 then ((spec_l1Cur_one.f x1000 x1001 x1002 6).bind fun bt991=>(spec_l1Cur_berths.j2 k x10 bt991.1 x1000 bt991.2.1 bt991.2.2)) else (spec_l1Cur_berths.j2 k x10 false x1000 x1001 x1002)
def spec_l1Cur_berths.j2 : Nat → List (S37) → Bool → List Int → Int → Int → Option ((List (S37)) × Int × Int)
 | 0,_,_,_,_,_=>none
 | k + 1,x10,x55,x1000,x1001,x1002=>if x55 = true then ((spec_l1Cur_pick.f x1000 x1001 x1002 (x10.length : Int)).bind fun bt994=>(if 0 ≤ bt994.1 then (if bt994.1 < (x10.length : Int) then ((spec_l1Cur_among.f x1000 bt994.2.1 bt994.2.2 (([1,(-1),0] : List Int))).bind fun bt1002=>((spec_l1Cur_among.f x1000 bt1002.2.1 bt1002.2.2 (([1,(-1),3] : List Int))).bind fun bt1008=>(some ((x10.set (bt994.1 : Int).toNat (⟨wrap64 (((rd_T37 x10 bt994.1).f0) + bt1002.1),wrap64 (((rd_T37 x10 bt994.1).f1) + bt1008.1)⟩ : S37)),bt1008.2.1,bt1008.2.2)))) else (none)) else (none))) else (some (x10,x1001,x1002))
end
def spec_l1Cur_berths.f (k : Nat) (s0_0 : List Int) (s0_1 : Int) (s0_2 : Int) (a1 : Int) (l2 : List (S62)) : Option ((List (S37)) × Int × Int):=spec_l1Cur_berths.l0 k a1 l2 (([] : List Int)) (wrap64 ((l2.length : Int) - 1)) s0_0 s0_1 s0_2
theorem spec_l1Cur_berths.mono_l : ∀ k,(∀ y0 y1 y2 y3 y4 y5 y6,LeO (spec_l1Cur_berths.l0 k y0 y1 y2 y3 y4 y5 y6) (spec_l1Cur_berths.l0 (k + 1) y0 y1 y2 y3 y4 y5 y6)) ∧ (∀ y0 y1 y2 y3,LeO (spec_l1Cur_berths.j1 k y0 y1 y2 y3) (spec_l1Cur_berths.j1 (k + 1) y0 y1 y2 y3)) ∧ (∀ y0 y1 y2 y3 y4,LeO (spec_l1Cur_berths.j2 k y0 y1 y2 y3 y4) (spec_l1Cur_berths.j2 (k + 1) y0 y1 y2 y3 y4))
 | 0=>⟨fun _ _ _ _ _ _ _ r h=>by simp [spec_l1Cur_berths.l0] at h,fun _ _ _ _ r h=>by simp [spec_l1Cur_berths.j1] at h,fun _ _ _ _ _ r h=>by simp [spec_l1Cur_berths.j2] at h⟩
 | k + 1=>by
  obtain ⟨ih0,ih1,ih2⟩:=spec_l1Cur_berths.mono_l k
  refine ⟨?_,?_,?_⟩
  ·intro y0 y1 y2 y3 y4 y5 y6
   unfold spec_l1Cur_berths.l0
   repeat' first
   | (with_reducible exact ih0 _ _ _ _ _ _ _)
   | (with_reducible exact ih1 _ _ _ _)
   | (with_reducible exact ih2 _ _ _ _ _)
   | (with_reducible exact spec_l14InOrder.mono _ _ _ _)
   | (with_reducible exact spec_l14Ships.mono _ _ _)
   | (with_reducible exact LeO.refl _)
   | (with_reducible exact LeO.none _)
   | (with_reducible refine LeO.ite ?_ ?_)
   | (with_reducible refine LeO.bind ?_ (fun _=>?_))
   | exact ih0 _ _ _ _ _ _ _
   | exact ih1 _ _ _ _
   | exact ih2 _ _ _ _ _
   | exact spec_l14InOrder.mono _ _ _ _
   | exact spec_l14Ships.mono _ _ _
   | exact LeO.none _
   | refine LeO.ite ?_ ?_
   | refine LeO.bind ?_ (fun _=>?_)
  ·intro y0 y1 y2 y3
   unfold spec_l1Cur_berths.j1
   repeat' first
   | (with_reducible exact ih0 _ _ _ _ _ _ _)
   | (with_reducible exact ih1 _ _ _ _)
   | (with_reducible exact ih2 _ _ _ _ _)
   | (with_reducible exact spec_l14InOrder.mono _ _ _ _)
   | (with_reducible exact spec_l14Ships.mono _ _ _)
   | (with_reducible exact LeO.refl _)
   | (with_reducible exact LeO.none _)
   | (with_reducible refine LeO.ite ?_ ?_)
   | (with_reducible refine LeO.bind ?_ (fun _=>?_))
   | exact ih0 _ _ _ _ _ _ _
   | exact ih1 _ _ _ _
   | exact ih2 _ _ _ _ _
   | exact spec_l14InOrder.mono _ _ _ _
   | exact spec_l14Ships.mono _ _ _
   | exact LeO.none _
   | refine LeO.ite ?_ ?_
   | refine LeO.bind ?_ (fun _=>?_)
  ·intro y0 y1 y2 y3 y4
   unfold spec_l1Cur_berths.j2
   repeat' first
   | (with_reducible exact ih0 _ _ _ _ _ _ _)
   | (with_reducible exact ih1 _ _ _ _)
   | (with_reducible exact ih2 _ _ _ _ _)
   | (with_reducible exact spec_l14InOrder.mono _ _ _ _)
   | (with_reducible exact spec_l14Ships.mono _ _ _)
   | (with_reducible exact LeO.refl _)
   | (with_reducible exact LeO.none _)
   | (with_reducible refine LeO.ite ?_ ?_)
   | (with_reducible refine LeO.bind ?_ (fun _=>?_))
   | exact ih0 _ _ _ _ _ _ _
   | exact ih1 _ _ _ _
   | exact ih2 _ _ _ _ _
   | exact spec_l14InOrder.mono _ _ _ _
   | exact spec_l14Ships.mono _ _ _
   | exact LeO.none _
   | refine LeO.ite ?_ ?_
   | refine LeO.bind ?_ (fun _=>?_)
theorem spec_l1Cur_berths.mono : ∀ a0 a1 a2 a3 a4 k,LeO (spec_l1Cur_berths.f k a0 a1 a2 a3 a4) (spec_l1Cur_berths.f (k + 1) a0 a1 a2 a3 a4):=by
 intro a0 a1 a2 a3 a4 k
 obtain ⟨ih0,ih1,ih2⟩:=spec_l1Cur_berths.mono_l k
 unfold spec_l1Cur_berths.f
 repeat' first
   | (with_reducible exact ih0 _ _ _ _ _ _ _)
   | (with_reducible exact ih1 _ _ _ _)
   | (with_reducible exact ih2 _ _ _ _ _)
   | (with_reducible exact spec_l14InOrder.mono _ _ _ _)
   | (with_reducible exact spec_l14Ships.mono _ _ _)
   | (with_reducible exact LeO.refl _)
   | (with_reducible exact LeO.none _)
   | (with_reducible refine LeO.ite ?_ ?_)
   | (with_reducible refine LeO.bind ?_ (fun _=>?_))
   | exact ih0 _ _ _ _ _ _ _
   | exact ih1 _ _ _ _
   | exact ih2 _ _ _ _ _
   | exact spec_l14InOrder.mono _ _ _ _
   | exact spec_l14Ships.mono _ _ _
   | exact LeO.none _
   | refine LeO.ite ?_ ?_
   | refine LeO.bind ?_ (fun _=>?_)
def spec_l1Cur_berths.T6 : Bool × List (List Nat × List Nat):=(true,[([],[]),([],[]),([],[]),([1,2],[1,2]),([0,3],[0,3]),([],[]),([5],[5]),([4,6,4],[4,6]),([],[]),([],[]),([8,9],[8,9]),([7,10,7],[7,10]),([11,11,0,1,2,3,4,5,6,7,8,9,10,11],[1,8,11])])
def spec_l1Cur_berths.B6 : List Nat:=[0,0,0,6,15,0,32,127,0,0,768,2047,4095]
theorem spec_l1Cur_berths.tab6 : rtab .any (opsOf Try.f76 6) = spec_l1Cur_berths.T6:=by kernel_rfl
theorem spec_l1Cur_berths.bits6 : waitsOk spec_l1Cur_berths.T6.2 spec_l1Cur_berths.B6 = true:=by kernel_rfl
def spec_l1Cur_berths.T13 : Bool × List (List Nat × List Nat):=(true,[([],[]),([0],[0]),([],[]),([],[]),([2,3],[2,3]),([1,4],[1,4]),([0,1,2,3,4,5],[]),([6,5,4,0,1,2,3,4,5],[5,6])])
def spec_l1Cur_berths.B13 : List Nat:=[0,1,0,0,12,31,63,127]
theorem spec_l1Cur_berths.tab13 : rtab .any (opsOf Try.f76 13) = spec_l1Cur_berths.T13:=by kernel_rfl
theorem spec_l1Cur_berths.bits13 : waitsOk spec_l1Cur_berths.T13.2 spec_l1Cur_berths.B13 = true:=by kernel_rfl
def spec_l1Cur_berths.T14 : Bool × List (List Nat × List Nat):=(true,[([],[]),([0],[0]),([],[]),([],[]),([2,3],[2,3]),([1,4],[1,4]),([0,1,2,3,4,5],[]),([6,5,4,0,1,2,3,4,5],[5,6])])
def spec_l1Cur_berths.B14 : List Nat:=[0,1,0,0,12,31,63,127]
theorem spec_l1Cur_berths.tab14 : rtab .any (opsOf Try.f76 14) = spec_l1Cur_berths.T14:=by kernel_rfl
theorem spec_l1Cur_berths.bits14 : waitsOk spec_l1Cur_berths.T14.2 spec_l1Cur_berths.B14 = true:=by kernel_rfl
set_option maxHeartbeats 8000000 in
set_option maxRecDepth 100000 in
theorem spec_l1Cur_berths.calls (k : Nat) (g : Nat) (s0_0 : List Int) (s0_1 : Int) (s0_2 : Int) (a1 : Int) (A2 : Option Addr) (c2 : Nat) (l2 : List (S62)) (r1 : List (S37)) (r2 : Int) (r3 : Int) (w0 w : World) (hI : IsS90 w0 w g s0_0 s0_1 s0_2) (hB : Below w0.heap.size w0 w) (hr2 : ∀ W_,KeepBut w W_ g none → Kd.C k62 W_ A2 l2.length l2) (hc2 : l2.length ≤ c2) (h : spec_l1Cur_berths.f k s0_0 s0_1 s0_2 a1 l2 = some (r1,r2,r3)) :
  Calls Try.prog 76 #[.pointer (some ⟨g,0,none⟩),.int .i64 a1,.slice A2 l2.length c2] w fun e w' => ∃ v0_ : Value,e = .returned (v0_) ∧ Kd.R k37 37 w' w.heap.size (fun _=>True) v0_ r1 ∧ IsS90 w0 w' g s0_0 r2 r3 ∧ Below w0.heap.size w0 w' ∧ KeepBut w w' g none:=by
 have hu37:=Try.underlying37
 have HR2:=zM hr2
 have HC2:=zM hc2
 clear hr2 hc2
 have HI0:=zM hI
 have HK:=zM (KeepBut.refl w g none)
 have HL:=zM hB.size
 clear hI
 have HW0:=zM hB.size
 have HB:=zM hB
 clear hB
 have H : (spec_l1Cur_berths.l0 k a1 l2 (([] : List Int)) (wrap64 ((l2.length : Int) - 1)) s0_0 s0_1 s0_2) = some (r1,r2,r3):=h
 clear h
 obtain ⟨y954,hy954⟩ : ∃ y_ : List Int,y_ = (([] : List Int)):=⟨_,rfl⟩
 replace H : (spec_l1Cur_berths.l0 k a1 l2 y954 (wrap64 ((l2.length : Int) - 1)) s0_0 s0_1 s0_2) = some (r1,r2,r3):=by first|(rw [hy954];with_reducible exact H)|(have H2_:=(Option.bind_some _ _).symm.trans H;rw [hy954];with_reducible exact H2_)|(have H2_:=(Option.bind_some _ _).symm.trans H;with_reducible exact H2_)|with_reducible exact H|(rw [hy954];exact H)|exact H
 have Ny954:=zM hy954
 clear hy954
 have H':=zM H
 clear H
 go_enter Try.func76,Try.ntmps76
 go_wp2_with (first|((with_reducible refine gate_dst (N:=13) rfl ?_);refine Kd.R_lit (Kd.int .i64) _ 3 ?hg (N:=13) ?hd (xs:=([] : List Int)) (inner:=[]) (ok:=fun _=>True) (okp:=fun _=>True) ?hr ?hp (fun _ hk=>hk) trivial (Below.refl _ _) (Nat.le_refl _) (by simp) ?_;(case hd=>rfl);(case hg=>rfl);(case hr=>first|(go_simp;done)|(go_simp;rfl));(case hp=>exact (Reps.none _ _));intro v955 w4 ho5 hb hg_ hnew_;clear hg_ hnew_;(first|rw [← Ny954.out] at ho5|(simp only [Int.reduceToNat] at ho5;rw [← Ny954.out] at ho5));have n0_:=zM (Kd.R_lower ho5 (keep_size (w:=w) (g:=g) (row:=none) (by repeat (first|(with_reducible first|exact HK.out|apply KeepBut.set_|apply keep_drewN|apply keep_drew|apply keep_alloc)|exact HK.out))));have n1_:=zM (IsS90.below (by repeat (first|(with_reducible first|exact HI0.out|apply IsS90.alloc|apply IsS90.drewN|apply IsS90.drew|apply IsS90.set_1|apply IsS90.set_2)|exact HI0.out)) hb);have n2_:=zM (KeepBut.trans (by repeat (first|(with_reducible first|exact HK.out|apply KeepBut.set_|apply keep_drewN|apply keep_drew|apply keep_alloc)|exact HK.out)) (KeepBut.of_below hb g none) (.inl rfl));have n3_:=zM (zQ (by repeat (first|(with_reducible first|exact HB.out|apply zD|apply zE|apply zF|refine below_set ?_ (IsS90.ge HI0.out))|exact HB.out)) hb);clear HI0;clear HK;clear HB;have HO956:=n0_;have HI0:=n1_;have HK:=n2_;have HB:=n3_;clear n0_ n1_ n2_ n3_;clear hb ho5))
 go_loopg [7,8] k (fun kq v7 v8 w' => ∃ (x7_1 : List Int) (x8_1 : Int) (x1001_1 : Int) (x1002_1 : Int),v8 = .int .i64 x8_1 ∧ Aside0 (spec_l1Cur_berths.l0 kq a1 l2 x7_1 x8_1 s0_0 x1001_1 x1002_1 = some (r1,r2,r3)) ∧ Aside0 (kq ≤ k) ∧ Aside0 (Kd.R (Kd.int .i64) 3 w' w.heap.size (fun _=>True) v7 x7_1) ∧ Aside0 (IsS90 w0 w' g s0_0 x1001_1 x1002_1) ∧ Aside0 (KeepBut w w' g none) ∧ Aside0 (Below w0.heap.size w0 w'))
 case atStart=>exact ⟨(y954),(wrap64 ((l2.length : Int) - 1)),(s0_1),(s0_2),(by first|rfl|(simp;done)|(simp [*];done)),H',⟨Nat.le_refl _⟩,⟨by (with_reducible repeat (first|apply zA|apply zB|apply zC));exact HO956.out⟩,⟨by repeat (first|(with_reducible first|exact HI0.out|apply IsS90.alloc|apply IsS90.drewN|apply IsS90.drew|apply IsS90.set_1|apply IsS90.set_2)|exact HI0.out)⟩,⟨by repeat (first|(with_reducible first|exact HK.out|apply KeepBut.set_|apply keep_drewN|apply keep_drew|apply keep_alloc)|exact HK.out)⟩,⟨by repeat (first|(with_reducible first|exact HB.out|apply zD|apply zE|apply zF|refine below_set ?_ (IsS90.ge HI0.out))|exact HB.out)⟩⟩
 case round =>
  clear H'
  try clear c2
  try clear p2
  obtain ⟨x7_1,x8_1,x1001_1,x1002_1,rfl,HA,HK1,HO_7,HI0,HK,HB⟩:=hrel
  cases gk with
  | zero=>exact absurd HA.out (by simp [spec_l1Cur_berths.l0])
  | succ k1 =>
   have H:=HA.out
   clear HA
   simp only [spec_l1Cur_berths.l0] at H
   by_cases c6 : x8_1 ≥ 0
   ·rw [if_pos c6] at H
    have c6b0 : decide (0 ≤ x8_1) = true:=decide_eq_true c6
    clear c6
    replace H:=Option.bind_eq_some_iff.mp H
    obtain ⟨⟨t957,t958,t959⟩,A70,H⟩:=H
    replace H : ((some (([] : List Int) : List Int)).bind fun y960=>(if 0 ≤ t957 then (if t957 ≤ (x7_1.length : Int) then ((some (x7_1.take (t957 : Int).toNat : List Int)).bind fun y963=>(if y960.length + y963.length < 17592186044416 then ((some (y960 ++ y963 : List Int)).bind fun y967=>((some (([x8_1] : List Int) : List Int)).bind fun y970=>(if y967.length + y970.length < 17592186044416 then ((some (y967 ++ y970 : List Int)).bind fun y973=>((some (x7_1.drop (t957 : Int).toNat : List Int)).bind fun y976=>(if y973.length + y976.length < 17592186044416 then (spec_l1Cur_berths.l0 k1 a1 l2 (y973 ++ y976) (wrap64 (x8_1 - 1)) s0_0 t958 t959) else (none)))) else (none)))) else (none))) else (none)) else (none))) = some (r1,r2,r3):=H
    have A7:=zM A70
    clear A70
    obtain ⟨y960,hy960⟩ : ∃ y_ : List Int,y_ = (([] : List Int)):=⟨_,rfl⟩
    replace H : (if 0 ≤ t957 then (if t957 ≤ (x7_1.length : Int) then ((some (x7_1.take (t957 : Int).toNat : List Int)).bind fun y963=>(if y960.length + y963.length < 17592186044416 then ((some (y960 ++ y963 : List Int)).bind fun y967=>((some (([x8_1] : List Int) : List Int)).bind fun y970=>(if y967.length + y970.length < 17592186044416 then ((some (y967 ++ y970 : List Int)).bind fun y973=>((some (x7_1.drop (t957 : Int).toNat : List Int)).bind fun y976=>(if y973.length + y976.length < 17592186044416 then (spec_l1Cur_berths.l0 k1 a1 l2 (y973 ++ y976) (wrap64 (x8_1 - 1)) s0_0 t958 t959) else (none)))) else (none)))) else (none))) else (none)) else (none)) = some (r1,r2,r3):=by first|(rw [hy960];with_reducible exact H)|(have H2_:=(Option.bind_some _ _).symm.trans H;rw [hy960];with_reducible exact H2_)|(have H2_:=(Option.bind_some _ _).symm.trans H;with_reducible exact H2_)|with_reducible exact H|(rw [hy960];exact H)|exact H
    have Ny960:=zM hy960
    clear hy960
    by_cases c8 : 0 ≤ t957
    ·rw [if_pos c8] at H
     have c8b0:=eq_true c8
     have c8b1 : decide (0 ≤ t957) = true:=decide_eq_true c8
     clear c8
     by_cases c9 : t957 ≤ (x7_1.length : Int)
     ·rw [if_pos c9] at H
      have c9b0:=eq_true c9
      have c9b1 : decide (t957 ≤ (x7_1.length : Int)) = true:=decide_eq_true c9
      clear c9
      obtain ⟨y963,hy963⟩ : ∃ y_ : List Int,y_ = (x7_1.take (t957 : Int).toNat):=⟨_,rfl⟩
      replace H : (if y960.length + y963.length < 17592186044416 then ((some (y960 ++ y963 : List Int)).bind fun y967=>((some (([x8_1] : List Int) : List Int)).bind fun y970=>(if y967.length + y970.length < 17592186044416 then ((some (y967 ++ y970 : List Int)).bind fun y973=>((some (x7_1.drop (t957 : Int).toNat : List Int)).bind fun y976=>(if y973.length + y976.length < 17592186044416 then (spec_l1Cur_berths.l0 k1 a1 l2 (y973 ++ y976) (wrap64 (x8_1 - 1)) s0_0 t958 t959) else (none)))) else (none)))) else (none)) = some (r1,r2,r3):=by first|(rw [hy963];with_reducible exact H)|(have H2_:=(Option.bind_some _ _).symm.trans H;rw [hy963];with_reducible exact H2_)|(have H2_:=(Option.bind_some _ _).symm.trans H;with_reducible exact H2_)|with_reducible exact H|(rw [hy963];exact H)|exact H
      have Ny963:=zM hy963
      clear hy963
      by_cases c10 : y960.length + y963.length < 17592186044416
      ·rw [if_pos c10] at H
       have LMc10:=zM c10
       clear c10
       obtain ⟨y967,hy967⟩ : ∃ y_ : List Int,y_ = (y960 ++ y963):=⟨_,rfl⟩
       replace H : ((some (([x8_1] : List Int) : List Int)).bind fun y970=>(if y967.length + y970.length < 17592186044416 then ((some (y967 ++ y970 : List Int)).bind fun y973=>((some (x7_1.drop (t957 : Int).toNat : List Int)).bind fun y976=>(if y973.length + y976.length < 17592186044416 then (spec_l1Cur_berths.l0 k1 a1 l2 (y973 ++ y976) (wrap64 (x8_1 - 1)) s0_0 t958 t959) else (none)))) else (none))) = some (r1,r2,r3):=by first|(rw [hy967];with_reducible exact H)|(have H2_:=(Option.bind_some _ _).symm.trans H;rw [hy967];with_reducible exact H2_)|(have H2_:=(Option.bind_some _ _).symm.trans H;with_reducible exact H2_)|with_reducible exact H|(rw [hy967];exact H)|exact H
       have Ny967:=zM hy967
       clear hy967
       obtain ⟨y970,hy970⟩ : ∃ y_ : List Int,y_ = (([x8_1] : List Int)):=⟨_,rfl⟩
       replace H : (if y967.length + y970.length < 17592186044416 then ((some (y967 ++ y970 : List Int)).bind fun y973=>((some (x7_1.drop (t957 : Int).toNat : List Int)).bind fun y976=>(if y973.length + y976.length < 17592186044416 then (spec_l1Cur_berths.l0 k1 a1 l2 (y973 ++ y976) (wrap64 (x8_1 - 1)) s0_0 t958 t959) else (none)))) else (none)) = some (r1,r2,r3):=by first|(rw [hy970];with_reducible exact H)|(have H2_:=(Option.bind_some _ _).symm.trans H;rw [hy970];with_reducible exact H2_)|(have H2_:=(Option.bind_some _ _).symm.trans H;with_reducible exact H2_)|with_reducible exact H|(rw [hy970];exact H)|exact H
       have Ny970:=zM hy970
       clear hy970
       by_cases c11 : y967.length + y970.length < 17592186044416
       ·rw [if_pos c11] at H
        have LMc11:=zM c11
        clear c11
        obtain ⟨y973,hy973⟩ : ∃ y_ : List Int,y_ = (y967 ++ y970):=⟨_,rfl⟩
        replace H : ((some (x7_1.drop (t957 : Int).toNat : List Int)).bind fun y976=>(if y973.length + y976.length < 17592186044416 then (spec_l1Cur_berths.l0 k1 a1 l2 (y973 ++ y976) (wrap64 (x8_1 - 1)) s0_0 t958 t959) else (none))) = some (r1,r2,r3):=by first|(rw [hy973];with_reducible exact H)|(have H2_:=(Option.bind_some _ _).symm.trans H;rw [hy973];with_reducible exact H2_)|(have H2_:=(Option.bind_some _ _).symm.trans H;with_reducible exact H2_)|with_reducible exact H|(rw [hy973];exact H)|exact H
        have Ny973:=zM hy973
        clear hy973
        have c12b0:=eq_true (of_decide_eq_true (by first|(with_reducible assumption)|assumption) : 0 ≤ t957)
        have c13b0:=eq_true (of_decide_eq_true (by first|(with_reducible assumption)|assumption) : t957 ≤ (x7_1.length : Int))
        obtain ⟨y976,hy976⟩ : ∃ y_ : List Int,y_ = (x7_1.drop (t957 : Int).toNat):=⟨_,rfl⟩
        replace H : (if y973.length + y976.length < 17592186044416 then (spec_l1Cur_berths.l0 k1 a1 l2 (y973 ++ y976) (wrap64 (x8_1 - 1)) s0_0 t958 t959) else (none)) = some (r1,r2,r3):=by first|(rw [hy976];with_reducible exact H)|(have H2_:=(Option.bind_some _ _).symm.trans H;rw [hy976];with_reducible exact H2_)|(have H2_:=(Option.bind_some _ _).symm.trans H;with_reducible exact H2_)|with_reducible exact H|(rw [hy976];exact H)|exact H
        have Ny976:=zM hy976
        clear hy976
        by_cases c14 : y973.length + y976.length < 17592186044416
        ·rw [if_pos c14] at H
         have LMc14:=zM c14
         clear c14
         obtain ⟨y980,hy980⟩ : ∃ y_ : List Int,y_ = (y973 ++ y976):=⟨_,rfl⟩
         replace H : (spec_l1Cur_berths.l0 k1 a1 l2 y980 (wrap64 (x8_1 - 1)) s0_0 t958 t959) = some (r1,r2,r3):=by first|(rw [hy980];with_reducible exact H)|(have H2_:=(Option.bind_some _ _).symm.trans H;rw [hy980];with_reducible exact H2_)|(have H2_:=(Option.bind_some _ _).symm.trans H;with_reducible exact H2_)|with_reducible exact H|(rw [hy980];exact H)|exact H
         have Ny980:=zM hy980
         clear hy980
         have H':=zM H
         clear H
         obtain ⟨Ao15,co15,eo15⟩:=Kd.R_slice HO_7.out
         subst eo15
         try go_wp2_with (first|((with_reducible refine gate_callee (f:=74) rfl ?_);refine goesL_ (some 25) rfl rfl Try.func74 (by kernel_rfl) rfl #[.pointer (some ⟨g,0,none⟩),.int .i64 (wrap64 ((x7_1.length : Int) + 1))] rfl (by (try simp only [List.map_toArray,List.map_cons,List.map_nil]);first|done|rfl|(simp only [List.length_drop,List.length_take];rfl)) ?_;(with_reducible refine (spec_l1Cur_pick.calls g s0_0 x1001_1 x1002_1 (wrap64 ((x7_1.length : Int) + 1)) t957 t958 t959 w0 _ ?side1 ?side2 A7.out).mono ?_);(case side1=>repeat (first|(with_reducible first|exact HI0.out|apply IsS90.alloc|apply IsS90.drewN|apply IsS90.drew|apply IsS90.set_1|apply IsS90.set_2)|exact HI0.out));(case side2=>repeat (first|(with_reducible first|exact HB.out|apply zD|apply zE|apply zF|refine below_set ?_ (IsS90.ge HI0.out))|exact HB.out));rintro e w16 ⟨rfl,hi,hb,hk⟩;refine ⟨_,rfl,?_⟩;have n0_:=zM (Kd.R_mono (Kd.R_keep (IsS90.apart (show IsS90 w0 _ g s0_0 x1001_1 x1002_1 from by repeat (first|(with_reducible first|exact HI0.out|apply IsS90.alloc|apply IsS90.drewN|apply IsS90.drew|apply IsS90.set_1|apply IsS90.set_2)|exact HI0.out)) (by (with_reducible repeat (first|apply zA|apply zB|apply zC));exact HO_7.out) (by decide)) hk (fun _ h=>h.2)) (fun _ h=>h.1));have n1_:=zM (KeepBut.trans (by repeat (first|(with_reducible first|exact HK.out|apply KeepBut.set_|apply keep_drewN|apply keep_drew|apply keep_alloc)|exact HK.out)) hk (.inl rfl));have n2_:=zM (hb);have n3_:=zM (hi);clear HO_7;clear HK;clear HB;clear HI0;have HO_7:=n0_;have HK:=n1_;have HB:=n2_;have HI0:=n3_;clear n0_ n1_ n2_ n3_;(try clear hb);(try clear hb2);(try clear hk);(try clear hi)))
         have n0_:=zM (zC HO_7.out)
         have n1_:=zM (IsS90.drew HI0.out)
         have n2_:=zM (keep_drew HK.out)
         have n3_:=zM (zF HB.out)
         clear HO_7
         clear HI0
         clear HK
         clear HB
         have HO_7:=n0_
         have HI0:=n1_
         have HK:=n2_
         have HB:=n3_
         clear n0_ n1_ n2_ n3_
         have q18 : (t957 : Int) ≤ ((x7_1.length : Int) : Int):=of_decide_eq_true (by first|(with_reducible assumption)|assumption)
         obtain ⟨i018,hi018,_,hsz18,_⟩:=info_parts info3
         have hroom18 : x7_1.length ≤ co15:=(zN HO_7.out).2.1
         have hC18 : Kd.C (Kd.int .i64) _ Ao15 x7_1.length x7_1:=(zN HO_7.out).2.2
         have hcut18:=cut_to (P:=Try.prog) 41 3 .i64 Try.underlying41 hi018 Ao15 x7_1.length co15 t957 (of_decide_eq_true (by first|(with_reducible assumption)|assumption)) q18 hroom18
         have hr18:=Kd.C_take (m:=(t957 : Int).toNat) hC18 (by omega)
         have hy18 : y963.length = (t957 : Int).toNat:=(by rw [Ny963.out,List.length_take];omega)
         rw [← Ny963.out] at hr18
         rw [← hy18] at hcut18
         have HR966:=zM hr18
         have HC966:=zM (show y963.length ≤ co15 from by omega)
         clear hr18 hC18 hroom18 hi018 hsz18
         have KY18:=zM hy18
         clear hy18
         have KL18:=zM (show (t957 : Int).toNat ≤ x7_1.length from by omega)
         replace q18:=eq_true q18
         have q19 : (t957 : Int) ≤ ((x7_1.length : Int) : Int):=of_decide_eq_true (by first|(with_reducible assumption)|assumption)
         obtain ⟨i019,hi019,_,hsz19,_⟩:=info_parts info3
         have hroom19 : x7_1.length ≤ co15:=(zN HO_7.out).2.1
         have hC19 : Kd.C (Kd.int .i64) _ Ao15 x7_1.length x7_1:=(zN HO_7.out).2.2
         have q019 : (0 : Int) ≤ (t957 : Int):=of_decide_eq_true (by first|(with_reducible assumption)|assumption)
         have hcut19:=cut_from (P:=Try.prog) 41 3 .i64 Try.underlying41 hi019 1 hsz19 Ao15 x7_1.length co15 t957 q019 q19
         have hr19:=Kd.C_drop (m:=(t957 : Int).toNat) (c:=co15) hC19 (by omega) hroom19
         obtain ⟨A19,hA19⟩ : ∃ A1,A1 = (if co15 = (t957 : Int).toNat then Ao15 else (Ao15 : Option Addr).map (·.add ((t957 : Int).toNat * 1))):=⟨_,rfl⟩
         obtain ⟨c19,hc19⟩ : ∃ c1,c1 = co15 - (t957 : Int).toNat:=⟨_,rfl⟩
         have hy19 : y976.length = x7_1.length - (t957 : Int).toNat:=(by rw [Ny976.out,List.length_drop] <;> omega)
         rw [show (x7_1).drop (t957 : Int).toNat = y976 from Ny976.out.symm] at hr19
         replace hr19 : Kd.C (Kd.int .i64) _ A19 y976.length y976:=(by rw [hA19];exact hr19)
         rw [← hy19,← hA19,← hc19] at hcut19
         have HR979:=zM hr19
         have HC979:=zM (show y976.length ≤ c19 from by rw [hy19,hc19];exact Nat.sub_le_sub_right hroom19 _)
         clear hr19 hC19 hroom19 hi019 hsz19 hc19
         have KY19:=zM hy19
         have KA19:=zM hA19
         clear hy19 hA19
         have KL19:=zM (show (t957 : Int).toNat ≤ x7_1.length from by omega)
         replace q19:=eq_true q19
         refine start_ (n:=13) (S:=fun w'=>True) (ds:=[]) #[false,false,false,false,false,false,false,false,false,false,false,false,false] (by kernel_rfl) rfl rfl trivial (fun hHeld=>?_);refine with_tabW spec_l1Cur_berths.tab6 spec_l1Cur_berths.bits6 (fun HT_ HW_=>?_)
         generalize w16.drew = w17 at HO_7 HI0 HK HB HR966 HR979 hHeld ⊢
         refine pure_ (i:=1) (N:=some 27) (v:=?_) (a':=?_) #[false,true,false,false,false,false,false,false,false,false,false,false,false] rfl rfl (any_of HT_.out (by kernel_rfl)) (fun _ _ _ h=>h) (Or.inl ⟨by rfl,?_⟩) ?_ ?_
         rotate_left
         ·intro w'
          go_simp
          with_reducible rfl
         rotate_left
         ·simp only [Act.put,List.setIfInBounds_toArray,List.set_cons_zero,List.set_cons_succ,i64_w,i32_w]
          rfl
         refine pure_ (i:=2) (N:=some 28) (v:=?_) (a':=?_) #[false,true,true,false,false,false,false,false,false,false,false,false,false] rfl rfl (any_of HT_.out (by kernel_rfl)) (fun _ _ _ h=>h) (Or.inl ⟨by rfl,?_⟩) ?_ ?_
         rotate_left
         ·intro w'
          go_simp
          with_reducible rfl
         rotate_left
         ·simp only [Act.put,List.setIfInBounds_toArray,List.set_cons_zero,List.set_cons_succ,i64_w,i32_w]
          rfl
         refine pure_ (i:=3) (N:=some 29) (v:=?_) (a':=?_) #[false,true,true,true,false,false,false,false,false,false,false,false,false] rfl rfl (any_of HT_.out (by kernel_rfl)) (fun _ _ _ h=>h) (Or.inl ⟨by rfl,?_⟩) ?_ ?_
         rotate_left
         ·intro w'
          go_simp
          with_reducible rfl
         rotate_left
         ·simp only [Act.put,List.setIfInBounds_toArray,List.set_cons_zero,List.set_cons_succ,i64_w,i32_w]
          rfl
         refine pure_ (i:=5) (N:=some 31) (v:=?_) (a':=?_) #[false,true,true,true,false,true,false,false,false,false,false,false,false] rfl rfl (any_of HT_.out (by kernel_rfl)) (fun _ _ _ h=>h) (Or.inl ⟨by rfl,?_⟩) ?_ ?_
         rotate_left
         ·intro w'
          go_simp
          with_reducible rfl
         rotate_left
         ·simp only [Act.put,List.setIfInBounds_toArray,List.set_cons_zero,List.set_cons_succ,i64_w,i32_w]
          rfl
         refine pure_ (i:=8) (N:=some 34) (v:=?_) (a':=?_) #[false,true,true,true,false,true,false,false,true,false,false,false,false] rfl rfl (any_of HT_.out (by kernel_rfl)) (fun _ _ _ h=>h) (Or.inl ⟨by rfl,?_⟩) ?_ ?_
         rotate_left
         ·intro w'
          go_simp
          with_reducible rfl
         rotate_left
         ·simp only [Act.put,List.setIfInBounds_toArray,List.set_cons_zero,List.set_cons_succ,i64_w,i32_w]
          rfl
         refine pure_ (i:=9) (N:=some 35) (v:=?_) (a':=?_) #[false,true,true,true,false,true,false,false,true,true,false,false,false] rfl rfl (any_of HT_.out (by kernel_rfl)) (fun _ _ _ h=>h) (Or.inl ⟨by rfl,?_⟩) ?_ ?_
         rotate_left
         ·intro w'
          go_simp
          with_reducible rfl
         rotate_left
         ·simp only [Act.put,List.setIfInBounds_toArray,List.set_cons_zero,List.set_cons_succ,i64_w,i32_w]
          rfl
         refine pure_ (i:=10) (N:=some 36) (v:=?_) (a':=?_) #[false,true,true,true,false,true,false,false,true,true,true,false,false] rfl rfl (any_of HT_.out (by kernel_rfl)) (fun _ _ _ h=>h) (Or.inl ⟨by rfl,?_⟩) ?_ ?_
         rotate_left
         ·intro w'
          go_simp
          with_reducible rfl
         rotate_left
         ·simp only [Act.put,List.setIfInBounds_toArray,List.set_cons_zero,List.set_cons_succ,i64_w,i32_w]
          rfl
         refine join_ (σ:=Value × Value × Value) 3 #[true,true,true,true,true,true,true,false,true,true,true,false,false] (fun s_=>[(26,s_.1),(30,s_.2.1),(32,s_.2.2)]) (fun s_ w'=>(Kd.R (Kd.int .i64) 3 w' w.heap.size (fun k_=>some k_ ≠ (s_.2.2 : Value).ownBlock ∧ some k_ ≠ (.slice Ao15 x7_1.length co15 : Value).ownBlock) s_.2.1 y967) ∧ (Kd.R (Kd.int .i64) 3 w' w.heap.size (fun k_=>some k_ ≠ (s_.2.1 : Value).ownBlock ∧ some k_ ≠ (.slice Ao15 x7_1.length co15 : Value).ownBlock) s_.2.2 y970) ∧ (Kd.R (Kd.int .i64) 3 w' w.heap.size (fun k_=>some k_ ≠ (s_.2.1 : Value).ownBlock ∧ some k_ ≠ (s_.2.2 : Value).ownBlock) (.slice Ao15 x7_1.length co15) x7_1) ∧ (IsS90 w0 w' g s0_0 t958 t959) ∧ (KeepBut w w' g none) ∧ (Below w0.heap.size w0 w')) ?_ ?_
         rotate_left
         ·intro hCont
          refine two_ (i:=0) (j:=6) (Ni:=some 26) (Nj:=some 32) #[true,true,true,true,false,true,false,false,true,true,true,false,false] #[false,true,true,true,false,true,true,false,true,true,true,false,false] rfl rfl rfl rfl (two_of HT_.out (by kernel_rfl)) (by decide) (by decide) (fun K hK=>?_) (fun K hK=>?_)
          ·skip
           refine Kd.R_lit_step (Kd.int .i64) _ 3 ?hg (N:=26) ?hd (xs:=([] : List Int)) (inner:=[]) (ok:=fun _=>True) (okp:=fun _=>True) ?hr ?hp (fun _ hk=>hk) trivial (Below.refl _ _) (Nat.le_refl _) (by simp) ?_;(case hd=>rfl);(case hg=>rfl);(case hr=>first|(go_simp;done)|(go_simp;rfl));(case hp=>exact (Reps.none _ _))
           intro v961 w20 ho21 hb hg_ hnew_
           clear hg_ hnew_
           (first|rw [← Ny960.out] at ho21|(simp only [Int.reduceToNat] at ho21;rw [← Ny960.out] at ho21))
           have n0_:=zM (Kd.R_elder' (by (with_reducible repeat (first|apply zA|apply zB|apply zC));exact HO_7.out) (Kd.R_base ho21) hb)
           have n1_:=zM (Kd.R_lower (Kd.R_new' ho21 (Kd.R_lt (by (with_reducible repeat (first|apply zA|apply zB|apply zC));exact HO_7.out))) (keep_size (w:=w) (g:=g) (row:=none) (by repeat (first|(with_reducible first|exact HK.out|apply KeepBut.set_|apply keep_drewN|apply keep_drew|apply keep_alloc)|exact HK.out))))
           have n2_:=zM (IsS90.below (by repeat (first|(with_reducible first|exact HI0.out|apply IsS90.alloc|apply IsS90.drewN|apply IsS90.drew|apply IsS90.set_1|apply IsS90.set_2)|exact HI0.out)) hb)
           have n3_:=zM (zO (by repeat (first|(with_reducible exact HR966.out)|(with_reducible refine zG ?_ _)|(with_reducible refine zH ?_ _)|(with_reducible refine zI ?_)|exact HR966.out)) hb)
           have n4_:=zM (zO (by repeat (first|(with_reducible exact HR979.out)|(with_reducible refine zG ?_ _)|(with_reducible refine zH ?_ _)|(with_reducible refine zI ?_)|exact HR979.out)) hb)
           have n5_:=zM (KeepBut.trans (by repeat (first|(with_reducible first|exact HK.out|apply KeepBut.set_|apply keep_drewN|apply keep_drew|apply keep_alloc)|exact HK.out)) (KeepBut.of_below hb g none) (.inl rfl))
           have n6_:=zM (zQ (by repeat (first|(with_reducible first|exact HB.out|apply zD|apply zE|apply zF|refine below_set ?_ (IsS90.ge HI0.out))|exact HB.out)) hb)
           clear HO_7
           clear HI0
           clear HR966
           clear HR979
           clear HK
           clear HB
           have HO_7:=n0_
           have HO962:=n1_
           have HI0:=n2_
           have HR966:=n3_
           have HR979:=n4_
           have HK:=n5_
           have HB:=n6_
           clear n0_ n1_ n2_ n3_ n4_ n5_ n6_
           clear hb ho21
           refine hK.out _ _ trivial (fun hHeld=>?_)
           clear hK K
           refine norm_ (a':=?_) ?_ ?_
           rotate_left
           ·show Act.put _ (some 26) _ = _
            simp only [Act.put,List.setIfInBounds_toArray,List.set_cons_zero,List.set_cons_succ,i64_w,i32_w]
            rfl
           refine two_ (i:=4) (j:=6) (Ni:=some 30) (Nj:=some 32) #[true,true,true,true,true,true,false,false,true,true,true,false,false] #[true,true,true,true,false,true,true,false,true,true,true,false,false] rfl rfl rfl rfl (two_of HT_.out (by kernel_rfl)) (by decide) (by decide) (fun K hK=>?_) (fun K hK=>?_)
           ·skip
            refine Kd.R_append_rows_step (Kd.int .i64) w.heap.size (by rfl) (.tmp 26) (.tmp 29) 41 3 (.int .i64 0) 8 rfl Try.underlying41 info3 rfl (by decide) (by omega) v961 y960 y963 _ _ _ (fun k_=>some k_ ≠ (.slice Ao15 x7_1.length co15 : Value).ownBlock) (fun _=>False) rfl rfl ?aO ?aR (fun _ _ h=>h) (fun _ h=>h.elim) ?aF (Below.refl _ _) ?aS ?aL ?_
            (case aR=>repeat (first|exact (by repeat (first|(with_reducible exact HR966.out)|(with_reducible refine zG ?_ _)|(with_reducible refine zH ?_ _)|(with_reducible refine zI ?_)|exact HR966.out))|(with_reducible refine zG ?_ _)|(with_reducible refine zH ?_ _)|(with_reducible refine zI ?_)))
            (case aF=>exact (fun k_ hk=>Kd.fresh' (Kd.R_lt (by (with_reducible repeat (first|apply zA|apply zB|apply zC));exact HO_7.out)) k_ hk))
            (case aO=>exact (by (with_reducible repeat (first|apply zA|apply zB|apply zC));exact Kd.R_mono HO962.out (fun _ hk=>hk.2)))
            (case aS=>exact (keep_size (w:=w) (g:=g) (row:=none) (by repeat (first|(with_reducible first|exact HK.out|apply KeepBut.set_|apply keep_drewN|apply keep_drew|apply keep_alloc)|exact HK.out))))
            (case aL=>have:=LMc10.out;omega)
            intro v968 w22 ho hb hg hat
            rw [← Ny967.out] at ho
            have n0_:=zM (Kd.R_after (ok:=(fun _=>True)) (by (with_reducible repeat (first|apply zA|apply zB|apply zC));exact HO_7.out) hg hat)
            have n1_:=zM (IsS90.grown (by repeat (first|(with_reducible first|exact HI0.out|apply IsS90.alloc|apply IsS90.drewN|apply IsS90.drew|apply IsS90.set_1|apply IsS90.set_2)|exact HI0.out)) hg (IsS90.own_ne HI0.out HO962.out (by decide)))
            have n2_:=zM (below_weaken (by repeat (first|(with_reducible first|exact HB.out|apply zD|apply zE|apply zF|refine below_set ?_ (IsS90.ge HI0.out))|exact HB.out)) HL.out hb)
            have n3_:=zM (KeepBut.trans (by repeat (first|(with_reducible first|exact HK.out|apply KeepBut.set_|apply keep_drewN|apply keep_drew|apply keep_alloc)|exact HK.out)) (KeepBut.of_grown hg g) (Kd.R_base2 HO962.out))
            have n4_:=zM ((show Kd.C (Kd.int .i64) w22 Ao15 y963.length y963 from by rw [Ny963.out];exact Kd.C_take (m:=(t957 : Int).toNat) ((zN (Kd.R_after (ok:=(fun _=>True)) (by (with_reducible repeat (first|apply zA|apply zB|apply zC));exact HO_7.out) hg hat)).2.2) KL18.out))
            have n5_:=zM ((show Kd.C (Kd.int .i64) w22 A19 y976.length y976 from by rw [Ny976.out,KA19.out];exact Kd.C_drop (m:=(t957 : Int).toNat) (c:=co15) ((zN (Kd.R_after (ok:=(fun _=>True)) (by (with_reducible repeat (first|apply zA|apply zB|apply zC));exact HO_7.out) hg hat)).2.2) KL19.out ((zN (Kd.R_after (ok:=(fun _=>True)) (by (with_reducible repeat (first|apply zA|apply zB|apply zC));exact HO_7.out) hg hat)).2.1)))
            have n6_:=zM (ho)
            clear HO_7
            clear HI0
            clear HB
            clear HK
            clear HR966
            clear HR979
            clear HO962
            have HO_7:=n0_
            have HI0:=n1_
            have HB:=n2_
            have HK:=n3_
            have HR966:=n4_
            have HR979:=n5_
            have HO969:=n6_
            clear n0_ n1_ n2_ n3_ n4_ n5_ n6_
            clear ho hb hg hat
            refine hK.out _ _ trivial (fun hHeld=>?_)
            clear hK K
            refine norm_ (a':=?_) ?_ ?_
            rotate_left
            ·show Act.put _ (some 30) _ = _
             simp only [Act.put,List.setIfInBounds_toArray,List.set_cons_zero,List.set_cons_succ,i64_w,i32_w]
             rfl
            refine one_ (i:=6) (N:=some 32) #[true,true,true,true,true,true,true,false,true,true,true,false,false] rfl rfl (one_of HT_.out (by kernel_rfl)) (by decide) (fun K hK=>?_)
            refine Kd.R_lit_step (Kd.int .i64) _ 3 ?hg (N:=32) ?hd (xs:=([x8_1] : List Int)) (inner:=[.int .i64 x8_1]) (ok:=fun _=>True) (okp:=fun _=>True) ?hr ?hp (fun _ hk=>hk) trivial (Below.refl _ _) (Nat.le_refl _) (by simp) ?_;(case hd=>rfl);(case hg=>rfl);(case hr=>first|(go_simp;done)|(go_simp;rfl));(case hp=>exact (Reps.one (show Kd.M (Kd.int .i64) _ _ _ x8_1 [.int .i64 x8_1] from rfl) (Reps.none _ _)))
            intro v971 w23 ho24 hb hg_ hnew_
            clear hg_ hnew_
            (first|rw [← Ny970.out] at ho24|(simp only [Int.reduceToNat] at ho24;rw [← Ny970.out] at ho24))
            have n0_:=zM (Kd.R_elder' (by (with_reducible repeat (first|apply zA|apply zB|apply zC));exact HO_7.out) (Kd.R_base ho24) hb)
            have n1_:=zM (Kd.R_elder' (by (with_reducible repeat (first|apply zA|apply zB|apply zC));exact HO969.out) (Kd.R_base ho24) hb)
            have n2_:=zM (Kd.R_lower (Kd.R_new' (Kd.R_new' ho24 (Kd.R_lt (by (with_reducible repeat (first|apply zA|apply zB|apply zC));exact HO_7.out))) (Kd.R_lt (by (with_reducible repeat (first|apply zA|apply zB|apply zC));exact HO969.out))) (keep_size (w:=w) (g:=g) (row:=none) (by repeat (first|(with_reducible first|exact HK.out|apply KeepBut.set_|apply keep_drewN|apply keep_drew|apply keep_alloc)|exact HK.out))))
            have n3_:=zM (IsS90.below (by repeat (first|(with_reducible first|exact HI0.out|apply IsS90.alloc|apply IsS90.drewN|apply IsS90.drew|apply IsS90.set_1|apply IsS90.set_2)|exact HI0.out)) hb)
            have n4_:=zM (zO (by repeat (first|(with_reducible exact HR966.out)|(with_reducible refine zG ?_ _)|(with_reducible refine zH ?_ _)|(with_reducible refine zI ?_)|exact HR966.out)) hb)
            have n5_:=zM (zO (by repeat (first|(with_reducible exact HR979.out)|(with_reducible refine zG ?_ _)|(with_reducible refine zH ?_ _)|(with_reducible refine zI ?_)|exact HR979.out)) hb)
            have n6_:=zM (KeepBut.trans (by repeat (first|(with_reducible first|exact HK.out|apply KeepBut.set_|apply keep_drewN|apply keep_drew|apply keep_alloc)|exact HK.out)) (KeepBut.of_below hb g none) (.inl rfl))
            have n7_:=zM (zQ (by repeat (first|(with_reducible first|exact HB.out|apply zD|apply zE|apply zF|refine below_set ?_ (IsS90.ge HI0.out))|exact HB.out)) hb)
            clear HO_7
            clear HO969
            clear HI0
            clear HR966
            clear HR979
            clear HK
            clear HB
            have HO_7:=n0_
            have HO969:=n1_
            have HO972:=n2_
            have HI0:=n3_
            have HR966:=n4_
            have HR979:=n5_
            have HK:=n6_
            have HB:=n7_
            clear n0_ n1_ n2_ n3_ n4_ n5_ n6_ n7_
            clear hb ho24
            refine hK.out _ _ trivial (fun hHeld=>?_)
            clear hK K
            refine norm_ (a':=?_) ?_ ?_
            rotate_left
            ·show Act.put _ (some 32) _ = _
             simp only [Act.put,List.setIfInBounds_toArray,List.set_cons_zero,List.set_cons_succ,i64_w,i32_w]
             rfl
            exact norm_ (by simp only [putAll,Act.put,List.setIfInBounds_toArray,List.set_cons_zero,List.set_cons_succ]) (hCont (v961,v968,v971) _ ⟨(by (with_reducible repeat (first|apply zA|apply zB|apply zC));exact Kd.R_mono HO969.out (fun _ hk=>⟨hk.2,hk.1⟩)),(by (with_reducible repeat (first|apply zA|apply zB|apply zC));exact Kd.R_mono HO972.out (fun _ hk=>⟨hk.2,hk.1.2⟩)),(by (with_reducible repeat (first|apply zA|apply zB|apply zC));exact Kd.R_mono HO_7.out (fun _ hk=>⟨hk.1.2,hk.2⟩)),(by repeat (first|(with_reducible first|exact HI0.out|apply IsS90.alloc|apply IsS90.drewN|apply IsS90.drew|apply IsS90.set_1|apply IsS90.set_2)|exact HI0.out)),(by repeat (first|(with_reducible first|exact HK.out|apply KeepBut.set_|apply keep_drewN|apply keep_drew|apply keep_alloc)|exact HK.out)),(by repeat (first|(with_reducible first|exact HB.out|apply zD|apply zE|apply zF|refine below_set ?_ (IsS90.ge HI0.out))|exact HB.out))⟩)
           ·skip
            refine Kd.R_lit_step (Kd.int .i64) _ 3 ?hg (N:=32) ?hd (xs:=([x8_1] : List Int)) (inner:=[.int .i64 x8_1]) (ok:=fun _=>True) (okp:=fun _=>True) ?hr ?hp (fun _ hk=>hk) trivial (Below.refl _ _) (Nat.le_refl _) (by simp) ?_;(case hd=>rfl);(case hg=>rfl);(case hr=>first|(go_simp;done)|(go_simp;rfl));(case hp=>exact (Reps.one (show Kd.M (Kd.int .i64) _ _ _ x8_1 [.int .i64 x8_1] from rfl) (Reps.none _ _)))
            intro v971 w22 ho23 hb hg_ hnew_
            clear hg_ hnew_
            (first|rw [← Ny970.out] at ho23|(simp only [Int.reduceToNat] at ho23;rw [← Ny970.out] at ho23))
            have n0_:=zM (Kd.R_elder' (by (with_reducible repeat (first|apply zA|apply zB|apply zC));exact HO_7.out) (Kd.R_base ho23) hb)
            have n1_:=zM (Kd.R_elder' (by (with_reducible repeat (first|apply zA|apply zB|apply zC));exact HO962.out) (Kd.R_base ho23) hb)
            have n2_:=zM (Kd.R_lower (Kd.R_new' (Kd.R_new' ho23 (Kd.R_lt (by (with_reducible repeat (first|apply zA|apply zB|apply zC));exact HO_7.out))) (Kd.R_lt (by (with_reducible repeat (first|apply zA|apply zB|apply zC));exact HO962.out))) (keep_size (w:=w) (g:=g) (row:=none) (by repeat (first|(with_reducible first|exact HK.out|apply KeepBut.set_|apply keep_drewN|apply keep_drew|apply keep_alloc)|exact HK.out))))
            have n3_:=zM (IsS90.below (by repeat (first|(with_reducible first|exact HI0.out|apply IsS90.alloc|apply IsS90.drewN|apply IsS90.drew|apply IsS90.set_1|apply IsS90.set_2)|exact HI0.out)) hb)
            have n4_:=zM (zO (by repeat (first|(with_reducible exact HR966.out)|(with_reducible refine zG ?_ _)|(with_reducible refine zH ?_ _)|(with_reducible refine zI ?_)|exact HR966.out)) hb)
            have n5_:=zM (zO (by repeat (first|(with_reducible exact HR979.out)|(with_reducible refine zG ?_ _)|(with_reducible refine zH ?_ _)|(with_reducible refine zI ?_)|exact HR979.out)) hb)
            have n6_:=zM (KeepBut.trans (by repeat (first|(with_reducible first|exact HK.out|apply KeepBut.set_|apply keep_drewN|apply keep_drew|apply keep_alloc)|exact HK.out)) (KeepBut.of_below hb g none) (.inl rfl))
            have n7_:=zM (zQ (by repeat (first|(with_reducible first|exact HB.out|apply zD|apply zE|apply zF|refine below_set ?_ (IsS90.ge HI0.out))|exact HB.out)) hb)
            clear HO_7
            clear HO962
            clear HI0
            clear HR966
            clear HR979
            clear HK
            clear HB
            have HO_7:=n0_
            have HO962:=n1_
            have HO972:=n2_
            have HI0:=n3_
            have HR966:=n4_
            have HR979:=n5_
            have HK:=n6_
            have HB:=n7_
            clear n0_ n1_ n2_ n3_ n4_ n5_ n6_ n7_
            clear hb ho23
            refine hK.out _ _ trivial (fun hHeld=>?_)
            clear hK K
            refine norm_ (a':=?_) ?_ ?_
            rotate_left
            ·show Act.put _ (some 32) _ = _
             simp only [Act.put,List.setIfInBounds_toArray,List.set_cons_zero,List.set_cons_succ,i64_w,i32_w]
             rfl
            refine one_ (i:=4) (N:=some 30) #[true,true,true,true,true,true,true,false,true,true,true,false,false] rfl rfl (one_of HT_.out (by kernel_rfl)) (by decide) (fun K hK=>?_)
            refine Kd.R_append_rows_step (Kd.int .i64) w.heap.size (by rfl) (.tmp 26) (.tmp 29) 41 3 (.int .i64 0) 8 rfl Try.underlying41 info3 rfl (by decide) (by omega) v961 y960 y963 _ _ _ (fun k_=>some k_ ≠ (.slice Ao15 x7_1.length co15 : Value).ownBlock ∧ some k_ ≠ (v971 : Value).ownBlock) (fun _=>False) rfl rfl ?aO ?aR (fun _ _ h=>h) (fun _ h=>h.elim) ?aF (Below.refl _ _) ?aS ?aL ?_
            (case aR=>repeat (first|exact (by repeat (first|(with_reducible exact HR966.out)|(with_reducible refine zG ?_ _)|(with_reducible refine zH ?_ _)|(with_reducible refine zI ?_)|exact HR966.out))|(with_reducible refine zG ?_ _)|(with_reducible refine zH ?_ _)|(with_reducible refine zI ?_)))
            (case aF=>exact (fun k_ hk=>⟨Kd.fresh' (Kd.R_lt (by (with_reducible repeat (first|apply zA|apply zB|apply zC));exact HO_7.out)) k_ hk,Kd.fresh' (Kd.R_lt (by (with_reducible repeat (first|apply zA|apply zB|apply zC));exact HO972.out)) k_ hk⟩))
            (case aO=>exact (by (with_reducible repeat (first|apply zA|apply zB|apply zC));exact Kd.R_mono HO962.out (fun _ hk=>⟨hk.1.2,hk.2⟩)))
            (case aS=>exact (keep_size (w:=w) (g:=g) (row:=none) (by repeat (first|(with_reducible first|exact HK.out|apply KeepBut.set_|apply keep_drewN|apply keep_drew|apply keep_alloc)|exact HK.out))))
            (case aL=>have:=LMc10.out;omega)
            intro v968 w24 ho hb hg hat
            rw [← Ny967.out] at ho
            have n0_:=zM (Kd.R_after (ok:=(fun k_=>some k_ ≠ (v971 : Value).ownBlock)) (by (with_reducible repeat (first|apply zA|apply zB|apply zC));exact Kd.R_mono HO_7.out (fun _ hk=>⟨hk.2,hk.1.2⟩)) hg hat)
            have n1_:=zM (IsS90.grown (by repeat (first|(with_reducible first|exact HI0.out|apply IsS90.alloc|apply IsS90.drewN|apply IsS90.drew|apply IsS90.set_1|apply IsS90.set_2)|exact HI0.out)) hg (IsS90.own_ne HI0.out HO962.out (by decide)))
            have n2_:=zM (Kd.R_after (ok:=(fun k_=>some k_ ≠ (.slice Ao15 x7_1.length co15 : Value).ownBlock)) (by (with_reducible repeat (first|apply zA|apply zB|apply zC));exact Kd.R_mono HO972.out (fun _ hk=>⟨hk.1.2,hk.2⟩)) hg hat)
            have n3_:=zM (below_weaken (by repeat (first|(with_reducible first|exact HB.out|apply zD|apply zE|apply zF|refine below_set ?_ (IsS90.ge HI0.out))|exact HB.out)) HL.out hb)
            have n4_:=zM (KeepBut.trans (by repeat (first|(with_reducible first|exact HK.out|apply KeepBut.set_|apply keep_drewN|apply keep_drew|apply keep_alloc)|exact HK.out)) (KeepBut.of_grown hg g) (Kd.R_base2 HO962.out))
            have n5_:=zM ((show Kd.C (Kd.int .i64) w24 Ao15 y963.length y963 from by rw [Ny963.out];exact Kd.C_take (m:=(t957 : Int).toNat) ((zN (Kd.R_after (ok:=(fun k_=>some k_ ≠ (v971 : Value).ownBlock)) (by (with_reducible repeat (first|apply zA|apply zB|apply zC));exact Kd.R_mono HO_7.out (fun _ hk=>⟨hk.2,hk.1.2⟩)) hg hat)).2.2) KL18.out))
            have n6_:=zM ((show Kd.C (Kd.int .i64) w24 A19 y976.length y976 from by rw [Ny976.out,KA19.out];exact Kd.C_drop (m:=(t957 : Int).toNat) (c:=co15) ((zN (Kd.R_after (ok:=(fun k_=>some k_ ≠ (v971 : Value).ownBlock)) (by (with_reducible repeat (first|apply zA|apply zB|apply zC));exact Kd.R_mono HO_7.out (fun _ hk=>⟨hk.2,hk.1.2⟩)) hg hat)).2.2) KL19.out ((zN (Kd.R_after (ok:=(fun k_=>some k_ ≠ (v971 : Value).ownBlock)) (by (with_reducible repeat (first|apply zA|apply zB|apply zC));exact Kd.R_mono HO_7.out (fun _ hk=>⟨hk.2,hk.1.2⟩)) hg hat)).2.1)))
            have n7_:=zM (ho)
            clear HO_7
            clear HI0
            clear HO972
            clear HB
            clear HK
            clear HR966
            clear HR979
            clear HO962
            have HO_7:=n0_
            have HI0:=n1_
            have HO972:=n2_
            have HB:=n3_
            have HK:=n4_
            have HR966:=n5_
            have HR979:=n6_
            have HO969:=n7_
            clear n0_ n1_ n2_ n3_ n4_ n5_ n6_ n7_
            clear ho hb hg hat
            refine hK.out _ _ trivial (fun hHeld=>?_)
            clear hK K
            refine norm_ (a':=?_) ?_ ?_
            rotate_left
            ·show Act.put _ (some 30) _ = _
             simp only [Act.put,List.setIfInBounds_toArray,List.set_cons_zero,List.set_cons_succ,i64_w,i32_w]
             rfl
            exact norm_ (by simp only [putAll,Act.put,List.setIfInBounds_toArray,List.set_cons_zero,List.set_cons_succ]) (hCont (v961,v968,v971) _ ⟨(by (with_reducible repeat (first|apply zA|apply zB|apply zC));exact Kd.R_mono HO969.out (fun _ hk=>⟨hk.2,hk.1⟩)),(by (with_reducible repeat (first|apply zA|apply zB|apply zC));exact Kd.R_mono HO972.out (fun _ hk=>⟨hk.2,hk.1⟩)),(by (with_reducible repeat (first|apply zA|apply zB|apply zC));exact Kd.R_mono HO_7.out (fun _ hk=>⟨hk.2,hk.1⟩)),(by repeat (first|(with_reducible first|exact HI0.out|apply IsS90.alloc|apply IsS90.drewN|apply IsS90.drew|apply IsS90.set_1|apply IsS90.set_2)|exact HI0.out)),(by repeat (first|(with_reducible first|exact HK.out|apply KeepBut.set_|apply keep_drewN|apply keep_drew|apply keep_alloc)|exact HK.out)),(by repeat (first|(with_reducible first|exact HB.out|apply zD|apply zE|apply zF|refine below_set ?_ (IsS90.ge HI0.out))|exact HB.out))⟩)
          ·skip
           refine Kd.R_lit_step (Kd.int .i64) _ 3 ?hg (N:=32) ?hd (xs:=([x8_1] : List Int)) (inner:=[.int .i64 x8_1]) (ok:=fun _=>True) (okp:=fun _=>True) ?hr ?hp (fun _ hk=>hk) trivial (Below.refl _ _) (Nat.le_refl _) (by simp) ?_;(case hd=>rfl);(case hg=>rfl);(case hr=>first|(go_simp;done)|(go_simp;rfl));(case hp=>exact (Reps.one (show Kd.M (Kd.int .i64) _ _ _ x8_1 [.int .i64 x8_1] from rfl) (Reps.none _ _)))
           intro v971 w20 ho21 hb hg_ hnew_
           clear hg_ hnew_
           (first|rw [← Ny970.out] at ho21|(simp only [Int.reduceToNat] at ho21;rw [← Ny970.out] at ho21))
           have n0_:=zM (Kd.R_elder' (by (with_reducible repeat (first|apply zA|apply zB|apply zC));exact HO_7.out) (Kd.R_base ho21) hb)
           have n1_:=zM (Kd.R_lower (Kd.R_new' ho21 (Kd.R_lt (by (with_reducible repeat (first|apply zA|apply zB|apply zC));exact HO_7.out))) (keep_size (w:=w) (g:=g) (row:=none) (by repeat (first|(with_reducible first|exact HK.out|apply KeepBut.set_|apply keep_drewN|apply keep_drew|apply keep_alloc)|exact HK.out))))
           have n2_:=zM (IsS90.below (by repeat (first|(with_reducible first|exact HI0.out|apply IsS90.alloc|apply IsS90.drewN|apply IsS90.drew|apply IsS90.set_1|apply IsS90.set_2)|exact HI0.out)) hb)
           have n3_:=zM (zO (by repeat (first|(with_reducible exact HR966.out)|(with_reducible refine zG ?_ _)|(with_reducible refine zH ?_ _)|(with_reducible refine zI ?_)|exact HR966.out)) hb)
           have n4_:=zM (zO (by repeat (first|(with_reducible exact HR979.out)|(with_reducible refine zG ?_ _)|(with_reducible refine zH ?_ _)|(with_reducible refine zI ?_)|exact HR979.out)) hb)
           have n5_:=zM (KeepBut.trans (by repeat (first|(with_reducible first|exact HK.out|apply KeepBut.set_|apply keep_drewN|apply keep_drew|apply keep_alloc)|exact HK.out)) (KeepBut.of_below hb g none) (.inl rfl))
           have n6_:=zM (zQ (by repeat (first|(with_reducible first|exact HB.out|apply zD|apply zE|apply zF|refine below_set ?_ (IsS90.ge HI0.out))|exact HB.out)) hb)
           clear HO_7
           clear HI0
           clear HR966
           clear HR979
           clear HK
           clear HB
           have HO_7:=n0_
           have HO972:=n1_
           have HI0:=n2_
           have HR966:=n3_
           have HR979:=n4_
           have HK:=n5_
           have HB:=n6_
           clear n0_ n1_ n2_ n3_ n4_ n5_ n6_
           clear hb ho21
           refine hK.out _ _ trivial (fun hHeld=>?_)
           clear hK K
           refine norm_ (a':=?_) ?_ ?_
           rotate_left
           ·show Act.put _ (some 32) _ = _
            simp only [Act.put,List.setIfInBounds_toArray,List.set_cons_zero,List.set_cons_succ,i64_w,i32_w]
            rfl
           refine one_ (i:=0) (N:=some 26) #[true,true,true,true,false,true,true,false,true,true,true,false,false] rfl rfl (one_of HT_.out (by kernel_rfl)) (by decide) (fun K hK=>?_)
           refine Kd.R_lit_step (Kd.int .i64) _ 3 ?hg (N:=26) ?hd (xs:=([] : List Int)) (inner:=[]) (ok:=fun _=>True) (okp:=fun _=>True) ?hr ?hp (fun _ hk=>hk) trivial (Below.refl _ _) (Nat.le_refl _) (by simp) ?_;(case hd=>rfl);(case hg=>rfl);(case hr=>first|(go_simp;done)|(go_simp;rfl));(case hp=>exact (Reps.none _ _))
           intro v961 w22 ho23 hb hg_ hnew_
           clear hg_ hnew_
           (first|rw [← Ny960.out] at ho23|(simp only [Int.reduceToNat] at ho23;rw [← Ny960.out] at ho23))
           have n0_:=zM (Kd.R_elder' (by (with_reducible repeat (first|apply zA|apply zB|apply zC));exact HO_7.out) (Kd.R_base ho23) hb)
           have n1_:=zM (Kd.R_elder' (by (with_reducible repeat (first|apply zA|apply zB|apply zC));exact HO972.out) (Kd.R_base ho23) hb)
           have n2_:=zM (Kd.R_lower (Kd.R_new' (Kd.R_new' ho23 (Kd.R_lt (by (with_reducible repeat (first|apply zA|apply zB|apply zC));exact HO_7.out))) (Kd.R_lt (by (with_reducible repeat (first|apply zA|apply zB|apply zC));exact HO972.out))) (keep_size (w:=w) (g:=g) (row:=none) (by repeat (first|(with_reducible first|exact HK.out|apply KeepBut.set_|apply keep_drewN|apply keep_drew|apply keep_alloc)|exact HK.out))))
           have n3_:=zM (IsS90.below (by repeat (first|(with_reducible first|exact HI0.out|apply IsS90.alloc|apply IsS90.drewN|apply IsS90.drew|apply IsS90.set_1|apply IsS90.set_2)|exact HI0.out)) hb)
           have n4_:=zM (zO (by repeat (first|(with_reducible exact HR966.out)|(with_reducible refine zG ?_ _)|(with_reducible refine zH ?_ _)|(with_reducible refine zI ?_)|exact HR966.out)) hb)
           have n5_:=zM (zO (by repeat (first|(with_reducible exact HR979.out)|(with_reducible refine zG ?_ _)|(with_reducible refine zH ?_ _)|(with_reducible refine zI ?_)|exact HR979.out)) hb)
           have n6_:=zM (KeepBut.trans (by repeat (first|(with_reducible first|exact HK.out|apply KeepBut.set_|apply keep_drewN|apply keep_drew|apply keep_alloc)|exact HK.out)) (KeepBut.of_below hb g none) (.inl rfl))
           have n7_:=zM (zQ (by repeat (first|(with_reducible first|exact HB.out|apply zD|apply zE|apply zF|refine below_set ?_ (IsS90.ge HI0.out))|exact HB.out)) hb)
           clear HO_7
           clear HO972
           clear HI0
           clear HR966
           clear HR979
           clear HK
           clear HB
           have HO_7:=n0_
           have HO972:=n1_
           have HO962:=n2_
           have HI0:=n3_
           have HR966:=n4_
           have HR979:=n5_
           have HK:=n6_
           have HB:=n7_
           clear n0_ n1_ n2_ n3_ n4_ n5_ n6_ n7_
           clear hb ho23
           refine hK.out _ _ trivial (fun hHeld=>?_)
           clear hK K
           refine norm_ (a':=?_) ?_ ?_
           rotate_left
           ·show Act.put _ (some 26) _ = _
            simp only [Act.put,List.setIfInBounds_toArray,List.set_cons_zero,List.set_cons_succ,i64_w,i32_w]
            rfl
           refine one_ (i:=4) (N:=some 30) #[true,true,true,true,true,true,true,false,true,true,true,false,false] rfl rfl (one_of HT_.out (by kernel_rfl)) (by decide) (fun K hK=>?_)
           refine Kd.R_append_rows_step (Kd.int .i64) w.heap.size (by rfl) (.tmp 26) (.tmp 29) 41 3 (.int .i64 0) 8 rfl Try.underlying41 info3 rfl (by decide) (by omega) v961 y960 y963 _ _ _ (fun k_=>some k_ ≠ (.slice Ao15 x7_1.length co15 : Value).ownBlock ∧ some k_ ≠ (v971 : Value).ownBlock) (fun _=>False) rfl rfl ?aO ?aR (fun _ _ h=>h) (fun _ h=>h.elim) ?aF (Below.refl _ _) ?aS ?aL ?_
           (case aR=>repeat (first|exact (by repeat (first|(with_reducible exact HR966.out)|(with_reducible refine zG ?_ _)|(with_reducible refine zH ?_ _)|(with_reducible refine zI ?_)|exact HR966.out))|(with_reducible refine zG ?_ _)|(with_reducible refine zH ?_ _)|(with_reducible refine zI ?_)))
           (case aF=>exact (fun k_ hk=>⟨Kd.fresh' (Kd.R_lt (by (with_reducible repeat (first|apply zA|apply zB|apply zC));exact HO_7.out)) k_ hk,Kd.fresh' (Kd.R_lt (by (with_reducible repeat (first|apply zA|apply zB|apply zC));exact HO972.out)) k_ hk⟩))
           (case aO=>exact (by (with_reducible repeat (first|apply zA|apply zB|apply zC));exact Kd.R_mono HO962.out (fun _ hk=>⟨hk.1.2,hk.2⟩)))
           (case aS=>exact (keep_size (w:=w) (g:=g) (row:=none) (by repeat (first|(with_reducible first|exact HK.out|apply KeepBut.set_|apply keep_drewN|apply keep_drew|apply keep_alloc)|exact HK.out))))
           (case aL=>have:=LMc10.out;omega)
           intro v968 w24 ho hb hg hat
           rw [← Ny967.out] at ho
           have n0_:=zM (Kd.R_after (ok:=(fun k_=>some k_ ≠ (v971 : Value).ownBlock)) (by (with_reducible repeat (first|apply zA|apply zB|apply zC));exact Kd.R_mono HO_7.out (fun _ hk=>⟨hk.1.2,hk.2⟩)) hg hat)
           have n1_:=zM (IsS90.grown (by repeat (first|(with_reducible first|exact HI0.out|apply IsS90.alloc|apply IsS90.drewN|apply IsS90.drew|apply IsS90.set_1|apply IsS90.set_2)|exact HI0.out)) hg (IsS90.own_ne HI0.out HO962.out (by decide)))
           have n2_:=zM (Kd.R_after (ok:=(fun k_=>some k_ ≠ (.slice Ao15 x7_1.length co15 : Value).ownBlock)) (by (with_reducible repeat (first|apply zA|apply zB|apply zC));exact Kd.R_mono HO972.out (fun _ hk=>⟨hk.1.2,hk.2⟩)) hg hat)
           have n3_:=zM (below_weaken (by repeat (first|(with_reducible first|exact HB.out|apply zD|apply zE|apply zF|refine below_set ?_ (IsS90.ge HI0.out))|exact HB.out)) HL.out hb)
           have n4_:=zM (KeepBut.trans (by repeat (first|(with_reducible first|exact HK.out|apply KeepBut.set_|apply keep_drewN|apply keep_drew|apply keep_alloc)|exact HK.out)) (KeepBut.of_grown hg g) (Kd.R_base2 HO962.out))
           have n5_:=zM ((show Kd.C (Kd.int .i64) w24 Ao15 y963.length y963 from by rw [Ny963.out];exact Kd.C_take (m:=(t957 : Int).toNat) ((zN (Kd.R_after (ok:=(fun k_=>some k_ ≠ (v971 : Value).ownBlock)) (by (with_reducible repeat (first|apply zA|apply zB|apply zC));exact Kd.R_mono HO_7.out (fun _ hk=>⟨hk.1.2,hk.2⟩)) hg hat)).2.2) KL18.out))
           have n6_:=zM ((show Kd.C (Kd.int .i64) w24 A19 y976.length y976 from by rw [Ny976.out,KA19.out];exact Kd.C_drop (m:=(t957 : Int).toNat) (c:=co15) ((zN (Kd.R_after (ok:=(fun k_=>some k_ ≠ (v971 : Value).ownBlock)) (by (with_reducible repeat (first|apply zA|apply zB|apply zC));exact Kd.R_mono HO_7.out (fun _ hk=>⟨hk.1.2,hk.2⟩)) hg hat)).2.2) KL19.out ((zN (Kd.R_after (ok:=(fun k_=>some k_ ≠ (v971 : Value).ownBlock)) (by (with_reducible repeat (first|apply zA|apply zB|apply zC));exact Kd.R_mono HO_7.out (fun _ hk=>⟨hk.1.2,hk.2⟩)) hg hat)).2.1)))
           have n7_:=zM (ho)
           clear HO_7
           clear HI0
           clear HO972
           clear HB
           clear HK
           clear HR966
           clear HR979
           clear HO962
           have HO_7:=n0_
           have HI0:=n1_
           have HO972:=n2_
           have HB:=n3_
           have HK:=n4_
           have HR966:=n5_
           have HR979:=n6_
           have HO969:=n7_
           clear n0_ n1_ n2_ n3_ n4_ n5_ n6_ n7_
           clear ho hb hg hat
           refine hK.out _ _ trivial (fun hHeld=>?_)
           clear hK K
           refine norm_ (a':=?_) ?_ ?_
           rotate_left
           ·show Act.put _ (some 30) _ = _
            simp only [Act.put,List.setIfInBounds_toArray,List.set_cons_zero,List.set_cons_succ,i64_w,i32_w]
            rfl
           exact norm_ (by simp only [putAll,Act.put,List.setIfInBounds_toArray,List.set_cons_zero,List.set_cons_succ]) (hCont (v961,v968,v971) _ ⟨(by (with_reducible repeat (first|apply zA|apply zB|apply zC));exact Kd.R_mono HO969.out (fun _ hk=>⟨hk.2,hk.1⟩)),(by (with_reducible repeat (first|apply zA|apply zB|apply zC));exact Kd.R_mono HO972.out (fun _ hk=>⟨hk.2,hk.1⟩)),(by (with_reducible repeat (first|apply zA|apply zB|apply zC));exact Kd.R_mono HO_7.out (fun _ hk=>⟨hk.2,hk.1⟩)),(by repeat (first|(with_reducible first|exact HI0.out|apply IsS90.alloc|apply IsS90.drewN|apply IsS90.drew|apply IsS90.set_1|apply IsS90.set_2)|exact HI0.out)),(by repeat (first|(with_reducible first|exact HK.out|apply KeepBut.set_|apply keep_drewN|apply keep_drew|apply keep_alloc)|exact HK.out)),(by repeat (first|(with_reducible first|exact HB.out|apply zD|apply zE|apply zF|refine below_set ?_ (IsS90.ge HI0.out))|exact HB.out))⟩)
         rintro ⟨v961,v968,v971⟩ w25 ⟨h0_,h1_,h2_,h3_,h4_,h5_⟩
         have n0_ : Aside0 (Kd.R (Kd.int .i64) 3 w25 w.heap.size (fun k_=>some k_ ≠ (v971 : Value).ownBlock ∧ some k_ ≠ (.slice Ao15 x7_1.length co15 : Value).ownBlock) v968 y967):=⟨h0_⟩
         have n1_ : Aside0 (Kd.R (Kd.int .i64) 3 w25 w.heap.size (fun k_=>some k_ ≠ (v968 : Value).ownBlock ∧ some k_ ≠ (.slice Ao15 x7_1.length co15 : Value).ownBlock) v971 y970):=⟨h1_⟩
         have n2_ : Aside0 (Kd.R (Kd.int .i64) 3 w25 w.heap.size (fun k_=>some k_ ≠ (v968 : Value).ownBlock ∧ some k_ ≠ (v971 : Value).ownBlock) (.slice Ao15 x7_1.length co15) x7_1):=⟨h2_⟩
         have n3_ : Aside0 (IsS90 w0 w25 g s0_0 t958 t959):=⟨h3_⟩
         have n4_ : Aside0 (KeepBut w w25 g none):=⟨h4_⟩
         have n5_ : Aside0 (Below w0.heap.size w0 w25):=⟨h5_⟩
         clear HO_7
         clear HI0
         clear HK
         clear HB
         clear h0_ h1_ h2_ h3_ h4_ h5_
         have HO969:=n0_
         have HO972:=n1_
         have HO_7:=n2_
         have HI0:=n3_
         have HK:=n4_
         have HB:=n5_
         clear n0_ n1_ n2_ n3_ n4_ n5_
         have hHeld:=trivial
         have HR966:=zM (show Kd.C (Kd.int .i64) w25 Ao15 y963.length y963 from by rw [Ny963.out];exact Kd.C_take (m:=(t957 : Int).toNat) ((zN (HO_7.out)).2.2) KL18.out)
         have HR979:=zM (show Kd.C (Kd.int .i64) w25 A19 y976.length y976 from by rw [Ny976.out,KA19.out];exact Kd.C_drop (m:=(t957 : Int).toNat) (c:=co15) ((zN (HO_7.out)).2.2) KL19.out ((zN (HO_7.out)).2.1))
         obtain ⟨Ao27,co27,eo27⟩:=Kd.R_slice HO972.out
         (first|subst eo27|(injection eo27 with f1_ f2_ f3_;have f4_:=f1_.symm;have f5_:=f3_.symm;clear f1_ f2_ f3_;subst f4_;subst f5_))
         refine norm_ (a':=?_) ?_ ?_
         rotate_left
         ·simp only [putAll,Act.put,List.setIfInBounds_toArray,List.set_cons_zero,List.set_cons_succ]
          rfl
         refine one_ (i:=7) (N:=some 33) #[true,true,true,true,true,true,true,true,true,true,true,false,false] rfl rfl (one_of HT_.out (by kernel_rfl)) (by decide) (fun K hK=>?_)
         refine Kd.R_append_rows_step (Kd.int .i64) w.heap.size (by rfl) (.tmp 30) (.tmp 32) 41 3 (.int .i64 0) 8 rfl Try.underlying41 info3 rfl (by decide) (by omega) v968 y967 y970 _ _ _ (fun k_=>some k_ ≠ (.slice Ao15 x7_1.length co15 : Value).ownBlock ∧ some k_ ≠ (.slice Ao27 y970.length co27 : Value).ownBlock) (fun _=>False) rfl rfl ?aO ?aR (fun _ _ h=>h) (fun _ h=>h.elim) ?aF (Below.refl _ _) ?aS ?aL ?_
         (case aR=>repeat (first|exact (zN HO972.out).2.2|(with_reducible refine zG ?_ _)|(with_reducible refine zH ?_ _)|(with_reducible refine zI ?_)))
         (case aF=>exact (fun k_ hk=>⟨Kd.fresh' (Kd.R_lt (by (with_reducible repeat (first|apply zA|apply zB|apply zC));exact HO_7.out)) k_ hk,Kd.fresh' (Kd.R_lt (by (with_reducible repeat (first|apply zA|apply zB|apply zC));exact HO972.out)) k_ hk⟩))
         (case aO=>exact (by (with_reducible repeat (first|apply zA|apply zB|apply zC));exact Kd.R_mono HO969.out (fun _ hk=>⟨hk.2,hk.1⟩)))
         (case aS=>exact (keep_size (w:=w) (g:=g) (row:=none) (by repeat (first|(with_reducible first|exact HK.out|apply KeepBut.set_|apply keep_drewN|apply keep_drew|apply keep_alloc)|exact HK.out))))
         (case aL=>have:=LMc11.out;omega)
         intro v974 w26 ho hb hg hat
         rw [← Ny973.out] at ho
         have n0_:=zM (Kd.R_after (ok:=(fun k_=>some k_ ≠ (.slice Ao27 y970.length co27 : Value).ownBlock)) (by (with_reducible repeat (first|apply zA|apply zB|apply zC));exact Kd.R_mono HO_7.out (fun _ hk=>⟨hk.2,hk.1⟩)) hg hat)
         have n1_:=zM (IsS90.grown (by repeat (first|(with_reducible first|exact HI0.out|apply IsS90.alloc|apply IsS90.drewN|apply IsS90.drew|apply IsS90.set_1|apply IsS90.set_2)|exact HI0.out)) hg (IsS90.own_ne HI0.out HO969.out (by decide)))
         have n2_:=zM (Kd.R_after (ok:=(fun k_=>some k_ ≠ (.slice Ao15 x7_1.length co15 : Value).ownBlock)) (by (with_reducible repeat (first|apply zA|apply zB|apply zC));exact Kd.R_mono HO972.out (fun _ hk=>⟨hk.2,hk.1⟩)) hg hat)
         have n3_:=zM (below_weaken (by repeat (first|(with_reducible first|exact HB.out|apply zD|apply zE|apply zF|refine below_set ?_ (IsS90.ge HI0.out))|exact HB.out)) HL.out hb)
         have n4_:=zM (KeepBut.trans (by repeat (first|(with_reducible first|exact HK.out|apply KeepBut.set_|apply keep_drewN|apply keep_drew|apply keep_alloc)|exact HK.out)) (KeepBut.of_grown hg g) (Kd.R_base2 HO969.out))
         have n5_:=zM ((show Kd.C (Kd.int .i64) w26 Ao15 y963.length y963 from by rw [Ny963.out];exact Kd.C_take (m:=(t957 : Int).toNat) ((zN (Kd.R_after (ok:=(fun k_=>some k_ ≠ (.slice Ao27 y970.length co27 : Value).ownBlock)) (by (with_reducible repeat (first|apply zA|apply zB|apply zC));exact Kd.R_mono HO_7.out (fun _ hk=>⟨hk.2,hk.1⟩)) hg hat)).2.2) KL18.out))
         have n6_:=zM ((show Kd.C (Kd.int .i64) w26 A19 y976.length y976 from by rw [Ny976.out,KA19.out];exact Kd.C_drop (m:=(t957 : Int).toNat) (c:=co15) ((zN (Kd.R_after (ok:=(fun k_=>some k_ ≠ (.slice Ao27 y970.length co27 : Value).ownBlock)) (by (with_reducible repeat (first|apply zA|apply zB|apply zC));exact Kd.R_mono HO_7.out (fun _ hk=>⟨hk.2,hk.1⟩)) hg hat)).2.2) KL19.out ((zN (Kd.R_after (ok:=(fun k_=>some k_ ≠ (.slice Ao27 y970.length co27 : Value).ownBlock)) (by (with_reducible repeat (first|apply zA|apply zB|apply zC));exact Kd.R_mono HO_7.out (fun _ hk=>⟨hk.2,hk.1⟩)) hg hat)).2.1)))
         have n7_:=zM (ho)
         clear HO_7
         clear HI0
         clear HO972
         clear HB
         clear HK
         clear HR966
         clear HR979
         clear HO969
         have HO_7:=n0_
         have HI0:=n1_
         have HO972:=n2_
         have HB:=n3_
         have HK:=n4_
         have HR966:=n5_
         have HR979:=n6_
         have HO975:=n7_
         clear n0_ n1_ n2_ n3_ n4_ n5_ n6_ n7_
         clear ho hb hg hat
         refine hK.out _ _ trivial (fun hHeld=>?_)
         clear hK K
         refine norm_ (a':=?_) ?_ ?_
         rotate_left
         ·show Act.put _ (some 33) _ = _
          simp only [Act.put,List.setIfInBounds_toArray,List.set_cons_zero,List.set_cons_succ,i64_w,i32_w]
          rfl
         refine one_ (i:=11) (N:=some 37) #[true,true,true,true,true,true,true,true,true,true,true,true,false] rfl rfl (one_of HT_.out (by kernel_rfl)) (by decide) (fun K hK=>?_)
         refine Kd.R_append_rows_step (Kd.int .i64) w.heap.size (by rfl) (.tmp 33) (.tmp 36) 41 3 (.int .i64 0) 8 rfl Try.underlying41 info3 rfl (by decide) (by omega) v974 y973 y976 _ _ _ (fun k_=>some k_ ≠ (.slice Ao15 x7_1.length co15 : Value).ownBlock ∧ some k_ ≠ (.slice Ao27 y970.length co27 : Value).ownBlock) (fun _=>False) rfl rfl ?aO ?aR (fun _ _ h=>h) (fun _ h=>h.elim) ?aF (Below.refl _ _) ?aS ?aL ?_
         (case aR=>repeat (first|exact (by repeat (first|(with_reducible exact HR979.out)|(with_reducible refine zG ?_ _)|(with_reducible refine zH ?_ _)|(with_reducible refine zI ?_)|exact HR979.out))|(with_reducible refine zG ?_ _)|(with_reducible refine zH ?_ _)|(with_reducible refine zI ?_)))
         (case aF=>exact (fun k_ hk=>⟨Kd.fresh' (Kd.R_lt (by (with_reducible repeat (first|apply zA|apply zB|apply zC));exact HO_7.out)) k_ hk,Kd.fresh' (Kd.R_lt (by (with_reducible repeat (first|apply zA|apply zB|apply zC));exact HO972.out)) k_ hk⟩))
         (case aO=>exact (by (with_reducible repeat (first|apply zA|apply zB|apply zC));exact HO975.out))
         (case aS=>exact (keep_size (w:=w) (g:=g) (row:=none) (by repeat (first|(with_reducible first|exact HK.out|apply KeepBut.set_|apply keep_drewN|apply keep_drew|apply keep_alloc)|exact HK.out))))
         (case aL=>have:=LMc14.out;omega)
         intro v981 w28 ho hb hg hat
         rw [← Ny980.out] at ho
         have n0_:=zM (Kd.R_after (ok:=(fun k_=>some k_ ≠ (.slice Ao27 y970.length co27 : Value).ownBlock)) (by (with_reducible repeat (first|apply zA|apply zB|apply zC));exact HO_7.out) hg hat)
         have n1_:=zM (IsS90.grown (by repeat (first|(with_reducible first|exact HI0.out|apply IsS90.alloc|apply IsS90.drewN|apply IsS90.drew|apply IsS90.set_1|apply IsS90.set_2)|exact HI0.out)) hg (IsS90.own_ne HI0.out HO975.out (by decide)))
         have n2_:=zM (Kd.R_after (ok:=(fun k_=>some k_ ≠ (.slice Ao15 x7_1.length co15 : Value).ownBlock)) (by (with_reducible repeat (first|apply zA|apply zB|apply zC));exact HO972.out) hg hat)
         have n3_:=zM (below_weaken (by repeat (first|(with_reducible first|exact HB.out|apply zD|apply zE|apply zF|refine below_set ?_ (IsS90.ge HI0.out))|exact HB.out)) HL.out hb)
         have n4_:=zM (KeepBut.trans (by repeat (first|(with_reducible first|exact HK.out|apply KeepBut.set_|apply keep_drewN|apply keep_drew|apply keep_alloc)|exact HK.out)) (KeepBut.of_grown hg g) (Kd.R_base2 HO975.out))
         have n5_:=zM ((show Kd.C (Kd.int .i64) w28 Ao15 y963.length y963 from by rw [Ny963.out];exact Kd.C_take (m:=(t957 : Int).toNat) ((zN (Kd.R_after (ok:=(fun k_=>some k_ ≠ (.slice Ao27 y970.length co27 : Value).ownBlock)) (by (with_reducible repeat (first|apply zA|apply zB|apply zC));exact HO_7.out) hg hat)).2.2) KL18.out))
         have n6_:=zM ((show Kd.C (Kd.int .i64) w28 A19 y976.length y976 from by rw [Ny976.out,KA19.out];exact Kd.C_drop (m:=(t957 : Int).toNat) (c:=co15) ((zN (Kd.R_after (ok:=(fun k_=>some k_ ≠ (.slice Ao27 y970.length co27 : Value).ownBlock)) (by (with_reducible repeat (first|apply zA|apply zB|apply zC));exact HO_7.out) hg hat)).2.2) KL19.out ((zN (Kd.R_after (ok:=(fun k_=>some k_ ≠ (.slice Ao27 y970.length co27 : Value).ownBlock)) (by (with_reducible repeat (first|apply zA|apply zB|apply zC));exact HO_7.out) hg hat)).2.1)))
         have n7_:=zM (ho)
         clear HO_7
         clear HI0
         clear HO972
         clear HB
         clear HK
         clear HR966
         clear HR979
         clear HO975
         have HO_7:=n0_
         have HI0:=n1_
         have HO972:=n2_
         have HB:=n3_
         have HK:=n4_
         have HR966:=n5_
         have HR979:=n6_
         have HO982:=n7_
         clear n0_ n1_ n2_ n3_ n4_ n5_ n6_ n7_
         clear ho hb hg hat
         refine hK.out _ _ trivial (fun hHeld=>?_)
         clear hK K
         refine norm_ (a':=?_) ?_ ?_
         rotate_left
         ·show Act.put _ (some 37) _ = _
          simp only [Act.put,List.setIfInBounds_toArray,List.set_cons_zero,List.set_cons_succ,i64_w,i32_w]
          rfl
         refine pure_ (i:=12) (N:=some 7) (v:=?_) (a':=?_) #[true,true,true,true,true,true,true,true,true,true,true,true,true] rfl rfl (any_of HT_.out (by kernel_rfl)) (fun _ _ _ h=>h) (Or.inl ⟨by rfl,?_⟩) ?_ ?_
         rotate_left
         ·intro w'
          go_simp
          with_reducible rfl
         rotate_left
         ·simp only [Act.put,List.setIfInBounds_toArray,List.set_cons_zero,List.set_cons_succ,i64_w,i32_w]
          rfl
         refine done_ (done_of HT_.out (by kernel_rfl)) ?_
         try go_wp2
         go_roundg k1
         case measure=>have:=HK1.out;omega
         case rel=>exact ⟨(y980),(wrap64 (x8_1 - 1)),(t958),(t959),(by first|rfl|(simp;done)|(simp [*];done)),H',⟨by have:=HK1.out;omega⟩,⟨by (with_reducible repeat (first|apply zA|apply zB|apply zC));exact Kd.R_mono HO982.out (fun _ hk=>trivial)⟩,⟨by repeat (first|(with_reducible first|exact HI0.out|apply IsS90.alloc|apply IsS90.drewN|apply IsS90.drew|apply IsS90.set_1|apply IsS90.set_2)|exact HI0.out)⟩,⟨by repeat (first|(with_reducible first|exact HK.out|apply KeepBut.set_|apply keep_drewN|apply keep_drew|apply keep_alloc)|exact HK.out)⟩,⟨by repeat (first|(with_reducible first|exact HB.out|apply zD|apply zE|apply zF|refine below_set ?_ (IsS90.ge HI0.out))|exact HB.out)⟩⟩
        ·rw [if_neg c14] at H
         exact absurd H (by simp)
       ·rw [if_neg c11] at H
        exact absurd H (by simp)
      ·rw [if_neg c10] at H
       exact absurd H (by simp)
     ·rw [if_neg c9] at H
      exact absurd H (by simp)
    ·rw [if_neg c8] at H
     exact absurd H (by simp)
   ·rw [if_neg c6] at H
    have c6b0 : decide (0 ≤ x8_1) = false:=decide_eq_false c6
    clear c6
    obtain ⟨y983,hy983⟩ : ∃ y_ : List (S37),y_ = (([] : List (S37))):=⟨_,rfl⟩
    replace H : ((spec_l14Ships.f k1 a1 l2).bind fun t986=>(if t986 = true then ((spec_l14InOrder.f k1 a1 l2 x7_1).bind fun bt987=>(spec_l1Cur_berths.j1 k1 bt987.1 s0_0 x1001_1 x1002_1)) else (spec_l1Cur_berths.j1 k1 y983 s0_0 x1001_1 x1002_1))) = some (r1,r2,r3):=by first|(rw [hy983];with_reducible exact H)|(have H2_:=(Option.bind_some _ _).symm.trans H;rw [hy983];with_reducible exact H2_)|(have H2_:=(Option.bind_some _ _).symm.trans H;with_reducible exact H2_)|with_reducible exact H|(rw [hy983];exact H)|exact H
    have Ny983:=zM hy983
    clear hy983
    replace H:=Option.bind_eq_some_iff.mp H
    obtain ⟨t986,A290,H⟩:=H
    replace H : (if t986 = true then ((spec_l14InOrder.f k1 a1 l2 x7_1).bind fun bt987=>(spec_l1Cur_berths.j1 k1 bt987.1 s0_0 x1001_1 x1002_1)) else (spec_l1Cur_berths.j1 k1 y983 s0_0 x1001_1 x1002_1)) = some (r1,r2,r3):=H
    have A29:=zM A290
    clear A290
    have HC30:=zM H
    clear H
    go_upto_if 41 with (first|((with_reducible refine gate_dst (N:=38) rfl ?_);refine Kd.R_lit k37 _ 37 ?hg (N:=38) ?hd (xs:=([] : List (S37))) (inner:=[]) (ok:=fun _=>True) (okp:=fun _=>True) ?hr ?hp (fun _ hk=>hk) trivial (Below.refl _ _) (Nat.le_refl _) (by simp) ?_;(case hd=>rfl);(case hg=>rfl);(case hr=>first|(go_simp;done)|(go_simp;rfl));(case hp=>exact (Reps.none _ _));intro v984 w31 ho32 hb hg_ hnew_;clear hg_ hnew_;(first|rw [← Ny983.out] at ho32|(simp only [Int.reduceToNat] at ho32;rw [← Ny983.out] at ho32));have n0_:=zM (zP (by (with_reducible repeat (first|apply zA|apply zB|apply zC));exact HO_7.out) hb);have n1_:=zM (Kd.R_lower ho32 (keep_size (w:=w) (g:=g) (row:=none) (by repeat (first|(with_reducible first|exact HK.out|apply KeepBut.set_|apply keep_drewN|apply keep_drew|apply keep_alloc)|exact HK.out))));have n2_:=zM (IsS90.below (by repeat (first|(with_reducible first|exact HI0.out|apply IsS90.alloc|apply IsS90.drewN|apply IsS90.drew|apply IsS90.set_1|apply IsS90.set_2)|exact HI0.out)) hb);have n3_:=zM (KeepBut.trans (by repeat (first|(with_reducible first|exact HK.out|apply KeepBut.set_|apply keep_drewN|apply keep_drew|apply keep_alloc)|exact HK.out)) (KeepBut.of_below hb g none) (.inl rfl));have n4_:=zM (zQ (by repeat (first|(with_reducible first|exact HB.out|apply zD|apply zE|apply zF|refine below_set ?_ (IsS90.ge HI0.out))|exact HB.out)) hb);clear HO_7;clear HI0;clear HK;clear HB;have HO_7:=n0_;have HO985:=n1_;have HI0:=n2_;have HK:=n3_;have HB:=n4_;clear n0_ n1_ n2_ n3_ n4_;clear hb ho32)|((with_reducible refine gate_callee (f:=58) rfl ?_);refine goesL_ (some 41) rfl rfl Try.func58 (by kernel_rfl) rfl #[.int .i64 a1,.slice A2 l2.length c2] rfl (by (try simp only [List.map_toArray,List.map_cons,List.map_nil]);first|done|rfl|(simp only [List.length_drop,List.length_take];rfl)) ?_;(with_reducible refine (spec_l14Ships.calls k1 a1 _ _ l2 t986 _ ?side1 ?side2 A29.out).mono ?_);(case side1=>exact Kd.C_foot_now HR2.out (by repeat (first|(with_reducible first|exact HK.out|apply KeepBut.set_|apply keep_drewN|apply keep_drew|apply keep_alloc)|exact HK.out)));(case side2=>exact HC2.out);rintro e w33 ⟨rfl,hb⟩;refine ⟨_,rfl,?_⟩;have n0_:=zM (zP (by (with_reducible repeat (first|apply zA|apply zB|apply zC));exact HO_7.out) hb);have n1_:=zM (zP (by (with_reducible repeat (first|apply zA|apply zB|apply zC));exact HO985.out) hb);have n2_:=zM (IsS90.below (by repeat (first|(with_reducible first|exact HI0.out|apply IsS90.alloc|apply IsS90.drewN|apply IsS90.drew|apply IsS90.set_1|apply IsS90.set_2)|exact HI0.out)) hb);have n3_:=zM (KeepBut.trans (by repeat (first|(with_reducible first|exact HK.out|apply KeepBut.set_|apply keep_drewN|apply keep_drew|apply keep_alloc)|exact HK.out)) (KeepBut.of_below hb g none) (.inl rfl));have n4_:=zM (zQ (by repeat (first|(with_reducible first|exact HB.out|apply zD|apply zE|apply zF|refine below_set ?_ (IsS90.ge HI0.out))|exact HB.out)) hb);clear HO_7;clear HO985;clear HI0;clear HK;clear HB;have HO_7:=n0_;have HO985:=n1_;have HI0:=n2_;have HK:=n3_;have HB:=n4_;clear n0_ n1_ n2_ n3_ n4_;(try clear hb);(try clear hb2);(try clear hk);(try clear hi)))
    (try simp only [Act.put,List.setIfInBounds_toArray,List.set_cons_zero,List.set_cons_succ])
    go_cut [10] (fun v10 wc => ∃ (kq : Nat) (x10_29 : List (S37)),Aside0 (spec_l1Cur_berths.j1 kq x10_29 s0_0 x1001_1 x1002_1 = some (r1,r2,r3)) ∧ Aside0 (kq ≤ k1) ∧ Aside0 (Kd.R k37 37 wc w.heap.size (fun _=>True) v10 x10_29) ∧ Aside0 (IsS90 w0 wc g s0_0 x1001_1 x1002_1) ∧ Aside0 (KeepBut w wc g none) ∧ Aside0 (Below w0.heap.size w0 wc))
    case first =>
     have H:=HC30.out
     clear HC30
     by_cases c34 : t986 = true
     ·subst c34
      have H1 : ((spec_l14InOrder.f k1 a1 l2 x7_1).bind fun bt987=>(spec_l1Cur_berths.j1 k1 bt987.1 s0_0 x1001_1 x1002_1)) = some (r1,r2,r3):=by rw [if_pos rfl] at H;exact H
      clear H
      have H:=H1
      clear H1
      replace H:=Option.bind_eq_some_iff.mp H
      obtain ⟨⟨t987,t988⟩,A350,H⟩:=H
      replace H : (spec_l1Cur_berths.j1 k1 t987 s0_0 x1001_1 x1002_1) = some (r1,r2,r3):=H
      have A35:=zM A350
      clear A350
      have H':=zM H
      clear H
      obtain ⟨Ao36,co36,eo36⟩:=Kd.R_slice HO_7.out
      subst eo36
      go_wp2_with (first|((with_reducible refine gate_callee (f:=65) rfl ?_);refine goesL_ (some 46) rfl rfl Try.func65 (by kernel_rfl) rfl #[.int .i64 a1,.slice A2 l2.length c2,.slice Ao36 x7_1.length co36] rfl (by (try simp only [List.map_toArray,List.map_cons,List.map_nil]);first|done|rfl|(simp only [List.length_drop,List.length_take];rfl)) ?_;(with_reducible refine (spec_l14InOrder.calls k1 a1 _ _ l2 _ _ x7_1 t987 t988 _ ?side1 ?side2 ?side3 ?side4 A35.out).mono ?_);(case side1=>exact Kd.C_foot_now HR2.out (by repeat (first|(with_reducible first|exact HK.out|apply KeepBut.set_|apply keep_drewN|apply keep_drew|apply keep_alloc)|exact HK.out)));(case side2=>exact HC2.out);(case side3=>repeat (first|exact (zN HO_7.out).2.2|(with_reducible refine zG ?_ _)|(with_reducible refine zH ?_ _)|(with_reducible refine zI ?_)));(case side4=>exact (zN HO_7.out).2.1);rintro e w37 ⟨v989,rfl,ho0,hb⟩;refine ⟨_,rfl,?_⟩;have n0_:=zM (zP (by (with_reducible repeat (first|apply zA|apply zB|apply zC));exact HO_7.out) hb);have n1_:=zM (Kd.R_elder' (by (with_reducible repeat (first|apply zA|apply zB|apply zC));exact HO985.out) (Kd.R_base ho0) hb);have n2_:=zM (Kd.R_lower (Kd.R_new' ho0 (Kd.R_lt (by (with_reducible repeat (first|apply zA|apply zB|apply zC));exact HO985.out))) (keep_size (w:=w) (g:=g) (row:=none) (by repeat (first|(with_reducible first|exact HK.out|apply KeepBut.set_|apply keep_drewN|apply keep_drew|apply keep_alloc)|exact HK.out))));have n3_:=zM (IsS90.below (by repeat (first|(with_reducible first|exact HI0.out|apply IsS90.alloc|apply IsS90.drewN|apply IsS90.drew|apply IsS90.set_1|apply IsS90.set_2)|exact HI0.out)) hb);have n4_:=zM (KeepBut.trans (by repeat (first|(with_reducible first|exact HK.out|apply KeepBut.set_|apply keep_drewN|apply keep_drew|apply keep_alloc)|exact HK.out)) (KeepBut.of_below hb g none) (.inl rfl));have n5_:=zM (zQ (by repeat (first|(with_reducible first|exact HB.out|apply zD|apply zE|apply zF|refine below_set ?_ (IsS90.ge HI0.out))|exact HB.out)) hb);clear HO_7;clear HO985;clear HI0;clear HK;clear HB;have HO_7:=n0_;have HO985:=n1_;have HO990:=n2_;have HI0:=n3_;have HK:=n4_;have HB:=n5_;clear n0_ n1_ n2_ n3_ n4_ n5_;(try clear hb);(try clear hb2);(try clear hk);(try clear hi);(try clear ho0)))
      go_meet
      case rel=>exact ⟨_,(t987),H',⟨by have:=HK1.out;first|omega|exact Nat.le_refl _⟩,⟨by (with_reducible repeat (first|apply zA|apply zB|apply zC));exact Kd.R_mono HO990.out (fun _ hk=>trivial)⟩,⟨by repeat (first|(with_reducible first|exact HI0.out|apply IsS90.alloc|apply IsS90.drewN|apply IsS90.drew|apply IsS90.set_1|apply IsS90.set_2)|exact HI0.out)⟩,⟨by repeat (first|(with_reducible first|exact HK.out|apply KeepBut.set_|apply keep_drewN|apply keep_drew|apply keep_alloc)|exact HK.out)⟩,⟨by repeat (first|(with_reducible first|exact HB.out|apply zD|apply zE|apply zF|refine below_set ?_ (IsS90.ge HI0.out))|exact HB.out)⟩⟩
     ·replace c34:=Bool.eq_false_iff.mpr c34
      subst c34
      have H1 : (spec_l1Cur_berths.j1 k1 y983 s0_0 x1001_1 x1002_1) = some (r1,r2,r3):=by rw [if_neg (show ¬ (false = true) by decide)] at H;exact H
      clear H
      have H:=H1
      clear H1
      have H':=zM H
      clear H
      go_wp2
      go_meet
      case rel=>exact ⟨_,(y983),H',⟨by have:=HK1.out;first|omega|exact Nat.le_refl _⟩,⟨by (with_reducible repeat (first|apply zA|apply zB|apply zC));exact HO985.out⟩,⟨by repeat (first|(with_reducible first|exact HI0.out|apply IsS90.alloc|apply IsS90.drewN|apply IsS90.drew|apply IsS90.set_1|apply IsS90.set_2)|exact HI0.out)⟩,⟨by repeat (first|(with_reducible first|exact HK.out|apply KeepBut.set_|apply keep_drewN|apply keep_drew|apply keep_alloc)|exact HK.out)⟩,⟨by repeat (first|(with_reducible first|exact HB.out|apply zD|apply zE|apply zF|refine below_set ?_ (IsS90.ge HI0.out))|exact HB.out)⟩⟩
    case rest =>
     clear HC30
     try clear c1
     try clear q1
     try clear c2
     try clear p2
     try clear c3
     try clear c5
     try clear c6
     try clear c6b0
     try clear p6
     try clear c8
     try clear c9
     try clear c10
     try clear c11
     try clear c14
     try clear q18
     try clear c19
     try clear q19
     try clear c34
     try clear q019
     try clear q18
     try clear q19
     obtain ⟨kq,x10_29,HA,HJ29,HO_10,HI0,HK,HB⟩:=hcut
     cases kq with
     | zero=>exact absurd HA.out (by simp [spec_l1Cur_berths.j1])
     | succ kj29 =>
      have H:=HA.out
      clear HA
      simp only [spec_l1Cur_berths.j1] at H
      have HC38:=zM H
      clear H
      go_upto_region 10 with (fail)
      go_cut [55] (fun v55 wc => ∃ (kq : Nat) (x55_37 : Bool) (x1001_37 : Int) (x1002_37 : Int),v55 = .bool x55_37 ∧ Aside0 (spec_l1Cur_berths.j2 kq x10_29 x55_37 s0_0 x1001_37 x1002_37 = some (r1,r2,r3)) ∧ Aside0 (kq ≤ kj29) ∧ Aside0 (Kd.R k37 37 wc w.heap.size (fun _=>True) u10 x10_29) ∧ Aside0 (IsS90 w0 wc g s0_0 x1001_37 x1002_37) ∧ Aside0 (KeepBut w wc g none) ∧ Aside0 (Below w0.heap.size w0 wc))
      case first =>
       have H:=HC38.out
       clear HC38
       by_cases c39 : (x10_29.length : Int) > 0
       ·rw [if_pos c39] at H
        have c39b0 : decide (0 < (x10_29.length : Int)) = true:=decide_eq_true c39
        have c39b1 : decide (0 < x10_29.length) = true:=decide_eq_true (by omega)
        clear c39
        (first|rw [c39b0]|(simp only [i64_w,i32_w];rw [c39b0])|skip)
        replace H:=Option.bind_eq_some_iff.mp H
        obtain ⟨⟨t991,t992,t993⟩,A400,H⟩:=H
        replace H : (spec_l1Cur_berths.j2 kj29 x10_29 t991 s0_0 t992 t993) = some (r1,r2,r3):=H
        have A40:=zM A400
        clear A400
        have H':=zM H
        clear H
        obtain ⟨Ao41,co41,eo41⟩:=Kd.R_slice HO_10.out
        subst eo41
        go_wp2_with (first|(go_at_call 75;(with_reducible refine (spec_l1Cur_one.calls g s0_0 x1001_1 x1002_1 6 t991 t992 t993 w0 _ ?side1 ?side2 A40.out).mono ?_);(case side1=>repeat (first|(with_reducible first|exact HI0.out|apply IsS90.alloc|apply IsS90.drewN|apply IsS90.drew|apply IsS90.set_1|apply IsS90.set_2)|exact HI0.out));(case side2=>repeat (first|(with_reducible first|exact HB.out|apply zD|apply zE|apply zF|refine below_set ?_ (IsS90.ge HI0.out))|exact HB.out));rintro e w42 ⟨rfl,hi,hb,hk⟩;have n0_:=zM (Kd.R_mono (Kd.R_keep (IsS90.apart (show IsS90 w0 _ g s0_0 x1001_1 x1002_1 from by repeat (first|(with_reducible first|exact HI0.out|apply IsS90.alloc|apply IsS90.drewN|apply IsS90.drew|apply IsS90.set_1|apply IsS90.set_2)|exact HI0.out)) (by (with_reducible repeat (first|apply zA|apply zB|apply zC));exact HO_10.out) (by decide)) hk (fun _ h=>h.2)) (fun _ h=>h.1));have n1_:=zM (KeepBut.trans (by repeat (first|(with_reducible first|exact HK.out|apply KeepBut.set_|apply keep_drewN|apply keep_drew|apply keep_alloc)|exact HK.out)) hk (.inl rfl));have n2_:=zM (hb);have n3_:=zM (hi);clear HO_10;clear HK;clear HB;clear HI0;have HO_10:=n0_;have HK:=n1_;have HB:=n2_;have HI0:=n3_;clear n0_ n1_ n2_ n3_;(try clear hb);(try clear hb2);(try clear hk);(try clear hi)))
        go_meet
        case rel=>exact ⟨_,(t991),(t992),(t993),(by first|rfl|(simp;done)|(simp [*];done)),H',⟨by have:=HK1.out;have:=HJ29.out;first|omega|exact Nat.le_refl _⟩,⟨by (with_reducible repeat (first|apply zA|apply zB|apply zC));exact HO_10.out⟩,⟨by repeat (first|(with_reducible first|exact HI0.out|apply IsS90.alloc|apply IsS90.drewN|apply IsS90.drew|apply IsS90.set_1|apply IsS90.set_2)|exact HI0.out)⟩,⟨by repeat (first|(with_reducible first|exact HK.out|apply KeepBut.set_|apply keep_drewN|apply keep_drew|apply keep_alloc)|exact HK.out)⟩,⟨by repeat (first|(with_reducible first|exact HB.out|apply zD|apply zE|apply zF|refine below_set ?_ (IsS90.ge HI0.out))|exact HB.out)⟩⟩
       ·rw [if_neg c39] at H
        have c39b0 : decide (0 < (x10_29.length : Int)) = false:=decide_eq_false c39
        have c39b1 : decide (0 < x10_29.length) = false:=decide_eq_false (by omega)
        clear c39
        (first|rw [c39b0]|(simp only [i64_w,i32_w];rw [c39b0])|skip)
        have H':=zM H
        clear H
        obtain ⟨Ao43,co43,eo43⟩:=Kd.R_slice HO_10.out
        subst eo43
        go_wp2
        go_meet
        case rel=>exact ⟨_,(false),(x1001_1),(x1002_1),(by first|rfl|(simp;done)|(simp [*];done)),H',⟨by have:=HK1.out;have:=HJ29.out;first|omega|exact Nat.le_refl _⟩,⟨by (with_reducible repeat (first|apply zA|apply zB|apply zC));exact HO_10.out⟩,⟨by repeat (first|(with_reducible first|exact HI0.out|apply IsS90.alloc|apply IsS90.drewN|apply IsS90.drew|apply IsS90.set_1|apply IsS90.set_2)|exact HI0.out)⟩,⟨by repeat (first|(with_reducible first|exact HK.out|apply KeepBut.set_|apply keep_drewN|apply keep_drew|apply keep_alloc)|exact HK.out)⟩,⟨by repeat (first|(with_reducible first|exact HB.out|apply zD|apply zE|apply zF|refine below_set ?_ (IsS90.ge HI0.out))|exact HB.out)⟩⟩
      case rest =>
       clear HC38
       try clear c1
       try clear q1
       try clear c2
       try clear p2
       try clear c3
       try clear c5
       try clear c6
       try clear c6b0
       try clear p6
       try clear c8
       try clear c9
       try clear c10
       try clear c11
       try clear c14
       try clear q18
       try clear c19
       try clear q19
       try clear c34
       try clear c39
       try clear c39b0
       try clear c39b1
       try clear p2
       try clear p6
       try clear q019
       try clear q1
       try clear q18
       try clear q19
       obtain ⟨kq,x55_37,x1001_37,x1002_37,rfl,HA,HJ37,HO_10,HI0,HK,HB⟩:=hcut
       cases kq with
       | zero=>exact absurd HA.out (by simp [spec_l1Cur_berths.j2])
       | succ kj37 =>
        have H:=HA.out
        clear HA
        simp only [spec_l1Cur_berths.j2] at H
        by_cases c44 : x55_37 = true
        ·subst c44
         have H1 : ((spec_l1Cur_pick.f s0_0 x1001_37 x1002_37 (x10_29.length : Int)).bind fun bt994=>(if 0 ≤ bt994.1 then (if bt994.1 < (x10_29.length : Int) then ((spec_l1Cur_among.f s0_0 bt994.2.1 bt994.2.2 (([1,(-1),0] : List Int))).bind fun bt1002=>((spec_l1Cur_among.f s0_0 bt1002.2.1 bt1002.2.2 (([1,(-1),3] : List Int))).bind fun bt1008=>(some ((x10_29.set (bt994.1 : Int).toNat (⟨wrap64 (((rd_T37 x10_29 bt994.1).f0) + bt1002.1),wrap64 (((rd_T37 x10_29 bt994.1).f1) + bt1008.1)⟩ : S37)),bt1008.2.1,bt1008.2.2)))) else (none)) else (none))) = some (r1,r2,r3):=by rw [if_pos rfl] at H;exact H
         clear H
         have H:=H1
         clear H1
         replace H:=Option.bind_eq_some_iff.mp H
         obtain ⟨⟨t994,t995,t996⟩,A450,H⟩:=H
         replace H : (if 0 ≤ t994 then (if t994 < (x10_29.length : Int) then ((spec_l1Cur_among.f s0_0 t995 t996 (([1,(-1),0] : List Int))).bind fun bt1002=>((spec_l1Cur_among.f s0_0 bt1002.2.1 bt1002.2.2 (([1,(-1),3] : List Int))).bind fun bt1008=>(some ((x10_29.set (t994 : Int).toNat (⟨wrap64 (((rd_T37 x10_29 t994).f0) + bt1002.1),wrap64 (((rd_T37 x10_29 t994).f1) + bt1008.1)⟩ : S37)),bt1008.2.1,bt1008.2.2)))) else (none)) else (none)) = some (r1,r2,r3):=H
         have A45:=zM A450
         clear A450
         by_cases c46 : 0 ≤ t994
         ·rw [if_pos c46] at H
          have c46b0 : decide (0 ≤ t994) = true:=decide_eq_true c46
          clear c46
          by_cases c47 : t994 < (x10_29.length : Int)
          ·rw [if_pos c47] at H
           have c47b0 : decide (t994 < (x10_29.length : Int)) = true:=decide_eq_true c47
           clear c47
           obtain ⟨y999,hy999⟩ : ∃ y_ : List Int,y_ = (([1,(-1),0] : List Int)):=⟨_,rfl⟩
           replace H : ((spec_l1Cur_among.f s0_0 t995 t996 y999).bind fun bt1002=>((spec_l1Cur_among.f s0_0 bt1002.2.1 bt1002.2.2 (([1,(-1),3] : List Int))).bind fun bt1008=>(some ((x10_29.set (t994 : Int).toNat (⟨wrap64 (((rd_T37 x10_29 t994).f0) + bt1002.1),wrap64 (((rd_T37 x10_29 t994).f1) + bt1008.1)⟩ : S37)),bt1008.2.1,bt1008.2.2)))) = some (r1,r2,r3):=by first|(rw [hy999];with_reducible exact H)|(have H2_:=(Option.bind_some _ _).symm.trans H;rw [hy999];with_reducible exact H2_)|(have H2_:=(Option.bind_some _ _).symm.trans H;with_reducible exact H2_)|with_reducible exact H|(rw [hy999];exact H)|exact H
           have Ny999:=zM hy999
           clear hy999
           replace H:=Option.bind_eq_some_iff.mp H
           obtain ⟨⟨t1002,t1003,t1004⟩,A480,H⟩:=H
           replace H : ((spec_l1Cur_among.f s0_0 t1003 t1004 (([1,(-1),3] : List Int))).bind fun bt1008=>(some ((x10_29.set (t994 : Int).toNat (⟨wrap64 (((rd_T37 x10_29 t994).f0) + t1002),wrap64 (((rd_T37 x10_29 t994).f1) + bt1008.1)⟩ : S37)),bt1008.2.1,bt1008.2.2))) = some (r1,r2,r3):=H
           have A48:=zM A480
           clear A480
           obtain ⟨y1005,hy1005⟩ : ∃ y_ : List Int,y_ = (([1,(-1),3] : List Int)):=⟨_,rfl⟩
           replace H : ((spec_l1Cur_among.f s0_0 t1003 t1004 y1005).bind fun bt1008=>(some ((x10_29.set (t994 : Int).toNat (⟨wrap64 (((rd_T37 x10_29 t994).f0) + t1002),wrap64 (((rd_T37 x10_29 t994).f1) + bt1008.1)⟩ : S37)),bt1008.2.1,bt1008.2.2))) = some (r1,r2,r3):=by first|(rw [hy1005];with_reducible exact H)|(have H2_:=(Option.bind_some _ _).symm.trans H;rw [hy1005];with_reducible exact H2_)|(have H2_:=(Option.bind_some _ _).symm.trans H;with_reducible exact H2_)|with_reducible exact H|(rw [hy1005];exact H)|exact H
           have Ny1005:=zM hy1005
           clear hy1005
           replace H:=Option.bind_eq_some_iff.mp H
           obtain ⟨⟨t1008,t1009,t1010⟩,A490,H⟩:=H
           replace H : (some ((x10_29.set (t994 : Int).toNat (⟨wrap64 (((rd_T37 x10_29 t994).f0) + t1002),wrap64 (((rd_T37 x10_29 t994).f1) + t1008)⟩ : S37)),t1009,t1010)) = some (r1,r2,r3):=H
           have A49:=zM A490
           clear A490
           obtain ⟨y1011,hy1011⟩ : ∃ y_ : List (S37),y_ = (x10_29.set (t994 : Int).toNat (⟨wrap64 (((rd_T37 x10_29 t994).f0) + t1002),wrap64 (((rd_T37 x10_29 t994).f1) + t1008)⟩ : S37)):=⟨_,rfl⟩
           replace H : (some (y1011,t1009,t1010)) = some (r1,r2,r3):=by first|(rw [hy1011];with_reducible exact H)|(have H2_:=(Option.bind_some _ _).symm.trans H;rw [hy1011];with_reducible exact H2_)|(have H2_:=(Option.bind_some _ _).symm.trans H;with_reducible exact H2_)|with_reducible exact H|(rw [hy1011];exact H)|exact H
           have Ny1011:=zM hy1011
           clear hy1011
           simp only [Option.some.injEq,Prod.mk.injEq] at H
           obtain ⟨rfl,rfl,rfl⟩:=H
           obtain ⟨Ao51,co51,eo51⟩:=Kd.R_slice HO_10.out
           subst eo51
           try go_wp2_with (first|((with_reducible refine gate_callee (f:=74) rfl ?_);refine goesL_ (some 59) rfl rfl Try.func74 (by kernel_rfl) rfl #[.pointer (some ⟨g,0,none⟩),.int .i64 (x10_29.length : Int)] rfl (by (try simp only [List.map_toArray,List.map_cons,List.map_nil]);first|done|rfl|(simp only [List.length_drop,List.length_take];rfl)) ?_;(with_reducible refine (spec_l1Cur_pick.calls g s0_0 x1001_37 x1002_37 (x10_29.length : Int) t994 t995 t996 w0 _ ?side1 ?side2 A45.out).mono ?_);(case side1=>repeat (first|(with_reducible first|exact HI0.out|apply IsS90.alloc|apply IsS90.drewN|apply IsS90.drew|apply IsS90.set_1|apply IsS90.set_2)|exact HI0.out));(case side2=>repeat (first|(with_reducible first|exact HB.out|apply zD|apply zE|apply zF|refine below_set ?_ (IsS90.ge HI0.out))|exact HB.out));rintro e w52 ⟨rfl,hi,hb,hk⟩;refine ⟨_,rfl,?_⟩;have n0_:=zM (Kd.R_mono (Kd.R_keep (IsS90.apart (show IsS90 w0 _ g s0_0 x1001_37 x1002_37 from by repeat (first|(with_reducible first|exact HI0.out|apply IsS90.alloc|apply IsS90.drewN|apply IsS90.drew|apply IsS90.set_1|apply IsS90.set_2)|exact HI0.out)) (by (with_reducible repeat (first|apply zA|apply zB|apply zC));exact HO_10.out) (by decide)) hk (fun _ h=>h.2)) (fun _ h=>h.1));have n1_:=zM (KeepBut.trans (by repeat (first|(with_reducible first|exact HK.out|apply KeepBut.set_|apply keep_drewN|apply keep_drew|apply keep_alloc)|exact HK.out)) hk (.inl rfl));have n2_:=zM (hb);have n3_:=zM (hi);clear HO_10;clear HK;clear HB;clear HI0;have HO_10:=n0_;have HK:=n1_;have HB:=n2_;have HI0:=n3_;clear n0_ n1_ n2_ n3_;(try clear hb);(try clear hb2);(try clear hk);(try clear hi);have p997 : 0 ≤ (t994 : Int):=of_decide_eq_true (by first|(with_reducible assumption)|assumption);have q997 : t994 < (x10_29.length : Int):=of_decide_eq_true (by first|(with_reducible assumption)|assumption);obtain ⟨ad997,e997,hx997_0,hx997_1⟩:=at_T37 (zN HO_10.out).2.2 t994 p997 q997;cases e997;replace p997:=eq_true p997;replace q997:=eq_true q997)|((with_reducible refine gate_dst (N:=12) rfl ?_);refine box_event ?hg (N:=12) ?hd (cs := #[.int .i64 0,.int .i64 0]) (t:=37) ?hr ?_;(case hd=>rfl);(case hg=>rfl);(case hr=>first|(go_simp;done)|(go_simp;rfl));intro gb998 hg w53 hbox hb;have n0_:=zM (zP (Kd.R_elderB (by (with_reducible repeat (first|apply zA|apply zB|apply zC));exact HO_10.out) gb998 (Nat.le_of_eq hg.symm)) hb);have n1_:=zM (IsS90.below (by repeat (first|(with_reducible first|exact HI0.out|apply IsS90.alloc|apply IsS90.drewN|apply IsS90.drew|apply IsS90.set_1|apply IsS90.set_2)|exact HI0.out)) hb);have n2_:=zM (KeepBut.trans (by repeat (first|(with_reducible first|exact HK.out|apply KeepBut.set_|apply keep_drewN|apply keep_drew|apply keep_alloc)|exact HK.out)) (KeepBut.of_below hb g none) (.inl rfl));have n3_:=zM (zQ (by repeat (first|(with_reducible first|exact HB.out|apply zD|apply zE|apply zF|refine below_set ?_ (IsS90.ge HI0.out))|exact HB.out)) hb);have n4_:=zM (hbox);have n5_:=zM ((by rw [hg];exact (keep_size (w:=w) (g:=g) (row:=none) (by repeat (first|(with_reducible first|exact HK.out|apply KeepBut.set_|apply keep_drewN|apply keep_drew|apply keep_alloc)|exact HK.out))) : w.heap.size ≤ gb998));have n6_:=zM ((Nat.le_trans HW0.out (by rw [hg];exact (keep_size (w:=w) (g:=g) (row:=none) (by repeat (first|(with_reducible first|exact HK.out|apply KeepBut.set_|apply keep_drewN|apply keep_drew|apply keep_alloc)|exact HK.out))) : w.heap.size ≤ gb998) : w0.heap.size ≤ gb998));have n7_:=zM ((by rw [hg];exact Nat.ne_of_lt (IsS90.lt (show IsS90 w0 _ g s0_0 t995 t996 from by repeat (first|(with_reducible first|exact HI0.out|apply IsS90.alloc|apply IsS90.drewN|apply IsS90.drew|apply IsS90.set_1|apply IsS90.set_2)|exact HI0.out))) : g ≠ gb998));have n8_:=zM ((by rw [hg];exact Nat.ne_of_gt (IsS90.lt (show IsS90 w0 _ g s0_0 t995 t996 from by repeat (first|(with_reducible first|exact HI0.out|apply IsS90.alloc|apply IsS90.drewN|apply IsS90.drew|apply IsS90.set_1|apply IsS90.set_2)|exact HI0.out))) : gb998 ≠ g));clear HO_10;clear HI0;clear HK;clear HB;have HO_10:=n0_;have HI0:=n1_;have HK:=n2_;have HB:=n3_;have BK998:=n4_;have GW998:=n5_;have GE998:=n6_;have NB0_998:=n7_;have NB998_0:=n8_;clear n0_ n1_ n2_ n3_ n4_ n5_ n6_ n7_ n8_;clear hb hbox hg;have hnb54:=NB998_0.out;have hnc54:=NB0_998.out;have hcz55_0 : w53.cell? ⟨gb998,0,none⟩ = some (.int .i64 0):=(blk_cell BK998.out 0).trans rfl;have hcz55_1 : w53.cell? ⟨gb998,1,none⟩ = some (.int .i64 0):=(blk_cell BK998.out 1).trans rfl;have hfz55_0:=blk_frozen BK998.out 0;have hfz55_1:=blk_frozen BK998.out 1))
           have n0_ : Aside0 (Kd.R k37 37 ((w53.setCell ⟨gb998,0,none⟩ (.int .i64 ((rd_T37 x10_29 t994).f0))).setCell ⟨gb998,1,none⟩ (.int .i64 ((rd_T37 x10_29 t994).f1))) w.heap.size (fun k_=>k_ ≠ gb998) (.slice (some ad997) x10_29.length co51) x10_29):=⟨by (with_reducible repeat (first|apply zA|apply zB|apply zC));exact Kd.R_mono (Kd.R_far (p:=⟨gb998,1,none⟩) (Kd.R_far (p:=⟨gb998,0,none⟩) (Kd.R_mono HO_10.out (fun k_ hk=>(⟨hk,hk.2⟩ : _ ∧ k_ ≠ gb998))) (fun _ hk=>hk.2) (.int .i64 ((rd_T37 x10_29 t994).f0))) (fun _ hk=>hk.2) (.int .i64 ((rd_T37 x10_29 t994).f1))) (fun _ hk=>hk.1.2)⟩
           have n1_ : Aside0 (((w53.setCell ⟨gb998,0,none⟩ (.int .i64 ((rd_T37 x10_29 t994).f0))).setCell ⟨gb998,1,none⟩ (.int .i64 ((rd_T37 x10_29 t994).f1))).heap[gb998]? = some (.cells #[.int .i64 ((rd_T37 x10_29 t994).f0),.int .i64 ((rd_T37 x10_29 t994).f1)] 37 (0,0))):=⟨by (with_reducible repeat (first|refine zJ ?_ _|refine zK ?_|refine zL ?_ _));refine blk_put (cs := #[.int .i64 ((rd_T37 x10_29 t994).f0),.int .i64 0]) ?_ 1 _ rfl;(with_reducible repeat (first|refine zJ ?_ _|refine zK ?_|refine zL ?_ _));refine blk_put (cs := #[.int .i64 0,.int .i64 0]) ?_ 0 _ rfl;(with_reducible repeat (first|refine zJ ?_ _|refine zK ?_|refine zL ?_ _));exact BK998.out⟩
           have n2_ : Aside0 (IsS90 w0 ((w53.setCell ⟨gb998,0,none⟩ (.int .i64 ((rd_T37 x10_29 t994).f0))).setCell ⟨gb998,1,none⟩ (.int .i64 ((rd_T37 x10_29 t994).f1))) g s0_0 t995 t996):=⟨by repeat (first|(with_reducible first|exact HI0.out|apply IsS90.alloc|apply IsS90.drewN|apply IsS90.drew|apply IsS90.set_1|apply IsS90.set_2|apply IsS90.far (hne:=NB0_998.out))|exact HI0.out)⟩
           have n3_ : Aside0 (KeepBut w ((w53.setCell ⟨gb998,0,none⟩ (.int .i64 ((rd_T37 x10_29 t994).f0))).setCell ⟨gb998,1,none⟩ (.int .i64 ((rd_T37 x10_29 t994).f1))) g none):=⟨by repeat (first|(with_reducible first|exact HK.out|apply KeepBut.set_|apply keep_drewN|apply keep_drew|apply keep_alloc|refine keep_far ?_ GW998.out _)|exact HK.out)⟩
           have n4_ : Aside0 (Below w0.heap.size w0 ((w53.setCell ⟨gb998,0,none⟩ (.int .i64 ((rd_T37 x10_29 t994).f0))).setCell ⟨gb998,1,none⟩ (.int .i64 ((rd_T37 x10_29 t994).f1)))):=⟨by repeat (first|(with_reducible first|exact HB.out|apply zD|apply zE|apply zF|refine below_set ?_ (IsS90.ge HI0.out)|refine below_set ?_ GE998.out)|exact HB.out)⟩
           (try clear HO_10)
           (try clear BK998)
           (try clear HI0)
           (try clear HK)
           (try clear HB)
           generalize ((w53.setCell ⟨gb998,0,none⟩ (.int .i64 ((rd_T37 x10_29 t994).f0))).setCell ⟨gb998,1,none⟩ (.int .i64 ((rd_T37 x10_29 t994).f1))) = w56 at n0_ n1_ n2_ n3_ n4_ ⊢
           have HO_10:=n0_
           have BK998:=n1_
           have HI0:=n2_
           have HK:=n3_
           have HB:=n4_
           clear n0_ n1_ n2_ n3_ n4_
           have n0_:=zM (zC HO_10.out)
           have n1_:=zM (zK BK998.out)
           have n2_:=zM (IsS90.drew HI0.out)
           have n3_:=zM (keep_drew HK.out)
           have n4_:=zM (zF HB.out)
           clear HO_10
           clear BK998
           clear HI0
           clear HK
           clear HB
           have HO_10:=n0_
           have BK998:=n1_
           have HI0:=n2_
           have HK:=n3_
           have HB:=n4_
           clear n0_ n1_ n2_ n3_ n4_
           refine start_ (n:=8) (S:=fun w'=>w'.cell? ⟨gb998,0,none⟩ = some (.int .i64 ((rd_T37 x10_29 t994).f0)) ∧ w'.cell? ⟨gb998,1,none⟩ = some (.int .i64 ((rd_T37 x10_29 t994).f1))) (ds:=[7]) #[false,false,false,false,false,false,false,false] (by kernel_rfl) rfl rfl ⟨(blk_cell BK998.out 0).trans rfl,(blk_cell BK998.out 1).trans rfl⟩ (fun hHeld=>?_);refine with_tabW spec_l1Cur_berths.tab13 spec_l1Cur_berths.bits13 (fun HT_ HW_=>?_)
           generalize w56.drew = w57 at HO_10 BK998 HI0 HK HB hHeld ⊢
           refine pure_ (i:=0) (N:=some 64) (v:=?_) (a':=?_) #[true,false,false,false,false,false,false,false] rfl rfl (any_of HT_.out (by kernel_rfl)) (fun _ _ _ h=>h) (Or.inl ⟨by rfl,?_⟩) ?_ ?_
           rotate_left
           ·intro w'
            go_simp
            with_reducible rfl
           rotate_left
           ·simp only [Act.put,List.setIfInBounds_toArray,List.set_cons_zero,List.set_cons_succ,i64_w,i32_w]
            rfl
           refine pure_ (i:=2) (N:=some 66) (v:=?_) (a':=?_) #[true,false,true,false,false,false,false,false] rfl rfl (any_of HT_.out (by kernel_rfl)) (fun _ _ _ h=>h) (Or.inl ⟨by rfl,?_⟩) ?_ ?_
           rotate_left
           ·intro w'
            go_simp
            with_reducible rfl
           rotate_left
           ·simp only [Act.put,List.setIfInBounds_toArray,List.set_cons_zero,List.set_cons_succ,i64_w,i32_w]
            rfl
           refine take_ (i:=1) (N:=some 65) (v:=?_) (a':=?_) #[true,true,true,false,false,false,false,false] rfl rfl (take_ofW HT_.out HW_.out (by kernel_rfl)) (fun _ _ _ h=>h) (Or.inl ⟨by rfl,?_⟩) hHeld ?_ ?_
           rotate_left
           ·rintro w' ⟨s0,s1⟩
            go_simp
            with_reducible rfl
           rotate_left
           ·simp only [Act.put,List.setIfInBounds_toArray,List.set_cons_zero,List.set_cons_succ,i64_w,i32_w]
            rfl
           refine one_ (i:=3) (N:=some 67) #[true,true,true,true,false,false,false,false] rfl rfl (one_of HT_.out (by kernel_rfl)) (by decide) (fun K hK=>?_)
           refine Kd.R_lit_step (Kd.int .i64) _ 3 ?hg (N:=67) ?hd (xs:=([1,(-1),0] : List Int)) (inner:=[.int .i64 1,.int .i64 (-1),.int .i64 0]) (ok:=fun _=>True) (okp:=fun _=>True) ?hr ?hp (fun _ hk=>hk) trivial (Below.refl _ _) (Nat.le_refl _) (by simp) ?_;(case hd=>rfl);(case hg=>rfl);(case hr=>first|(go_simp;done)|(go_simp;rfl));(case hp=>exact (Reps.one (show Kd.M (Kd.int .i64) _ _ _ 1 [.int .i64 1] from rfl) (Reps.one (show Kd.M (Kd.int .i64) _ _ _ (-1) [.int .i64 (-1)] from rfl) (Reps.one (show Kd.M (Kd.int .i64) _ _ _ 0 [.int .i64 0] from rfl) (Reps.none _ _)))))
           intro v1000 w58 ho59 hb hg_ hnew_
           clear hg_ hnew_
           (first|rw [← Ny999.out] at ho59|(simp only [Int.reduceToNat] at ho59;rw [← Ny999.out] at ho59))
           have n0_:=zM (zP (by (with_reducible repeat (first|apply zA|apply zB|apply zC));exact HO_10.out) hb)
           have n1_:=zM (Kd.R_lower ho59 (keep_size (w:=w) (g:=g) (row:=none) (by repeat (first|(with_reducible first|exact HK.out|apply KeepBut.set_|apply keep_drewN|apply keep_drew|apply keep_alloc|refine keep_far ?_ GW998.out _)|exact HK.out))))
           have n2_:=zM (IsS90.below (by repeat (first|(with_reducible first|exact HI0.out|apply IsS90.alloc|apply IsS90.drewN|apply IsS90.drew|apply IsS90.set_1|apply IsS90.set_2|apply IsS90.far (hne:=NB0_998.out))|exact HI0.out)) hb)
           have n3_:=zM (blk_below (g:=gb998) (o := .cells #[.int .i64 ((rd_T37 x10_29 t994).f0),.int .i64 ((rd_T37 x10_29 t994).f1)] 37 (0,0)) (by (with_reducible repeat (first|refine zJ ?_ _|refine zK ?_|refine zL ?_ _));exact BK998.out) hb)
           have n4_:=zM (KeepBut.trans (by repeat (first|(with_reducible first|exact HK.out|apply KeepBut.set_|apply keep_drewN|apply keep_drew|apply keep_alloc|refine keep_far ?_ GW998.out _)|exact HK.out)) (KeepBut.of_below hb g none) (.inl rfl))
           have n5_:=zM (zQ (by repeat (first|(with_reducible first|exact HB.out|apply zD|apply zE|apply zF|refine below_set ?_ (IsS90.ge HI0.out)|refine below_set ?_ GE998.out)|exact HB.out)) hb)
           clear HO_10
           clear HI0
           clear BK998
           clear HK
           clear HB
           have HO_10:=n0_
           have HO1001:=n1_
           have HI0:=n2_
           have BK998:=n3_
           have HK:=n4_
           have HB:=n5_
           clear n0_ n1_ n2_ n3_ n4_ n5_
           clear hb ho59
           obtain ⟨Ao60,co60,eo60⟩:=Kd.R_slice HO1001.out
           (first|subst eo60|(injection eo60 with f1_ f2_ f3_;have f4_:=f1_.symm;have f5_:=f3_.symm;clear f1_ f2_ f3_;subst f4_;subst f5_))
           refine hK.out _ _ ⟨(blk_cell BK998.out 0).trans rfl,(blk_cell BK998.out 1).trans rfl⟩ (fun hHeld=>?_)
           clear hK K
           refine norm_ (a':=?_) ?_ ?_
           rotate_left
           ·show Act.put _ (some 67) _ = _
            simp only [Act.put,List.setIfInBounds_toArray,List.set_cons_zero,List.set_cons_succ,i64_w,i32_w]
            rfl
           refine one_ (i:=4) (N:=some 68) #[true,true,true,true,true,false,false,false] rfl rfl (one_of HT_.out (by kernel_rfl)) (by decide) (fun K hK=>?_)
           refine goes_ Try.func77 (by kernel_rfl) rfl #[.pointer (some ⟨g,0,none⟩),.slice Ao60 y999.length co60] (by rfl) rfl rfl (by (try simp only [List.map_toArray,List.map_cons,List.map_nil]);first|done|rfl|(simp only [List.length_drop,List.length_take];rfl)) ?_
           with_reducible refine (spec_l1Cur_among.calls g s0_0 t995 t996 _ _ y999 t1002 t1003 t1004 w0 _ ?side1 ?side2 ?side3 ?side4 ?side5 A48.out).mono ?_
           (case side1=>repeat (first|(with_reducible first|exact HI0.out|apply IsS90.alloc|apply IsS90.drewN|apply IsS90.drew|apply IsS90.set_1|apply IsS90.set_2|apply IsS90.far (hne:=NB0_998.out))|exact HI0.out))
           (case side2=>repeat (first|(with_reducible first|exact HB.out|apply zD|apply zE|apply zF|refine below_set ?_ (IsS90.ge HI0.out)|refine below_set ?_ GE998.out)|exact HB.out))
           (case side3=>repeat (first|exact (zN HO1001.out).2.2|(with_reducible refine zG ?_ _)|(with_reducible refine zH ?_ _)|(with_reducible refine zI ?_)))
           (case side4=>exact (zN HO1001.out).2.1)
           (case side5=>exact far_slice (IsS90.own_ne HI0.out HO1001.out (by decide)))
           rintro e w61 ⟨rfl,hi,hb,hk⟩
           refine ⟨_,rfl,?_⟩
           have n0_:=zM (Kd.R_mono (Kd.R_keep (IsS90.apart (show IsS90 w0 _ g s0_0 t995 t996 from by repeat (first|(with_reducible first|exact HI0.out|apply IsS90.alloc|apply IsS90.drewN|apply IsS90.drew|apply IsS90.set_1|apply IsS90.set_2|apply IsS90.far (hne:=NB0_998.out))|exact HI0.out)) (by (with_reducible repeat (first|apply zA|apply zB|apply zC));exact HO_10.out) (by decide)) hk (fun _ h=>h.2)) (fun _ h=>h.1))
           have n1_:=zM (KeepBut.blk hk (g':=gb998) (o := .cells #[.int .i64 ((rd_T37 x10_29 t994).f0),.int .i64 ((rd_T37 x10_29 t994).f1)] 37 (0,0)) (by (with_reducible repeat (first|refine zJ ?_ _|refine zK ?_|refine zL ?_ _));exact BK998.out) NB998_0.out (by simp))
           have n2_:=zM (Kd.R_mono (Kd.R_keep (IsS90.apart (show IsS90 w0 _ g s0_0 t995 t996 from by repeat (first|(with_reducible first|exact HI0.out|apply IsS90.alloc|apply IsS90.drewN|apply IsS90.drew|apply IsS90.set_1|apply IsS90.set_2|apply IsS90.far (hne:=NB0_998.out))|exact HI0.out)) (by (with_reducible repeat (first|apply zA|apply zB|apply zC));exact HO1001.out) (by decide)) hk (fun _ h=>h.2)) (fun _ h=>h.1))
           have n3_:=zM (KeepBut.trans (by repeat (first|(with_reducible first|exact HK.out|apply KeepBut.set_|apply keep_drewN|apply keep_drew|apply keep_alloc|refine keep_far ?_ GW998.out _)|exact HK.out)) hk (.inl rfl))
           have n4_:=zM (hb)
           have n5_:=zM (hi)
           clear HO_10
           clear BK998
           clear HO1001
           clear HK
           clear HB
           clear HI0
           have HO_10:=n0_
           have BK998:=n1_
           have HO1001:=n2_
           have HK:=n3_
           have HB:=n4_
           have HI0:=n5_
           clear n0_ n1_ n2_ n3_ n4_ n5_
           (try clear hb)
           (try clear hb2)
           (try clear hk)
           (try clear hi)
           refine hK.out _ _ ⟨(blk_cell BK998.out 0).trans rfl,(blk_cell BK998.out 1).trans rfl⟩ (fun hHeld=>?_)
           clear hK K
           refine norm_ (a':=?_) ?_ ?_
           rotate_left
           ·show Act.put _ (some 68) _ = _
            simp only [Act.put,List.setIfInBounds_toArray,List.set_cons_zero,List.set_cons_succ,i64_w,i32_w]
            rfl
           refine pure_ (i:=5) (N:=some 69) (v:=?_) (a':=?_) #[true,true,true,true,true,true,false,false] rfl rfl (any_of HT_.out (by kernel_rfl)) (fun _ _ _ h=>h) (Or.inl ⟨by rfl,?_⟩) ?_ ?_
           rotate_left
           ·intro w'
            go_simp
            with_reducible rfl
           rotate_left
           ·simp only [Act.put,List.setIfInBounds_toArray,List.set_cons_zero,List.set_cons_succ,i64_w,i32_w]
            rfl
           refine pure_ (i:=6) (N:=some 70) (v:=?_) (a':=?_) #[true,true,true,true,true,true,true,false] rfl rfl (any_of HT_.out (by kernel_rfl)) (fun _ _ _ h=>h) (Or.inl ⟨by rfl,?_⟩) ?_ ?_
           rotate_left
           ·intro w'
            go_simp
            with_reducible rfl
           rotate_left
           ·simp only [Act.put,List.setIfInBounds_toArray,List.set_cons_zero,List.set_cons_succ,i64_w,i32_w]
            rfl
           refine last_ (i:=7) (N:=none) #[true,true,true,true,true,true,true,true] rfl rfl (one_of HT_.out (by kernel_rfl)) (by decide) (fun K hK=>?_)
           have hs62 : w61.cell? ⟨gb998,0,none⟩ = some (.int .i64 ((rd_T37 x10_29 t994).f0)):=(blk_cell BK998.out 0).trans rfl
           have hfs62:=blk_frozen BK998.out 0
           refine skip_ (w1:=?_) (by rfl) rfl ?_ ?_
           rotate_left
           ·go_simp
            rfl
           refine hK.out _ _ ?_
           clear hK K
           refine done_ (done_of HT_.out (by kernel_rfl)) ?_
           try go_wp2
           have n0_ : Aside0 (Kd.R k37 37 (w61.setCell ⟨gb998,0,none⟩ (.int .i64 (wrap64 (((rd_T37 x10_29 t994).f0) + t1002)))) w.heap.size (fun k_=>k_ ≠ gb998) (.slice (some ad997) x10_29.length co51) x10_29):=⟨by (with_reducible repeat (first|apply zA|apply zB|apply zC));exact Kd.R_mono (Kd.R_far (p:=⟨gb998,0,none⟩) (Kd.R_mono HO_10.out (fun k_ hk=>(⟨hk,hk⟩ : _ ∧ k_ ≠ gb998))) (fun _ hk=>hk.2) (.int .i64 (wrap64 (((rd_T37 x10_29 t994).f0) + t1002)))) (fun _ hk=>hk.1)⟩
           have n1_ : Aside0 (Kd.R (Kd.int .i64) 3 (w61.setCell ⟨gb998,0,none⟩ (.int .i64 (wrap64 (((rd_T37 x10_29 t994).f0) + t1002)))) w.heap.size (fun _=>True) (.slice Ao60 y999.length co60) y999):=⟨by (with_reducible repeat (first|apply zA|apply zB|apply zC));exact Kd.R_mono (Kd.R_far (p:=⟨gb998,0,none⟩) (Kd.R_types HO1001.out BK998.out (by decide)) (fun _ hk=>hk.2) (.int .i64 (wrap64 (((rd_T37 x10_29 t994).f0) + t1002)))) (fun _ hk=>trivial)⟩
           have n2_ : Aside0 ((w61.setCell ⟨gb998,0,none⟩ (.int .i64 (wrap64 (((rd_T37 x10_29 t994).f0) + t1002)))).heap[gb998]? = some (.cells #[.int .i64 (wrap64 (((rd_T37 x10_29 t994).f0) + t1002)),.int .i64 ((rd_T37 x10_29 t994).f1)] 37 (0,0))):=⟨by (with_reducible repeat (first|refine zJ ?_ _|refine zK ?_|refine zL ?_ _));refine blk_put (cs := #[.int .i64 ((rd_T37 x10_29 t994).f0),.int .i64 ((rd_T37 x10_29 t994).f1)]) ?_ 0 _ rfl;(with_reducible repeat (first|refine zJ ?_ _|refine zK ?_|refine zL ?_ _));exact BK998.out⟩
           have n3_ : Aside0 (IsS90 w0 (w61.setCell ⟨gb998,0,none⟩ (.int .i64 (wrap64 (((rd_T37 x10_29 t994).f0) + t1002)))) g s0_0 t1003 t1004):=⟨by repeat (first|(with_reducible first|exact HI0.out|apply IsS90.alloc|apply IsS90.drewN|apply IsS90.drew|apply IsS90.set_1|apply IsS90.set_2|apply IsS90.far (hne:=NB0_998.out))|exact HI0.out)⟩
           have n4_ : Aside0 (KeepBut w (w61.setCell ⟨gb998,0,none⟩ (.int .i64 (wrap64 (((rd_T37 x10_29 t994).f0) + t1002)))) g none):=⟨by repeat (first|(with_reducible first|exact HK.out|apply KeepBut.set_|apply keep_drewN|apply keep_drew|apply keep_alloc|refine keep_far ?_ GW998.out _)|exact HK.out)⟩
           have n5_ : Aside0 (Below w0.heap.size w0 (w61.setCell ⟨gb998,0,none⟩ (.int .i64 (wrap64 (((rd_T37 x10_29 t994).f0) + t1002))))):=⟨by repeat (first|(with_reducible first|exact HB.out|apply zD|apply zE|apply zF|refine below_set ?_ (IsS90.ge HI0.out)|refine below_set ?_ GE998.out)|exact HB.out)⟩
           (try clear HO_10)
           (try clear HO1001)
           (try clear BK998)
           (try clear HI0)
           (try clear HK)
           (try clear HB)
           generalize (w61.setCell ⟨gb998,0,none⟩ (.int .i64 (wrap64 (((rd_T37 x10_29 t994).f0) + t1002)))) = w63 at n0_ n1_ n2_ n3_ n4_ n5_ ⊢
           have HO_10:=n0_
           have HO1001:=n1_
           have BK998:=n2_
           have HI0:=n3_
           have HK:=n4_
           have HB:=n5_
           clear n0_ n1_ n2_ n3_ n4_ n5_
           have n0_:=zM (zC HO_10.out)
           have n1_:=zM (zC HO1001.out)
           have n2_:=zM (zK BK998.out)
           have n3_:=zM (IsS90.drew HI0.out)
           have n4_:=zM (keep_drew HK.out)
           have n5_:=zM (zF HB.out)
           clear HO_10
           clear HO1001
           clear BK998
           clear HI0
           clear HK
           clear HB
           have HO_10:=n0_
           have HO1001:=n1_
           have BK998:=n2_
           have HI0:=n3_
           have HK:=n4_
           have HB:=n5_
           clear n0_ n1_ n2_ n3_ n4_ n5_
           refine start_ (n:=8) (S:=fun w'=>w'.cell? ⟨gb998,0,none⟩ = some (.int .i64 (wrap64 (((rd_T37 x10_29 t994).f0) + t1002))) ∧ w'.cell? ⟨gb998,1,none⟩ = some (.int .i64 ((rd_T37 x10_29 t994).f1))) (ds:=[7]) #[false,false,false,false,false,false,false,false] (by kernel_rfl) rfl rfl ⟨(blk_cell BK998.out 0).trans rfl,(blk_cell BK998.out 1).trans rfl⟩ (fun hHeld=>?_);refine with_tabW spec_l1Cur_berths.tab14 spec_l1Cur_berths.bits14 (fun HT_ HW_=>?_)
           generalize w63.drew = w64 at HO_10 HO1001 BK998 HI0 HK HB hHeld ⊢
           refine pure_ (i:=0) (N:=some 71) (v:=?_) (a':=?_) #[true,false,false,false,false,false,false,false] rfl rfl (any_of HT_.out (by kernel_rfl)) (fun _ _ _ h=>h) (Or.inl ⟨by rfl,?_⟩) ?_ ?_
           rotate_left
           ·intro w'
            go_simp
            with_reducible rfl
           rotate_left
           ·simp only [Act.put,List.setIfInBounds_toArray,List.set_cons_zero,List.set_cons_succ,i64_w,i32_w]
            rfl
           refine pure_ (i:=2) (N:=some 73) (v:=?_) (a':=?_) #[true,false,true,false,false,false,false,false] rfl rfl (any_of HT_.out (by kernel_rfl)) (fun _ _ _ h=>h) (Or.inl ⟨by rfl,?_⟩) ?_ ?_
           rotate_left
           ·intro w'
            go_simp
            with_reducible rfl
           rotate_left
           ·simp only [Act.put,List.setIfInBounds_toArray,List.set_cons_zero,List.set_cons_succ,i64_w,i32_w]
            rfl
           refine take_ (i:=1) (N:=some 72) (v:=?_) (a':=?_) #[true,true,true,false,false,false,false,false] rfl rfl (take_ofW HT_.out HW_.out (by kernel_rfl)) (fun _ _ _ h=>h) (Or.inl ⟨by rfl,?_⟩) hHeld ?_ ?_
           rotate_left
           ·rintro w' ⟨s0,s1⟩
            go_simp
            with_reducible rfl
           rotate_left
           ·simp only [Act.put,List.setIfInBounds_toArray,List.set_cons_zero,List.set_cons_succ,i64_w,i32_w]
            rfl
           refine one_ (i:=3) (N:=some 74) #[true,true,true,true,false,false,false,false] rfl rfl (one_of HT_.out (by kernel_rfl)) (by decide) (fun K hK=>?_)
           refine Kd.R_lit_step (Kd.int .i64) _ 3 ?hg (N:=74) ?hd (xs:=([1,(-1),3] : List Int)) (inner:=[.int .i64 1,.int .i64 (-1),.int .i64 3]) (ok:=fun _=>True) (okp:=fun _=>True) ?hr ?hp (fun _ hk=>hk) trivial (Below.refl _ _) (Nat.le_refl _) (by simp) ?_;(case hd=>rfl);(case hg=>rfl);(case hr=>first|(go_simp;done)|(go_simp;rfl));(case hp=>exact (Reps.one (show Kd.M (Kd.int .i64) _ _ _ 1 [.int .i64 1] from rfl) (Reps.one (show Kd.M (Kd.int .i64) _ _ _ (-1) [.int .i64 (-1)] from rfl) (Reps.one (show Kd.M (Kd.int .i64) _ _ _ 3 [.int .i64 3] from rfl) (Reps.none _ _)))))
           intro v1006 w65 ho66 hb hg_ hnew_
           clear hg_ hnew_
           (first|rw [← Ny1005.out] at ho66|(simp only [Int.reduceToNat] at ho66;rw [← Ny1005.out] at ho66))
           have n0_:=zM (zP (by (with_reducible repeat (first|apply zA|apply zB|apply zC));exact HO_10.out) hb)
           have n1_:=zM (Kd.R_elder' (by (with_reducible repeat (first|apply zA|apply zB|apply zC));exact HO1001.out) (Kd.R_base ho66) hb)
           have n2_:=zM (Kd.R_lower (Kd.R_new' ho66 (Kd.R_lt (by (with_reducible repeat (first|apply zA|apply zB|apply zC));exact HO1001.out))) (keep_size (w:=w) (g:=g) (row:=none) (by repeat (first|(with_reducible first|exact HK.out|apply KeepBut.set_|apply keep_drewN|apply keep_drew|apply keep_alloc|refine keep_far ?_ GW998.out _)|exact HK.out))))
           have n3_:=zM (IsS90.below (by repeat (first|(with_reducible first|exact HI0.out|apply IsS90.alloc|apply IsS90.drewN|apply IsS90.drew|apply IsS90.set_1|apply IsS90.set_2|apply IsS90.far (hne:=NB0_998.out))|exact HI0.out)) hb)
           have n4_:=zM (blk_below (g:=gb998) (o := .cells #[.int .i64 (wrap64 (((rd_T37 x10_29 t994).f0) + t1002)),.int .i64 ((rd_T37 x10_29 t994).f1)] 37 (0,0)) (by (with_reducible repeat (first|refine zJ ?_ _|refine zK ?_|refine zL ?_ _));exact BK998.out) hb)
           have n5_:=zM (KeepBut.trans (by repeat (first|(with_reducible first|exact HK.out|apply KeepBut.set_|apply keep_drewN|apply keep_drew|apply keep_alloc|refine keep_far ?_ GW998.out _)|exact HK.out)) (KeepBut.of_below hb g none) (.inl rfl))
           have n6_:=zM (zQ (by repeat (first|(with_reducible first|exact HB.out|apply zD|apply zE|apply zF|refine below_set ?_ (IsS90.ge HI0.out)|refine below_set ?_ GE998.out)|exact HB.out)) hb)
           clear HO_10
           clear HO1001
           clear HI0
           clear BK998
           clear HK
           clear HB
           have HO_10:=n0_
           have HO1001:=n1_
           have HO1007:=n2_
           have HI0:=n3_
           have BK998:=n4_
           have HK:=n5_
           have HB:=n6_
           clear n0_ n1_ n2_ n3_ n4_ n5_ n6_
           clear hb ho66
           obtain ⟨Ao67,co67,eo67⟩:=Kd.R_slice HO1007.out
           (first|subst eo67|(injection eo67 with f1_ f2_ f3_;have f4_:=f1_.symm;have f5_:=f3_.symm;clear f1_ f2_ f3_;subst f4_;subst f5_))
           refine hK.out _ _ ⟨(blk_cell BK998.out 0).trans rfl,(blk_cell BK998.out 1).trans rfl⟩ (fun hHeld=>?_)
           clear hK K
           refine norm_ (a':=?_) ?_ ?_
           rotate_left
           ·show Act.put _ (some 74) _ = _
            simp only [Act.put,List.setIfInBounds_toArray,List.set_cons_zero,List.set_cons_succ,i64_w,i32_w]
            rfl
           refine one_ (i:=4) (N:=some 75) #[true,true,true,true,true,false,false,false] rfl rfl (one_of HT_.out (by kernel_rfl)) (by decide) (fun K hK=>?_)
           refine goes_ Try.func77 (by kernel_rfl) rfl #[.pointer (some ⟨g,0,none⟩),.slice Ao67 y1005.length co67] (by rfl) rfl rfl (by (try simp only [List.map_toArray,List.map_cons,List.map_nil]);first|done|rfl|(simp only [List.length_drop,List.length_take];rfl)) ?_
           with_reducible refine (spec_l1Cur_among.calls g s0_0 t1003 t1004 _ _ y1005 t1008 t1009 t1010 w0 _ ?side1 ?side2 ?side3 ?side4 ?side5 A49.out).mono ?_
           (case side1=>repeat (first|(with_reducible first|exact HI0.out|apply IsS90.alloc|apply IsS90.drewN|apply IsS90.drew|apply IsS90.set_1|apply IsS90.set_2|apply IsS90.far (hne:=NB0_998.out))|exact HI0.out))
           (case side2=>repeat (first|(with_reducible first|exact HB.out|apply zD|apply zE|apply zF|refine below_set ?_ (IsS90.ge HI0.out)|refine below_set ?_ GE998.out)|exact HB.out))
           (case side3=>repeat (first|exact (zN HO1007.out).2.2|(with_reducible refine zG ?_ _)|(with_reducible refine zH ?_ _)|(with_reducible refine zI ?_)))
           (case side4=>exact (zN HO1007.out).2.1)
           (case side5=>exact far_slice (IsS90.own_ne HI0.out HO1007.out (by decide)))
           rintro e w68 ⟨rfl,hi,hb,hk⟩
           refine ⟨_,rfl,?_⟩
           have n0_:=zM (Kd.R_mono (Kd.R_keep (IsS90.apart (show IsS90 w0 _ g s0_0 t1003 t1004 from by repeat (first|(with_reducible first|exact HI0.out|apply IsS90.alloc|apply IsS90.drewN|apply IsS90.drew|apply IsS90.set_1|apply IsS90.set_2|apply IsS90.far (hne:=NB0_998.out))|exact HI0.out)) (by (with_reducible repeat (first|apply zA|apply zB|apply zC));exact HO_10.out) (by decide)) hk (fun _ h=>h.2)) (fun _ h=>h.1))
           have n1_:=zM (KeepBut.blk hk (g':=gb998) (o := .cells #[.int .i64 (wrap64 (((rd_T37 x10_29 t994).f0) + t1002)),.int .i64 ((rd_T37 x10_29 t994).f1)] 37 (0,0)) (by (with_reducible repeat (first|refine zJ ?_ _|refine zK ?_|refine zL ?_ _));exact BK998.out) NB998_0.out (by simp))
           have n2_:=zM (Kd.R_mono (Kd.R_keep (IsS90.apart (show IsS90 w0 _ g s0_0 t1003 t1004 from by repeat (first|(with_reducible first|exact HI0.out|apply IsS90.alloc|apply IsS90.drewN|apply IsS90.drew|apply IsS90.set_1|apply IsS90.set_2|apply IsS90.far (hne:=NB0_998.out))|exact HI0.out)) (by (with_reducible repeat (first|apply zA|apply zB|apply zC));exact HO1001.out) (by decide)) hk (fun _ h=>h.2)) (fun _ h=>h.1))
           have n3_:=zM (Kd.R_mono (Kd.R_keep (IsS90.apart (show IsS90 w0 _ g s0_0 t1003 t1004 from by repeat (first|(with_reducible first|exact HI0.out|apply IsS90.alloc|apply IsS90.drewN|apply IsS90.drew|apply IsS90.set_1|apply IsS90.set_2|apply IsS90.far (hne:=NB0_998.out))|exact HI0.out)) (by (with_reducible repeat (first|apply zA|apply zB|apply zC));exact HO1007.out) (by decide)) hk (fun _ h=>h.2)) (fun _ h=>h.1))
           have n4_:=zM (KeepBut.trans (by repeat (first|(with_reducible first|exact HK.out|apply KeepBut.set_|apply keep_drewN|apply keep_drew|apply keep_alloc|refine keep_far ?_ GW998.out _)|exact HK.out)) hk (.inl rfl))
           have n5_:=zM (hb)
           have n6_:=zM (hi)
           clear HO_10
           clear BK998
           clear HO1001
           clear HO1007
           clear HK
           clear HB
           clear HI0
           have HO_10:=n0_
           have BK998:=n1_
           have HO1001:=n2_
           have HO1007:=n3_
           have HK:=n4_
           have HB:=n5_
           have HI0:=n6_
           clear n0_ n1_ n2_ n3_ n4_ n5_ n6_
           (try clear hb)
           (try clear hb2)
           (try clear hk)
           (try clear hi)
           refine hK.out _ _ ⟨(blk_cell BK998.out 0).trans rfl,(blk_cell BK998.out 1).trans rfl⟩ (fun hHeld=>?_)
           clear hK K
           refine norm_ (a':=?_) ?_ ?_
           rotate_left
           ·show Act.put _ (some 75) _ = _
            simp only [Act.put,List.setIfInBounds_toArray,List.set_cons_zero,List.set_cons_succ,i64_w,i32_w]
            rfl
           refine pure_ (i:=5) (N:=some 76) (v:=?_) (a':=?_) #[true,true,true,true,true,true,false,false] rfl rfl (any_of HT_.out (by kernel_rfl)) (fun _ _ _ h=>h) (Or.inl ⟨by rfl,?_⟩) ?_ ?_
           rotate_left
           ·intro w'
            go_simp
            with_reducible rfl
           rotate_left
           ·simp only [Act.put,List.setIfInBounds_toArray,List.set_cons_zero,List.set_cons_succ,i64_w,i32_w]
            rfl
           refine pure_ (i:=6) (N:=some 77) (v:=?_) (a':=?_) #[true,true,true,true,true,true,true,false] rfl rfl (any_of HT_.out (by kernel_rfl)) (fun _ _ _ h=>h) (Or.inl ⟨by rfl,?_⟩) ?_ ?_
           rotate_left
           ·intro w'
            go_simp
            with_reducible rfl
           rotate_left
           ·simp only [Act.put,List.setIfInBounds_toArray,List.set_cons_zero,List.set_cons_succ,i64_w,i32_w]
            rfl
           refine last_ (i:=7) (N:=none) #[true,true,true,true,true,true,true,true] rfl rfl (one_of HT_.out (by kernel_rfl)) (by decide) (fun K hK=>?_)
           have hs69 : w68.cell? ⟨gb998,1,none⟩ = some (.int .i64 ((rd_T37 x10_29 t994).f1)):=(blk_cell BK998.out 1).trans rfl
           have hfs69:=blk_frozen BK998.out 1
           refine skip_ (w1:=?_) (by rfl) rfl ?_ ?_
           rotate_left
           ·go_simp
            rfl
           refine hK.out _ _ ?_
           clear hK K
           refine done_ (done_of HT_.out (by kernel_rfl)) ?_
           have n0_ : Aside0 (Kd.R k37 37 (w68.setCell ⟨gb998,1,none⟩ (.int .i64 (wrap64 (((rd_T37 x10_29 t994).f1) + t1008)))) w.heap.size (fun k_=>k_ ≠ gb998) (.slice (some ad997) x10_29.length co51) x10_29):=⟨by (with_reducible repeat (first|apply zA|apply zB|apply zC));exact Kd.R_mono (Kd.R_far (p:=⟨gb998,1,none⟩) (Kd.R_mono HO_10.out (fun k_ hk=>(⟨hk,hk⟩ : _ ∧ k_ ≠ gb998))) (fun _ hk=>hk.2) (.int .i64 (wrap64 (((rd_T37 x10_29 t994).f1) + t1008)))) (fun _ hk=>hk.1)⟩
           have n1_ : Aside0 (Kd.R (Kd.int .i64) 3 (w68.setCell ⟨gb998,1,none⟩ (.int .i64 (wrap64 (((rd_T37 x10_29 t994).f1) + t1008)))) w.heap.size (fun k_=>some k_ ≠ (.slice Ao67 y1005.length co67 : Value).ownBlock) (.slice Ao60 y999.length co60) y999):=⟨by (with_reducible repeat (first|apply zA|apply zB|apply zC));exact Kd.R_mono (Kd.R_far (p:=⟨gb998,1,none⟩) (Kd.R_types HO1001.out BK998.out (by decide)) (fun _ hk=>hk.2) (.int .i64 (wrap64 (((rd_T37 x10_29 t994).f1) + t1008)))) (fun _ hk=>hk.1.2)⟩
           have n2_ : Aside0 (Kd.R (Kd.int .i64) 3 (w68.setCell ⟨gb998,1,none⟩ (.int .i64 (wrap64 (((rd_T37 x10_29 t994).f1) + t1008)))) w.heap.size (fun k_=>some k_ ≠ (.slice Ao60 y999.length co60 : Value).ownBlock) (.slice Ao67 y1005.length co67) y1005):=⟨by (with_reducible repeat (first|apply zA|apply zB|apply zC));exact Kd.R_mono (Kd.R_far (p:=⟨gb998,1,none⟩) (Kd.R_types HO1007.out BK998.out (by decide)) (fun _ hk=>hk.2) (.int .i64 (wrap64 (((rd_T37 x10_29 t994).f1) + t1008)))) (fun _ hk=>hk.1.2)⟩
           have n3_ : Aside0 ((w68.setCell ⟨gb998,1,none⟩ (.int .i64 (wrap64 (((rd_T37 x10_29 t994).f1) + t1008)))).heap[gb998]? = some (.cells #[.int .i64 (wrap64 (((rd_T37 x10_29 t994).f0) + t1002)),.int .i64 (wrap64 (((rd_T37 x10_29 t994).f1) + t1008))] 37 (0,0))):=⟨by (with_reducible repeat (first|refine zJ ?_ _|refine zK ?_|refine zL ?_ _));refine blk_put (cs := #[.int .i64 (wrap64 (((rd_T37 x10_29 t994).f0) + t1002)),.int .i64 ((rd_T37 x10_29 t994).f1)]) ?_ 1 _ rfl;(with_reducible repeat (first|refine zJ ?_ _|refine zK ?_|refine zL ?_ _));exact BK998.out⟩
           have n4_ : Aside0 (IsS90 w0 (w68.setCell ⟨gb998,1,none⟩ (.int .i64 (wrap64 (((rd_T37 x10_29 t994).f1) + t1008)))) g s0_0 t1009 t1010):=⟨by repeat (first|(with_reducible first|exact HI0.out|apply IsS90.alloc|apply IsS90.drewN|apply IsS90.drew|apply IsS90.set_1|apply IsS90.set_2|apply IsS90.far (hne:=NB0_998.out))|exact HI0.out)⟩
           have n5_ : Aside0 (KeepBut w (w68.setCell ⟨gb998,1,none⟩ (.int .i64 (wrap64 (((rd_T37 x10_29 t994).f1) + t1008)))) g none):=⟨by repeat (first|(with_reducible first|exact HK.out|apply KeepBut.set_|apply keep_drewN|apply keep_drew|apply keep_alloc|refine keep_far ?_ GW998.out _)|exact HK.out)⟩
           have n6_ : Aside0 (Below w0.heap.size w0 (w68.setCell ⟨gb998,1,none⟩ (.int .i64 (wrap64 (((rd_T37 x10_29 t994).f1) + t1008))))):=⟨by repeat (first|(with_reducible first|exact HB.out|apply zD|apply zE|apply zF|refine below_set ?_ (IsS90.ge HI0.out)|refine below_set ?_ GE998.out)|exact HB.out)⟩
           (try clear HO_10)
           (try clear HO1001)
           (try clear HO1007)
           (try clear BK998)
           (try clear HI0)
           (try clear HK)
           (try clear HB)
           generalize (w68.setCell ⟨gb998,1,none⟩ (.int .i64 (wrap64 (((rd_T37 x10_29 t994).f1) + t1008)))) = w70 at n0_ n1_ n2_ n3_ n4_ n5_ n6_ ⊢
           have HO_10:=n0_
           have HO1001:=n1_
           have HO1007:=n2_
           have BK998:=n3_
           have HI0:=n4_
           have HK:=n5_
           have HB:=n6_
           clear n0_ n1_ n2_ n3_ n4_ n5_ n6_
           have hcz71_0 : w70.cell? ⟨gb998,0,none⟩ = some (.int .i64 (wrap64 (((rd_T37 x10_29 t994).f0) + t1002))):=(blk_cell BK998.out 0).trans rfl
           have hcz71_1 : w70.cell? ⟨gb998,1,none⟩ = some (.int .i64 (wrap64 (((rd_T37 x10_29 t994).f1) + t1008))):=(blk_cell BK998.out 1).trans rfl
           have hfz71_0:=blk_frozen BK998.out 0
           have hfz71_1:=blk_frozen BK998.out 1
           have p50 : 0 ≤ (t994 : Int):=of_decide_eq_true (by first|(with_reducible assumption)|assumption)
           have q50 : (t994 : Int) < ((x10_29.length : Int) : Int):=of_decide_eq_true (by first|(with_reducible assumption)|assumption)
           obtain ⟨go50,co50,eo50,gb50,gl50,cl50,HG50⟩:=Kd.R_form HO_10.out (by omega)
           (first|cases eo50|(injection eo50 with ea_ en_ ec_;(first|subst ea_|(injection ea_ with ea_;subst ea_));subst ec_;clear en_))
           have GB50:=zM gb50
           have GG50:=zM HG50
           clear gb50 gl50 HG50
           (first|simp only [add_plain] at hx997_0|skip)
           (first|simp only [add_plain] at hx997_1|skip)
           obtain ⟨ce50,hcl50,hM50,hcc50,hfr50⟩:=Kd.R_elem HO_10.out z37 (t994 : Int) p50 q50
           obtain rfl:=k37_openM hM50
           have hx50_0 : w70.cell? ⟨go50,(t994 : Int).toNat * 2,none⟩ = some (.int .i64 ((rd_T37 x10_29 t994).f0)):=hcc50 0 _ rfl
           have hx50_1 : w70.cell? ⟨go50,(t994 : Int).toNat * 2 + 1,none⟩ = some (.int .i64 ((rd_T37 x10_29 t994).f1)):=hcc50 1 _ rfl
           have hf50_0 : w70.frozen? ⟨go50,(t994 : Int).toNat * 2,none⟩ = false:=hfr50 0
           have hf50_1 : w70.frozen? ⟨go50,(t994 : Int).toNat * 2 + 1,none⟩ = false:=hfr50 1
           clear hcl50 hcc50 hfr50;(try clear hM50)
           replace p50:=eq_true p50
           replace q50:=eq_true q50
           have HX72:=zM (show Kd.R k37 37 w70 w.heap.size (fun k_=>k_ ≠ gb998) (.slice (some ⟨go50,0,none⟩) x10_29.length co51) x10_29 from (by (with_reducible repeat (first|apply zA|apply zB|apply zC));exact HO_10.out))
           obtain ⟨ce72,hcl72,hM72,hcc72,hfr72⟩:=Kd.R_elem HX72.out z37 (t994 : Int) (of_decide_eq_true (by first|(with_reducible assumption)|assumption)) (by have h_ : (t994 : Int) < ((x10_29.length : Int) : Int):=of_decide_eq_true (by first|(with_reducible assumption)|assumption);first|exact h_|(have e_:=(zN HO_10.out).1;omega)|simpa using h_)
           obtain rfl:=k37_openM hM72
           have HP72:=Kd.R_seg HX72.out (t994 : Int) (of_decide_eq_true (by first|(with_reducible assumption)|assumption)) (by have h_ : (t994 : Int) < ((x10_29.length : Int) : Int):=of_decide_eq_true (by first|(with_reducible assumption)|assumption);first|exact h_|(have e_:=(zN HO_10.out).1;omega)|simpa using h_) (seg:=[.int .i64 (wrap64 (((rd_T37 x10_29 t994).f0) + t1002)),.int .i64 (wrap64 (((rd_T37 x10_29 t994).f1) + t1008))]) (j:=0) hcl72 hcc72 (show 2 ≤ 2 from by decide) (x':=(⟨wrap64 (((rd_T37 x10_29 t994).f0) + t1002),wrap64 (((rd_T37 x10_29 t994).f1) + t1008)⟩ : S37)) (k37_mkM _ _ _ (⟨wrap64 (((rd_T37 x10_29 t994).f0) + t1002),wrap64 (((rd_T37 x10_29 t994).f1) + t1008)⟩ : S37) ) (fun _ hk=>hk)
           have hx72_0:=hcc72 0 _ rfl
           (try simp only [show (k37).sz = 2 from rfl,Nat.mul_one,Nat.add_zero] at hx72_0)
           have hf72_0:=hfr72 0
           (try simp only [show (k37).sz = 2 from rfl,Nat.mul_one,Nat.add_zero] at hf72_0)
           have hx72_1:=hcc72 1 _ rfl
           (try simp only [show (k37).sz = 2 from rfl,Nat.mul_one,Nat.add_zero] at hx72_1)
           have hf72_1:=hfr72 1
           (try simp only [show (k37).sz = 2 from rfl,Nat.mul_one,Nat.add_zero] at hf72_1)
           clear hcl72 hcc72 hfr72;(try clear hM72)
           try go_wp2_with (first|((with_reducible refine gate_store (t:=37) (p:=81) rfl ?_);refine store_event (t:=37) (p:=81) (v:=?vo_w73) (w1:=((w70.setCell ⟨go50,(t994 : Int).toNat * 2,none⟩ (.int .i64 (wrap64 (((rd_T37 x10_29 t994).f0) + t1002)))).setCell ⟨go50,(t994 : Int).toNat * 2 + 1,none⟩ (.int .i64 (wrap64 (((rd_T37 x10_29 t994).f1) + t1008))))) ?hg ?ho ?hn ?hr ?_;(case ho=>rfl);(case hg=>rfl);(case hn=>rfl);(case hr=>first|(go_simp;done)|(go_simp;rfl));intro w73 hw;have hg : w70.grownBy w73 (some go50):=(by rw [hw];exact HP72.2);have hp_ : Kd.R k37 37 w73 w.heap.size (fun k_=>k_ ≠ gb998) (.slice (some ⟨go50,0,none⟩) x10_29.length co51) y1011:=(by rw [hw,Ny1011.out];exact HP72.1);clear HP72;have n0_:=zM (hp_);have n1_:=zM (IsS90.grown (by repeat (first|(with_reducible first|exact HI0.out|apply IsS90.alloc|apply IsS90.drewN|apply IsS90.drew|apply IsS90.set_1|apply IsS90.set_2|apply IsS90.far (hne:=NB0_998.out))|exact HI0.out)) hg (IsS90.own_ne HI0.out HO_10.out (by decide)));have n2_:=zM (blk_grown (g:=gb998) (o := .cells #[.int .i64 (wrap64 (((rd_T37 x10_29 t994).f0) + t1002)),.int .i64 (wrap64 (((rd_T37 x10_29 t994).f1) + t1008))] 37 (0,0)) (by (with_reducible repeat (first|refine zJ ?_ _|refine zK ?_|refine zL ?_ _));exact BK998.out) hg (Kd.R_away HO_10.out (fun _ hk=>hk)));have n3_:=zM (Kd.R_over' (v:=(.slice (some ⟨go50,0,none⟩) x10_29.length co51)) (by (with_reducible repeat (first|apply zA|apply zB|apply zC));exact HO1001.out) (Kd.R_typed HO_10.out) (by decide) hg);have n4_:=zM (Kd.R_over' (v:=(.slice (some ⟨go50,0,none⟩) x10_29.length co51)) (by (with_reducible repeat (first|apply zA|apply zB|apply zC));exact HO1007.out) (Kd.R_typed HO_10.out) (by decide) hg);have n5_:=zM ((by rw [hw];exact below_set (below_set (HB.out) (Nat.le_trans HL.out GB50.out)) (Nat.le_trans HL.out GB50.out) : Below w0.heap.size w0 w73));have n6_:=zM (KeepBut.trans (by repeat (first|(with_reducible first|exact HK.out|apply KeepBut.set_|apply keep_drewN|apply keep_drew|apply keep_alloc|refine keep_far ?_ GW998.out _)|exact HK.out)) (KeepBut.of_grown hg g) (Kd.R_base2 HO_10.out));clear HO_10;clear HI0;clear BK998;clear HO1001;clear HO1007;clear HB;clear HK;have HO_10:=n0_;have HI0:=n1_;have BK998:=n2_;have HO1001:=n3_;have HO1007:=n4_;have HB:=n5_;have HK:=n6_;clear n0_ n1_ n2_ n3_ n4_ n5_ n6_;clear hg hw hp_))
           go_ret
           exact ⟨_,by first|rfl|(simp [errW_none,errW_some] <;> rfl)|(simp [*,errW_none,errW_some] <;> rfl),by (with_reducible repeat (first|apply zA|apply zB|apply zC));exact Kd.R_mono HO_10.out (fun _ hk=>trivial),by repeat (first|(with_reducible first|exact HI0.out|apply IsS90.alloc|apply IsS90.drewN|apply IsS90.drew|apply IsS90.set_1|apply IsS90.set_2|apply IsS90.far (hne:=NB0_998.out))|exact HI0.out),by repeat (first|(with_reducible first|exact HB.out|apply zD|apply zE|apply zF|refine below_set ?_ (IsS90.ge HI0.out)|refine below_set ?_ GE998.out)|exact HB.out),by repeat (first|(with_reducible first|exact HK.out|apply KeepBut.set_|apply keep_drewN|apply keep_drew|apply keep_alloc|refine keep_far ?_ GW998.out _)|exact HK.out)⟩
          ·rw [if_neg c47] at H
           exact absurd H (by simp)
         ·rw [if_neg c46] at H
          exact absurd H (by simp)
        ·replace c44:=Bool.eq_false_iff.mpr c44
         subst c44
         have H1 : (some (x10_29,x1001_37,x1002_37)) = some (r1,r2,r3):=by rw [if_neg (show ¬ (false = true) by decide)] at H;exact H
         clear H
         have H:=H1
         clear H1
         simp only [Option.some.injEq,Prod.mk.injEq] at H
         obtain ⟨rfl,rfl,rfl⟩:=H
         go_wp2
         go_ret
         exact ⟨_,by first|rfl|(simp [errW_none,errW_some] <;> rfl)|(simp [*,errW_none,errW_some] <;> rfl),by (with_reducible repeat (first|apply zA|apply zB|apply zC));exact HO_10.out,by repeat (first|(with_reducible first|exact HI0.out|apply IsS90.alloc|apply IsS90.drewN|apply IsS90.drew|apply IsS90.set_1|apply IsS90.set_2)|exact HI0.out),by repeat (first|(with_reducible first|exact HB.out|apply zD|apply zE|apply zF|refine below_set ?_ (IsS90.ge HI0.out))|exact HB.out),by repeat (first|(with_reducible first|exact HK.out|apply KeepBut.set_|apply keep_drewN|apply keep_drew|apply keep_alloc)|exact HK.out)⟩

end Go.Proofs.Ytcciljjnpfgaeaa.G

-- Written by wip/tools/gen.py out of the translation (the kit's printer, one namespace a seat). Lean checks it.
namespace Go.Proofs.Ytcciljjnpfgaeaa.G
open Go.RowKit Go.Proofs.YtcciljjnpfgaeaaW.PrintWords Go.Proofs.YtcciljjnpfgaeaaW.PrintLast Go.Proofs.YtcciljjnpfgaeaaW.PrintMore
attribute [local go_sem] max2_int min2_int max_two min_two max_three min_three max_four min_four   -- for this text's walks alone
set_option linter.unusedVariables false
set_option linter.unusedSimpArgs false

/-! ### spec_DrawQuayUse: function 47 -/
def spec_DrawQuayUse.f (k : Nat) (l0 : List Int) : Option (Int × (List (S62)) × (List (S37)) × Int):=(spec_l1Cur_ships.f k l0 0 0).bind fun bt1013=>((spec_l1Cur_berths.f k l0 bt1013.2.2.1 bt1013.2.2.2 bt1013.1 bt1013.2.1).bind fun bt1019=>((spec_l1Cur_among.f l0 bt1019.2.1 bt1019.2.2 (([5,10,15,0,1100,1101,(-1),8] : List Int))).bind fun bt1027=>(some (bt1013.1,bt1013.2.1,bt1019.1,bt1027.1))))
set_option maxHeartbeats 8000000 in
set_option maxRecDepth 100000 in
theorem spec_DrawQuayUse.calls (k : Nat) (A0 : Option Addr) (c0 : Nat) (l0 : List Int) (r1 : Int) (r2 : List (S62)) (r3 : List (S37)) (r4 : Int) (w : World) (hr0 : Kd.C (Kd.int .u8) w A0 l0.length l0) (hc0 : l0.length ≤ c0) (h : spec_DrawQuayUse.f k l0 = some (r1,r2,r3,r4)) :
  Calls Try.prog 47 #[.slice A0 l0.length c0] w fun e w' => ∃ v1_ v2_ : Value,e = .returned (.tuple #[.int .i64 r1,v1_,v2_,.int .i64 r4]) ∧ Kd.R k62 62 w' w.heap.size (fun _=>True) v1_ r2 ∧ Kd.R k37 37 w' w.heap.size (fun _=>True) v2_ r3 ∧ Below w.heap.size w w':=by
 have hu90:=Try.underlying90
 have HR0:=zM hr0
 have HC0:=zM hc0
 clear hr0 hc0
 have HB:=zM (Below.refl w.heap.size w)
 have H : ((spec_l1Cur_ships.f k l0 0 0).bind fun bt1013=>((spec_l1Cur_berths.f k l0 bt1013.2.2.1 bt1013.2.2.2 bt1013.1 bt1013.2.1).bind fun bt1019=>((spec_l1Cur_among.f l0 bt1019.2.1 bt1019.2.2 (([5,10,15,0,1100,1101,(-1),8] : List Int))).bind fun bt1027=>(some (bt1013.1,bt1013.2.1,bt1019.1,bt1027.1))))) = some (r1,r2,r3,r4):=h
 clear h
 replace H:=Option.bind_eq_some_iff.mp H
 obtain ⟨⟨t1013,t1014,t1017,t1018⟩,A20,H⟩:=H
 replace H : ((spec_l1Cur_berths.f k l0 t1017 t1018 t1013 t1014).bind fun bt1019=>((spec_l1Cur_among.f l0 bt1019.2.1 bt1019.2.2 (([5,10,15,0,1100,1101,(-1),8] : List Int))).bind fun bt1027=>(some (t1013,t1014,bt1019.1,bt1027.1)))) = some (r1,r2,r3,r4):=H
 have A2:=zM A20
 clear A20
 replace H:=Option.bind_eq_some_iff.mp H
 obtain ⟨⟨t1019,t1022,t1023⟩,A30,H⟩:=H
 replace H : ((spec_l1Cur_among.f l0 t1022 t1023 (([5,10,15,0,1100,1101,(-1),8] : List Int))).bind fun bt1027=>(some (t1013,t1014,t1019,bt1027.1))) = some (r1,r2,r3,r4):=H
 have A3:=zM A30
 clear A30
 obtain ⟨y1024,hy1024⟩ : ∃ y_ : List Int,y_ = (([5,10,15,0,1100,1101,(-1),8] : List Int)):=⟨_,rfl⟩
 replace H : ((spec_l1Cur_among.f l0 t1022 t1023 y1024).bind fun bt1027=>(some (t1013,t1014,t1019,bt1027.1))) = some (r1,r2,r3,r4):=by first|(rw [hy1024];with_reducible exact H)|(have H2_:=(Option.bind_some _ _).symm.trans H;rw [hy1024];with_reducible exact H2_)|(have H2_:=(Option.bind_some _ _).symm.trans H;with_reducible exact H2_)|with_reducible exact H|(rw [hy1024];exact H)|exact H
 have Ny1024:=zM hy1024
 clear hy1024
 replace H:=Option.bind_eq_some_iff.mp H
 obtain ⟨⟨t1027,t1028,t1029⟩,A40,H⟩:=H
 replace H : (some (t1013,t1014,t1019,t1027)) = some (r1,r2,r3,r4):=H
 have A4:=zM A40
 clear A40
 simp only [Option.some.injEq,Prod.mk.injEq] at H
 obtain ⟨rfl,rfl,rfl,rfl⟩:=H
 go_enter Try.func47,Try.ntmps47
 go_wp2_with (first|((with_reducible refine gate_dst (N:=11) rfl ?_);refine box_event ?hg (N:=11) ?hd (cs := #[.slice A0 l0.length c0,.int .i64 0,.int .u64 0]) (t:=90) ?hr ?_;(case hd=>rfl);(case hg=>rfl);(case hr=>first|(go_simp;done)|(go_simp;rfl));intro gb1012 hg w5 hbox hb;have n0_:=zM (zQ (by repeat (first|(with_reducible first|exact HB.out|apply zD|apply zE|apply zF)|exact HB.out)) hb);have n1_:=zM ((by rw [hg];exact (zR (by repeat (first|(with_reducible first|exact HB.out|apply zD|apply zE|apply zF)|exact HB.out))) : w.heap.size ≤ gb1012));have n2_:=zM ((by rw [hg];exact (zR (by repeat (first|(with_reducible first|exact HB.out|apply zD|apply zE|apply zF)|exact HB.out))) : w.heap.size ≤ gb1012));have n3_:=zM ((show IsS90 w w5 gb1012 l0 0 0 from ⟨_,_,hbox,(by rw [hg];exact (zR (by repeat (first|(with_reducible first|exact HB.out|apply zD|apply zE|apply zF)|exact HB.out))) : w.heap.size ≤ gb1012),HR0.out⟩));clear HB;have HB:=n0_;have GW1012:=n1_;have GE1012:=n2_;have HI1012:=n3_;clear n0_ n1_ n2_ n3_;clear hb hbox hg)|((with_reducible refine gate_callee (f:=73) rfl ?_);refine goesL_ (some 14) rfl rfl Try.func73 (by kernel_rfl) rfl #[.pointer (some ⟨gb1012,0,none⟩)] rfl (by (try simp only [List.map_toArray,List.map_cons,List.map_nil]);first|done|rfl|(simp only [List.length_drop,List.length_take];rfl)) ?_;(with_reducible refine (spec_l1Cur_ships.calls k gb1012 l0 0 0 t1013 t1014 t1017 t1018 w _ ?side1 ?side2 A2.out).mono ?_);(case side1=>repeat (first|(with_reducible first|exact HI1012.out|apply IsS90.alloc|apply IsS90.drewN|apply IsS90.drew|apply IsS90.set_1|apply IsS90.set_2)|exact HI1012.out));(case side2=>repeat (first|(with_reducible first|exact HB.out|apply zD|apply zE|apply zF|refine below_set ?_ (IsS90.ge HI1012.out))|exact HB.out));rintro e w6 ⟨v1015,rfl,ho0,hi,hb,hk⟩;refine ⟨_,rfl,?_⟩;have n0_:=zM (Kd.R_lower ho0 (zR (by repeat (first|(with_reducible first|exact HB.out|apply zD|apply zE|apply zF|refine below_set ?_ (IsS90.ge HI1012.out))|exact HB.out))));have n1_:=zM (hb);have n2_:=zM (hi);clear HB;clear HI1012;have HO1016:=n0_;have HB:=n1_;have HI1012:=n2_;clear n0_ n1_ n2_;(try clear hb);(try clear hb2);(try clear hk);(try clear hi);(try clear ho0);obtain ⟨Ao7,co7,eo7⟩:=Kd.R_slice HO1016.out;subst eo7)|((with_reducible refine gate_callee (f:=76) rfl ?_);refine goesL_ (some 22) rfl rfl Try.func76 (by kernel_rfl) rfl #[.pointer (some ⟨gb1012,0,none⟩),.int .i64 t1013,.slice Ao7 t1014.length co7] rfl (by (try simp only [List.map_toArray,List.map_cons,List.map_nil]);first|done|rfl|(simp only [List.length_drop,List.length_take];rfl)) ?_;(with_reducible refine (spec_l1Cur_berths.calls k gb1012 l0 t1017 t1018 t1013 _ _ t1014 t1019 t1022 t1023 w _ ?side1 ?side2 ?side3 ?side4 A3.out).mono ?_);(case side1=>repeat (first|(with_reducible first|exact HI1012.out|apply IsS90.alloc|apply IsS90.drewN|apply IsS90.drew|apply IsS90.set_1|apply IsS90.set_2)|exact HI1012.out));(case side2=>repeat (first|(with_reducible first|exact HB.out|apply zD|apply zE|apply zF|refine below_set ?_ (IsS90.ge HI1012.out))|exact HB.out));(case side3=>exact Kd.C_foot_own (IsS90.apart (show IsS90 w _ gb1012 l0 t1017 t1018 from by repeat (first|(with_reducible first|exact HI1012.out|apply IsS90.alloc|apply IsS90.drewN|apply IsS90.drew|apply IsS90.set_1|apply IsS90.set_2)|exact HI1012.out)) (by (with_reducible repeat (first|apply zA|apply zB|apply zC));exact HO1016.out) (by decide)) (fun _ h_=>h_.2));(case side4=>exact (zN HO1016.out).2.1);rintro e w8 ⟨v1020,rfl,ho0,hi,hb,hk⟩;refine ⟨_,rfl,?_⟩;have n0_:=zM (Kd.R_mono (Kd.R_keep (IsS90.apart (show IsS90 w _ gb1012 l0 t1017 t1018 from by repeat (first|(with_reducible first|exact HI1012.out|apply IsS90.alloc|apply IsS90.drewN|apply IsS90.drew|apply IsS90.set_1|apply IsS90.set_2)|exact HI1012.out)) (by (with_reducible repeat (first|apply zA|apply zB|apply zC));exact HO1016.out) (by decide)) hk (fun _ h=>h.2)) (fun _ h=>h.1));have n1_:=zM (Kd.R_lower ho0 (zR (by repeat (first|(with_reducible first|exact HB.out|apply zD|apply zE|apply zF|refine below_set ?_ (IsS90.ge HI1012.out))|exact HB.out))));have n2_:=zM (hb);have n3_:=zM (hi);clear HO1016;clear HB;clear HI1012;have HO1016:=n0_;have HO1021:=n1_;have HB:=n2_;have HI1012:=n3_;clear n0_ n1_ n2_ n3_;(try clear hb);(try clear hb2);(try clear hk);(try clear hi);(try clear ho0))|((with_reducible refine gate_dst (N:=24) rfl ?_);refine Kd.R_lit (Kd.int .i64) _ 3 ?hg (N:=24) ?hd (xs:=([5,10,15,0,1100,1101,(-1),8] : List Int)) (inner:=[.int .i64 5,.int .i64 10,.int .i64 15,.int .i64 0,.int .i64 1100,.int .i64 1101,.int .i64 (-1),.int .i64 8]) (ok:=fun _=>True) (okp:=fun _=>True) ?hr ?hp (fun _ hk=>hk) trivial (Below.refl _ _) (Nat.le_refl _) (by simp) ?_;(case hd=>rfl);(case hg=>rfl);(case hr=>first|(go_simp;done)|(go_simp;rfl));(case hp=>exact (Reps.one (show Kd.M (Kd.int .i64) _ _ _ 5 [.int .i64 5] from rfl) (Reps.one (show Kd.M (Kd.int .i64) _ _ _ 10 [.int .i64 10] from rfl) (Reps.one (show Kd.M (Kd.int .i64) _ _ _ 15 [.int .i64 15] from rfl) (Reps.one (show Kd.M (Kd.int .i64) _ _ _ 0 [.int .i64 0] from rfl) (Reps.one (show Kd.M (Kd.int .i64) _ _ _ 1100 [.int .i64 1100] from rfl) (Reps.one (show Kd.M (Kd.int .i64) _ _ _ 1101 [.int .i64 1101] from rfl) (Reps.one (show Kd.M (Kd.int .i64) _ _ _ (-1) [.int .i64 (-1)] from rfl) (Reps.one (show Kd.M (Kd.int .i64) _ _ _ 8 [.int .i64 8] from rfl) (Reps.none _ _))))))))));intro v1025 w9 ho10 hb hg_ hnew_;clear hg_ hnew_;(first|rw [← Ny1024.out] at ho10|(simp only [Int.reduceToNat] at ho10;rw [← Ny1024.out] at ho10));have n0_:=zM (zP (by (with_reducible repeat (first|apply zA|apply zB|apply zC));exact HO1016.out) hb);have n1_:=zM (zP (by (with_reducible repeat (first|apply zA|apply zB|apply zC));exact HO1021.out) hb);have n2_:=zM (Kd.R_lower ho10 (zR (by repeat (first|(with_reducible first|exact HB.out|apply zD|apply zE|apply zF|refine below_set ?_ (IsS90.ge HI1012.out))|exact HB.out))));have n3_:=zM (IsS90.below (by repeat (first|(with_reducible first|exact HI1012.out|apply IsS90.alloc|apply IsS90.drewN|apply IsS90.drew|apply IsS90.set_1|apply IsS90.set_2)|exact HI1012.out)) hb);have n4_:=zM (zQ (by repeat (first|(with_reducible first|exact HB.out|apply zD|apply zE|apply zF|refine below_set ?_ (IsS90.ge HI1012.out))|exact HB.out)) hb);clear HO1016;clear HO1021;clear HI1012;clear HB;have HO1016:=n0_;have HO1021:=n1_;have HO1026:=n2_;have HI1012:=n3_;have HB:=n4_;clear n0_ n1_ n2_ n3_ n4_;clear hb ho10;obtain ⟨Ao11,co11,eo11⟩:=Kd.R_slice HO1026.out;subst eo11)|((with_reducible refine gate_callee (f:=77) rfl ?_);refine goesL_ (some 25) rfl rfl Try.func77 (by kernel_rfl) rfl #[.pointer (some ⟨gb1012,0,none⟩),.slice Ao11 y1024.length co11] rfl (by (try simp only [List.map_toArray,List.map_cons,List.map_nil]);first|done|rfl|(simp only [List.length_drop,List.length_take];rfl)) ?_;(with_reducible refine (spec_l1Cur_among.calls gb1012 l0 t1022 t1023 _ _ y1024 t1027 t1028 t1029 w _ ?side1 ?side2 ?side3 ?side4 ?side5 A4.out).mono ?_);(case side1=>repeat (first|(with_reducible first|exact HI1012.out|apply IsS90.alloc|apply IsS90.drewN|apply IsS90.drew|apply IsS90.set_1|apply IsS90.set_2)|exact HI1012.out));(case side2=>repeat (first|(with_reducible first|exact HB.out|apply zD|apply zE|apply zF|refine below_set ?_ (IsS90.ge HI1012.out))|exact HB.out));(case side3=>repeat (first|exact (zN HO1026.out).2.2|(with_reducible refine zG ?_ _)|(with_reducible refine zH ?_ _)|(with_reducible refine zI ?_)));(case side4=>exact (zN HO1026.out).2.1);(case side5=>exact far_slice (IsS90.own_ne HI1012.out HO1026.out (by decide)));rintro e w12 ⟨rfl,hi,hb,hk⟩;refine ⟨_,rfl,?_⟩;have n0_:=zM (Kd.R_mono (Kd.R_keep (IsS90.apart (show IsS90 w _ gb1012 l0 t1022 t1023 from by repeat (first|(with_reducible first|exact HI1012.out|apply IsS90.alloc|apply IsS90.drewN|apply IsS90.drew|apply IsS90.set_1|apply IsS90.set_2)|exact HI1012.out)) (by (with_reducible repeat (first|apply zA|apply zB|apply zC));exact HO1016.out) (by decide)) hk (fun _ h=>h.2)) (fun _ h=>h.1));have n1_:=zM (Kd.R_mono (Kd.R_keep (IsS90.apart (show IsS90 w _ gb1012 l0 t1022 t1023 from by repeat (first|(with_reducible first|exact HI1012.out|apply IsS90.alloc|apply IsS90.drewN|apply IsS90.drew|apply IsS90.set_1|apply IsS90.set_2)|exact HI1012.out)) (by (with_reducible repeat (first|apply zA|apply zB|apply zC));exact HO1021.out) (by decide)) hk (fun _ h=>h.2)) (fun _ h=>h.1));have n2_:=zM (Kd.R_mono (Kd.R_keep (IsS90.apart (show IsS90 w _ gb1012 l0 t1022 t1023 from by repeat (first|(with_reducible first|exact HI1012.out|apply IsS90.alloc|apply IsS90.drewN|apply IsS90.drew|apply IsS90.set_1|apply IsS90.set_2)|exact HI1012.out)) (by (with_reducible repeat (first|apply zA|apply zB|apply zC));exact HO1026.out) (by decide)) hk (fun _ h=>h.2)) (fun _ h=>h.1));have n3_:=zM (hb);have n4_:=zM (hi);clear HO1016;clear HO1021;clear HO1026;clear HB;clear HI1012;have HO1016:=n0_;have HO1021:=n1_;have HO1026:=n2_;have HB:=n3_;have HI1012:=n4_;clear n0_ n1_ n2_ n3_ n4_;(try clear hb);(try clear hb2);(try clear hk);(try clear hi)))
 refine bodyPost_ret (results_list (rs:=[.tmp 2,.tmp 3,.tmp 4,.tmp 5]) rfl (by simp) (.tmp (.tmp (.tmp (.tmp .nil))))) rfl ?_
 exact ⟨_,_,by first|rfl|(simp [errW_none,errW_some] <;> rfl)|(simp [*,errW_none,errW_some] <;> rfl),by (with_reducible repeat (first|apply zA|apply zB|apply zC));exact HO1016.out,by (with_reducible repeat (first|apply zA|apply zB|apply zC));exact HO1021.out,by repeat (first|(with_reducible first|exact HB.out|apply zD|apply zE|apply zF|refine below_set ?_ (IsS90.ge HI1012.out))|exact HB.out)⟩

end Go.Proofs.Ytcciljjnpfgaeaa.G

namespace Go.Proofs.Ytcciljjnpfgaeaa.G
open Go.RowKit Go.Proofs.YtcciljjnpfgaeaaW.PrintWords Go.Proofs.YtcciljjnpfgaeaaW.PrintLast
set_option linter.unusedVariables false
set_option linter.unusedSimpArgs false
/-! Plain laws on printed functions: what holds from some number of rounds on, case by case and loop by loop. -/
theorem Ev.ite {α : Type} {c : Prop} [Decidable c] {A B : Nat → Option α} {r : α} (h1 : c → Ev A r) (h2 : ¬ c → Ev B r) : Ev (fun k=>if c then A k else B k) r:=by
  by_cases h : c
  · simpa only [if_pos h] using h1 h
  · simpa only [if_neg h] using h2 h
theorem Ev.val {α : Type} {v r : α} (h : v = r) : Ev (fun _=>some v) r:=by rw [h];exact Ev.now r
theorem Ev.eq {α : Type} {g : Nat → Option α} {r r' : α} (h : Ev g r) (e : r = r') : Ev g r':=e ▸ h
theorem Ev.same {α : Type} {g : Nat → Option α} {r r' : α} (h : Ev g r) (h' : Ev g r') : r = r':=by
  obtain ⟨K,h⟩:=h
  obtain ⟨K',h'⟩:=h'
  have h1:=h (max K K') (by omega)
  rw [h' (max K K') (by omega)] at h1
  exact (Option.some.inj h1).symm
theorem wrap64_id {x : Int} (h1 : -9223372036854775808 ≤ x) (h2 : x ≤ 9223372036854775807) : wrap64 x = x:=IntWalk.wrap64_in x ⟨h1,h2⟩
/-- What holds of all indices from i up to, and without, n. -/
def All (P : Int → Prop) (i n : Int) : Prop := ∀ j,i ≤ j → j < n → P j
theorem All.end_ (P : Int → Prop) (n : Int) : All P n n:=fun j h1 h2=>by omega
theorem All.step {P : Int → Prop} {i n : Int} (h : i < n) : All P i n ↔ P i ∧ All P (i + 1) n:=by
  constructor
  · intro a
    exact ⟨a i (Int.le_refl _) h,fun j h1 h2=>a j (by omega) h2⟩
  · rintro ⟨p,a⟩ j h1 h2
    by_cases e : j = i
    · rw [e];exact p
    · exact a j (by omega) h2
/-- One of two values, by a statement. -/
noncomputable def chk {β : Type} (p : Prop) (a b : β) : β := @ite β p (Classical.propDecidable p) a b
theorem chk_pos {β : Type} {p : Prop} (h : p) (a b : β) : chk p a b = a:=by unfold chk;exact if_pos h
theorem chk_neg {β : Type} {p : Prop} (h : ¬ p) (a b : β) : chk p a b = b:=by unfold chk;exact if_neg h
theorem chk_congr {β : Type} {p q : Prop} (h : p ↔ q) (a b : β) : chk p a b = chk q a b:=by rw [propext h]
theorem chk_true {p : Prop} : chk p true false = true ↔ p:=by
  by_cases h : p
  · rw [chk_pos h];exact ⟨fun _=>h,fun _=>rfl⟩
  · rw [chk_neg h];exact ⟨(fun e=>by cases e),(fun e=>absurd e h)⟩
theorem chk_and {β : Type} {p q : Prop} (a b : β) : chk p (chk q a b) b = chk (p ∧ q) a b:=by
  by_cases h : p
  · rw [chk_pos h]
    exact chk_congr ⟨fun x=>⟨h,x⟩,fun x=>x.2⟩ _ _
  · rw [chk_neg h,chk_neg (fun x=>h x.1)]
/-- A loop that goes up, any state. -/
theorem Ev.up {σ β : Type} (g : Nat → σ → Int → Option β) (R : σ → Int → β) (I : σ → Int → Prop) (n : Int)
    (hend : ∀ s,I s n → Ev (fun k=>g k s n) (R s n))
    (hstep : ∀ s i,I s i → i < n → (∀ s',I s' (i + 1) → Ev (fun k=>g k s' (i + 1)) (R s' (i + 1))) → Ev (fun k=>g k s i) (R s i)) :
    ∀ s i,I s i → i ≤ n → Ev (fun k=>g k s i) (R s i):=by
  have main : ∀ (d : Nat) s i,I s i → i + d = n → Ev (fun k=>g k s i) (R s i):=by
    intro d
    induction d with
    | zero =>
      intro s i hI hd
      obtain rfl : i = n:=by omega
      exact hend s hI
    | succ d ih=>intro s i hI hd;exact hstep s i hI (by omega) (fun s' hI'=>ih s' (i + 1) hI' (by omega))
  intro s i hI hi
  exact main (n - i).toNat s i hI (by omega)
/-- A loop that tests each index. -/
theorem Ev.check {β : Type} (g : Nat → Int → Option β) (n : Int) (P : Int → Prop) (r0 r1 : β) (i0 : Int)
    (hend : Ev (fun k=>g k n) r0)
    (hstep : ∀ i,i0 ≤ i → i < n → ∀ r,Ev (fun k=>g k (i + 1)) r → Ev (fun k=>g k i) (chk (P i) r r1)) :
    ∀ i,i0 ≤ i → i ≤ n → Ev (fun k=>g k i) (chk (All P i n) r0 r1):=by
  intro i h0 hi
  refine Ev.up (fun k (_ : Unit) i=>g k i) (fun _ i=>chk (All P i n) r0 r1) (fun _ i=>i0 ≤ i) n (fun _ _=>?_) (fun _ i h0 hlt ih=>?_) () i h0 hi
  · rw [chk_pos (All.end_ P n)];exact hend
  · have:=hstep i h0 hlt _ (ih () (by omega))
    rw [chk_and,chk_congr (All.step hlt).symm] at this
    exact this
theorem Ev.upc {β : Type} (g : Nat → Int → Option β) (r : β) (n i0 : Int) (hend : Ev (fun k=>g k n) r) (hstep : ∀ i,i0 ≤ i → i < n → Ev (fun k=>g k (i + 1)) r → Ev (fun k=>g k i) r) :
    ∀ i,i0 ≤ i → i ≤ n → Ev (fun k=>g k i) r:=by
  intro i h0 hi
  exact Ev.up (fun k (_ : Unit) i=>g k i) (fun _ _=>r) (fun _ i=>i0 ≤ i) n (fun _ _=>hend) (fun _ i h0 hlt ih=>hstep i h0 hlt (ih () (by omega))) () i h0 hi
end Go.Proofs.Ytcciljjnpfgaeaa.G

/- The contract of DrawNextBerth: what is drawn, and the row cut for the berths. -/
namespace Go.Proofs.Ytcciljjnpfgaeaa.G
open Go.RowKit Go.Proofs.YtcciljjnpfgaeaaW.PrintWords Go.Proofs.YtcciljjnpfgaeaaW.PrintLast Go.Proofs.YtcciljjnpfgaeaaW.PrintMore
set_option linter.unusedVariables false
set_option linter.unusedSimpArgs false
def spec_DrawNextBerth.f (k : Nat) (l0 : List Int) : Option (Int × (List (S62)) × (List (S37))):=(spec_l1Cur_ships.f k l0 0 0).bind fun bt=>((spec_l1Cur_pick.f l0 bt.2.2.1 bt.2.2.2 (wrap64 ((bt.2.1.length : Int) + 1))).bind fun p=>(if 0 ≤ p.1 then (if p.1 ≤ (bt.2.1.length : Int) then ((spec_l1Cur_berths.f k l0 p.2.1 p.2.2 bt.1 (bt.2.1.take p.1.toNat)).bind fun b=>(some (bt.1,bt.2.1,b.1))) else (none)) else (none)))
theorem spec_DrawNextBerth.mono : ∀ a0 k,LeO (spec_DrawNextBerth.f k a0) (spec_DrawNextBerth.f (k + 1) a0):=by
  intro a0 k r h
  unfold spec_DrawNextBerth.f at h ⊢
  obtain ⟨a,e1,h⟩:=Option.bind_eq_some_iff.mp h
  obtain ⟨p,e2,h⟩:=Option.bind_eq_some_iff.mp h
  rw [spec_l1Cur_ships.mono _ _ _ _ _ e1,Option.bind_some,e2,Option.bind_some]
  by_cases g1 : 0 ≤ p.1
  · rw [if_pos g1] at h ⊢
    by_cases g2 : p.1 ≤ (a.2.1.length : Int)
    · rw [if_pos g2] at h ⊢
      obtain ⟨b,e3,h⟩:=Option.bind_eq_some_iff.mp h
      rw [spec_l1Cur_berths.mono _ _ _ _ _ _ _ e3,Option.bind_some]
      exact h
    · rw [if_neg g2] at h;cases h
  · rw [if_neg g1] at h;cases h
set_option maxHeartbeats 4000000 in
set_option maxRecDepth 100000 in
theorem spec_DrawNextBerth.calls (k : Nat) (A0 : Option Addr) (c0 : Nat) (l0 : List Int) (r1 : Int) (r2 : List (S62)) (r3 : List (S37)) (w : World) (hr0 : Kd.C (Kd.int .u8) w A0 l0.length l0) (hc0 : l0.length ≤ c0) (h : spec_DrawNextBerth.f k l0 = some (r1,r2,r3)) :
    Calls Try.prog 48 #[.slice A0 l0.length c0] w fun e w' => ∃ v1_ v2_ : Value,e = .returned (.tuple #[.int .i64 r1,v1_,v2_]) ∧ Kd.R k62 62 w' w.heap.size (fun _=>True) v1_ r2 ∧ Kd.R k37 37 w' w.heap.size (fun _=>True) v2_ r3 ∧ Below w.heap.size w w':=by
  have hu90:=Try.underlying90
  have HR0:=Aside0.mk hr0
  have HC0:=Aside0.mk hc0
  clear hr0 hc0
  have HB:=Aside0.mk (Below.refl w.heap.size w)
  unfold spec_DrawNextBerth.f at h
  obtain ⟨⟨t929,t930,t933,t934⟩,A20,h⟩:=Option.bind_eq_some_iff.mp h
  obtain ⟨⟨x1,p1,p2⟩,A50,h⟩:=Option.bind_eq_some_iff.mp h
  dsimp only at A50 h
  have A2:=Aside0.mk A20
  clear A20
  by_cases g1 : 0 ≤ x1
  · by_cases g2 : x1 ≤ (t930.length : Int)
    · rw [if_pos g1,if_pos g2] at h
      obtain ⟨m,rfl⟩ : ∃ m : Nat,x1 = (m : Int):=⟨x1.toNat,by omega⟩
      rw [Int.toNat_natCast] at h
      obtain ⟨⟨t935,t938,t939⟩,A30,h⟩:=Option.bind_eq_some_iff.mp h
      have A3:=Aside0.mk A30
      have A5:=Aside0.mk A50
      have hm : m ≤ t930.length:=by omega
      have HMl:=Aside0.mk hm
      have HLm : Aside0 ((t930.take m).length = m):=Aside0.mk (by rw [List.length_take];omega)
      simp only [Option.some.injEq,Prod.mk.injEq] at h
      obtain ⟨rfl,rfl,rfl⟩:=h
      clear A30 A50 g1 g2
      go_enter Try.func48,Try.ntmps48
      go_wp2_with (first|((with_reducible refine gate_dst (N:=11) rfl ?_);refine box_event ?hg (N:=11) ?hd (cs := #[.slice A0 l0.length c0,.int .i64 0,.int .u64 0]) (t:=90) ?hr ?_;(case hd=>rfl);(case hg=>rfl);(case hr=>first|(go_simp;done)|(go_simp;rfl));intro gb928 hg w5 hbox hb;have n0_:=Aside0.mk (below_step (by repeat (first|(with_reducible first|exact HB.out|apply below_alloc|apply pw_below_drewN|apply below_drew1)|exact HB.out)) hb);have n1_:=Aside0.mk ((by rw [hg];exact (below_size (by repeat (first|(with_reducible first|exact HB.out|apply below_alloc|apply pw_below_drewN|apply below_drew1)|exact HB.out))) : w.heap.size ≤ gb928));have n2_:=Aside0.mk ((by rw [hg];exact (below_size (by repeat (first|(with_reducible first|exact HB.out|apply below_alloc|apply pw_below_drewN|apply below_drew1)|exact HB.out))) : w.heap.size ≤ gb928));have n3_:=Aside0.mk ((show IsS90 w w5 gb928 l0 0 0 from ⟨_,_,hbox,(by rw [hg];exact (below_size (by repeat (first|(with_reducible first|exact HB.out|apply below_alloc|apply pw_below_drewN|apply below_drew1)|exact HB.out))) : w.heap.size ≤ gb928),HR0.out⟩));clear HB;have HB:=n0_;have GW928:=n1_;have GE928:=n2_;have HI928:=n3_;clear n0_ n1_ n2_ n3_;clear hb hbox hg)|((with_reducible refine gate_callee (f:=73) rfl ?_);refine goesL_ (some 14) rfl rfl Try.func73 (by kernel_rfl) rfl #[.pointer (some ⟨gb928,0,none⟩)] rfl (by (try simp only [List.map_toArray,List.map_cons,List.map_nil]);first|done|rfl|(simp only [List.length_drop,List.length_take];rfl)) ?_;(with_reducible refine (spec_l1Cur_ships.calls k gb928 l0 0 0 t929 t930 t933 t934 w _ ?side1 ?side2 A2.out).mono ?_);(case side1=>repeat (first|(with_reducible first|exact HI928.out|apply IsS90.alloc|apply IsS90.drewN|apply IsS90.drew|apply IsS90.set_1|apply IsS90.set_2)|exact HI928.out));(case side2=>repeat (first|(with_reducible first|exact HB.out|apply below_alloc|apply pw_below_drewN|apply below_drew1|refine below_set ?_ (IsS90.ge HI928.out))|exact HB.out));rintro e w6 ⟨v931,rfl,ho0,hi,hb,hk⟩;refine ⟨_,rfl,?_⟩;have n0_:=Aside0.mk (Kd.R_lower ho0 (below_size (by repeat (first|(with_reducible first|exact HB.out|apply below_alloc|apply pw_below_drewN|apply below_drew1|refine below_set ?_ (IsS90.ge HI928.out))|exact HB.out))));have n1_:=Aside0.mk (hb);have n2_:=Aside0.mk (hi);clear HB;clear HI928;have HO932:=n0_;have HB:=n1_;have HI928:=n2_;clear n0_ n1_ n2_;(try clear hb);(try clear hb2);(try clear hk);(try clear hi);(try clear ho0);obtain ⟨Ao7,co7,eo7⟩:=Kd.R_slice HO932.out;subst eo7;have hcap : m ≤ co7:=Nat.le_trans HMl.out (Kd.R_reads' HO932.out).2.1)|((with_reducible refine gate_callee (f:=74) rfl ?_);refine goesL_ (some 21) rfl rfl Try.func74 (by kernel_rfl) rfl #[.pointer (some ⟨gb928,0,none⟩),.int .i64 (wrap64 ((t930.length : Int) + 1))] rfl (by (try simp only [List.map_toArray,List.map_cons,List.map_nil]);first|done|rfl) ?_;(with_reducible refine (spec_l1Cur_pick.calls gb928 l0 t933 t934 (wrap64 ((t930.length : Int) + 1)) (m : Int) p1 p2 w _ ?side1 ?side2 A5.out).mono ?_);(case side1=>repeat (first|(with_reducible first|exact HI928.out|apply IsS90.alloc|apply IsS90.drewN|apply IsS90.drew|apply IsS90.set_1|apply IsS90.set_2)|exact HI928.out));(case side2=>repeat (first|(with_reducible first|exact HB.out|apply below_alloc|apply pw_below_drewN|apply below_drew1|refine below_set ?_ (IsS90.ge HI928.out))|exact HB.out));rintro e w7 ⟨rfl,hi,hb,hk⟩;refine ⟨_,rfl,?_⟩;have n0_:=Aside0.mk (Kd.R_mono (Kd.R_keep (IsS90.apart (show IsS90 w _ gb928 l0 t933 t934 from by repeat (first|(with_reducible first|exact HI928.out|apply IsS90.alloc|apply IsS90.drewN|apply IsS90.drew|apply IsS90.set_1|apply IsS90.set_2)|exact HI928.out)) (by (with_reducible repeat (first|apply Kd.R_alloc|apply Kd.R_drewN|apply Kd.R_drew));exact HO932.out) (by decide)) hk (fun _ h=>h.2)) (fun _ h=>h.1));have n2_:=Aside0.mk (hb);have n3_:=Aside0.mk (hi);clear HO932;clear HB;clear HI928;have HO932:=n0_;have HB:=n2_;have HI928:=n3_;clear n0_ n2_ n3_;(try clear hb);(try clear hk);(try clear hi))|((with_reducible refine gate_callee (f:=76) rfl ?_);refine goesL_ (some 29) rfl rfl Try.func76 (by kernel_rfl) rfl #[.pointer (some ⟨gb928,0,none⟩),.int .i64 t929,.slice Ao7 m co7] rfl (by (try simp only [List.map_toArray,List.map_cons,List.map_nil]);first|done|rfl) ?_;refine calls_of_args (args' := #[.pointer (some ⟨gb928,0,none⟩),.int .i64 t929,.slice Ao7 (t930.take m).length co7]) (by rw [HLm.out]) ?_;(with_reducible refine (spec_l1Cur_berths.calls k gb928 l0 p1 p2 t929 _ _ (t930.take m) t935 t938 t939 w _ ?side1 ?side2 ?side3 ?side4 A3.out).mono ?_);(case side1=>repeat (first|(with_reducible first|exact HI928.out|apply IsS90.alloc|apply IsS90.drewN|apply IsS90.drew|apply IsS90.set_1|apply IsS90.set_2)|exact HI928.out));(case side2=>repeat (first|(with_reducible first|exact HB.out|apply below_alloc|apply pw_below_drewN|apply below_drew1|refine below_set ?_ (IsS90.ge HI928.out))|exact HB.out));(case side3=>rw [HLm.out];exact Kd.C_foot_own (Kd.R_take (IsS90.apart (show IsS90 w _ gb928 l0 p1 p2 from by repeat (first|(with_reducible first|exact HI928.out|apply IsS90.alloc|apply IsS90.drewN|apply IsS90.drew|apply IsS90.set_1|apply IsS90.set_2)|exact HI928.out)) (by (with_reducible repeat (first|apply Kd.R_alloc|apply Kd.R_drewN|apply Kd.R_drew));exact HO932.out) (by decide)) HMl.out) (fun _ h_=>h_.2));(case side4=>rw [HLm.out];exact Nat.le_trans HMl.out (Kd.R_reads' HO932.out).2.1);rintro e w8 ⟨v936,rfl,ho0,hi,hb,hk⟩;refine ⟨_,rfl,?_⟩;have n0_:=Aside0.mk (Kd.R_mono (Kd.R_keep (IsS90.apart (show IsS90 w _ gb928 l0 p1 p2 from by repeat (first|(with_reducible first|exact HI928.out|apply IsS90.alloc|apply IsS90.drewN|apply IsS90.drew|apply IsS90.set_1|apply IsS90.set_2)|exact HI928.out)) (by (with_reducible repeat (first|apply Kd.R_alloc|apply Kd.R_drewN|apply Kd.R_drew));exact HO932.out) (by decide)) hk (fun _ h=>h.2)) (fun _ h=>h.1));have n1_:=Aside0.mk (Kd.R_lower ho0 (below_size (by repeat (first|(with_reducible first|exact HB.out|apply below_alloc|apply pw_below_drewN|apply below_drew1|refine below_set ?_ (IsS90.ge HI928.out))|exact HB.out))));have n2_:=Aside0.mk (hb);have n3_:=Aside0.mk (hi);clear HO932;clear HB;clear HI928;have HO932:=n0_;have HO937:=n1_;have HB:=n2_;have HI928:=n3_;clear n0_ n1_ n2_ n3_;(try clear hb);(try clear hb2);(try clear hk);(try clear hi);(try clear ho0)))
      refine bodyPost_ret (results_list (rs:=[.tmp 2,.tmp 3,.tmp 4]) rfl (by simp) (.tmp (.tmp (.tmp .nil)))) rfl ?_
      exact ⟨_,_,by first|rfl|(simp;done),by (with_reducible repeat (first|apply Kd.R_alloc|apply Kd.R_drewN|apply Kd.R_drew));exact HO932.out,by (with_reducible repeat (first|apply Kd.R_alloc|apply Kd.R_drewN|apply Kd.R_drew));exact HO937.out,by repeat (first|(with_reducible first|exact HB.out|apply below_alloc|apply pw_below_drewN|apply below_drew1|refine below_set ?_ (IsS90.ge HI928.out))|exact HB.out)⟩
    · rw [if_pos g1,if_neg g2] at h;cases h
  · rw [if_neg g1] at h;cases h
end Go.Proofs.Ytcciljjnpfgaeaa.G
