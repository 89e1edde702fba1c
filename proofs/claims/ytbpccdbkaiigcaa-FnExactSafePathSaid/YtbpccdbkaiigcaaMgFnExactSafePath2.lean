/- Texts of the proof of FnExactSafePath, joined in build order. -/
import Derived.Test.YtbpccdbkaiigcaaMgFnExactSafePath1
import Derived.DeepKeys4
import Derived.Maps.OwnOps
import Derived.Maps.OwnSet
import Derived.Maps.RangeWalk
-- Written by wip/tools/gen.py out of the translation (the kit's printer, one namespace a seat). Lean checks it.
namespace Go.Proofs.Ytbpccdbkaiigcaa.G
open Go.RowKit Go.Proofs.YtbpccdbkaiigcaaW.PrintWords Go.Proofs.YtbpccdbkaiigcaaW.PrintLast Go.Proofs.YtbpccdbkaiigcaaW.PrintMore
attribute [local go_sem] max2_int min2_int max_two min_two max_three min_three max_four min_four   -- for this text's walks alone
set_option linter.unusedVariables false
set_option linter.unusedSimpArgs false

/-! ### impl_IsValidPath: function 21 -/
mutual
def impl_IsValidPath.j0:Nat → List (S48) → Bool → Int → Int → List (S48) → Option (Bool)
 | 0,_,_,_,_,_=>none
 | k + 1,x1,x15,x211000,x211001,x211002=>if x15 = true then (some false) else (impl_IsValidPath.l0 k x1 x1 (x1.length:Int) 0 x211000 x211001 x211002)
def impl_IsValidPath.l0:Nat → List (S48) → List (S48) → Int → Int → Int → Int → List (S48) → Option (Bool)
 | 0,_,_,_,_,_,_,_=>none
 | k + 1,x1,x16,x17,x18,x211000,x211001,x211002=>if x18 < x17 then (if 0 ≤ x18 then (if x18 < (x16.length:Int) then ((impl_isFree.f k x211000 x211001 x211002 ((rd_T48 x16 x18).f0) ((rd_T48 x16 x18).f1)).bind fun t215=>(if t215 = true then (if x18 > 0 then (if 0 ≤ (wrap64 (x18 - 1)) then (if (wrap64 (x18 - 1)) < (x1.length:Int) then ((impl_besides.f ((rd_T48 x1 (wrap64 (x18 - 1))).f0) ((rd_T48 x1 (wrap64 (x18 - 1))).f1) ((rd_T48 x16 x18).f0) ((rd_T48 x16 x18).f1)).bind fun t217=>(if t217 = true then (impl_IsValidPath.l0 k x1 x16 x17 (wrap64 (x18 + 1)) x211000 x211001 x211002) else (some false))) else (none)) else (none)) else (impl_IsValidPath.l0 k x1 x16 x17 (wrap64 (x18 + 1)) x211000 x211001 x211002)) else (some false))) else (none)) else (none)) else (some true)
end
def impl_IsValidPath.f (k:Nat) (a0_0:Int) (a0_1:Int) (l0_2:List (S48)) (l1:List (S48)):Option (Bool):=(impl_IsValidFloor.f k a0_0 a0_1 l0_2).bind fun t211=>(if t211 = true then ((impl_within.f (l1.length:Int) 1 25).bind fun t212=>(impl_IsValidPath.j0 k l1 (!t212) a0_0 a0_1 l0_2)) else (impl_IsValidPath.j0 k l1 true a0_0 a0_1 l0_2))
def impl_IsValidPath.T6:Bool × List (List Nat × List Nat):=(true,[([],[]),([],[]),([0,1],[0,1]),([2],[2]),([3,2],[3]),([4],[4]),([5,4],[4,5]),([6,4,4],[4,6]),([7],[7]),([7],[7]),([9,7],[7,9]),([8,10,7],[7,8,10]),([11,7],[7,11]),([7],[7]),([12,13,7,7],[7,12,13]),([14,7],[7,14]),([7,15,4],[4,7,15]),([4,16],[4,16])])
def impl_IsValidPath.B6:List Nat:=[0,0,3,7,15,31,63,127,255,255,767,2047,4095,255,16383,32767,65535,131071]
theorem impl_IsValidPath.tab6:rtab .any (opsOf Try.f21 6) = impl_IsValidPath.T6:=by kernel_rfl
theorem impl_IsValidPath.bits6:waitsOk impl_IsValidPath.T6.2 impl_IsValidPath.B6 = true:=by kernel_rfl
set_option maxHeartbeats 8000000 in
set_option maxRecDepth 100000 in
theorem impl_IsValidPath.calls (k:Nat) (a0_0:Int) (a0_1:Int) (A0_2:Option Addr) (c0_2:Nat) (l0_2:List (S48)) (A1:Option Addr) (c1:Nat) (l1:List (S48)) (r:Bool) (w:World) (hr0_2:Kd.C k48 w A0_2 l0_2.length l0_2) (hc0_2:l0_2.length ≤ c0_2) (hr1:Kd.C k48 w A1 l1.length l1) (hc1:l1.length ≤ c1) (h:impl_IsValidPath.f k a0_0 a0_1 l0_2 l1 = some r) :
  Calls Try.prog 21 #[.agg #[.int .i64 a0_0,.int .i64 a0_1,.slice A0_2 l0_2.length c0_2],.slice A1 l1.length c1] w fun e w'=>e = .returned (.bool r) ∧ Below w.heap.size w w':=by
 have hu29:=Try.underlying29;have hu48:=Try.underlying48;have HR0_2:=zM hr0_2;have HC0_2:=zM hc0_2;clear hr0_2 hc0_2;have HR1:=zM hr1;have HC1:=zM hc1;clear hr1 hc1;have HB:=zM (Below.refl w.heap.size w);have H:((impl_IsValidFloor.f k a0_0 a0_1 l0_2).bind fun t211=>(if t211 = true then ((impl_within.f (l1.length:Int) 1 25).bind fun t212=>(impl_IsValidPath.j0 k l1 (!t212) a0_0 a0_1 l0_2)) else (impl_IsValidPath.j0 k l1 true a0_0 a0_1 l0_2))) = some r:=h
 clear h;have HC3:=zM H;clear H;go_enter Try.func21,Try.ntmps21
 go_upto_region 1 with (first|((with_reducible refine gate_dst (N:=2) rfl ?_);(try (refine gate_guard (by rfl) ?_;dsimp only));refine box_event ?hg (N:=2) ?hd (cs := #[.int .i64 a0_0,.int .i64 a0_1,.slice A0_2 l0_2.length c0_2]) (t:=29) ?hr ?_;(case hd=>rfl);(case hg=>rfl);(case hr=>first|(go_simp;done)|(go_simp;rfl));intro gb210 hg w4 hbox hb;have n0_:=zM (zQ (by repeat (first|(with_reducible first|exact HB.out|apply zD|apply zE|apply zF)|exact HB.out)) hb);have n1_:=zM (hbox);have n2_:=zM ((by rw [hg];exact (zR (by repeat (first|(with_reducible first|exact HB.out|apply zD|apply zE|apply zF)|exact HB.out))):w.heap.size ≤ gb210));have n3_:=zM ((by rw [hg];exact (zR (by repeat (first|(with_reducible first|exact HB.out|apply zD|apply zE|apply zF)|exact HB.out))):w.heap.size ≤ gb210));clear HB;have HB:=n0_;have BK210:=n1_;have GW210:=n2_;have GE210:=n3_;clear n0_ n1_ n2_ n3_;clear hb hbox hg))
 (try simp only [Act.put,zT,zU,zV])
 go_cut [15] (fun v15 wc => ∃ (kq:Nat) (x15_2:Bool),v15 = .bool x15_2 ∧ Aside0 (impl_IsValidPath.j0 kq l1 x15_2 a0_0 a0_1 l0_2 = some r) ∧ Aside0 (kq ≤ k) ∧ Aside0 (wc.heap[gb210]? = some (.cells #[.int .i64 a0_0,.int .i64 a0_1,(.slice A0_2 l0_2.length c0_2)] 29 (0,0))) ∧ Aside0 (Below w.heap.size w wc))
 case first =>
  have H:=HC3.out;clear HC3;replace H:=Option.bind_eq_some_iff.mp H;obtain ⟨t211,A50,H⟩:=H;replace H:(if t211 = true then ((impl_within.f (l1.length:Int) 1 25).bind fun t212=>(impl_IsValidPath.j0 k l1 (!t212) a0_0 a0_1 l0_2)) else (impl_IsValidPath.j0 k l1 true a0_0 a0_1 l0_2)) = some r:=H
  have A5:=zM A50;clear A50;by_cases c6:t211 = true
  ·subst c6
   have H1:((impl_within.f (l1.length:Int) 1 25).bind fun t212=>(impl_IsValidPath.j0 k l1 (!t212) a0_0 a0_1 l0_2)) = some r:=by rw [if_pos rfl] at H;exact H
   clear H;have H:=H1;clear H1;replace H:=Option.bind_eq_some_iff.mp H;obtain ⟨t212,A70,H⟩:=H;replace H:(impl_IsValidPath.j0 k l1 (!t212) a0_0 a0_1 l0_2) = some r:=H
   have A7:=zM A70;clear A70;have H':=zM H;clear H;have hcz8_0:w4.cell? ⟨gb210,0,none⟩ = some (.int .i64 a0_0):=(blk_cell BK210.out 0).trans rfl
   have hcz8_1:w4.cell? ⟨gb210,1,none⟩ = some (.int .i64 a0_1):=(blk_cell BK210.out 1).trans rfl
   have hcz8_2:w4.cell? ⟨gb210,2,none⟩ = some (.slice A0_2 l0_2.length c0_2):=(blk_cell BK210.out 2).trans rfl
   have hfz8_0:=blk_frozen BK210.out 0;have hfz8_1:=blk_frozen BK210.out 1;have hfz8_2:=blk_frozen BK210.out 2;go_wp2_with (first|((with_reducible refine gate_callee (f:=16) rfl ?_);refine goesL_ (some 8) rfl rfl Try.func16 (by kernel_rfl) rfl #[.agg #[.int .i64 a0_0,.int .i64 a0_1,.slice A0_2 l0_2.length c0_2]] rfl (by (try simp only [List.map_toArray,List.map_cons,List.map_nil]);first|done|rfl|(simp only [List.length_drop,List.length_take];rfl)) ?_;(with_reducible refine (impl_IsValidFloor.calls k a0_0 a0_1 _ _ l0_2 true _ ?side1 ?side2 A5.out).mono ?_);(case side1=>repeat (first|exact (zO HR0_2.out HB.out)|(with_reducible first|refine zG ?_ _|refine zH ?_ _|refine zI ?_)));(case side2=>exact HC0_2.out);rintro e w9 ⟨rfl,hb⟩;refine ⟨_,rfl,?_⟩;have n0_:=zM (blk_below (g:=gb210) (o := .cells #[.int .i64 a0_0,.int .i64 a0_1,.slice A0_2 l0_2.length c0_2] 29 (0,0)) (by (with_reducible repeat (first|refine zJ ?_ _|refine zK ?_|refine zL ?_ _));exact BK210.out) hb);have n1_:=zM (zQ (by repeat (first|(with_reducible first|exact HB.out|apply zD|apply zE|apply zF|refine below_set ?_ GE210.out)|exact HB.out)) hb);clear BK210;clear HB;have BK210:=n0_;have HB:=n1_;clear n0_ n1_;(try clear hb);(try clear hb2);(try clear hk);(try clear hi))|(go_at_call 54;(with_reducible refine (impl_within.calls (l1.length:Int) 1 25 t212 _ A7.out).mono ?_);rintro e w' ⟨rfl,⟨nd,rfl⟩⟩))
   go_meet
   case rel=>exact ⟨_,(!t212),(by first|rfl|(simp;done)|(simp [*];done)),H',⟨by first|omega|exact Nat.le_refl _⟩,⟨by (with_reducible repeat (first|refine zJ ?_ _|refine zK ?_|refine zL ?_ _));exact BK210.out⟩,⟨by repeat (first|(with_reducible first|exact HB.out|apply zD|apply zE|apply zF|refine below_set ?_ GE210.out)|exact HB.out)⟩⟩
  ·replace c6:=Bool.eq_false_iff.mpr c6
   subst c6;have H1:(impl_IsValidPath.j0 k l1 true a0_0 a0_1 l0_2) = some r:=by rw [if_neg (show ¬ (false = true) by decide)] at H;exact H
   clear H;have H:=H1;clear H1;have H':=zM H;clear H;have hcz10_0:w4.cell? ⟨gb210,0,none⟩ = some (.int .i64 a0_0):=(blk_cell BK210.out 0).trans rfl
   have hcz10_1:w4.cell? ⟨gb210,1,none⟩ = some (.int .i64 a0_1):=(blk_cell BK210.out 1).trans rfl
   have hcz10_2:w4.cell? ⟨gb210,2,none⟩ = some (.slice A0_2 l0_2.length c0_2):=(blk_cell BK210.out 2).trans rfl
   have hfz10_0:=blk_frozen BK210.out 0;have hfz10_1:=blk_frozen BK210.out 1;have hfz10_2:=blk_frozen BK210.out 2;go_wp2_with (first|((with_reducible refine gate_callee (f:=16) rfl ?_);refine goesL_ (some 8) rfl rfl Try.func16 (by kernel_rfl) rfl #[.agg #[.int .i64 a0_0,.int .i64 a0_1,.slice A0_2 l0_2.length c0_2]] rfl (by (try simp only [List.map_toArray,List.map_cons,List.map_nil]);first|done|rfl|(simp only [List.length_drop,List.length_take];rfl)) ?_;(with_reducible refine (impl_IsValidFloor.calls k a0_0 a0_1 _ _ l0_2 false _ ?side1 ?side2 A5.out).mono ?_);(case side1=>repeat (first|exact (zO HR0_2.out HB.out)|(with_reducible first|refine zG ?_ _|refine zH ?_ _|refine zI ?_)));(case side2=>exact HC0_2.out);rintro e w11 ⟨rfl,hb⟩;refine ⟨_,rfl,?_⟩;have n0_:=zM (blk_below (g:=gb210) (o := .cells #[.int .i64 a0_0,.int .i64 a0_1,.slice A0_2 l0_2.length c0_2] 29 (0,0)) (by (with_reducible repeat (first|refine zJ ?_ _|refine zK ?_|refine zL ?_ _));exact BK210.out) hb);have n1_:=zM (zQ (by repeat (first|(with_reducible first|exact HB.out|apply zD|apply zE|apply zF|refine below_set ?_ GE210.out)|exact HB.out)) hb);clear BK210;clear HB;have BK210:=n0_;have HB:=n1_;clear n0_ n1_;(try clear hb);(try clear hb2);(try clear hk);(try clear hi)))
   go_meet
   case rel=>exact ⟨_,(true),(by first|rfl|(simp;done)|(simp [*];done)),H',⟨by first|omega|exact Nat.le_refl _⟩,⟨by (with_reducible repeat (first|refine zJ ?_ _|refine zK ?_|refine zL ?_ _));exact BK210.out⟩,⟨by repeat (first|(with_reducible first|exact HB.out|apply zD|apply zE|apply zF|refine below_set ?_ GE210.out)|exact HB.out)⟩⟩
 case rest =>
  clear HC3;(try clear c1);(try clear c2);(try clear p2);(try clear c6);(try clear hcz10_0);(try clear hcz10_1);(try clear hcz10_2);(try clear hcz8_0);(try clear hcz8_1);(try clear hcz8_2);(try clear hfz10_0);(try clear hfz10_1);(try clear hfz10_2);(try clear hfz8_0);(try clear hfz8_1);(try clear hfz8_2);obtain ⟨kq,x15_2,rfl,HA,HJ2,BK210,HB⟩:=hcut;cases kq with
  | zero=>exact absurd HA.out (by simp [impl_IsValidPath.j0])
  | succ kj2 =>
   have H:=HA.out;clear HA;simp only [impl_IsValidPath.j0] at H
   by_cases c12:x15_2 = true
   ·subst c12
    have H1:(some false) = some r:=by rw [if_pos rfl] at H;exact H
    clear H;have H:=H1;clear H1;obtain rfl:=Option.some.inj H;go_wp2
    go_ret
    exact ⟨by first|rfl|(simp [errW_none,errW_some] <;> rfl)|(simp [*,errW_none,errW_some] <;> rfl),by repeat (first|(with_reducible first|exact HB.out|apply zD|apply zE|apply zF|refine below_set ?_ GE210.out)|exact HB.out)⟩
   ·replace c12:=Bool.eq_false_iff.mpr c12
    subst c12;have H1:(impl_IsValidPath.l0 kj2 l1 l1 (l1.length:Int) 0 a0_0 a0_1 l0_2) = some r:=by rw [if_neg (show ¬ (false = true) by decide)] at H;exact H
    clear H;have H:=H1;clear H1;have H':=zM H;clear H;go_wp2
    go_loopg [18] kj2 (fun kq v18 w' => ∃ (x18_2:Int),v18 = .int .i64 x18_2 ∧ Aside0 (impl_IsValidPath.l0 kq l1 l1 (l1.length:Int) x18_2 a0_0 a0_1 l0_2 = some r) ∧ Aside0 (kq ≤ kj2) ∧ Aside0 (w'.heap[gb210]? = some (.cells #[.int .i64 a0_0,.int .i64 a0_1,(.slice A0_2 l0_2.length c0_2)] 29 (0,0))) ∧ Aside0 (Below w.heap.size w w'))
    case atStart=>exact ⟨(0),(by first|rfl|(simp;done)|(simp [*];done)),H',⟨Nat.le_refl _⟩,⟨by (with_reducible repeat (first|refine zJ ?_ _|refine zK ?_|refine zL ?_ _));exact BK210.out⟩,⟨by repeat (first|(with_reducible first|exact HB.out|apply zD|apply zE|apply zF|refine below_set ?_ GE210.out)|exact HB.out)⟩⟩
    case round =>
     clear H';(try clear c1);(try clear c2);(try clear p2);(try clear c6);(try clear c12);(try clear hcz10_0);(try clear hcz10_1);(try clear hcz10_2);(try clear hcz8_0);(try clear hcz8_1);(try clear hcz8_2);(try clear hfz10_0);(try clear hfz10_1);(try clear hfz10_2);(try clear hfz8_0);(try clear hfz8_1);(try clear hfz8_2);(try clear p2);obtain ⟨x18_2,rfl,HA,HK2,BK210,HB⟩:=hrel;cases gk with
     | zero=>exact absurd HA.out (by simp [impl_IsValidPath.l0])
     | succ k2 =>
      have H:=HA.out;clear HA;simp only [impl_IsValidPath.l0] at H
      by_cases c13:x18_2 < (l1.length:Int)
      ·rw [if_pos c13] at H
       have c13b0:decide (x18_2 < (l1.length:Int)) = true:=decide_eq_true c13
       clear c13;by_cases c14:0 ≤ x18_2
       ·rw [if_pos c14] at H
        have c14b0:decide (0 ≤ x18_2) = true:=decide_eq_true c14
        clear c14;by_cases c15:x18_2 < (l1.length:Int)
        ·rw [if_pos c15] at H
         have c15b0:decide (x18_2 < (l1.length:Int)) = true:=decide_eq_true c15
         clear c15;replace H:=Option.bind_eq_some_iff.mp H;obtain ⟨t215,A160,H⟩:=H;replace H:(if t215 = true then (if x18_2 > 0 then (if 0 ≤ (wrap64 (x18_2 - 1)) then (if (wrap64 (x18_2 - 1)) < (l1.length:Int) then ((impl_besides.f ((rd_T48 l1 (wrap64 (x18_2 - 1))).f0) ((rd_T48 l1 (wrap64 (x18_2 - 1))).f1) ((rd_T48 l1 x18_2).f0) ((rd_T48 l1 x18_2).f1)).bind fun t217=>(if t217 = true then (impl_IsValidPath.l0 k2 l1 l1 (l1.length:Int) (wrap64 (x18_2 + 1)) a0_0 a0_1 l0_2) else (some false))) else (none)) else (none)) else (impl_IsValidPath.l0 k2 l1 l1 (l1.length:Int) (wrap64 (x18_2 + 1)) a0_0 a0_1 l0_2)) else (some false)) = some r:=H
         have A16:=zM A160;clear A160;by_cases c17:t215 = true
         ·subst c17
          have H1:(if x18_2 > 0 then (if 0 ≤ (wrap64 (x18_2 - 1)) then (if (wrap64 (x18_2 - 1)) < (l1.length:Int) then ((impl_besides.f ((rd_T48 l1 (wrap64 (x18_2 - 1))).f0) ((rd_T48 l1 (wrap64 (x18_2 - 1))).f1) ((rd_T48 l1 x18_2).f0) ((rd_T48 l1 x18_2).f1)).bind fun t217=>(if t217 = true then (impl_IsValidPath.l0 k2 l1 l1 (l1.length:Int) (wrap64 (x18_2 + 1)) a0_0 a0_1 l0_2) else (some false))) else (none)) else (none)) else (impl_IsValidPath.l0 k2 l1 l1 (l1.length:Int) (wrap64 (x18_2 + 1)) a0_0 a0_1 l0_2)) = some r:=by rw [if_pos rfl] at H;exact H
          clear H;have H:=H1;clear H1;by_cases c18:x18_2 > 0
          ·rw [if_pos c18] at H
           have c18b0:decide (0 < x18_2) = true:=decide_eq_true c18
           clear c18;obtain ⟨ji19,hji19⟩ : ∃ j_:Int,(wrap64 (x18_2 - 1)) = j_:=⟨_,rfl⟩
           replace H:(if 0 ≤ (ji19) then (if (ji19) < (l1.length:Int) then ((impl_besides.f ((rd_T48 l1 (ji19)).f0) ((rd_T48 l1 (ji19)).f1) ((rd_T48 l1 x18_2).f0) ((rd_T48 l1 x18_2).f1)).bind fun t217=>(if t217 = true then (impl_IsValidPath.l0 k2 l1 l1 (l1.length:Int) (wrap64 (x18_2 + 1)) a0_0 a0_1 l0_2) else (some false))) else (none)) else (none)) = some r:=by first|(rw [hji19] at H;exact H)|(simp only [hji19] at H ⊢;exact H)
           (try rw [hji19] at A16)
           have hji19w:(IntKind.i64.wrap (x18_2 - 1)) = ji19:=(i64_w _).trans hji19
           by_cases c20:0 ≤ (ji19)
           ·rw [if_pos c20] at H
            have c20b0:decide (0 ≤ (ji19)) = true:=decide_eq_true c20
            clear c20;by_cases c21:(ji19) < (l1.length:Int)
            ·rw [if_pos c21] at H
             have c21b0:decide ((ji19) < (l1.length:Int)) = true:=decide_eq_true c21
             clear c21;replace H:=Option.bind_eq_some_iff.mp H;obtain ⟨t217,A220,H⟩:=H;replace H:(if t217 = true then (impl_IsValidPath.l0 k2 l1 l1 (l1.length:Int) (wrap64 (x18_2 + 1)) a0_0 a0_1 l0_2) else (some false)) = some r:=H
             have A22:=zM A220;clear A220;by_cases c23:t217 = true
             ·subst c23
              have H1:(impl_IsValidPath.l0 k2 l1 l1 (l1.length:Int) (wrap64 (x18_2 + 1)) a0_0 a0_1 l0_2) = some r:=by rw [if_pos rfl] at H;exact H
              clear H;have H:=H1;clear H1;have H':=zM H;clear H;have p213:0 ≤ (x18_2:Int):=of_decide_eq_true (by first|(with_reducible assumption)|assumption)
              have q213:x18_2 < (l1.length:Int):=of_decide_eq_true (by first|(with_reducible assumption)|assumption)
              obtain ⟨ad213,e213,hx213_0,hx213_1⟩:=at_T48 HR1.out x18_2 p213 q213;cases e213
              replace hx213_0:=zS HB.out hx213_0;replace hx213_1:=zS HB.out hx213_1;replace p213:=eq_true p213;replace q213:=eq_true q213;try go_wp2_with (first|((with_reducible refine gate_dst (N:=6) rfl ?_);(try (refine gate_guard (by rfl) ?_;dsimp only));refine box_event ?hg (N:=6) ?hd (cs := #[.int .i64 0,.int .i64 0]) (t:=48) ?hr ?_;(case hd=>rfl);(case hg=>rfl);(case hr=>first|(go_simp;done)|(go_simp;rfl));intro gb214 hg w24 hbox hb;have n0_:=zM (blk_below (g:=gb210) (o := .cells #[.int .i64 a0_0,.int .i64 a0_1,.slice A0_2 l0_2.length c0_2] 29 (0,0)) (by (with_reducible repeat (first|refine zJ ?_ _|refine zK ?_|refine zL ?_ _));exact BK210.out) hb);have n1_:=zM (zQ (by repeat (first|(with_reducible first|exact HB.out|apply zD|apply zE|apply zF|refine below_set ?_ GE210.out)|exact HB.out)) hb);have n2_:=zM (hbox);have n3_:=zM ((by rw [hg];exact (zR (by repeat (first|(with_reducible first|exact HB.out|apply zD|apply zE|apply zF|refine below_set ?_ GE210.out)|exact HB.out))):w.heap.size ≤ gb214));have n4_:=zM ((by rw [hg];exact (zR (by repeat (first|(with_reducible first|exact HB.out|apply zD|apply zE|apply zF|refine below_set ?_ GE210.out)|exact HB.out))):w.heap.size ≤ gb214));have n5_:=zM ((by rw [hg];exact Nat.ne_of_lt (blk_lt (g:=gb210) (o := .cells #[.int .i64 a0_0,.int .i64 a0_1,.slice A0_2 l0_2.length c0_2] 29 (0,0)) (by (with_reducible repeat (first|refine zJ ?_ _|refine zK ?_|refine zL ?_ _));exact BK210.out)):gb210 ≠ gb214));have n6_:=zM ((by rw [hg];exact Nat.ne_of_gt (blk_lt (g:=gb210) (o := .cells #[.int .i64 a0_0,.int .i64 a0_1,.slice A0_2 l0_2.length c0_2] 29 (0,0)) (by (with_reducible repeat (first|refine zJ ?_ _|refine zK ?_|refine zL ?_ _));exact BK210.out)):gb214 ≠ gb210));clear BK210;clear HB;have BK210:=n0_;have HB:=n1_;have BK214:=n2_;have GW214:=n3_;have GE214:=n4_;have NB210_214:=n5_;have NB214_210:=n6_;clear n0_ n1_ n2_ n3_ n4_ n5_ n6_;clear hb hbox hg;have hnb25:=NB214_210.out;have hnc25:=NB210_214.out;have hcz26_0:w24.cell? ⟨gb214,0,none⟩ = some (.int .i64 0):=(blk_cell BK214.out 0).trans rfl;have hcz26_1:w24.cell? ⟨gb214,1,none⟩ = some (.int .i64 0):=(blk_cell BK214.out 1).trans rfl;have hfz26_0:=blk_frozen BK214.out 0;have hfz26_1:=blk_frozen BK214.out 1))
              have n0_:Aside0 (((w24.setCell ⟨gb214,0,none⟩ (.int .i64 ((rd_T48 l1 x18_2).f0))).setCell ⟨gb214,1,none⟩ (.int .i64 ((rd_T48 l1 x18_2).f1))).heap[gb210]? = some (.cells #[.int .i64 a0_0,.int .i64 a0_1,.slice A0_2 l0_2.length c0_2] 29 (0,0))):=⟨by (with_reducible repeat (first|refine zJ ?_ _|refine zK ?_|refine zL ?_ _));refine blk_far ?_ NB210_214.out _;(with_reducible repeat (first|refine zJ ?_ _|refine zK ?_|refine zL ?_ _));refine blk_far ?_ NB210_214.out _;(with_reducible repeat (first|refine zJ ?_ _|refine zK ?_|refine zL ?_ _));exact BK210.out⟩
              have n1_:Aside0 (((w24.setCell ⟨gb214,0,none⟩ (.int .i64 ((rd_T48 l1 x18_2).f0))).setCell ⟨gb214,1,none⟩ (.int .i64 ((rd_T48 l1 x18_2).f1))).heap[gb214]? = some (.cells #[.int .i64 ((rd_T48 l1 x18_2).f0),.int .i64 ((rd_T48 l1 x18_2).f1)] 48 (0,0))):=⟨by (with_reducible repeat (first|refine zJ ?_ _|refine zK ?_|refine zL ?_ _));refine blk_put (cs := #[.int .i64 ((rd_T48 l1 x18_2).f0),.int .i64 0]) ?_ 1 _ rfl;(with_reducible repeat (first|refine zJ ?_ _|refine zK ?_|refine zL ?_ _));refine blk_put (cs := #[.int .i64 0,.int .i64 0]) ?_ 0 _ rfl;(with_reducible repeat (first|refine zJ ?_ _|refine zK ?_|refine zL ?_ _));exact BK214.out⟩
              have n2_:Aside0 (Below w.heap.size w ((w24.setCell ⟨gb214,0,none⟩ (.int .i64 ((rd_T48 l1 x18_2).f0))).setCell ⟨gb214,1,none⟩ (.int .i64 ((rd_T48 l1 x18_2).f1)))):=⟨by repeat (first|(with_reducible first|exact HB.out|apply zD|apply zE|apply zF|refine below_set ?_ GE210.out|refine below_set ?_ GE214.out)|exact HB.out)⟩
              (try clear BK210)
              (try clear BK214)
              (try clear HB)
              generalize ((w24.setCell ⟨gb214,0,none⟩ (.int .i64 ((rd_T48 l1 x18_2).f0))).setCell ⟨gb214,1,none⟩ (.int .i64 ((rd_T48 l1 x18_2).f1))) = w27 at n0_ n1_ n2_ ⊢
              have BK210:=n0_;have BK214:=n1_;have HB:=n2_;clear n0_ n1_ n2_;have n0_:=zM (zK BK210.out);have n1_:=zM (zK BK214.out);have n2_:=zM (zF HB.out);clear BK210;clear BK214;clear HB;have BK210:=n0_;have BK214:=n1_;have HB:=n2_;clear n0_ n1_ n2_;have p216:0 ≤ ((ji19):Int):=of_decide_eq_true (by first|(with_reducible assumption)|assumption)
              have q216:(ji19) < (l1.length:Int):=of_decide_eq_true (by first|(with_reducible assumption)|assumption)
              obtain ⟨ad216,e216,hx216_0,hx216_1⟩:=at_T48 HR1.out (ji19) p216 q216;have hw216_1:=hx216_1;have hw216_0:=hx216_0;obtain rfl:ad213 = ad216:=(by injection e216)
              replace hx216_0:=zS HB.out hx216_0;replace hx216_1:=zS HB.out hx216_1;replace p216:=eq_true p216;replace q216:=eq_true q216;refine start_ (n:=18) (S:=fun w'=>w'.cell? ⟨gb210,0,none⟩ = some (.int .i64 a0_0) ∧ w'.cell? ⟨gb210,1,none⟩ = some (.int .i64 a0_1) ∧ w'.cell? ⟨gb210,2,none⟩ = some (.slice A0_2 l0_2.length c0_2) ∧ w'.cell? ⟨gb214,0,none⟩ = some (.int .i64 ((rd_T48 l1 x18_2).f0)) ∧ w'.cell? ⟨gb214,1,none⟩ = some (.int .i64 ((rd_T48 l1 x18_2).f1)) ∧ w'.cell? (ad213.add (((ji19)).toNat * 2)) = some (.int .i64 ((rd_T48 l1 (ji19)).f0)) ∧ w'.cell? ⟨(ad213.add (((ji19)).toNat * 2)).block,(ad213.add (((ji19)).toNat * 2)).off + 1,none⟩ = some (.int .i64 ((rd_T48 l1 (ji19)).f1))) (ds:=[]) #[false,false,false,false,false,false,false,false,false,false,false,false,false,false,false,false,false,false] (by kernel_rfl) rfl rfl ⟨(blk_cell BK210.out 0).trans rfl,(blk_cell BK210.out 1).trans rfl,(blk_cell BK210.out 2).trans rfl,(blk_cell BK214.out 0).trans rfl,(blk_cell BK214.out 1).trans rfl,(zS HB.out hw216_0 :),(zS HB.out hw216_1 :)⟩ (fun hHeld=>?_);refine with_tabW impl_IsValidPath.tab6 impl_IsValidPath.bits6 (fun HT_ HW_=>?_)
              generalize w27.drew = w28 at BK210 BK214 HB hx216_0 hx216_1 hHeld ⊢
              refine zzt 0 23 (zzb 18 1) hHeld ?_ (hc:=zzy HT_ HW_) (hy:=by rintro w' ⟨s0,s1,s2,s3,s4,s5,s6⟩;go_simp;with_reducible rfl)
              refine zzt 1 24 (zzb 18 3) hHeld ?_ (hc:=zzy HT_ HW_) (hy:=by rintro w' ⟨s0,s1,s2,s3,s4,s5,s6⟩;go_simp;with_reducible rfl)
              refine one_ (i:=2) (N:=some 25) #[true,true,true,false,false,false,false,false,false,false,false,false,false,false,false,false,false,false] rfl rfl (one_of HT_.out (by kernel_rfl)) (by decide) (fun K hK=>?_)
              refine goes_ Try.func58 (by kernel_rfl) rfl #[.agg #[.int .i64 a0_0,.int .i64 a0_1,.slice A0_2 l0_2.length c0_2],.agg #[.int .i64 ((rd_T48 l1 x18_2).f0),.int .i64 ((rd_T48 l1 x18_2).f1)]] (by rfl) rfl rfl (by (try simp only [List.map_toArray,List.map_cons,List.map_nil]);first|done|rfl|(simp only [List.length_drop,List.length_take];rfl)) ?_
              with_reducible refine (impl_isFree.calls k2 a0_0 a0_1 _ _ l0_2 ((rd_T48 l1 x18_2).f0) ((rd_T48 l1 x18_2).f1) true _ ?side1 ?side2 A16.out).mono ?_
              (case side1=>repeat (first|exact (zO HR0_2.out HB.out)|(with_reducible first|refine zG ?_ _|refine zH ?_ _|refine zI ?_)))
              (case side2=>exact HC0_2.out)
              rintro e w29 ⟨rfl,hb⟩
              refine ⟨_,rfl,?_⟩
              have n0_:=zM (blk_below (g:=gb210) (o := .cells #[.int .i64 a0_0,.int .i64 a0_1,.slice A0_2 l0_2.length c0_2] 29 (0,0)) (by (with_reducible repeat (first|refine zJ ?_ _|refine zK ?_|refine zL ?_ _));exact BK210.out) hb)
              have n1_:=zM (blk_below (g:=gb214) (o := .cells #[.int .i64 ((rd_T48 l1 x18_2).f0),.int .i64 ((rd_T48 l1 x18_2).f1)] 48 (0,0)) (by (with_reducible repeat (first|refine zJ ?_ _|refine zK ?_|refine zL ?_ _));exact BK214.out) hb)
              have n2_:=zM (zQ (by repeat (first|(with_reducible first|exact HB.out|apply zD|apply zE|apply zF|refine below_set ?_ GE210.out|refine below_set ?_ GE214.out)|exact HB.out)) hb)
              clear BK210;clear BK214;clear HB;have BK210:=n0_;have BK214:=n1_;have HB:=n2_;clear n0_ n1_ n2_;(try clear hb)
              (try clear hb2)
              (try clear hk)
              (try clear hi)
              refine hK.out _ _ ⟨(blk_cell BK210.out 0).trans rfl,(blk_cell BK210.out 1).trans rfl,(blk_cell BK210.out 2).trans rfl,(blk_cell BK214.out 0).trans rfl,(blk_cell BK214.out 1).trans rfl,(zS HB.out hw216_0 :),(zS HB.out hw216_1 :)⟩ (fun hHeld=>?_)
              clear hK K;refine zzn 25 ?_;refine zzp 3 26 (zzb 18 15) ?_ (hc:=zzx HT_);refine zzp 4 27 (zzb 18 31) ?_ (hc:=zzx HT_);refine zzp 5 28 (zzb 18 63) ?_ (hc:=zzx HT_);refine zzp 6 29 (zzb 18 127) ?_ (hc:=zzx HT_);refine zzp 7 30 (zzb 18 255) ?_ (hc:=zzx HT_);refine zzp 8 31 (zzb 18 511) ?_ (hc:=zzx HT_);refine zzp 9 32 (zzb 18 1023) ?_ (hc:=zzx HT_);refine zzp 10 33 (zzb 18 2047) ?_ (hc:=zzx HT_);refine zzp 11 34 (zzb 18 4095) ?_ (hc:=zzx HT_)
              refine zzt 12 35 (zzb 18 8191) hHeld ?_ (hc:=zzy HT_ HW_) (hy:=by rintro w' ⟨s0,s1,s2,s3,s4,s5,s6⟩;go_simp;with_reducible rfl)
              refine zzt 13 36 (zzb 18 16383) hHeld ?_ (hc:=zzy HT_ HW_) (hy:=by rintro w' ⟨s0,s1,s2,s3,s4,s5,s6⟩;go_simp;with_reducible rfl)
              refine one_ (i:=14) (N:=some 37) #[true,true,true,true,true,true,true,true,true,true,true,true,true,true,true,false,false,false] rfl rfl (one_of HT_.out (by kernel_rfl)) (by decide) (fun K hK=>?_)
              refine goes_ Try.func59 (by kernel_rfl) rfl #[.agg #[.int .i64 ((rd_T48 l1 (ji19)).f0),.int .i64 ((rd_T48 l1 (ji19)).f1)],.agg #[.int .i64 ((rd_T48 l1 x18_2).f0),.int .i64 ((rd_T48 l1 x18_2).f1)]] (by rfl) rfl rfl (by (try simp only [List.map_toArray,List.map_cons,List.map_nil]);first|done|(simp only [hji19];rfl)|rfl|(simp only [List.length_drop,List.length_take];rfl)) ?_
              with_reducible refine (impl_besides.calls ((rd_T48 l1 (ji19)).f0) ((rd_T48 l1 (ji19)).f1) ((rd_T48 l1 x18_2).f0) ((rd_T48 l1 x18_2).f1) true _ A22.out).mono ?_
              rintro e w30 ⟨rfl,hb⟩
              refine ⟨_,rfl,?_⟩
              have n0_:=zM (blk_below (g:=gb210) (o := .cells #[.int .i64 a0_0,.int .i64 a0_1,.slice A0_2 l0_2.length c0_2] 29 (0,0)) (by (with_reducible repeat (first|refine zJ ?_ _|refine zK ?_|refine zL ?_ _));exact BK210.out) hb)
              have n1_:=zM (blk_below (g:=gb214) (o := .cells #[.int .i64 ((rd_T48 l1 x18_2).f0),.int .i64 ((rd_T48 l1 x18_2).f1)] 48 (0,0)) (by (with_reducible repeat (first|refine zJ ?_ _|refine zK ?_|refine zL ?_ _));exact BK214.out) hb)
              have n2_:=zM (zQ (by repeat (first|(with_reducible first|exact HB.out|apply zD|apply zE|apply zF|refine below_set ?_ GE210.out|refine below_set ?_ GE214.out)|exact HB.out)) hb)
              clear BK210;clear BK214;clear HB;have BK210:=n0_;have BK214:=n1_;have HB:=n2_;clear n0_ n1_ n2_;(try clear hb)
              (try clear hb2)
              (try clear hk)
              (try clear hi)
              refine hK.out _ _ ⟨(blk_cell BK210.out 0).trans rfl,(blk_cell BK210.out 1).trans rfl,(blk_cell BK210.out 2).trans rfl,(blk_cell BK214.out 0).trans rfl,(blk_cell BK214.out 1).trans rfl,(zS HB.out hw216_0 :),(zS HB.out hw216_1 :)⟩ (fun hHeld=>?_)
              clear hK K;refine zzn 37 ?_;refine zzp 15 38 (zzb 18 65535) ?_ (hc:=zzx HT_);refine zzp 16 39 (zzb 18 131071) ?_ (hc:=zzx HT_);refine zzp 17 40 (zzb 18 262143) ?_ (hc:=zzx HT_)
              refine done_ (done_of HT_.out (by kernel_rfl)) ?_
              try go_wp2
              go_roundg k2
              case measure=>have:=HJ2.out;have:=HK2.out;omega
              case rel=>exact ⟨(wrap64 (x18_2 + 1)),(by first|rfl|(simp;done)|(simp [*];done)),H',⟨by have:=HJ2.out;have:=HK2.out;omega⟩,⟨by (with_reducible repeat (first|refine zJ ?_ _|refine zK ?_|refine zL ?_ _));exact BK210.out⟩,⟨by repeat (first|(with_reducible first|exact HB.out|apply zD|apply zE|apply zF|refine below_set ?_ GE210.out|refine below_set ?_ GE214.out)|exact HB.out)⟩⟩
             ·replace c23:=Bool.eq_false_iff.mpr c23
              subst c23;have H1:(some false) = some r:=by rw [if_neg (show ¬ (false = true) by decide)] at H;exact H
              clear H;have H:=H1;clear H1;obtain rfl:=Option.some.inj H;have p213:0 ≤ (x18_2:Int):=of_decide_eq_true (by first|(with_reducible assumption)|assumption)
              have q213:x18_2 < (l1.length:Int):=of_decide_eq_true (by first|(with_reducible assumption)|assumption)
              obtain ⟨ad213,e213,hx213_0,hx213_1⟩:=at_T48 HR1.out x18_2 p213 q213;cases e213
              replace hx213_0:=zS HB.out hx213_0;replace hx213_1:=zS HB.out hx213_1;replace p213:=eq_true p213;replace q213:=eq_true q213;try go_wp2_with (first|((with_reducible refine gate_dst (N:=6) rfl ?_);(try (refine gate_guard (by rfl) ?_;dsimp only));refine box_event ?hg (N:=6) ?hd (cs := #[.int .i64 0,.int .i64 0]) (t:=48) ?hr ?_;(case hd=>rfl);(case hg=>rfl);(case hr=>first|(go_simp;done)|(go_simp;rfl));intro gb214 hg w31 hbox hb;have n0_:=zM (blk_below (g:=gb210) (o := .cells #[.int .i64 a0_0,.int .i64 a0_1,.slice A0_2 l0_2.length c0_2] 29 (0,0)) (by (with_reducible repeat (first|refine zJ ?_ _|refine zK ?_|refine zL ?_ _));exact BK210.out) hb);have n1_:=zM (zQ (by repeat (first|(with_reducible first|exact HB.out|apply zD|apply zE|apply zF|refine below_set ?_ GE210.out)|exact HB.out)) hb);have n2_:=zM (hbox);have n3_:=zM ((by rw [hg];exact (zR (by repeat (first|(with_reducible first|exact HB.out|apply zD|apply zE|apply zF|refine below_set ?_ GE210.out)|exact HB.out))):w.heap.size ≤ gb214));have n4_:=zM ((by rw [hg];exact (zR (by repeat (first|(with_reducible first|exact HB.out|apply zD|apply zE|apply zF|refine below_set ?_ GE210.out)|exact HB.out))):w.heap.size ≤ gb214));have n5_:=zM ((by rw [hg];exact Nat.ne_of_lt (blk_lt (g:=gb210) (o := .cells #[.int .i64 a0_0,.int .i64 a0_1,.slice A0_2 l0_2.length c0_2] 29 (0,0)) (by (with_reducible repeat (first|refine zJ ?_ _|refine zK ?_|refine zL ?_ _));exact BK210.out)):gb210 ≠ gb214));have n6_:=zM ((by rw [hg];exact Nat.ne_of_gt (blk_lt (g:=gb210) (o := .cells #[.int .i64 a0_0,.int .i64 a0_1,.slice A0_2 l0_2.length c0_2] 29 (0,0)) (by (with_reducible repeat (first|refine zJ ?_ _|refine zK ?_|refine zL ?_ _));exact BK210.out)):gb214 ≠ gb210));clear BK210;clear HB;have BK210:=n0_;have HB:=n1_;have BK214:=n2_;have GW214:=n3_;have GE214:=n4_;have NB210_214:=n5_;have NB214_210:=n6_;clear n0_ n1_ n2_ n3_ n4_ n5_ n6_;clear hb hbox hg;have hnb32:=NB214_210.out;have hnc32:=NB210_214.out;have hcz33_0:w31.cell? ⟨gb214,0,none⟩ = some (.int .i64 0):=(blk_cell BK214.out 0).trans rfl;have hcz33_1:w31.cell? ⟨gb214,1,none⟩ = some (.int .i64 0):=(blk_cell BK214.out 1).trans rfl;have hfz33_0:=blk_frozen BK214.out 0;have hfz33_1:=blk_frozen BK214.out 1))
              have n0_:Aside0 (((w31.setCell ⟨gb214,0,none⟩ (.int .i64 ((rd_T48 l1 x18_2).f0))).setCell ⟨gb214,1,none⟩ (.int .i64 ((rd_T48 l1 x18_2).f1))).heap[gb210]? = some (.cells #[.int .i64 a0_0,.int .i64 a0_1,.slice A0_2 l0_2.length c0_2] 29 (0,0))):=⟨by (with_reducible repeat (first|refine zJ ?_ _|refine zK ?_|refine zL ?_ _));refine blk_far ?_ NB210_214.out _;(with_reducible repeat (first|refine zJ ?_ _|refine zK ?_|refine zL ?_ _));refine blk_far ?_ NB210_214.out _;(with_reducible repeat (first|refine zJ ?_ _|refine zK ?_|refine zL ?_ _));exact BK210.out⟩
              have n1_:Aside0 (((w31.setCell ⟨gb214,0,none⟩ (.int .i64 ((rd_T48 l1 x18_2).f0))).setCell ⟨gb214,1,none⟩ (.int .i64 ((rd_T48 l1 x18_2).f1))).heap[gb214]? = some (.cells #[.int .i64 ((rd_T48 l1 x18_2).f0),.int .i64 ((rd_T48 l1 x18_2).f1)] 48 (0,0))):=⟨by (with_reducible repeat (first|refine zJ ?_ _|refine zK ?_|refine zL ?_ _));refine blk_put (cs := #[.int .i64 ((rd_T48 l1 x18_2).f0),.int .i64 0]) ?_ 1 _ rfl;(with_reducible repeat (first|refine zJ ?_ _|refine zK ?_|refine zL ?_ _));refine blk_put (cs := #[.int .i64 0,.int .i64 0]) ?_ 0 _ rfl;(with_reducible repeat (first|refine zJ ?_ _|refine zK ?_|refine zL ?_ _));exact BK214.out⟩
              have n2_:Aside0 (Below w.heap.size w ((w31.setCell ⟨gb214,0,none⟩ (.int .i64 ((rd_T48 l1 x18_2).f0))).setCell ⟨gb214,1,none⟩ (.int .i64 ((rd_T48 l1 x18_2).f1)))):=⟨by repeat (first|(with_reducible first|exact HB.out|apply zD|apply zE|apply zF|refine below_set ?_ GE210.out|refine below_set ?_ GE214.out)|exact HB.out)⟩
              (try clear BK210)
              (try clear BK214)
              (try clear HB)
              generalize ((w31.setCell ⟨gb214,0,none⟩ (.int .i64 ((rd_T48 l1 x18_2).f0))).setCell ⟨gb214,1,none⟩ (.int .i64 ((rd_T48 l1 x18_2).f1))) = w34 at n0_ n1_ n2_ ⊢
              have BK210:=n0_;have BK214:=n1_;have HB:=n2_;clear n0_ n1_ n2_;have n0_:=zM (zK BK210.out);have n1_:=zM (zK BK214.out);have n2_:=zM (zF HB.out);clear BK210;clear BK214;clear HB;have BK210:=n0_;have BK214:=n1_;have HB:=n2_;clear n0_ n1_ n2_;have p216:0 ≤ ((ji19):Int):=of_decide_eq_true (by first|(with_reducible assumption)|assumption)
              have q216:(ji19) < (l1.length:Int):=of_decide_eq_true (by first|(with_reducible assumption)|assumption)
              obtain ⟨ad216,e216,hx216_0,hx216_1⟩:=at_T48 HR1.out (ji19) p216 q216;have hw216_1:=hx216_1;have hw216_0:=hx216_0;obtain rfl:ad213 = ad216:=(by injection e216)
              replace hx216_0:=zS HB.out hx216_0;replace hx216_1:=zS HB.out hx216_1;replace p216:=eq_true p216;replace q216:=eq_true q216;refine start_ (n:=18) (S:=fun w'=>w'.cell? ⟨gb210,0,none⟩ = some (.int .i64 a0_0) ∧ w'.cell? ⟨gb210,1,none⟩ = some (.int .i64 a0_1) ∧ w'.cell? ⟨gb210,2,none⟩ = some (.slice A0_2 l0_2.length c0_2) ∧ w'.cell? ⟨gb214,0,none⟩ = some (.int .i64 ((rd_T48 l1 x18_2).f0)) ∧ w'.cell? ⟨gb214,1,none⟩ = some (.int .i64 ((rd_T48 l1 x18_2).f1)) ∧ w'.cell? (ad213.add (((ji19)).toNat * 2)) = some (.int .i64 ((rd_T48 l1 (ji19)).f0)) ∧ w'.cell? ⟨(ad213.add (((ji19)).toNat * 2)).block,(ad213.add (((ji19)).toNat * 2)).off + 1,none⟩ = some (.int .i64 ((rd_T48 l1 (ji19)).f1))) (ds:=[]) #[false,false,false,false,false,false,false,false,false,false,false,false,false,false,false,false,false,false] (by kernel_rfl) rfl rfl ⟨(blk_cell BK210.out 0).trans rfl,(blk_cell BK210.out 1).trans rfl,(blk_cell BK210.out 2).trans rfl,(blk_cell BK214.out 0).trans rfl,(blk_cell BK214.out 1).trans rfl,(zS HB.out hw216_0 :),(zS HB.out hw216_1 :)⟩ (fun hHeld=>?_);refine with_tabW impl_IsValidPath.tab6 impl_IsValidPath.bits6 (fun HT_ HW_=>?_)
              generalize w34.drew = w35 at BK210 BK214 HB hx216_0 hx216_1 hHeld ⊢
              refine zzt 0 23 (zzb 18 1) hHeld ?_ (hc:=zzy HT_ HW_) (hy:=by rintro w' ⟨s0,s1,s2,s3,s4,s5,s6⟩;go_simp;with_reducible rfl)
              refine zzt 1 24 (zzb 18 3) hHeld ?_ (hc:=zzy HT_ HW_) (hy:=by rintro w' ⟨s0,s1,s2,s3,s4,s5,s6⟩;go_simp;with_reducible rfl)
              refine one_ (i:=2) (N:=some 25) #[true,true,true,false,false,false,false,false,false,false,false,false,false,false,false,false,false,false] rfl rfl (one_of HT_.out (by kernel_rfl)) (by decide) (fun K hK=>?_)
              refine goes_ Try.func58 (by kernel_rfl) rfl #[.agg #[.int .i64 a0_0,.int .i64 a0_1,.slice A0_2 l0_2.length c0_2],.agg #[.int .i64 ((rd_T48 l1 x18_2).f0),.int .i64 ((rd_T48 l1 x18_2).f1)]] (by rfl) rfl rfl (by (try simp only [List.map_toArray,List.map_cons,List.map_nil]);first|done|rfl|(simp only [List.length_drop,List.length_take];rfl)) ?_
              with_reducible refine (impl_isFree.calls k2 a0_0 a0_1 _ _ l0_2 ((rd_T48 l1 x18_2).f0) ((rd_T48 l1 x18_2).f1) true _ ?side1 ?side2 A16.out).mono ?_
              (case side1=>repeat (first|exact (zO HR0_2.out HB.out)|(with_reducible first|refine zG ?_ _|refine zH ?_ _|refine zI ?_)))
              (case side2=>exact HC0_2.out)
              rintro e w36 ⟨rfl,hb⟩
              refine ⟨_,rfl,?_⟩
              have n0_:=zM (blk_below (g:=gb210) (o := .cells #[.int .i64 a0_0,.int .i64 a0_1,.slice A0_2 l0_2.length c0_2] 29 (0,0)) (by (with_reducible repeat (first|refine zJ ?_ _|refine zK ?_|refine zL ?_ _));exact BK210.out) hb)
              have n1_:=zM (blk_below (g:=gb214) (o := .cells #[.int .i64 ((rd_T48 l1 x18_2).f0),.int .i64 ((rd_T48 l1 x18_2).f1)] 48 (0,0)) (by (with_reducible repeat (first|refine zJ ?_ _|refine zK ?_|refine zL ?_ _));exact BK214.out) hb)
              have n2_:=zM (zQ (by repeat (first|(with_reducible first|exact HB.out|apply zD|apply zE|apply zF|refine below_set ?_ GE210.out|refine below_set ?_ GE214.out)|exact HB.out)) hb)
              clear BK210;clear BK214;clear HB;have BK210:=n0_;have BK214:=n1_;have HB:=n2_;clear n0_ n1_ n2_;(try clear hb)
              (try clear hb2)
              (try clear hk)
              (try clear hi)
              refine hK.out _ _ ⟨(blk_cell BK210.out 0).trans rfl,(blk_cell BK210.out 1).trans rfl,(blk_cell BK210.out 2).trans rfl,(blk_cell BK214.out 0).trans rfl,(blk_cell BK214.out 1).trans rfl,(zS HB.out hw216_0 :),(zS HB.out hw216_1 :)⟩ (fun hHeld=>?_)
              clear hK K;refine zzn 25 ?_;refine zzp 3 26 (zzb 18 15) ?_ (hc:=zzx HT_);refine zzp 4 27 (zzb 18 31) ?_ (hc:=zzx HT_);refine zzp 5 28 (zzb 18 63) ?_ (hc:=zzx HT_);refine zzp 6 29 (zzb 18 127) ?_ (hc:=zzx HT_);refine zzp 7 30 (zzb 18 255) ?_ (hc:=zzx HT_);refine zzp 8 31 (zzb 18 511) ?_ (hc:=zzx HT_);refine zzp 9 32 (zzb 18 1023) ?_ (hc:=zzx HT_);refine zzp 10 33 (zzb 18 2047) ?_ (hc:=zzx HT_);refine zzp 11 34 (zzb 18 4095) ?_ (hc:=zzx HT_)
              refine zzt 12 35 (zzb 18 8191) hHeld ?_ (hc:=zzy HT_ HW_) (hy:=by rintro w' ⟨s0,s1,s2,s3,s4,s5,s6⟩;go_simp;with_reducible rfl)
              refine zzt 13 36 (zzb 18 16383) hHeld ?_ (hc:=zzy HT_ HW_) (hy:=by rintro w' ⟨s0,s1,s2,s3,s4,s5,s6⟩;go_simp;with_reducible rfl)
              refine one_ (i:=14) (N:=some 37) #[true,true,true,true,true,true,true,true,true,true,true,true,true,true,true,false,false,false] rfl rfl (one_of HT_.out (by kernel_rfl)) (by decide) (fun K hK=>?_)
              refine goes_ Try.func59 (by kernel_rfl) rfl #[.agg #[.int .i64 ((rd_T48 l1 (ji19)).f0),.int .i64 ((rd_T48 l1 (ji19)).f1)],.agg #[.int .i64 ((rd_T48 l1 x18_2).f0),.int .i64 ((rd_T48 l1 x18_2).f1)]] (by rfl) rfl rfl (by (try simp only [List.map_toArray,List.map_cons,List.map_nil]);first|done|(simp only [hji19];rfl)|rfl|(simp only [List.length_drop,List.length_take];rfl)) ?_
              with_reducible refine (impl_besides.calls ((rd_T48 l1 (ji19)).f0) ((rd_T48 l1 (ji19)).f1) ((rd_T48 l1 x18_2).f0) ((rd_T48 l1 x18_2).f1) false _ A22.out).mono ?_
              rintro e w37 ⟨rfl,hb⟩
              refine ⟨_,rfl,?_⟩
              have n0_:=zM (blk_below (g:=gb210) (o := .cells #[.int .i64 a0_0,.int .i64 a0_1,.slice A0_2 l0_2.length c0_2] 29 (0,0)) (by (with_reducible repeat (first|refine zJ ?_ _|refine zK ?_|refine zL ?_ _));exact BK210.out) hb)
              have n1_:=zM (blk_below (g:=gb214) (o := .cells #[.int .i64 ((rd_T48 l1 x18_2).f0),.int .i64 ((rd_T48 l1 x18_2).f1)] 48 (0,0)) (by (with_reducible repeat (first|refine zJ ?_ _|refine zK ?_|refine zL ?_ _));exact BK214.out) hb)
              have n2_:=zM (zQ (by repeat (first|(with_reducible first|exact HB.out|apply zD|apply zE|apply zF|refine below_set ?_ GE210.out|refine below_set ?_ GE214.out)|exact HB.out)) hb)
              clear BK210;clear BK214;clear HB;have BK210:=n0_;have BK214:=n1_;have HB:=n2_;clear n0_ n1_ n2_;(try clear hb)
              (try clear hb2)
              (try clear hk)
              (try clear hi)
              refine hK.out _ _ ⟨(blk_cell BK210.out 0).trans rfl,(blk_cell BK210.out 1).trans rfl,(blk_cell BK210.out 2).trans rfl,(blk_cell BK214.out 0).trans rfl,(blk_cell BK214.out 1).trans rfl,(zS HB.out hw216_0 :),(zS HB.out hw216_1 :)⟩ (fun hHeld=>?_)
              clear hK K;refine zzn 37 ?_;refine zzp 15 38 (zzb 18 65535) ?_ (hc:=zzx HT_);refine zzp 16 39 (zzb 18 131071) ?_ (hc:=zzx HT_);refine zzp 17 40 (zzb 18 262143) ?_ (hc:=zzx HT_)
              refine done_ (done_of HT_.out (by kernel_rfl)) ?_
              try go_wp2
              go_ret
              exact ⟨by first|rfl|(simp [errW_none,errW_some] <;> rfl)|(simp only [← hji19];first|rfl|(simp [errW_none,errW_some] <;> rfl))|(simp [*,errW_none,errW_some] <;> rfl),by repeat (first|(with_reducible first|exact HB.out|apply zD|apply zE|apply zF|refine below_set ?_ GE210.out|refine below_set ?_ GE214.out)|exact HB.out)⟩
            ·rw [if_neg c21] at H
             exact absurd H (by simp)
           ·rw [if_neg c20] at H
            exact absurd H (by simp)
          ·rw [if_neg c18] at H
           have c18b0:decide (0 < x18_2) = false:=decide_eq_false c18
           clear c18;have H':=zM H;clear H;have p213:0 ≤ (x18_2:Int):=of_decide_eq_true (by first|(with_reducible assumption)|assumption)
           have q213:x18_2 < (l1.length:Int):=of_decide_eq_true (by first|(with_reducible assumption)|assumption)
           obtain ⟨ad213,e213,hx213_0,hx213_1⟩:=at_T48 HR1.out x18_2 p213 q213;cases e213
           replace hx213_0:=zS HB.out hx213_0;replace hx213_1:=zS HB.out hx213_1;replace p213:=eq_true p213;replace q213:=eq_true q213;try go_wp2_with (first|((with_reducible refine gate_dst (N:=6) rfl ?_);(try (refine gate_guard (by rfl) ?_;dsimp only));refine box_event ?hg (N:=6) ?hd (cs := #[.int .i64 0,.int .i64 0]) (t:=48) ?hr ?_;(case hd=>rfl);(case hg=>rfl);(case hr=>first|(go_simp;done)|(go_simp;rfl));intro gb214 hg w38 hbox hb;have n0_:=zM (blk_below (g:=gb210) (o := .cells #[.int .i64 a0_0,.int .i64 a0_1,.slice A0_2 l0_2.length c0_2] 29 (0,0)) (by (with_reducible repeat (first|refine zJ ?_ _|refine zK ?_|refine zL ?_ _));exact BK210.out) hb);have n1_:=zM (zQ (by repeat (first|(with_reducible first|exact HB.out|apply zD|apply zE|apply zF|refine below_set ?_ GE210.out)|exact HB.out)) hb);have n2_:=zM (hbox);have n3_:=zM ((by rw [hg];exact (zR (by repeat (first|(with_reducible first|exact HB.out|apply zD|apply zE|apply zF|refine below_set ?_ GE210.out)|exact HB.out))):w.heap.size ≤ gb214));have n4_:=zM ((by rw [hg];exact (zR (by repeat (first|(with_reducible first|exact HB.out|apply zD|apply zE|apply zF|refine below_set ?_ GE210.out)|exact HB.out))):w.heap.size ≤ gb214));have n5_:=zM ((by rw [hg];exact Nat.ne_of_lt (blk_lt (g:=gb210) (o := .cells #[.int .i64 a0_0,.int .i64 a0_1,.slice A0_2 l0_2.length c0_2] 29 (0,0)) (by (with_reducible repeat (first|refine zJ ?_ _|refine zK ?_|refine zL ?_ _));exact BK210.out)):gb210 ≠ gb214));have n6_:=zM ((by rw [hg];exact Nat.ne_of_gt (blk_lt (g:=gb210) (o := .cells #[.int .i64 a0_0,.int .i64 a0_1,.slice A0_2 l0_2.length c0_2] 29 (0,0)) (by (with_reducible repeat (first|refine zJ ?_ _|refine zK ?_|refine zL ?_ _));exact BK210.out)):gb214 ≠ gb210));clear BK210;clear HB;have BK210:=n0_;have HB:=n1_;have BK214:=n2_;have GW214:=n3_;have GE214:=n4_;have NB210_214:=n5_;have NB214_210:=n6_;clear n0_ n1_ n2_ n3_ n4_ n5_ n6_;clear hb hbox hg;have hnb39:=NB214_210.out;have hnc39:=NB210_214.out;have hcz40_0:w38.cell? ⟨gb214,0,none⟩ = some (.int .i64 0):=(blk_cell BK214.out 0).trans rfl;have hcz40_1:w38.cell? ⟨gb214,1,none⟩ = some (.int .i64 0):=(blk_cell BK214.out 1).trans rfl;have hfz40_0:=blk_frozen BK214.out 0;have hfz40_1:=blk_frozen BK214.out 1))
           have n0_:Aside0 (((w38.setCell ⟨gb214,0,none⟩ (.int .i64 ((rd_T48 l1 x18_2).f0))).setCell ⟨gb214,1,none⟩ (.int .i64 ((rd_T48 l1 x18_2).f1))).heap[gb210]? = some (.cells #[.int .i64 a0_0,.int .i64 a0_1,.slice A0_2 l0_2.length c0_2] 29 (0,0))):=⟨by (with_reducible repeat (first|refine zJ ?_ _|refine zK ?_|refine zL ?_ _));refine blk_far ?_ NB210_214.out _;(with_reducible repeat (first|refine zJ ?_ _|refine zK ?_|refine zL ?_ _));refine blk_far ?_ NB210_214.out _;(with_reducible repeat (first|refine zJ ?_ _|refine zK ?_|refine zL ?_ _));exact BK210.out⟩
           have n1_:Aside0 (((w38.setCell ⟨gb214,0,none⟩ (.int .i64 ((rd_T48 l1 x18_2).f0))).setCell ⟨gb214,1,none⟩ (.int .i64 ((rd_T48 l1 x18_2).f1))).heap[gb214]? = some (.cells #[.int .i64 ((rd_T48 l1 x18_2).f0),.int .i64 ((rd_T48 l1 x18_2).f1)] 48 (0,0))):=⟨by (with_reducible repeat (first|refine zJ ?_ _|refine zK ?_|refine zL ?_ _));refine blk_put (cs := #[.int .i64 ((rd_T48 l1 x18_2).f0),.int .i64 0]) ?_ 1 _ rfl;(with_reducible repeat (first|refine zJ ?_ _|refine zK ?_|refine zL ?_ _));refine blk_put (cs := #[.int .i64 0,.int .i64 0]) ?_ 0 _ rfl;(with_reducible repeat (first|refine zJ ?_ _|refine zK ?_|refine zL ?_ _));exact BK214.out⟩
           have n2_:Aside0 (Below w.heap.size w ((w38.setCell ⟨gb214,0,none⟩ (.int .i64 ((rd_T48 l1 x18_2).f0))).setCell ⟨gb214,1,none⟩ (.int .i64 ((rd_T48 l1 x18_2).f1)))):=⟨by repeat (first|(with_reducible first|exact HB.out|apply zD|apply zE|apply zF|refine below_set ?_ GE210.out|refine below_set ?_ GE214.out)|exact HB.out)⟩
           (try clear BK210)
           (try clear BK214)
           (try clear HB)
           generalize ((w38.setCell ⟨gb214,0,none⟩ (.int .i64 ((rd_T48 l1 x18_2).f0))).setCell ⟨gb214,1,none⟩ (.int .i64 ((rd_T48 l1 x18_2).f1))) = w41 at n0_ n1_ n2_ ⊢
           have BK210:=n0_;have BK214:=n1_;have HB:=n2_;clear n0_ n1_ n2_;have n0_:=zM (zK BK210.out);have n1_:=zM (zK BK214.out);have n2_:=zM (zF HB.out);clear BK210;clear BK214;clear HB;have BK210:=n0_;have BK214:=n1_;have HB:=n2_;clear n0_ n1_ n2_;refine start_ (n:=18) (S:=fun w'=>w'.cell? ⟨gb210,0,none⟩ = some (.int .i64 a0_0) ∧ w'.cell? ⟨gb210,1,none⟩ = some (.int .i64 a0_1) ∧ w'.cell? ⟨gb210,2,none⟩ = some (.slice A0_2 l0_2.length c0_2) ∧ w'.cell? ⟨gb214,0,none⟩ = some (.int .i64 ((rd_T48 l1 x18_2).f0)) ∧ w'.cell? ⟨gb214,1,none⟩ = some (.int .i64 ((rd_T48 l1 x18_2).f1))) (ds:=[]) #[false,false,false,false,false,false,false,false,false,false,false,false,false,false,false,false,false,false] (by kernel_rfl) rfl rfl ⟨(blk_cell BK210.out 0).trans rfl,(blk_cell BK210.out 1).trans rfl,(blk_cell BK210.out 2).trans rfl,(blk_cell BK214.out 0).trans rfl,(blk_cell BK214.out 1).trans rfl⟩ (fun hHeld=>?_);refine with_tabW impl_IsValidPath.tab6 impl_IsValidPath.bits6 (fun HT_ HW_=>?_)
           generalize w41.drew = w42 at BK210 BK214 HB hHeld ⊢
           refine zzt 0 23 (zzb 18 1) hHeld ?_ (hc:=zzy HT_ HW_) (hy:=by rintro w' ⟨s0,s1,s2,s3,s4⟩;go_simp;with_reducible rfl)
           refine zzt 1 24 (zzb 18 3) hHeld ?_ (hc:=zzy HT_ HW_) (hy:=by rintro w' ⟨s0,s1,s2,s3,s4⟩;go_simp;with_reducible rfl)
           refine one_ (i:=2) (N:=some 25) #[true,true,true,false,false,false,false,false,false,false,false,false,false,false,false,false,false,false] rfl rfl (one_of HT_.out (by kernel_rfl)) (by decide) (fun K hK=>?_)
           refine goes_ Try.func58 (by kernel_rfl) rfl #[.agg #[.int .i64 a0_0,.int .i64 a0_1,.slice A0_2 l0_2.length c0_2],.agg #[.int .i64 ((rd_T48 l1 x18_2).f0),.int .i64 ((rd_T48 l1 x18_2).f1)]] (by rfl) rfl rfl (by (try simp only [List.map_toArray,List.map_cons,List.map_nil]);first|done|rfl|(simp only [List.length_drop,List.length_take];rfl)) ?_
           with_reducible refine (impl_isFree.calls k2 a0_0 a0_1 _ _ l0_2 ((rd_T48 l1 x18_2).f0) ((rd_T48 l1 x18_2).f1) true _ ?side1 ?side2 A16.out).mono ?_
           (case side1=>repeat (first|exact (zO HR0_2.out HB.out)|(with_reducible first|refine zG ?_ _|refine zH ?_ _|refine zI ?_)))
           (case side2=>exact HC0_2.out)
           rintro e w43 ⟨rfl,hb⟩
           refine ⟨_,rfl,?_⟩
           have n0_:=zM (blk_below (g:=gb210) (o := .cells #[.int .i64 a0_0,.int .i64 a0_1,.slice A0_2 l0_2.length c0_2] 29 (0,0)) (by (with_reducible repeat (first|refine zJ ?_ _|refine zK ?_|refine zL ?_ _));exact BK210.out) hb)
           have n1_:=zM (blk_below (g:=gb214) (o := .cells #[.int .i64 ((rd_T48 l1 x18_2).f0),.int .i64 ((rd_T48 l1 x18_2).f1)] 48 (0,0)) (by (with_reducible repeat (first|refine zJ ?_ _|refine zK ?_|refine zL ?_ _));exact BK214.out) hb)
           have n2_:=zM (zQ (by repeat (first|(with_reducible first|exact HB.out|apply zD|apply zE|apply zF|refine below_set ?_ GE210.out|refine below_set ?_ GE214.out)|exact HB.out)) hb)
           clear BK210;clear BK214;clear HB;have BK210:=n0_;have BK214:=n1_;have HB:=n2_;clear n0_ n1_ n2_;(try clear hb)
           (try clear hb2)
           (try clear hk)
           (try clear hi)
           refine hK.out _ _ ⟨(blk_cell BK210.out 0).trans rfl,(blk_cell BK210.out 1).trans rfl,(blk_cell BK210.out 2).trans rfl,(blk_cell BK214.out 0).trans rfl,(blk_cell BK214.out 1).trans rfl⟩ (fun hHeld=>?_)
           clear hK K;refine zzn 25 ?_;refine zzp 3 26 (zzb 18 15) ?_ (hc:=zzx HT_);refine zzp 4 27 (zzb 18 31) ?_ (hc:=zzx HT_);refine zzp 5 28 (zzb 18 63) ?_ (hc:=zzx HT_);refine zzp 6 29 (zzb 18 127) ?_ (hc:=zzx HT_);refine zzp 7 30 (zzb 18 255) ?_ (hc:=zzx HT_);refine zzu 8 31 (zzb 18 511) ?_ (hc:=zzx HT_);refine zzu 9 32 (zzb 18 1023) ?_ (hc:=zzx HT_);refine zzu 10 33 (zzb 18 2047) ?_ (hc:=zzx HT_);refine zzu 11 34 (zzb 18 4095) ?_ (hc:=zzx HT_);refine zzu 12 35 (zzb 18 8191) ?_ (hc:=zzx HT_);refine zzu 13 36 (zzb 18 16383) ?_ (hc:=zzx HT_);refine zzu 14 37 (zzb 18 32767) ?_ (hc:=zzx HT_);refine zzu 15 38 (zzb 18 65535) ?_ (hc:=zzx HT_);refine zzp 16 39 (zzb 18 131071) ?_ (hc:=zzx HT_);refine zzp 17 40 (zzb 18 262143) ?_ (hc:=zzx HT_)
           refine done_ (done_of HT_.out (by kernel_rfl)) ?_
           try go_wp2
           go_roundg k2
           case measure=>have:=HJ2.out;have:=HK2.out;omega
           case rel=>exact ⟨(wrap64 (x18_2 + 1)),(by first|rfl|(simp;done)|(simp [*];done)),H',⟨by have:=HJ2.out;have:=HK2.out;omega⟩,⟨by (with_reducible repeat (first|refine zJ ?_ _|refine zK ?_|refine zL ?_ _));exact BK210.out⟩,⟨by repeat (first|(with_reducible first|exact HB.out|apply zD|apply zE|apply zF|refine below_set ?_ GE210.out|refine below_set ?_ GE214.out)|exact HB.out)⟩⟩
         ·replace c17:=Bool.eq_false_iff.mpr c17
          subst c17;have H1:(some false) = some r:=by rw [if_neg (show ¬ (false = true) by decide)] at H;exact H
          clear H;have H:=H1;clear H1;obtain rfl:=Option.some.inj H;have p213:0 ≤ (x18_2:Int):=of_decide_eq_true (by first|(with_reducible assumption)|assumption)
          have q213:x18_2 < (l1.length:Int):=of_decide_eq_true (by first|(with_reducible assumption)|assumption)
          obtain ⟨ad213,e213,hx213_0,hx213_1⟩:=at_T48 HR1.out x18_2 p213 q213;cases e213
          replace hx213_0:=zS HB.out hx213_0;replace hx213_1:=zS HB.out hx213_1;replace p213:=eq_true p213;replace q213:=eq_true q213;try go_wp2_with (first|((with_reducible refine gate_dst (N:=6) rfl ?_);(try (refine gate_guard (by rfl) ?_;dsimp only));refine box_event ?hg (N:=6) ?hd (cs := #[.int .i64 0,.int .i64 0]) (t:=48) ?hr ?_;(case hd=>rfl);(case hg=>rfl);(case hr=>first|(go_simp;done)|(go_simp;rfl));intro gb214 hg w44 hbox hb;have n0_:=zM (blk_below (g:=gb210) (o := .cells #[.int .i64 a0_0,.int .i64 a0_1,.slice A0_2 l0_2.length c0_2] 29 (0,0)) (by (with_reducible repeat (first|refine zJ ?_ _|refine zK ?_|refine zL ?_ _));exact BK210.out) hb);have n1_:=zM (zQ (by repeat (first|(with_reducible first|exact HB.out|apply zD|apply zE|apply zF|refine below_set ?_ GE210.out)|exact HB.out)) hb);have n2_:=zM (hbox);have n3_:=zM ((by rw [hg];exact (zR (by repeat (first|(with_reducible first|exact HB.out|apply zD|apply zE|apply zF|refine below_set ?_ GE210.out)|exact HB.out))):w.heap.size ≤ gb214));have n4_:=zM ((by rw [hg];exact (zR (by repeat (first|(with_reducible first|exact HB.out|apply zD|apply zE|apply zF|refine below_set ?_ GE210.out)|exact HB.out))):w.heap.size ≤ gb214));have n5_:=zM ((by rw [hg];exact Nat.ne_of_lt (blk_lt (g:=gb210) (o := .cells #[.int .i64 a0_0,.int .i64 a0_1,.slice A0_2 l0_2.length c0_2] 29 (0,0)) (by (with_reducible repeat (first|refine zJ ?_ _|refine zK ?_|refine zL ?_ _));exact BK210.out)):gb210 ≠ gb214));have n6_:=zM ((by rw [hg];exact Nat.ne_of_gt (blk_lt (g:=gb210) (o := .cells #[.int .i64 a0_0,.int .i64 a0_1,.slice A0_2 l0_2.length c0_2] 29 (0,0)) (by (with_reducible repeat (first|refine zJ ?_ _|refine zK ?_|refine zL ?_ _));exact BK210.out)):gb214 ≠ gb210));clear BK210;clear HB;have BK210:=n0_;have HB:=n1_;have BK214:=n2_;have GW214:=n3_;have GE214:=n4_;have NB210_214:=n5_;have NB214_210:=n6_;clear n0_ n1_ n2_ n3_ n4_ n5_ n6_;clear hb hbox hg;have hnb45:=NB214_210.out;have hnc45:=NB210_214.out;have hcz46_0:w44.cell? ⟨gb214,0,none⟩ = some (.int .i64 0):=(blk_cell BK214.out 0).trans rfl;have hcz46_1:w44.cell? ⟨gb214,1,none⟩ = some (.int .i64 0):=(blk_cell BK214.out 1).trans rfl;have hfz46_0:=blk_frozen BK214.out 0;have hfz46_1:=blk_frozen BK214.out 1))
          have n0_:Aside0 (((w44.setCell ⟨gb214,0,none⟩ (.int .i64 ((rd_T48 l1 x18_2).f0))).setCell ⟨gb214,1,none⟩ (.int .i64 ((rd_T48 l1 x18_2).f1))).heap[gb210]? = some (.cells #[.int .i64 a0_0,.int .i64 a0_1,.slice A0_2 l0_2.length c0_2] 29 (0,0))):=⟨by (with_reducible repeat (first|refine zJ ?_ _|refine zK ?_|refine zL ?_ _));refine blk_far ?_ NB210_214.out _;(with_reducible repeat (first|refine zJ ?_ _|refine zK ?_|refine zL ?_ _));refine blk_far ?_ NB210_214.out _;(with_reducible repeat (first|refine zJ ?_ _|refine zK ?_|refine zL ?_ _));exact BK210.out⟩
          have n1_:Aside0 (((w44.setCell ⟨gb214,0,none⟩ (.int .i64 ((rd_T48 l1 x18_2).f0))).setCell ⟨gb214,1,none⟩ (.int .i64 ((rd_T48 l1 x18_2).f1))).heap[gb214]? = some (.cells #[.int .i64 ((rd_T48 l1 x18_2).f0),.int .i64 ((rd_T48 l1 x18_2).f1)] 48 (0,0))):=⟨by (with_reducible repeat (first|refine zJ ?_ _|refine zK ?_|refine zL ?_ _));refine blk_put (cs := #[.int .i64 ((rd_T48 l1 x18_2).f0),.int .i64 0]) ?_ 1 _ rfl;(with_reducible repeat (first|refine zJ ?_ _|refine zK ?_|refine zL ?_ _));refine blk_put (cs := #[.int .i64 0,.int .i64 0]) ?_ 0 _ rfl;(with_reducible repeat (first|refine zJ ?_ _|refine zK ?_|refine zL ?_ _));exact BK214.out⟩
          have n2_:Aside0 (Below w.heap.size w ((w44.setCell ⟨gb214,0,none⟩ (.int .i64 ((rd_T48 l1 x18_2).f0))).setCell ⟨gb214,1,none⟩ (.int .i64 ((rd_T48 l1 x18_2).f1)))):=⟨by repeat (first|(with_reducible first|exact HB.out|apply zD|apply zE|apply zF|refine below_set ?_ GE210.out|refine below_set ?_ GE214.out)|exact HB.out)⟩
          (try clear BK210)
          (try clear BK214)
          (try clear HB)
          generalize ((w44.setCell ⟨gb214,0,none⟩ (.int .i64 ((rd_T48 l1 x18_2).f0))).setCell ⟨gb214,1,none⟩ (.int .i64 ((rd_T48 l1 x18_2).f1))) = w47 at n0_ n1_ n2_ ⊢
          have BK210:=n0_;have BK214:=n1_;have HB:=n2_;clear n0_ n1_ n2_;have n0_:=zM (zK BK210.out);have n1_:=zM (zK BK214.out);have n2_:=zM (zF HB.out);clear BK210;clear BK214;clear HB;have BK210:=n0_;have BK214:=n1_;have HB:=n2_;clear n0_ n1_ n2_;refine start_ (n:=18) (S:=fun w'=>w'.cell? ⟨gb210,0,none⟩ = some (.int .i64 a0_0) ∧ w'.cell? ⟨gb210,1,none⟩ = some (.int .i64 a0_1) ∧ w'.cell? ⟨gb210,2,none⟩ = some (.slice A0_2 l0_2.length c0_2) ∧ w'.cell? ⟨gb214,0,none⟩ = some (.int .i64 ((rd_T48 l1 x18_2).f0)) ∧ w'.cell? ⟨gb214,1,none⟩ = some (.int .i64 ((rd_T48 l1 x18_2).f1))) (ds:=[]) #[false,false,false,false,false,false,false,false,false,false,false,false,false,false,false,false,false,false] (by kernel_rfl) rfl rfl ⟨(blk_cell BK210.out 0).trans rfl,(blk_cell BK210.out 1).trans rfl,(blk_cell BK210.out 2).trans rfl,(blk_cell BK214.out 0).trans rfl,(blk_cell BK214.out 1).trans rfl⟩ (fun hHeld=>?_);refine with_tabW impl_IsValidPath.tab6 impl_IsValidPath.bits6 (fun HT_ HW_=>?_)
          generalize w47.drew = w48 at BK210 BK214 HB hHeld ⊢
          refine zzt 0 23 (zzb 18 1) hHeld ?_ (hc:=zzy HT_ HW_) (hy:=by rintro w' ⟨s0,s1,s2,s3,s4⟩;go_simp;with_reducible rfl)
          refine zzt 1 24 (zzb 18 3) hHeld ?_ (hc:=zzy HT_ HW_) (hy:=by rintro w' ⟨s0,s1,s2,s3,s4⟩;go_simp;with_reducible rfl)
          refine one_ (i:=2) (N:=some 25) #[true,true,true,false,false,false,false,false,false,false,false,false,false,false,false,false,false,false] rfl rfl (one_of HT_.out (by kernel_rfl)) (by decide) (fun K hK=>?_)
          refine goes_ Try.func58 (by kernel_rfl) rfl #[.agg #[.int .i64 a0_0,.int .i64 a0_1,.slice A0_2 l0_2.length c0_2],.agg #[.int .i64 ((rd_T48 l1 x18_2).f0),.int .i64 ((rd_T48 l1 x18_2).f1)]] (by rfl) rfl rfl (by (try simp only [List.map_toArray,List.map_cons,List.map_nil]);first|done|rfl|(simp only [List.length_drop,List.length_take];rfl)) ?_
          with_reducible refine (impl_isFree.calls k2 a0_0 a0_1 _ _ l0_2 ((rd_T48 l1 x18_2).f0) ((rd_T48 l1 x18_2).f1) false _ ?side1 ?side2 A16.out).mono ?_
          (case side1=>repeat (first|exact (zO HR0_2.out HB.out)|(with_reducible first|refine zG ?_ _|refine zH ?_ _|refine zI ?_)))
          (case side2=>exact HC0_2.out)
          rintro e w49 ⟨rfl,hb⟩
          refine ⟨_,rfl,?_⟩
          have n0_:=zM (blk_below (g:=gb210) (o := .cells #[.int .i64 a0_0,.int .i64 a0_1,.slice A0_2 l0_2.length c0_2] 29 (0,0)) (by (with_reducible repeat (first|refine zJ ?_ _|refine zK ?_|refine zL ?_ _));exact BK210.out) hb)
          have n1_:=zM (blk_below (g:=gb214) (o := .cells #[.int .i64 ((rd_T48 l1 x18_2).f0),.int .i64 ((rd_T48 l1 x18_2).f1)] 48 (0,0)) (by (with_reducible repeat (first|refine zJ ?_ _|refine zK ?_|refine zL ?_ _));exact BK214.out) hb)
          have n2_:=zM (zQ (by repeat (first|(with_reducible first|exact HB.out|apply zD|apply zE|apply zF|refine below_set ?_ GE210.out|refine below_set ?_ GE214.out)|exact HB.out)) hb)
          clear BK210;clear BK214;clear HB;have BK210:=n0_;have BK214:=n1_;have HB:=n2_;clear n0_ n1_ n2_;(try clear hb)
          (try clear hb2)
          (try clear hk)
          (try clear hi)
          refine hK.out _ _ ⟨(blk_cell BK210.out 0).trans rfl,(blk_cell BK210.out 1).trans rfl,(blk_cell BK210.out 2).trans rfl,(blk_cell BK214.out 0).trans rfl,(blk_cell BK214.out 1).trans rfl⟩ (fun hHeld=>?_)
          clear hK K;refine zzn 25 ?_;refine zzp 3 26 (zzb 18 15) ?_ (hc:=zzx HT_);refine zzp 4 27 (zzb 18 31) ?_ (hc:=zzx HT_);refine zzu 5 28 (zzb 18 63) ?_ (hc:=zzx HT_);refine zzu 6 29 (zzb 18 127) ?_ (hc:=zzx HT_);refine zzu 7 30 (zzb 18 255) ?_ (hc:=zzx HT_);refine zzu 8 31 (zzb 18 511) ?_ (hc:=zzx HT_);refine zzu 9 32 (zzb 18 1023) ?_ (hc:=zzx HT_);refine zzu 10 33 (zzb 18 2047) ?_ (hc:=zzx HT_);refine zzu 11 34 (zzb 18 4095) ?_ (hc:=zzx HT_);refine zzu 12 35 (zzb 18 8191) ?_ (hc:=zzx HT_);refine zzu 13 36 (zzb 18 16383) ?_ (hc:=zzx HT_);refine zzu 14 37 (zzb 18 32767) ?_ (hc:=zzx HT_);refine zzu 15 38 (zzb 18 65535) ?_ (hc:=zzx HT_);refine zzu 16 39 (zzb 18 131071) ?_ (hc:=zzx HT_);refine zzp 17 40 (zzb 18 262143) ?_ (hc:=zzx HT_)
          refine done_ (done_of HT_.out (by kernel_rfl)) ?_
          try go_wp2
          go_ret
          exact ⟨by first|rfl|(simp [errW_none,errW_some] <;> rfl)|(simp [*,errW_none,errW_some] <;> rfl),by repeat (first|(with_reducible first|exact HB.out|apply zD|apply zE|apply zF|refine below_set ?_ GE210.out|refine below_set ?_ GE214.out)|exact HB.out)⟩
        ·rw [if_neg c15] at H
         exact absurd H (by simp)
       ·rw [if_neg c14] at H
        exact absurd H (by simp)
      ·rw [if_neg c13] at H
       have c13b0:decide (x18_2 < (l1.length:Int)) = false:=decide_eq_false c13
       clear c13;obtain rfl:=Option.some.inj H;go_wp2
       go_ret
       exact ⟨by first|rfl|(simp [errW_none,errW_some] <;> rfl)|(simp [*,errW_none,errW_some] <;> rfl),by repeat (first|(with_reducible first|exact HB.out|apply zD|apply zE|apply zF|refine below_set ?_ GE210.out)|exact HB.out)⟩



attribute [local go_sem high] eqA48
/-! ### spec_l16Blocked: function 96 -/
def spec_l16Blocked.l0:Nat → Int → Int → Int → List (S48) → Int → Int → Option (Bool)
 | 0,_,_,_,_,_,_=>none
 | k + 1,x5,x178000,x178001,x178002,x179000,x179001=>if x5 < (x178002.length:Int) then (if 0 ≤ x5 then (if (((rd_T48 x178002 x5).f0) == x179000 && (((rd_T48 x178002 x5).f1) == x179001)) = true then (some true) else (spec_l16Blocked.l0 k (wrap64 (x5 + 1)) x178000 x178001 x178002 x179000 x179001)) else (none)) else (some false)
def spec_l16Blocked.f (k:Nat) (a0_0:Int) (a0_1:Int) (l0_2:List (S48)) (a1_0:Int) (a1_1:Int):Option (Bool):=spec_l16Blocked.l0 k 0 a0_0 a0_1 l0_2 a1_0 a1_1
set_option maxHeartbeats 8000000 in
set_option maxRecDepth 100000 in
theorem spec_l16Blocked.calls (k:Nat) (a0_0:Int) (a0_1:Int) (A0_2:Option Addr) (c0_2:Nat) (l0_2:List (S48)) (a1_0:Int) (a1_1:Int) (r:Bool) (w:World) (hr0_2:Kd.C k48 w A0_2 l0_2.length l0_2) (hc0_2:l0_2.length ≤ c0_2) (h:spec_l16Blocked.f k a0_0 a0_1 l0_2 a1_0 a1_1 = some r) :
  Calls Try.prog 96 #[.agg #[.int .i64 a0_0,.int .i64 a0_1,.slice A0_2 l0_2.length c0_2],.agg #[.int .i64 a1_0,.int .i64 a1_1]] w fun e w'=>e = .returned (.bool r) ∧ Below w.heap.size w w':=by
 have hu29:=Try.underlying29;have hu48:=Try.underlying48;have HR0_2:=zM hr0_2;have HC0_2:=zM hc0_2;clear hr0_2 hc0_2;have HB:=zM (Below.refl w.heap.size w);have H:(spec_l16Blocked.l0 k 0 a0_0 a0_1 l0_2 a1_0 a1_1) = some r:=h
 clear h;have H':=zM H;clear H;go_enter Try.func96,Try.ntmps96
 go_wp2_with (first|((with_reducible refine gate_dst (N:=2) rfl ?_);refine box_event ?hg (N:=2) ?hd (cs := #[.int .i64 a0_0,.int .i64 a0_1,.slice A0_2 l0_2.length c0_2]) (t:=29) ?hr ?_;(case hd=>rfl);(case hg=>rfl);(case hr=>first|(go_simp;done)|(go_simp;rfl));intro gb177 hg w3 hbox hb;have n0_:=zM (zQ (by repeat (first|(with_reducible first|exact HB.out|apply zD|apply zE|apply zF)|exact HB.out)) hb);have n1_:=zM (hbox);have n2_:=zM ((by rw [hg];exact (zR (by repeat (first|(with_reducible first|exact HB.out|apply zD|apply zE|apply zF)|exact HB.out))):w.heap.size ≤ gb177));have n3_:=zM ((by rw [hg];exact (zR (by repeat (first|(with_reducible first|exact HB.out|apply zD|apply zE|apply zF)|exact HB.out))):w.heap.size ≤ gb177));clear HB;have HB:=n0_;have BK177:=n1_;have GW177:=n2_;have GE177:=n3_;clear n0_ n1_ n2_ n3_;clear hb hbox hg)|((with_reducible refine gate_dst (N:=3) rfl ?_);refine box_event ?hg (N:=3) ?hd (cs := #[.int .i64 a1_0,.int .i64 a1_1]) (t:=48) ?hr ?_;(case hd=>rfl);(case hg=>rfl);(case hr=>first|(go_simp;done)|(go_simp;rfl));intro gb178 hg w4 hbox hb;have n0_:=zM (blk_below (g:=gb177) (o := .cells #[.int .i64 a0_0,.int .i64 a0_1,.slice A0_2 l0_2.length c0_2] 29 (0,0)) (by (with_reducible repeat (first|refine zJ ?_ _|refine zK ?_|refine zL ?_ _));exact BK177.out) hb);have n1_:=zM (zQ (by repeat (first|(with_reducible first|exact HB.out|apply zD|apply zE|apply zF|refine below_set ?_ GE177.out)|exact HB.out)) hb);have n2_:=zM (hbox);have n3_:=zM ((by rw [hg];exact (zR (by repeat (first|(with_reducible first|exact HB.out|apply zD|apply zE|apply zF|refine below_set ?_ GE177.out)|exact HB.out))):w.heap.size ≤ gb178));have n4_:=zM ((by rw [hg];exact (zR (by repeat (first|(with_reducible first|exact HB.out|apply zD|apply zE|apply zF|refine below_set ?_ GE177.out)|exact HB.out))):w.heap.size ≤ gb178));have n5_:=zM ((by rw [hg];exact Nat.ne_of_lt (blk_lt (g:=gb177) (o := .cells #[.int .i64 a0_0,.int .i64 a0_1,.slice A0_2 l0_2.length c0_2] 29 (0,0)) (by (with_reducible repeat (first|refine zJ ?_ _|refine zK ?_|refine zL ?_ _));exact BK177.out)):gb177 ≠ gb178));have n6_:=zM ((by rw [hg];exact Nat.ne_of_gt (blk_lt (g:=gb177) (o := .cells #[.int .i64 a0_0,.int .i64 a0_1,.slice A0_2 l0_2.length c0_2] 29 (0,0)) (by (with_reducible repeat (first|refine zJ ?_ _|refine zK ?_|refine zL ?_ _));exact BK177.out)):gb178 ≠ gb177));clear BK177;clear HB;have BK177:=n0_;have HB:=n1_;have BK178:=n2_;have GW178:=n3_;have GE178:=n4_;have NB177_178:=n5_;have NB178_177:=n6_;clear n0_ n1_ n2_ n3_ n4_ n5_ n6_;clear hb hbox hg))
 repeat (go_quiet (first|((with_reducible refine gate_dst (N:=2) rfl ?_);refine box_event ?hg (N:=2) ?hd (cs := #[.int .i64 a0_0,.int .i64 a0_1,.slice A0_2 l0_2.length c0_2]) (t:=29) ?hr ?_;(case hd=>rfl);(case hg=>rfl);(case hr=>first|(go_simp;done)|(go_simp;rfl));intro gb177 hg w3 hbox hb;have n0_:=zM (zQ (by repeat (first|(with_reducible first|exact HB.out|apply zD|apply zE|apply zF)|exact HB.out)) hb);have n1_:=zM (hbox);have n2_:=zM ((by rw [hg];exact (zR (by repeat (first|(with_reducible first|exact HB.out|apply zD|apply zE|apply zF)|exact HB.out))):w.heap.size ≤ gb177));have n3_:=zM ((by rw [hg];exact (zR (by repeat (first|(with_reducible first|exact HB.out|apply zD|apply zE|apply zF)|exact HB.out))):w.heap.size ≤ gb177));clear HB;have HB:=n0_;have BK177:=n1_;have GW177:=n2_;have GE177:=n3_;clear n0_ n1_ n2_ n3_;clear hb hbox hg)|((with_reducible refine gate_dst (N:=3) rfl ?_);refine box_event ?hg (N:=3) ?hd (cs := #[.int .i64 a1_0,.int .i64 a1_1]) (t:=48) ?hr ?_;(case hd=>rfl);(case hg=>rfl);(case hr=>first|(go_simp;done)|(go_simp;rfl));intro gb178 hg w4 hbox hb;have n0_:=zM (blk_below (g:=gb177) (o := .cells #[.int .i64 a0_0,.int .i64 a0_1,.slice A0_2 l0_2.length c0_2] 29 (0,0)) (by (with_reducible repeat (first|refine zJ ?_ _|refine zK ?_|refine zL ?_ _));exact BK177.out) hb);have n1_:=zM (zQ (by repeat (first|(with_reducible first|exact HB.out|apply zD|apply zE|apply zF|refine below_set ?_ GE177.out)|exact HB.out)) hb);have n2_:=zM (hbox);have n3_:=zM ((by rw [hg];exact (zR (by repeat (first|(with_reducible first|exact HB.out|apply zD|apply zE|apply zF|refine below_set ?_ GE177.out)|exact HB.out))):w.heap.size ≤ gb178));have n4_:=zM ((by rw [hg];exact (zR (by repeat (first|(with_reducible first|exact HB.out|apply zD|apply zE|apply zF|refine below_set ?_ GE177.out)|exact HB.out))):w.heap.size ≤ gb178));have n5_:=zM ((by rw [hg];exact Nat.ne_of_lt (blk_lt (g:=gb177) (o := .cells #[.int .i64 a0_0,.int .i64 a0_1,.slice A0_2 l0_2.length c0_2] 29 (0,0)) (by (with_reducible repeat (first|refine zJ ?_ _|refine zK ?_|refine zL ?_ _));exact BK177.out)):gb177 ≠ gb178));have n6_:=zM ((by rw [hg];exact Nat.ne_of_gt (blk_lt (g:=gb177) (o := .cells #[.int .i64 a0_0,.int .i64 a0_1,.slice A0_2 l0_2.length c0_2] 29 (0,0)) (by (with_reducible repeat (first|refine zJ ?_ _|refine zK ?_|refine zL ?_ _));exact BK177.out)):gb178 ≠ gb177));clear BK177;clear HB;have BK177:=n0_;have HB:=n1_;have BK178:=n2_;have GW178:=n3_;have GE178:=n4_;have NB177_178:=n5_;have NB178_177:=n6_;clear n0_ n1_ n2_ n3_ n4_ n5_ n6_;clear hb hbox hg));try go_wp2_with (first|((with_reducible refine gate_dst (N:=2) rfl ?_);refine box_event ?hg (N:=2) ?hd (cs := #[.int .i64 a0_0,.int .i64 a0_1,.slice A0_2 l0_2.length c0_2]) (t:=29) ?hr ?_;(case hd=>rfl);(case hg=>rfl);(case hr=>first|(go_simp;done)|(go_simp;rfl));intro gb177 hg w3 hbox hb;have n0_:=zM (zQ (by repeat (first|(with_reducible first|exact HB.out|apply zD|apply zE|apply zF)|exact HB.out)) hb);have n1_:=zM (hbox);have n2_:=zM ((by rw [hg];exact (zR (by repeat (first|(with_reducible first|exact HB.out|apply zD|apply zE|apply zF)|exact HB.out))):w.heap.size ≤ gb177));have n3_:=zM ((by rw [hg];exact (zR (by repeat (first|(with_reducible first|exact HB.out|apply zD|apply zE|apply zF)|exact HB.out))):w.heap.size ≤ gb177));clear HB;have HB:=n0_;have BK177:=n1_;have GW177:=n2_;have GE177:=n3_;clear n0_ n1_ n2_ n3_;clear hb hbox hg)|((with_reducible refine gate_dst (N:=3) rfl ?_);refine box_event ?hg (N:=3) ?hd (cs := #[.int .i64 a1_0,.int .i64 a1_1]) (t:=48) ?hr ?_;(case hd=>rfl);(case hg=>rfl);(case hr=>first|(go_simp;done)|(go_simp;rfl));intro gb178 hg w4 hbox hb;have n0_:=zM (blk_below (g:=gb177) (o := .cells #[.int .i64 a0_0,.int .i64 a0_1,.slice A0_2 l0_2.length c0_2] 29 (0,0)) (by (with_reducible repeat (first|refine zJ ?_ _|refine zK ?_|refine zL ?_ _));exact BK177.out) hb);have n1_:=zM (zQ (by repeat (first|(with_reducible first|exact HB.out|apply zD|apply zE|apply zF|refine below_set ?_ GE177.out)|exact HB.out)) hb);have n2_:=zM (hbox);have n3_:=zM ((by rw [hg];exact (zR (by repeat (first|(with_reducible first|exact HB.out|apply zD|apply zE|apply zF|refine below_set ?_ GE177.out)|exact HB.out))):w.heap.size ≤ gb178));have n4_:=zM ((by rw [hg];exact (zR (by repeat (first|(with_reducible first|exact HB.out|apply zD|apply zE|apply zF|refine below_set ?_ GE177.out)|exact HB.out))):w.heap.size ≤ gb178));have n5_:=zM ((by rw [hg];exact Nat.ne_of_lt (blk_lt (g:=gb177) (o := .cells #[.int .i64 a0_0,.int .i64 a0_1,.slice A0_2 l0_2.length c0_2] 29 (0,0)) (by (with_reducible repeat (first|refine zJ ?_ _|refine zK ?_|refine zL ?_ _));exact BK177.out)):gb177 ≠ gb178));have n6_:=zM ((by rw [hg];exact Nat.ne_of_gt (blk_lt (g:=gb177) (o := .cells #[.int .i64 a0_0,.int .i64 a0_1,.slice A0_2 l0_2.length c0_2] 29 (0,0)) (by (with_reducible repeat (first|refine zJ ?_ _|refine zK ?_|refine zL ?_ _));exact BK177.out)):gb178 ≠ gb177));clear BK177;clear HB;have BK177:=n0_;have HB:=n1_;have BK178:=n2_;have GW178:=n3_;have GE178:=n4_;have NB177_178:=n5_;have NB178_177:=n6_;clear n0_ n1_ n2_ n3_ n4_ n5_ n6_;clear hb hbox hg)))
 go_loopg [5] k (fun kq v5 w' => ∃ (x5_1:Int),v5 = .int .i64 x5_1 ∧ Aside0 (spec_l16Blocked.l0 kq x5_1 a0_0 a0_1 l0_2 a1_0 a1_1 = some r) ∧ Aside0 (kq ≤ k) ∧ Aside0 (w'.heap[gb177]? = some (.cells #[.int .i64 a0_0,.int .i64 a0_1,(.slice A0_2 l0_2.length c0_2)] 29 (0,0))) ∧ Aside0 (w'.heap[gb178]? = some (.cells #[.int .i64 a1_0,.int .i64 a1_1] 48 (0,0))) ∧ Aside0 (Below w.heap.size w w'))
 case atStart=>exact ⟨(0),(by first|rfl|(simp;done)|(simp [*];done)),H',⟨Nat.le_refl _⟩,⟨by (with_reducible repeat (first|refine zJ ?_ _|refine zK ?_|refine zL ?_ _));exact BK177.out⟩,⟨by (with_reducible repeat (first|refine zJ ?_ _|refine zK ?_|refine zL ?_ _));exact BK178.out⟩,⟨by repeat (first|(with_reducible first|exact HB.out|apply zD|apply zE|apply zF|refine below_set ?_ GE177.out|refine below_set ?_ GE178.out)|exact HB.out)⟩⟩
 case round =>
  clear H';(try clear p2);obtain ⟨x5_1,rfl,HA,HK1,BK177,BK178,HB⟩:=hrel;cases gk with
  | zero=>exact absurd HA.out (by simp [spec_l16Blocked.l0])
  | succ k1 =>
   have H:=HA.out;clear HA;simp only [spec_l16Blocked.l0] at H
   by_cases c5:x5_1 < (l0_2.length:Int)
   ·rw [if_pos c5] at H
    have c5b0:decide (x5_1 < (l0_2.length:Int)) = true:=decide_eq_true c5
    clear c5;by_cases c6:0 ≤ x5_1
    ·rw [if_pos c6] at H
     have c6b0:decide (0 ≤ x5_1) = true:=decide_eq_true c6
     clear c6;by_cases c7:(((rd_T48 l0_2 x5_1).f0) == a1_0 && (((rd_T48 l0_2 x5_1).f1) == a1_1)) = true
     ·rw [if_pos c7] at H
      have c7b0:(((rd_T48 l0_2 x5_1).f0) == a1_0 && (((rd_T48 l0_2 x5_1).f1) == a1_1)) = true:=c7
      (try (have c7b1:decide (((rd_T48 l0_2 x5_1).f0) = a1_0 && (((rd_T48 l0_2 x5_1).f1) == a1_1)) = true:=by simpa using c7))
      (try (have c7b2:(((rd_T48 l0_2 x5_1).f0) == a1_0 && (((rd_T48 l0_2 x5_1).f1) == a1_1)) = true:=by simpa using c7))
      clear c7;obtain rfl:=Option.some.inj H;have hnb8:=NB177_178.out;have hnc8:=NB178_177.out;have hcz9_0:wr.cell? ⟨gb177,0,none⟩ = some (.int .i64 a0_0):=(blk_cell BK177.out 0).trans rfl
      have hcz9_1:wr.cell? ⟨gb177,1,none⟩ = some (.int .i64 a0_1):=(blk_cell BK177.out 1).trans rfl
      have hcz9_2:wr.cell? ⟨gb177,2,none⟩ = some (.slice A0_2 l0_2.length c0_2):=(blk_cell BK177.out 2).trans rfl
      have hfz9_0:=blk_frozen BK177.out 0;have hfz9_1:=blk_frozen BK177.out 1;have hfz9_2:=blk_frozen BK177.out 2;have p179:0 ≤ (x5_1:Int):=of_decide_eq_true (by first|(with_reducible assumption)|assumption)
      have q179:x5_1 < (l0_2.length:Int):=of_decide_eq_true (by first|(with_reducible assumption)|assumption)
      obtain ⟨ad179,e179,hx179_0,hx179_1⟩:=at_T48 HR0_2.out x5_1 p179 q179;cases e179
      replace hx179_0:=zS HB.out hx179_0;replace hx179_1:=zS HB.out hx179_1;replace p179:=eq_true p179;replace q179:=eq_true q179;have hcz10_0:wr.cell? ⟨gb178,0,none⟩ = some (.int .i64 a1_0):=(blk_cell BK178.out 0).trans rfl
      have hcz10_1:wr.cell? ⟨gb178,1,none⟩ = some (.int .i64 a1_1):=(blk_cell BK178.out 1).trans rfl
      have hfz10_0:=blk_frozen BK178.out 0;have hfz10_1:=blk_frozen BK178.out 1;go_wp2
      repeat (go_quiet (fail);try go_wp2)
      go_ret
      exact ⟨by first|rfl|(simp [errW_none,errW_some] <;> rfl)|(simp [*,errW_none,errW_some] <;> rfl),by repeat (first|(with_reducible first|exact HB.out|apply zD|apply zE|apply zF|refine below_set ?_ GE177.out|refine below_set ?_ GE178.out)|exact HB.out)⟩
     ·rw [if_neg c7] at H
      have c7b0:(((rd_T48 l0_2 x5_1).f0) == a1_0 && (((rd_T48 l0_2 x5_1).f1) == a1_1)) = false:=by simpa using c7
      (try (have c7b1:decide (((rd_T48 l0_2 x5_1).f0) = a1_0 && (((rd_T48 l0_2 x5_1).f1) == a1_1)) = false:=by simpa using c7))
      (try (have c7b2:(((rd_T48 l0_2 x5_1).f0) == a1_0 && (((rd_T48 l0_2 x5_1).f1) == a1_1)) = false:=by simpa using c7))
      (try (have c7b3:¬ (((rd_T48 l0_2 x5_1).f0) = a1_0 && (((rd_T48 l0_2 x5_1).f1) == a1_1)):=by simpa using c7))
      clear c7;have H':=zM H;clear H;have hnb11:=NB177_178.out;have hnc11:=NB178_177.out;have hcz12_0:wr.cell? ⟨gb177,0,none⟩ = some (.int .i64 a0_0):=(blk_cell BK177.out 0).trans rfl
      have hcz12_1:wr.cell? ⟨gb177,1,none⟩ = some (.int .i64 a0_1):=(blk_cell BK177.out 1).trans rfl
      have hcz12_2:wr.cell? ⟨gb177,2,none⟩ = some (.slice A0_2 l0_2.length c0_2):=(blk_cell BK177.out 2).trans rfl
      have hfz12_0:=blk_frozen BK177.out 0;have hfz12_1:=blk_frozen BK177.out 1;have hfz12_2:=blk_frozen BK177.out 2;have p179:0 ≤ (x5_1:Int):=of_decide_eq_true (by first|(with_reducible assumption)|assumption)
      have q179:x5_1 < (l0_2.length:Int):=of_decide_eq_true (by first|(with_reducible assumption)|assumption)
      obtain ⟨ad179,e179,hx179_0,hx179_1⟩:=at_T48 HR0_2.out x5_1 p179 q179;cases e179
      replace hx179_0:=zS HB.out hx179_0;replace hx179_1:=zS HB.out hx179_1;replace p179:=eq_true p179;replace q179:=eq_true q179;have hcz13_0:wr.cell? ⟨gb178,0,none⟩ = some (.int .i64 a1_0):=(blk_cell BK178.out 0).trans rfl
      have hcz13_1:wr.cell? ⟨gb178,1,none⟩ = some (.int .i64 a1_1):=(blk_cell BK178.out 1).trans rfl
      have hfz13_0:=blk_frozen BK178.out 0;have hfz13_1:=blk_frozen BK178.out 1;go_wp2
      repeat (go_quiet (fail);try go_wp2)
      go_roundg k1
      case measure=>have:=HK1.out;omega
      case rel=>exact ⟨(wrap64 (x5_1 + 1)),(by first|rfl|(simp;done)|(simp [*];done)),H',⟨by have:=HK1.out;omega⟩,⟨by (with_reducible repeat (first|refine zJ ?_ _|refine zK ?_|refine zL ?_ _));exact BK177.out⟩,⟨by (with_reducible repeat (first|refine zJ ?_ _|refine zK ?_|refine zL ?_ _));exact BK178.out⟩,⟨by repeat (first|(with_reducible first|exact HB.out|apply zD|apply zE|apply zF|refine below_set ?_ GE177.out|refine below_set ?_ GE178.out)|exact HB.out)⟩⟩
    ·rw [if_neg c6] at H
     exact absurd H (by simp)
   ·rw [if_neg c5] at H
    have c5b0:decide (x5_1 < (l0_2.length:Int)) = false:=decide_eq_false c5
    clear c5;obtain rfl:=Option.some.inj H;have hnb14:=NB177_178.out;have hnc14:=NB178_177.out;have hcz15_0:wr.cell? ⟨gb177,0,none⟩ = some (.int .i64 a0_0):=(blk_cell BK177.out 0).trans rfl
    have hcz15_1:wr.cell? ⟨gb177,1,none⟩ = some (.int .i64 a0_1):=(blk_cell BK177.out 1).trans rfl
    have hcz15_2:wr.cell? ⟨gb177,2,none⟩ = some (.slice A0_2 l0_2.length c0_2):=(blk_cell BK177.out 2).trans rfl
    have hfz15_0:=blk_frozen BK177.out 0;have hfz15_1:=blk_frozen BK177.out 1;have hfz15_2:=blk_frozen BK177.out 2;go_wp2
    repeat (go_quiet (fail);try go_wp2)
    go_ret
    exact ⟨by first|rfl|(simp [errW_none,errW_some] <;> rfl)|(simp [*,errW_none,errW_some] <;> rfl),by repeat (first|(with_reducible first|exact HB.out|apply zD|apply zE|apply zF|refine below_set ?_ GE177.out|refine below_set ?_ GE178.out)|exact HB.out)⟩



/-! ### spec_l16Free: function 82 -/
def spec_l16Free.f (k:Nat) (a0_0:Int) (a0_1:Int) (l0_2:List (S48)) (a1_0:Int) (a1_1:Int):Option (Bool):=(spec_l16Inside.f a0_0 a0_1 l0_2 a1_0 a1_1).bind fun t182=>(if t182 = true then ((spec_l16Blocked.f k a0_0 a0_1 l0_2 a1_0 a1_1).bind fun t183=>(some (!t183))) else (some false))
set_option maxHeartbeats 8000000 in
set_option maxRecDepth 100000 in
theorem spec_l16Free.calls (k:Nat) (a0_0:Int) (a0_1:Int) (A0_2:Option Addr) (c0_2:Nat) (l0_2:List (S48)) (a1_0:Int) (a1_1:Int) (r:Bool) (w:World) (hr0_2:Kd.C k48 w A0_2 l0_2.length l0_2) (hc0_2:l0_2.length ≤ c0_2) (h:spec_l16Free.f k a0_0 a0_1 l0_2 a1_0 a1_1 = some r) :
  Calls Try.prog 82 #[.agg #[.int .i64 a0_0,.int .i64 a0_1,.slice A0_2 l0_2.length c0_2],.agg #[.int .i64 a1_0,.int .i64 a1_1]] w fun e w'=>e = .returned (.bool r) ∧ Below w.heap.size w w':=by
 have hu29:=Try.underlying29;have hu48:=Try.underlying48;have HR0_2:=zM hr0_2;have HC0_2:=zM hc0_2;clear hr0_2 hc0_2;have HB:=zM (Below.refl w.heap.size w);have H:((spec_l16Inside.f a0_0 a0_1 l0_2 a1_0 a1_1).bind fun t182=>(if t182 = true then ((spec_l16Blocked.f k a0_0 a0_1 l0_2 a1_0 a1_1).bind fun t183=>(some (!t183))) else (some false))) = some r:=h
 clear h;replace H:=Option.bind_eq_some_iff.mp H;obtain ⟨t182,A30,H⟩:=H;replace H:(if t182 = true then ((spec_l16Blocked.f k a0_0 a0_1 l0_2 a1_0 a1_1).bind fun t183=>(some (!t183))) else (some false)) = some r:=H
 have A3:=zM A30;clear A30;by_cases c4:t182 = true
 ·subst c4
  have H1:((spec_l16Blocked.f k a0_0 a0_1 l0_2 a1_0 a1_1).bind fun t183=>(some (!t183))) = some r:=by rw [if_pos rfl] at H;exact H
  clear H;have H:=H1;clear H1;replace H:=Option.bind_eq_some_iff.mp H;obtain ⟨t183,A50,H⟩:=H;replace H:(some (!t183)) = some r:=H
  have A5:=zM A50;clear A50;obtain rfl:=Option.some.inj H;go_enter Try.func82,Try.ntmps82
  go_wp2_with (first|((with_reducible refine gate_dst (N:=2) rfl ?_);refine box_event ?hg (N:=2) ?hd (cs := #[.int .i64 a0_0,.int .i64 a0_1,.slice A0_2 l0_2.length c0_2]) (t:=29) ?hr ?_;(case hd=>rfl);(case hg=>rfl);(case hr=>first|(go_simp;done)|(go_simp;rfl));intro gb180 hg w6 hbox hb;have n0_:=zM (zQ (by repeat (first|(with_reducible first|exact HB.out|apply zD|apply zE|apply zF)|exact HB.out)) hb);have n1_:=zM (hbox);have n2_:=zM ((by rw [hg];exact (zR (by repeat (first|(with_reducible first|exact HB.out|apply zD|apply zE|apply zF)|exact HB.out))):w.heap.size ≤ gb180));have n3_:=zM ((by rw [hg];exact (zR (by repeat (first|(with_reducible first|exact HB.out|apply zD|apply zE|apply zF)|exact HB.out))):w.heap.size ≤ gb180));clear HB;have HB:=n0_;have BK180:=n1_;have GW180:=n2_;have GE180:=n3_;clear n0_ n1_ n2_ n3_;clear hb hbox hg)|((with_reducible refine gate_dst (N:=3) rfl ?_);refine box_event ?hg (N:=3) ?hd (cs := #[.int .i64 a1_0,.int .i64 a1_1]) (t:=48) ?hr ?_;(case hd=>rfl);(case hg=>rfl);(case hr=>first|(go_simp;done)|(go_simp;rfl));intro gb181 hg w7 hbox hb;have n0_:=zM (blk_below (g:=gb180) (o := .cells #[.int .i64 a0_0,.int .i64 a0_1,.slice A0_2 l0_2.length c0_2] 29 (0,0)) (by (with_reducible repeat (first|refine zJ ?_ _|refine zK ?_|refine zL ?_ _));exact BK180.out) hb);have n1_:=zM (zQ (by repeat (first|(with_reducible first|exact HB.out|apply zD|apply zE|apply zF|refine below_set ?_ GE180.out)|exact HB.out)) hb);have n2_:=zM (hbox);have n3_:=zM ((by rw [hg];exact (zR (by repeat (first|(with_reducible first|exact HB.out|apply zD|apply zE|apply zF|refine below_set ?_ GE180.out)|exact HB.out))):w.heap.size ≤ gb181));have n4_:=zM ((by rw [hg];exact (zR (by repeat (first|(with_reducible first|exact HB.out|apply zD|apply zE|apply zF|refine below_set ?_ GE180.out)|exact HB.out))):w.heap.size ≤ gb181));have n5_:=zM ((by rw [hg];exact Nat.ne_of_lt (blk_lt (g:=gb180) (o := .cells #[.int .i64 a0_0,.int .i64 a0_1,.slice A0_2 l0_2.length c0_2] 29 (0,0)) (by (with_reducible repeat (first|refine zJ ?_ _|refine zK ?_|refine zL ?_ _));exact BK180.out)):gb180 ≠ gb181));have n6_:=zM ((by rw [hg];exact Nat.ne_of_gt (blk_lt (g:=gb180) (o := .cells #[.int .i64 a0_0,.int .i64 a0_1,.slice A0_2 l0_2.length c0_2] 29 (0,0)) (by (with_reducible repeat (first|refine zJ ?_ _|refine zK ?_|refine zL ?_ _));exact BK180.out)):gb181 ≠ gb180));clear BK180;clear HB;have BK180:=n0_;have HB:=n1_;have BK181:=n2_;have GW181:=n3_;have GE181:=n4_;have NB180_181:=n5_;have NB181_180:=n6_;clear n0_ n1_ n2_ n3_ n4_ n5_ n6_;clear hb hbox hg;have hnb8:=NB180_181.out;have hnc8:=NB181_180.out;have hcz9_0:w7.cell? ⟨gb180,0,none⟩ = some (.int .i64 a0_0):=(blk_cell BK180.out 0).trans rfl;have hcz9_1:w7.cell? ⟨gb180,1,none⟩ = some (.int .i64 a0_1):=(blk_cell BK180.out 1).trans rfl;have hcz9_2:w7.cell? ⟨gb180,2,none⟩ = some (.slice A0_2 l0_2.length c0_2):=(blk_cell BK180.out 2).trans rfl;have hfz9_0:=blk_frozen BK180.out 0;have hfz9_1:=blk_frozen BK180.out 1;have hfz9_2:=blk_frozen BK180.out 2;have hcz10_0:w7.cell? ⟨gb181,0,none⟩ = some (.int .i64 a1_0):=(blk_cell BK181.out 0).trans rfl;have hcz10_1:w7.cell? ⟨gb181,1,none⟩ = some (.int .i64 a1_1):=(blk_cell BK181.out 1).trans rfl;have hfz10_0:=blk_frozen BK181.out 0;have hfz10_1:=blk_frozen BK181.out 1)|((with_reducible refine gate_callee (f:=81) rfl ?_);refine goesL_ (some 7) rfl rfl Try.func81 (by kernel_rfl) rfl #[.agg #[.int .i64 a0_0,.int .i64 a0_1,.slice A0_2 l0_2.length c0_2],.agg #[.int .i64 a1_0,.int .i64 a1_1]] rfl (by (try simp only [List.map_toArray,List.map_cons,List.map_nil]);first|done|rfl|(simp only [List.length_drop,List.length_take];rfl)) ?_;(with_reducible refine (spec_l16Inside.calls a0_0 a0_1 _ _ l0_2 a1_0 a1_1 true _ ?side1 ?side2 A3.out).mono ?_);(case side1=>repeat (first|exact (zO HR0_2.out HB.out)|(with_reducible first|refine zG ?_ _|refine zH ?_ _|refine zI ?_)));(case side2=>exact HC0_2.out);rintro e w11 ⟨rfl,hb⟩;refine ⟨_,rfl,?_⟩;have n0_:=zM (blk_below (g:=gb180) (o := .cells #[.int .i64 a0_0,.int .i64 a0_1,.slice A0_2 l0_2.length c0_2] 29 (0,0)) (by (with_reducible repeat (first|refine zJ ?_ _|refine zK ?_|refine zL ?_ _));exact BK180.out) hb);have n1_:=zM (blk_below (g:=gb181) (o := .cells #[.int .i64 a1_0,.int .i64 a1_1] 48 (0,0)) (by (with_reducible repeat (first|refine zJ ?_ _|refine zK ?_|refine zL ?_ _));exact BK181.out) hb);have n2_:=zM (zQ (by repeat (first|(with_reducible first|exact HB.out|apply zD|apply zE|apply zF|refine below_set ?_ GE180.out|refine below_set ?_ GE181.out)|exact HB.out)) hb);clear BK180;clear BK181;clear HB;have BK180:=n0_;have BK181:=n1_;have HB:=n2_;clear n0_ n1_ n2_;(try clear hb);(try clear hb2);(try clear hk);(try clear hi);have hcz12_0:w11.cell? ⟨gb180,0,none⟩ = some (.int .i64 a0_0):=(blk_cell BK180.out 0).trans rfl;have hcz12_1:w11.cell? ⟨gb180,1,none⟩ = some (.int .i64 a0_1):=(blk_cell BK180.out 1).trans rfl;have hcz12_2:w11.cell? ⟨gb180,2,none⟩ = some (.slice A0_2 l0_2.length c0_2):=(blk_cell BK180.out 2).trans rfl;have hfz12_0:=blk_frozen BK180.out 0;have hfz12_1:=blk_frozen BK180.out 1;have hfz12_2:=blk_frozen BK180.out 2;have hcz13_0:w11.cell? ⟨gb181,0,none⟩ = some (.int .i64 a1_0):=(blk_cell BK181.out 0).trans rfl;have hcz13_1:w11.cell? ⟨gb181,1,none⟩ = some (.int .i64 a1_1):=(blk_cell BK181.out 1).trans rfl;have hfz13_0:=blk_frozen BK181.out 0;have hfz13_1:=blk_frozen BK181.out 1)|(go_at_call 96;(with_reducible refine (spec_l16Blocked.calls k a0_0 a0_1 _ _ l0_2 a1_0 a1_1 t183 _ ?side1 ?side2 A5.out).mono ?_);(case side1=>repeat (first|exact (zO HR0_2.out HB.out)|(with_reducible first|refine zG ?_ _|refine zH ?_ _|refine zI ?_)));(case side2=>exact HC0_2.out);rintro e w14 ⟨rfl,hb⟩;have n0_:=zM (blk_below (g:=gb180) (o := .cells #[.int .i64 a0_0,.int .i64 a0_1,.slice A0_2 l0_2.length c0_2] 29 (0,0)) (by (with_reducible repeat (first|refine zJ ?_ _|refine zK ?_|refine zL ?_ _));exact BK180.out) hb);have n1_:=zM (blk_below (g:=gb181) (o := .cells #[.int .i64 a1_0,.int .i64 a1_1] 48 (0,0)) (by (with_reducible repeat (first|refine zJ ?_ _|refine zK ?_|refine zL ?_ _));exact BK181.out) hb);have n2_:=zM (zQ (by repeat (first|(with_reducible first|exact HB.out|apply zD|apply zE|apply zF|refine below_set ?_ GE180.out|refine below_set ?_ GE181.out)|exact HB.out)) hb);clear BK180;clear BK181;clear HB;have BK180:=n0_;have BK181:=n1_;have HB:=n2_;clear n0_ n1_ n2_;(try clear hb);(try clear hb2);(try clear hk);(try clear hi)))
  go_ret
  exact ⟨by first|rfl|(simp [errW_none,errW_some] <;> rfl)|(simp [*,errW_none,errW_some] <;> rfl),by repeat (first|(with_reducible first|exact HB.out|apply zD|apply zE|apply zF|refine below_set ?_ GE180.out|refine below_set ?_ GE181.out)|exact HB.out)⟩
 ·replace c4:=Bool.eq_false_iff.mpr c4
  subst c4;have H1:(some false) = some r:=by rw [if_neg (show ¬ (false = true) by decide)] at H;exact H
  clear H;have H:=H1;clear H1;obtain rfl:=Option.some.inj H;go_enter Try.func82,Try.ntmps82
  go_wp2_with (first|((with_reducible refine gate_dst (N:=2) rfl ?_);refine box_event ?hg (N:=2) ?hd (cs := #[.int .i64 a0_0,.int .i64 a0_1,.slice A0_2 l0_2.length c0_2]) (t:=29) ?hr ?_;(case hd=>rfl);(case hg=>rfl);(case hr=>first|(go_simp;done)|(go_simp;rfl));intro gb180 hg w15 hbox hb;have n0_:=zM (zQ (by repeat (first|(with_reducible first|exact HB.out|apply zD|apply zE|apply zF)|exact HB.out)) hb);have n1_:=zM (hbox);have n2_:=zM ((by rw [hg];exact (zR (by repeat (first|(with_reducible first|exact HB.out|apply zD|apply zE|apply zF)|exact HB.out))):w.heap.size ≤ gb180));have n3_:=zM ((by rw [hg];exact (zR (by repeat (first|(with_reducible first|exact HB.out|apply zD|apply zE|apply zF)|exact HB.out))):w.heap.size ≤ gb180));clear HB;have HB:=n0_;have BK180:=n1_;have GW180:=n2_;have GE180:=n3_;clear n0_ n1_ n2_ n3_;clear hb hbox hg)|((with_reducible refine gate_dst (N:=3) rfl ?_);refine box_event ?hg (N:=3) ?hd (cs := #[.int .i64 a1_0,.int .i64 a1_1]) (t:=48) ?hr ?_;(case hd=>rfl);(case hg=>rfl);(case hr=>first|(go_simp;done)|(go_simp;rfl));intro gb181 hg w16 hbox hb;have n0_:=zM (blk_below (g:=gb180) (o := .cells #[.int .i64 a0_0,.int .i64 a0_1,.slice A0_2 l0_2.length c0_2] 29 (0,0)) (by (with_reducible repeat (first|refine zJ ?_ _|refine zK ?_|refine zL ?_ _));exact BK180.out) hb);have n1_:=zM (zQ (by repeat (first|(with_reducible first|exact HB.out|apply zD|apply zE|apply zF|refine below_set ?_ GE180.out)|exact HB.out)) hb);have n2_:=zM (hbox);have n3_:=zM ((by rw [hg];exact (zR (by repeat (first|(with_reducible first|exact HB.out|apply zD|apply zE|apply zF|refine below_set ?_ GE180.out)|exact HB.out))):w.heap.size ≤ gb181));have n4_:=zM ((by rw [hg];exact (zR (by repeat (first|(with_reducible first|exact HB.out|apply zD|apply zE|apply zF|refine below_set ?_ GE180.out)|exact HB.out))):w.heap.size ≤ gb181));have n5_:=zM ((by rw [hg];exact Nat.ne_of_lt (blk_lt (g:=gb180) (o := .cells #[.int .i64 a0_0,.int .i64 a0_1,.slice A0_2 l0_2.length c0_2] 29 (0,0)) (by (with_reducible repeat (first|refine zJ ?_ _|refine zK ?_|refine zL ?_ _));exact BK180.out)):gb180 ≠ gb181));have n6_:=zM ((by rw [hg];exact Nat.ne_of_gt (blk_lt (g:=gb180) (o := .cells #[.int .i64 a0_0,.int .i64 a0_1,.slice A0_2 l0_2.length c0_2] 29 (0,0)) (by (with_reducible repeat (first|refine zJ ?_ _|refine zK ?_|refine zL ?_ _));exact BK180.out)):gb181 ≠ gb180));clear BK180;clear HB;have BK180:=n0_;have HB:=n1_;have BK181:=n2_;have GW181:=n3_;have GE181:=n4_;have NB180_181:=n5_;have NB181_180:=n6_;clear n0_ n1_ n2_ n3_ n4_ n5_ n6_;clear hb hbox hg;have hnb17:=NB180_181.out;have hnc17:=NB181_180.out;have hcz18_0:w16.cell? ⟨gb180,0,none⟩ = some (.int .i64 a0_0):=(blk_cell BK180.out 0).trans rfl;have hcz18_1:w16.cell? ⟨gb180,1,none⟩ = some (.int .i64 a0_1):=(blk_cell BK180.out 1).trans rfl;have hcz18_2:w16.cell? ⟨gb180,2,none⟩ = some (.slice A0_2 l0_2.length c0_2):=(blk_cell BK180.out 2).trans rfl;have hfz18_0:=blk_frozen BK180.out 0;have hfz18_1:=blk_frozen BK180.out 1;have hfz18_2:=blk_frozen BK180.out 2;have hcz19_0:w16.cell? ⟨gb181,0,none⟩ = some (.int .i64 a1_0):=(blk_cell BK181.out 0).trans rfl;have hcz19_1:w16.cell? ⟨gb181,1,none⟩ = some (.int .i64 a1_1):=(blk_cell BK181.out 1).trans rfl;have hfz19_0:=blk_frozen BK181.out 0;have hfz19_1:=blk_frozen BK181.out 1)|((with_reducible refine gate_callee (f:=81) rfl ?_);refine goesL_ (some 7) rfl rfl Try.func81 (by kernel_rfl) rfl #[.agg #[.int .i64 a0_0,.int .i64 a0_1,.slice A0_2 l0_2.length c0_2],.agg #[.int .i64 a1_0,.int .i64 a1_1]] rfl (by (try simp only [List.map_toArray,List.map_cons,List.map_nil]);first|done|rfl|(simp only [List.length_drop,List.length_take];rfl)) ?_;(with_reducible refine (spec_l16Inside.calls a0_0 a0_1 _ _ l0_2 a1_0 a1_1 false _ ?side1 ?side2 A3.out).mono ?_);(case side1=>repeat (first|exact (zO HR0_2.out HB.out)|(with_reducible first|refine zG ?_ _|refine zH ?_ _|refine zI ?_)));(case side2=>exact HC0_2.out);rintro e w20 ⟨rfl,hb⟩;refine ⟨_,rfl,?_⟩;have n0_:=zM (blk_below (g:=gb180) (o := .cells #[.int .i64 a0_0,.int .i64 a0_1,.slice A0_2 l0_2.length c0_2] 29 (0,0)) (by (with_reducible repeat (first|refine zJ ?_ _|refine zK ?_|refine zL ?_ _));exact BK180.out) hb);have n1_:=zM (blk_below (g:=gb181) (o := .cells #[.int .i64 a1_0,.int .i64 a1_1] 48 (0,0)) (by (with_reducible repeat (first|refine zJ ?_ _|refine zK ?_|refine zL ?_ _));exact BK181.out) hb);have n2_:=zM (zQ (by repeat (first|(with_reducible first|exact HB.out|apply zD|apply zE|apply zF|refine below_set ?_ GE180.out|refine below_set ?_ GE181.out)|exact HB.out)) hb);clear BK180;clear BK181;clear HB;have BK180:=n0_;have BK181:=n1_;have HB:=n2_;clear n0_ n1_ n2_;(try clear hb);(try clear hb2);(try clear hk);(try clear hi)))
  go_ret
  exact ⟨by first|rfl|(simp [errW_none,errW_some] <;> rfl)|(simp [*,errW_none,errW_some] <;> rfl),by repeat (first|(with_reducible first|exact HB.out|apply zD|apply zE|apply zF|refine below_set ?_ GE180.out|refine below_set ?_ GE181.out)|exact HB.out)⟩



/-! ### spec_l16Near: function 83 -/
def spec_l16Near.f (a0_0:Int) (a0_1:Int) (a1_0:Int) (a1_1:Int):Option (Bool):=(spec_l1Most.f (wrap64 (a0_0 - a1_0)) (wrap64 (a1_0 - a0_0))).bind fun t186=>((spec_l1Most.f (wrap64 (a0_1 - a1_1)) (wrap64 (a1_1 - a0_1))).bind fun t187=>(some (decide ((wrap64 (t186 + t187)) ≤ 1))))
set_option maxHeartbeats 8000000 in
set_option maxRecDepth 100000 in
theorem spec_l16Near.calls (a0_0:Int) (a0_1:Int) (a1_0:Int) (a1_1:Int) (r:Bool) (w:World) (h:spec_l16Near.f a0_0 a0_1 a1_0 a1_1 = some r) :
  Calls Try.prog 83 #[.agg #[.int .i64 a0_0,.int .i64 a0_1],.agg #[.int .i64 a1_0,.int .i64 a1_1]] w fun e w'=>e = .returned (.bool r) ∧ Below w.heap.size w w':=by
 have hu48:=Try.underlying48;have HB:=zM (Below.refl w.heap.size w);have H:((spec_l1Most.f (wrap64 (a0_0 - a1_0)) (wrap64 (a1_0 - a0_0))).bind fun t186=>((spec_l1Most.f (wrap64 (a0_1 - a1_1)) (wrap64 (a1_1 - a0_1))).bind fun t187=>(some (decide ((wrap64 (t186 + t187)) ≤ 1))))) = some r:=h
 clear h;replace H:=Option.bind_eq_some_iff.mp H;obtain ⟨t186,A30,H⟩:=H;replace H:((spec_l1Most.f (wrap64 (a0_1 - a1_1)) (wrap64 (a1_1 - a0_1))).bind fun t187=>(some (decide ((wrap64 (t186 + t187)) ≤ 1)))) = some r:=H
 have A3:=zM A30;clear A30;replace H:=Option.bind_eq_some_iff.mp H;obtain ⟨t187,A40,H⟩:=H;replace H:(some (decide ((wrap64 (t186 + t187)) ≤ 1))) = some r:=H
 have A4:=zM A40;clear A40;obtain rfl:=Option.some.inj H;go_enter Try.func83,Try.ntmps83
 go_wp2_with (first|((with_reducible refine gate_dst (N:=2) rfl ?_);refine box_event ?hg (N:=2) ?hd (cs := #[.int .i64 a0_0,.int .i64 a0_1]) (t:=48) ?hr ?_;(case hd=>rfl);(case hg=>rfl);(case hr=>first|(go_simp;done)|(go_simp;rfl));intro gb184 hg w5 hbox hb;have n0_:=zM (zQ (by repeat (first|(with_reducible first|exact HB.out|apply zD|apply zE|apply zF)|exact HB.out)) hb);have n1_:=zM (hbox);have n2_:=zM ((by rw [hg];exact (zR (by repeat (first|(with_reducible first|exact HB.out|apply zD|apply zE|apply zF)|exact HB.out))):w.heap.size ≤ gb184));have n3_:=zM ((by rw [hg];exact (zR (by repeat (first|(with_reducible first|exact HB.out|apply zD|apply zE|apply zF)|exact HB.out))):w.heap.size ≤ gb184));clear HB;have HB:=n0_;have BK184:=n1_;have GW184:=n2_;have GE184:=n3_;clear n0_ n1_ n2_ n3_;clear hb hbox hg)|((with_reducible refine gate_dst (N:=3) rfl ?_);refine box_event ?hg (N:=3) ?hd (cs := #[.int .i64 a1_0,.int .i64 a1_1]) (t:=48) ?hr ?_;(case hd=>rfl);(case hg=>rfl);(case hr=>first|(go_simp;done)|(go_simp;rfl));intro gb185 hg w6 hbox hb;have n0_:=zM (blk_below (g:=gb184) (o := .cells #[.int .i64 a0_0,.int .i64 a0_1] 48 (0,0)) (by (with_reducible repeat (first|refine zJ ?_ _|refine zK ?_|refine zL ?_ _));exact BK184.out) hb);have n1_:=zM (zQ (by repeat (first|(with_reducible first|exact HB.out|apply zD|apply zE|apply zF|refine below_set ?_ GE184.out)|exact HB.out)) hb);have n2_:=zM (hbox);have n3_:=zM ((by rw [hg];exact (zR (by repeat (first|(with_reducible first|exact HB.out|apply zD|apply zE|apply zF|refine below_set ?_ GE184.out)|exact HB.out))):w.heap.size ≤ gb185));have n4_:=zM ((by rw [hg];exact (zR (by repeat (first|(with_reducible first|exact HB.out|apply zD|apply zE|apply zF|refine below_set ?_ GE184.out)|exact HB.out))):w.heap.size ≤ gb185));have n5_:=zM ((by rw [hg];exact Nat.ne_of_lt (blk_lt (g:=gb184) (o := .cells #[.int .i64 a0_0,.int .i64 a0_1] 48 (0,0)) (by (with_reducible repeat (first|refine zJ ?_ _|refine zK ?_|refine zL ?_ _));exact BK184.out)):gb184 ≠ gb185));have n6_:=zM ((by rw [hg];exact Nat.ne_of_gt (blk_lt (g:=gb184) (o := .cells #[.int .i64 a0_0,.int .i64 a0_1] 48 (0,0)) (by (with_reducible repeat (first|refine zJ ?_ _|refine zK ?_|refine zL ?_ _));exact BK184.out)):gb185 ≠ gb184));clear BK184;clear HB;have BK184:=n0_;have HB:=n1_;have BK185:=n2_;have GW185:=n3_;have GE185:=n4_;have NB184_185:=n5_;have NB185_184:=n6_;clear n0_ n1_ n2_ n3_ n4_ n5_ n6_;clear hb hbox hg;have hnb7:=NB184_185.out;have hnc7:=NB185_184.out;have hcz8_0:w6.cell? ⟨gb184,0,none⟩ = some (.int .i64 a0_0):=(blk_cell BK184.out 0).trans rfl;have hcz8_1:w6.cell? ⟨gb184,1,none⟩ = some (.int .i64 a0_1):=(blk_cell BK184.out 1).trans rfl;have hfz8_0:=blk_frozen BK184.out 0;have hfz8_1:=blk_frozen BK184.out 1;have hcz9_0:w6.cell? ⟨gb185,0,none⟩ = some (.int .i64 a1_0):=(blk_cell BK185.out 0).trans rfl;have hcz9_1:w6.cell? ⟨gb185,1,none⟩ = some (.int .i64 a1_1):=(blk_cell BK185.out 1).trans rfl;have hfz9_0:=blk_frozen BK185.out 0;have hfz9_1:=blk_frozen BK185.out 1)|(go_at_call 86;(with_reducible refine (spec_l1Most.calls (wrap64 (a0_0 - a1_0)) (wrap64 (a1_0 - a0_0)) t186 _ A3.out).mono ?_);rintro e w' ⟨rfl,⟨nd,rfl⟩⟩;(try first|exact ⟨rfl,_,World.drewN_drewN _ _ _⟩|exact ⟨rfl,_,zW _ _ _ _⟩))|(go_at_call 86;(with_reducible refine (spec_l1Most.calls (wrap64 (a0_1 - a1_1)) (wrap64 (a1_1 - a0_1)) t187 _ A4.out).mono ?_);rintro e w' ⟨rfl,⟨nd,rfl⟩⟩;(try first|exact ⟨rfl,_,World.drewN_drewN _ _ _⟩|exact ⟨rfl,_,zW _ _ _ _⟩)))
 repeat (go_quiet (first|((with_reducible refine gate_dst (N:=2) rfl ?_);refine box_event ?hg (N:=2) ?hd (cs := #[.int .i64 a0_0,.int .i64 a0_1]) (t:=48) ?hr ?_;(case hd=>rfl);(case hg=>rfl);(case hr=>first|(go_simp;done)|(go_simp;rfl));intro gb184 hg w5 hbox hb;have n0_:=zM (zQ (by repeat (first|(with_reducible first|exact HB.out|apply zD|apply zE|apply zF)|exact HB.out)) hb);have n1_:=zM (hbox);have n2_:=zM ((by rw [hg];exact (zR (by repeat (first|(with_reducible first|exact HB.out|apply zD|apply zE|apply zF)|exact HB.out))):w.heap.size ≤ gb184));have n3_:=zM ((by rw [hg];exact (zR (by repeat (first|(with_reducible first|exact HB.out|apply zD|apply zE|apply zF)|exact HB.out))):w.heap.size ≤ gb184));clear HB;have HB:=n0_;have BK184:=n1_;have GW184:=n2_;have GE184:=n3_;clear n0_ n1_ n2_ n3_;clear hb hbox hg)|((with_reducible refine gate_dst (N:=3) rfl ?_);refine box_event ?hg (N:=3) ?hd (cs := #[.int .i64 a1_0,.int .i64 a1_1]) (t:=48) ?hr ?_;(case hd=>rfl);(case hg=>rfl);(case hr=>first|(go_simp;done)|(go_simp;rfl));intro gb185 hg w6 hbox hb;have n0_:=zM (blk_below (g:=gb184) (o := .cells #[.int .i64 a0_0,.int .i64 a0_1] 48 (0,0)) (by (with_reducible repeat (first|refine zJ ?_ _|refine zK ?_|refine zL ?_ _));exact BK184.out) hb);have n1_:=zM (zQ (by repeat (first|(with_reducible first|exact HB.out|apply zD|apply zE|apply zF|refine below_set ?_ GE184.out)|exact HB.out)) hb);have n2_:=zM (hbox);have n3_:=zM ((by rw [hg];exact (zR (by repeat (first|(with_reducible first|exact HB.out|apply zD|apply zE|apply zF|refine below_set ?_ GE184.out)|exact HB.out))):w.heap.size ≤ gb185));have n4_:=zM ((by rw [hg];exact (zR (by repeat (first|(with_reducible first|exact HB.out|apply zD|apply zE|apply zF|refine below_set ?_ GE184.out)|exact HB.out))):w.heap.size ≤ gb185));have n5_:=zM ((by rw [hg];exact Nat.ne_of_lt (blk_lt (g:=gb184) (o := .cells #[.int .i64 a0_0,.int .i64 a0_1] 48 (0,0)) (by (with_reducible repeat (first|refine zJ ?_ _|refine zK ?_|refine zL ?_ _));exact BK184.out)):gb184 ≠ gb185));have n6_:=zM ((by rw [hg];exact Nat.ne_of_gt (blk_lt (g:=gb184) (o := .cells #[.int .i64 a0_0,.int .i64 a0_1] 48 (0,0)) (by (with_reducible repeat (first|refine zJ ?_ _|refine zK ?_|refine zL ?_ _));exact BK184.out)):gb185 ≠ gb184));clear BK184;clear HB;have BK184:=n0_;have HB:=n1_;have BK185:=n2_;have GW185:=n3_;have GE185:=n4_;have NB184_185:=n5_;have NB185_184:=n6_;clear n0_ n1_ n2_ n3_ n4_ n5_ n6_;clear hb hbox hg;have hnb7:=NB184_185.out;have hnc7:=NB185_184.out;have hcz8_0:w6.cell? ⟨gb184,0,none⟩ = some (.int .i64 a0_0):=(blk_cell BK184.out 0).trans rfl;have hcz8_1:w6.cell? ⟨gb184,1,none⟩ = some (.int .i64 a0_1):=(blk_cell BK184.out 1).trans rfl;have hfz8_0:=blk_frozen BK184.out 0;have hfz8_1:=blk_frozen BK184.out 1;have hcz9_0:w6.cell? ⟨gb185,0,none⟩ = some (.int .i64 a1_0):=(blk_cell BK185.out 0).trans rfl;have hcz9_1:w6.cell? ⟨gb185,1,none⟩ = some (.int .i64 a1_1):=(blk_cell BK185.out 1).trans rfl;have hfz9_0:=blk_frozen BK185.out 0;have hfz9_1:=blk_frozen BK185.out 1)|(go_at_call 86;(with_reducible refine (spec_l1Most.calls (wrap64 (a0_0 - a1_0)) (wrap64 (a1_0 - a0_0)) t186 _ A3.out).mono ?_);rintro e w' ⟨rfl,⟨nd,rfl⟩⟩;(try first|exact ⟨rfl,_,World.drewN_drewN _ _ _⟩|exact ⟨rfl,_,zW _ _ _ _⟩))|(go_at_call 86;(with_reducible refine (spec_l1Most.calls (wrap64 (a0_1 - a1_1)) (wrap64 (a1_1 - a0_1)) t187 _ A4.out).mono ?_);rintro e w' ⟨rfl,⟨nd,rfl⟩⟩;(try first|exact ⟨rfl,_,World.drewN_drewN _ _ _⟩|exact ⟨rfl,_,zW _ _ _ _⟩)));try go_wp2_with (first|((with_reducible refine gate_dst (N:=2) rfl ?_);refine box_event ?hg (N:=2) ?hd (cs := #[.int .i64 a0_0,.int .i64 a0_1]) (t:=48) ?hr ?_;(case hd=>rfl);(case hg=>rfl);(case hr=>first|(go_simp;done)|(go_simp;rfl));intro gb184 hg w5 hbox hb;have n0_:=zM (zQ (by repeat (first|(with_reducible first|exact HB.out|apply zD|apply zE|apply zF)|exact HB.out)) hb);have n1_:=zM (hbox);have n2_:=zM ((by rw [hg];exact (zR (by repeat (first|(with_reducible first|exact HB.out|apply zD|apply zE|apply zF)|exact HB.out))):w.heap.size ≤ gb184));have n3_:=zM ((by rw [hg];exact (zR (by repeat (first|(with_reducible first|exact HB.out|apply zD|apply zE|apply zF)|exact HB.out))):w.heap.size ≤ gb184));clear HB;have HB:=n0_;have BK184:=n1_;have GW184:=n2_;have GE184:=n3_;clear n0_ n1_ n2_ n3_;clear hb hbox hg)|((with_reducible refine gate_dst (N:=3) rfl ?_);refine box_event ?hg (N:=3) ?hd (cs := #[.int .i64 a1_0,.int .i64 a1_1]) (t:=48) ?hr ?_;(case hd=>rfl);(case hg=>rfl);(case hr=>first|(go_simp;done)|(go_simp;rfl));intro gb185 hg w6 hbox hb;have n0_:=zM (blk_below (g:=gb184) (o := .cells #[.int .i64 a0_0,.int .i64 a0_1] 48 (0,0)) (by (with_reducible repeat (first|refine zJ ?_ _|refine zK ?_|refine zL ?_ _));exact BK184.out) hb);have n1_:=zM (zQ (by repeat (first|(with_reducible first|exact HB.out|apply zD|apply zE|apply zF|refine below_set ?_ GE184.out)|exact HB.out)) hb);have n2_:=zM (hbox);have n3_:=zM ((by rw [hg];exact (zR (by repeat (first|(with_reducible first|exact HB.out|apply zD|apply zE|apply zF|refine below_set ?_ GE184.out)|exact HB.out))):w.heap.size ≤ gb185));have n4_:=zM ((by rw [hg];exact (zR (by repeat (first|(with_reducible first|exact HB.out|apply zD|apply zE|apply zF|refine below_set ?_ GE184.out)|exact HB.out))):w.heap.size ≤ gb185));have n5_:=zM ((by rw [hg];exact Nat.ne_of_lt (blk_lt (g:=gb184) (o := .cells #[.int .i64 a0_0,.int .i64 a0_1] 48 (0,0)) (by (with_reducible repeat (first|refine zJ ?_ _|refine zK ?_|refine zL ?_ _));exact BK184.out)):gb184 ≠ gb185));have n6_:=zM ((by rw [hg];exact Nat.ne_of_gt (blk_lt (g:=gb184) (o := .cells #[.int .i64 a0_0,.int .i64 a0_1] 48 (0,0)) (by (with_reducible repeat (first|refine zJ ?_ _|refine zK ?_|refine zL ?_ _));exact BK184.out)):gb185 ≠ gb184));clear BK184;clear HB;have BK184:=n0_;have HB:=n1_;have BK185:=n2_;have GW185:=n3_;have GE185:=n4_;have NB184_185:=n5_;have NB185_184:=n6_;clear n0_ n1_ n2_ n3_ n4_ n5_ n6_;clear hb hbox hg;have hnb7:=NB184_185.out;have hnc7:=NB185_184.out;have hcz8_0:w6.cell? ⟨gb184,0,none⟩ = some (.int .i64 a0_0):=(blk_cell BK184.out 0).trans rfl;have hcz8_1:w6.cell? ⟨gb184,1,none⟩ = some (.int .i64 a0_1):=(blk_cell BK184.out 1).trans rfl;have hfz8_0:=blk_frozen BK184.out 0;have hfz8_1:=blk_frozen BK184.out 1;have hcz9_0:w6.cell? ⟨gb185,0,none⟩ = some (.int .i64 a1_0):=(blk_cell BK185.out 0).trans rfl;have hcz9_1:w6.cell? ⟨gb185,1,none⟩ = some (.int .i64 a1_1):=(blk_cell BK185.out 1).trans rfl;have hfz9_0:=blk_frozen BK185.out 0;have hfz9_1:=blk_frozen BK185.out 1)|(go_at_call 86;(with_reducible refine (spec_l1Most.calls (wrap64 (a0_0 - a1_0)) (wrap64 (a1_0 - a0_0)) t186 _ A3.out).mono ?_);rintro e w' ⟨rfl,⟨nd,rfl⟩⟩;(try first|exact ⟨rfl,_,World.drewN_drewN _ _ _⟩|exact ⟨rfl,_,zW _ _ _ _⟩))|(go_at_call 86;(with_reducible refine (spec_l1Most.calls (wrap64 (a0_1 - a1_1)) (wrap64 (a1_1 - a0_1)) t187 _ A4.out).mono ?_);rintro e w' ⟨rfl,⟨nd,rfl⟩⟩;(try first|exact ⟨rfl,_,World.drewN_drewN _ _ _⟩|exact ⟨rfl,_,zW _ _ _ _⟩))))
 go_ret
 exact ⟨by first|rfl|(simp [errW_none,errW_some] <;> rfl)|(simp [*,errW_none,errW_some] <;> rfl),by repeat (first|(with_reducible first|exact HB.out|apply zD|apply zE|apply zF|refine below_set ?_ GE184.out|refine below_set ?_ GE185.out)|exact HB.out)⟩



/-! ### spec_l16Path: function 57 -/
def spec_l16Path.l0:Nat → List (S48) → Int → Int → Int → List (S48) → Option (Bool)
 | 0,_,_,_,_,_=>none
 | k + 1,x1,x5,x189000,x189001,x189002=>if x5 < (x1.length:Int) then (if 0 ≤ x5 then ((spec_l16Free.f k x189000 x189001 x189002 ((rd_T48 x1 x5).f0) ((rd_T48 x1 x5).f1)).bind fun t191=>(if t191 = true then (if x5 > 0 then (if 0 ≤ (wrap64 (x5 - 1)) then (if (wrap64 (x5 - 1)) < (x1.length:Int) then ((spec_l16Near.f ((rd_T48 x1 (wrap64 (x5 - 1))).f0) ((rd_T48 x1 (wrap64 (x5 - 1))).f1) ((rd_T48 x1 x5).f0) ((rd_T48 x1 x5).f1)).bind fun t194=>(if t194 = true then (spec_l16Path.l0 k x1 (wrap64 (x5 + 1)) x189000 x189001 x189002) else (some false))) else (none)) else (none)) else (spec_l16Path.l0 k x1 (wrap64 (x5 + 1)) x189000 x189001 x189002)) else (some false))) else (none)) else ((spec_l1In.f (x1.length:Int) 1 25).bind fun t189=>(some t189))
def spec_l16Path.f (k:Nat) (a0_0:Int) (a0_1:Int) (l0_2:List (S48)) (l1:List (S48)):Option (Bool):=spec_l16Path.l0 k l1 0 a0_0 a0_1 l0_2
def spec_l16Path.T4:Bool × List (List Nat × List Nat):=(true,[([],[]),([],[]),([],[]),([1,2],[1,2]),([3],[3]),([0,4],[0,4]),([5],[5]),([6,5],[6]),([7],[7]),([8,7],[7,8]),([9,7,7],[7,9]),([10],[10]),([10],[10]),([12,10],[10,12]),([11,13,10],[10,11,13]),([14,10],[10,14]),([10],[10]),([10],[10]),([16,17,10],[10,16,17]),([18,10],[10,18]),([15,19,10,10],[10,15,19]),([20,10],[10,20]),([10,21,7],[7,10,21]),([7,22],[7,22])])
def spec_l16Path.B4:List Nat:=[0,0,0,6,14,31,63,127,255,511,1023,2047,2047,6143,16383,32767,2047,2047,198655,460799,1048575,2097151,4194303,8388607]
theorem spec_l16Path.tab4:rtab .any (opsOf Try.f57 4) = spec_l16Path.T4:=by kernel_rfl
theorem spec_l16Path.bits4:waitsOk spec_l16Path.T4.2 spec_l16Path.B4 = true:=by kernel_rfl
set_option maxHeartbeats 8000000 in
set_option maxRecDepth 100000 in
theorem spec_l16Path.calls (k:Nat) (a0_0:Int) (a0_1:Int) (A0_2:Option Addr) (c0_2:Nat) (l0_2:List (S48)) (A1:Option Addr) (c1:Nat) (l1:List (S48)) (r:Bool) (w:World) (hr0_2:Kd.C k48 w A0_2 l0_2.length l0_2) (hc0_2:l0_2.length ≤ c0_2) (hr1:Kd.C k48 w A1 l1.length l1) (hc1:l1.length ≤ c1) (h:spec_l16Path.f k a0_0 a0_1 l0_2 l1 = some r) :
  Calls Try.prog 57 #[.agg #[.int .i64 a0_0,.int .i64 a0_1,.slice A0_2 l0_2.length c0_2],.slice A1 l1.length c1] w fun e w'=>e = .returned (.bool r) ∧ Below w.heap.size w w':=by
 have hu29:=Try.underlying29;have hu48:=Try.underlying48;have HR0_2:=zM hr0_2;have HC0_2:=zM hc0_2;clear hr0_2 hc0_2;have HR1:=zM hr1;have HC1:=zM hc1;clear hr1 hc1;have HB:=zM (Below.refl w.heap.size w);have H:(spec_l16Path.l0 k l1 0 a0_0 a0_1 l0_2) = some r:=h
 clear h;have H':=zM H;clear H;go_enter Try.func57,Try.ntmps57
 go_wp2_with (first|((with_reducible refine gate_dst (N:=2) rfl ?_);refine box_event ?hg (N:=2) ?hd (cs := #[.int .i64 a0_0,.int .i64 a0_1,.slice A0_2 l0_2.length c0_2]) (t:=29) ?hr ?_;(case hd=>rfl);(case hg=>rfl);(case hr=>first|(go_simp;done)|(go_simp;rfl));intro gb188 hg w3 hbox hb;have n0_:=zM (zQ (by repeat (first|(with_reducible first|exact HB.out|apply zD|apply zE|apply zF)|exact HB.out)) hb);have n1_:=zM (hbox);have n2_:=zM ((by rw [hg];exact (zR (by repeat (first|(with_reducible first|exact HB.out|apply zD|apply zE|apply zF)|exact HB.out))):w.heap.size ≤ gb188));have n3_:=zM ((by rw [hg];exact (zR (by repeat (first|(with_reducible first|exact HB.out|apply zD|apply zE|apply zF)|exact HB.out))):w.heap.size ≤ gb188));clear HB;have HB:=n0_;have BK188:=n1_;have GW188:=n2_;have GE188:=n3_;clear n0_ n1_ n2_ n3_;clear hb hbox hg))
 go_loopg [5] k (fun kq v5 w' => ∃ (x5_1:Int),v5 = .int .i64 x5_1 ∧ Aside0 (spec_l16Path.l0 kq l1 x5_1 a0_0 a0_1 l0_2 = some r) ∧ Aside0 (kq ≤ k) ∧ Aside0 (w'.heap[gb188]? = some (.cells #[.int .i64 a0_0,.int .i64 a0_1,(.slice A0_2 l0_2.length c0_2)] 29 (0,0))) ∧ Aside0 (Below w.heap.size w w'))
 case atStart=>exact ⟨(0),(by first|rfl|(simp;done)|(simp [*];done)),H',⟨Nat.le_refl _⟩,⟨by (with_reducible repeat (first|refine zJ ?_ _|refine zK ?_|refine zL ?_ _));exact BK188.out⟩,⟨by repeat (first|(with_reducible first|exact HB.out|apply zD|apply zE|apply zF|refine below_set ?_ GE188.out)|exact HB.out)⟩⟩
 case round =>
  clear H';(try clear c1);(try clear p2);obtain ⟨x5_1,rfl,HA,HK1,BK188,HB⟩:=hrel;cases gk with
  | zero=>exact absurd HA.out (by simp [spec_l16Path.l0])
  | succ k1 =>
   have H:=HA.out;clear HA;simp only [spec_l16Path.l0] at H
   by_cases c4:x5_1 < (l1.length:Int)
   ·rw [if_pos c4] at H
    have c4b0:decide (x5_1 < (l1.length:Int)) = true:=decide_eq_true c4
    clear c4;by_cases c5:0 ≤ x5_1
    ·rw [if_pos c5] at H
     have c5b0:decide (0 ≤ x5_1) = true:=decide_eq_true c5
     clear c5;replace H:=Option.bind_eq_some_iff.mp H;obtain ⟨t191,A60,H⟩:=H;replace H:(if t191 = true then (if x5_1 > 0 then (if 0 ≤ (wrap64 (x5_1 - 1)) then (if (wrap64 (x5_1 - 1)) < (l1.length:Int) then ((spec_l16Near.f ((rd_T48 l1 (wrap64 (x5_1 - 1))).f0) ((rd_T48 l1 (wrap64 (x5_1 - 1))).f1) ((rd_T48 l1 x5_1).f0) ((rd_T48 l1 x5_1).f1)).bind fun t194=>(if t194 = true then (spec_l16Path.l0 k1 l1 (wrap64 (x5_1 + 1)) a0_0 a0_1 l0_2) else (some false))) else (none)) else (none)) else (spec_l16Path.l0 k1 l1 (wrap64 (x5_1 + 1)) a0_0 a0_1 l0_2)) else (some false)) = some r:=H
     have A6:=zM A60;clear A60;by_cases c7:t191 = true
     ·subst c7
      have H1:(if x5_1 > 0 then (if 0 ≤ (wrap64 (x5_1 - 1)) then (if (wrap64 (x5_1 - 1)) < (l1.length:Int) then ((spec_l16Near.f ((rd_T48 l1 (wrap64 (x5_1 - 1))).f0) ((rd_T48 l1 (wrap64 (x5_1 - 1))).f1) ((rd_T48 l1 x5_1).f0) ((rd_T48 l1 x5_1).f1)).bind fun t194=>(if t194 = true then (spec_l16Path.l0 k1 l1 (wrap64 (x5_1 + 1)) a0_0 a0_1 l0_2) else (some false))) else (none)) else (none)) else (spec_l16Path.l0 k1 l1 (wrap64 (x5_1 + 1)) a0_0 a0_1 l0_2)) = some r:=by rw [if_pos rfl] at H;exact H
      clear H;have H:=H1;clear H1;by_cases c8:x5_1 > 0
      ·rw [if_pos c8] at H
       have c8b0:decide (0 < x5_1) = true:=decide_eq_true c8
       clear c8;obtain ⟨ji9,hji9⟩ : ∃ j_:Int,(wrap64 (x5_1 - 1)) = j_:=⟨_,rfl⟩
       replace H:(if 0 ≤ (ji9) then (if (ji9) < (l1.length:Int) then ((spec_l16Near.f ((rd_T48 l1 (ji9)).f0) ((rd_T48 l1 (ji9)).f1) ((rd_T48 l1 x5_1).f0) ((rd_T48 l1 x5_1).f1)).bind fun t194=>(if t194 = true then (spec_l16Path.l0 k1 l1 (wrap64 (x5_1 + 1)) a0_0 a0_1 l0_2) else (some false))) else (none)) else (none)) = some r:=by first|(rw [hji9] at H;exact H)|(simp only [hji9] at H ⊢;exact H)
       (try rw [hji9] at A6)
       have hji9w:(IntKind.i64.wrap (x5_1 - 1)) = ji9:=(i64_w _).trans hji9
       by_cases c10:0 ≤ (ji9)
       ·rw [if_pos c10] at H
        have c10b0:decide (0 ≤ (ji9)) = true:=decide_eq_true c10
        clear c10;by_cases c11:(ji9) < (l1.length:Int)
        ·rw [if_pos c11] at H
         have c11b0:decide ((ji9) < (l1.length:Int)) = true:=decide_eq_true c11
         clear c11;replace H:=Option.bind_eq_some_iff.mp H;obtain ⟨t194,A120,H⟩:=H;replace H:(if t194 = true then (spec_l16Path.l0 k1 l1 (wrap64 (x5_1 + 1)) a0_0 a0_1 l0_2) else (some false)) = some r:=H
         have A12:=zM A120;clear A120;by_cases c13:t194 = true
         ·subst c13
          have H1:(spec_l16Path.l0 k1 l1 (wrap64 (x5_1 + 1)) a0_0 a0_1 l0_2) = some r:=by rw [if_pos rfl] at H;exact H
          clear H;have H:=H1;clear H1;have H':=zM H;clear H;try go_wp2
          have n0_:=zM (zK BK188.out);have n1_:=zM (zF HB.out);clear BK188;clear HB;have BK188:=n0_;have HB:=n1_;clear n0_ n1_;have p190:0 ≤ (x5_1:Int):=of_decide_eq_true (by first|(with_reducible assumption)|assumption)
          have q190:x5_1 < (l1.length:Int):=of_decide_eq_true (by first|(with_reducible assumption)|assumption)
          obtain ⟨ad190,e190,hx190_0,hx190_1⟩:=at_T48 HR1.out x5_1 p190 q190;have hw190_1:=hx190_1;have hw190_0:=hx190_0;cases e190
          replace hx190_0:=zS HB.out hx190_0;replace hx190_1:=zS HB.out hx190_1;replace p190:=eq_true p190;replace q190:=eq_true q190;have p192:0 ≤ ((ji9):Int):=of_decide_eq_true (by first|(with_reducible assumption)|assumption)
          have q192:(ji9) < (l1.length:Int):=of_decide_eq_true (by first|(with_reducible assumption)|assumption)
          obtain ⟨ad192,e192,hx192_0,hx192_1⟩:=at_T48 HR1.out (ji9) p192 q192;have hw192_1:=hx192_1;have hw192_0:=hx192_0;obtain rfl:ad190 = ad192:=(by injection e192)
          replace hx192_0:=zS HB.out hx192_0;replace hx192_1:=zS HB.out hx192_1;replace p192:=eq_true p192;replace q192:=eq_true q192;have p193:0 ≤ (x5_1:Int):=of_decide_eq_true (by first|(with_reducible assumption)|assumption)
          have q193:x5_1 < (l1.length:Int):=of_decide_eq_true (by first|(with_reducible assumption)|assumption)
          obtain ⟨ad193,e193,hx193_0,hx193_1⟩:=at_T48 HR1.out x5_1 p193 q193;have hw193_1:=hx193_1;have hw193_0:=hx193_0;obtain rfl:ad190 = ad193:=(by injection e193)
          replace hx193_0:=zS HB.out hx193_0;replace hx193_1:=zS HB.out hx193_1;replace p193:=eq_true p193;replace q193:=eq_true q193;refine start_ (n:=24) (S:=fun w'=>w'.cell? ⟨gb188,0,none⟩ = some (.int .i64 a0_0) ∧ w'.cell? ⟨gb188,1,none⟩ = some (.int .i64 a0_1) ∧ w'.cell? ⟨gb188,2,none⟩ = some (.slice A0_2 l0_2.length c0_2) ∧ w'.cell? (ad190.add ((x5_1).toNat * 2)) = some (.int .i64 ((rd_T48 l1 x5_1).f0)) ∧ w'.cell? ⟨(ad190.add ((x5_1).toNat * 2)).block,(ad190.add ((x5_1).toNat * 2)).off + 1,none⟩ = some (.int .i64 ((rd_T48 l1 x5_1).f1)) ∧ w'.cell? (ad190.add (((ji9)).toNat * 2)) = some (.int .i64 ((rd_T48 l1 (ji9)).f0)) ∧ w'.cell? ⟨(ad190.add (((ji9)).toNat * 2)).block,(ad190.add (((ji9)).toNat * 2)).off + 1,none⟩ = some (.int .i64 ((rd_T48 l1 (ji9)).f1)) ∧ w'.cell? (ad190.add ((x5_1).toNat * 2)) = some (.int .i64 ((rd_T48 l1 x5_1).f0)) ∧ w'.cell? ⟨(ad190.add ((x5_1).toNat * 2)).block,(ad190.add ((x5_1).toNat * 2)).off + 1,none⟩ = some (.int .i64 ((rd_T48 l1 x5_1).f1))) (ds:=[]) #[false,false,false,false,false,false,false,false,false,false,false,false,false,false,false,false,false,false,false,false,false,false,false,false] (by kernel_rfl) rfl rfl ⟨(blk_cell BK188.out 0).trans rfl,(blk_cell BK188.out 1).trans rfl,(blk_cell BK188.out 2).trans rfl,(zS HB.out hw190_0 :),(zS HB.out hw190_1 :),(zS HB.out hw192_0 :),(zS HB.out hw192_1 :),(zS HB.out hw193_0 :),(zS HB.out hw193_1 :)⟩ (fun hHeld=>?_);refine with_tabW spec_l16Path.tab4 spec_l16Path.bits4 (fun HT_ HW_=>?_)
          generalize wr.drew = w14 at BK188 HB hx190_0 hx190_1 hx192_0 hx192_1 hx193_0 hx193_1 hHeld ⊢
          refine zzp 1 13 (zzb 24 2) ?_ (hc:=zzx HT_);refine zzp 2 14 (zzb 24 6) ?_ (hc:=zzx HT_);refine zzp 3 15 (zzb 24 14) ?_ (hc:=zzx HT_)
          refine zzt 0 12 (zzb 24 15) hHeld ?_ (hc:=zzy HT_ HW_) (hy:=by rintro w' ⟨s0,s1,s2,s3,s4,s5,s6,s7,s8⟩;go_simp;with_reducible rfl)
          refine zzt 4 16 (zzb 24 31) hHeld ?_ (hc:=zzy HT_ HW_) (hy:=by rintro w' ⟨s0,s1,s2,s3,s4,s5,s6,s7,s8⟩;go_simp;with_reducible rfl)
          refine one_ (i:=5) (N:=some 17) #[true,true,true,true,true,true,false,false,false,false,false,false,false,false,false,false,false,false,false,false,false,false,false,false] rfl rfl (one_of HT_.out (by kernel_rfl)) (by decide) (fun K hK=>?_)
          refine goes_ Try.func82 (by kernel_rfl) rfl #[.agg #[.int .i64 a0_0,.int .i64 a0_1,.slice A0_2 l0_2.length c0_2],.agg #[.int .i64 ((rd_T48 l1 x5_1).f0),.int .i64 ((rd_T48 l1 x5_1).f1)]] (by rfl) rfl rfl (by (try simp only [List.map_toArray,List.map_cons,List.map_nil]);first|done|rfl|(simp only [List.length_drop,List.length_take];rfl)) ?_
          with_reducible refine (spec_l16Free.calls k1 a0_0 a0_1 _ _ l0_2 ((rd_T48 l1 x5_1).f0) ((rd_T48 l1 x5_1).f1) true _ ?side1 ?side2 A6.out).mono ?_
          (case side1=>repeat (first|exact (zO HR0_2.out HB.out)|(with_reducible first|refine zG ?_ _|refine zH ?_ _|refine zI ?_)))
          (case side2=>exact HC0_2.out)
          rintro e w15 ⟨rfl,hb⟩
          refine ⟨_,rfl,?_⟩
          have n0_:=zM (blk_below (g:=gb188) (o := .cells #[.int .i64 a0_0,.int .i64 a0_1,.slice A0_2 l0_2.length c0_2] 29 (0,0)) (by (with_reducible repeat (first|refine zJ ?_ _|refine zK ?_|refine zL ?_ _));exact BK188.out) hb)
          have n1_:=zM (zQ (by repeat (first|(with_reducible first|exact HB.out|apply zD|apply zE|apply zF|refine below_set ?_ GE188.out)|exact HB.out)) hb)
          clear BK188;clear HB;have BK188:=n0_;have HB:=n1_;clear n0_ n1_;(try clear hb)
          (try clear hb2)
          (try clear hk)
          (try clear hi)
          refine hK.out _ _ ⟨(blk_cell BK188.out 0).trans rfl,(blk_cell BK188.out 1).trans rfl,(blk_cell BK188.out 2).trans rfl,(zS HB.out hw190_0 :),(zS HB.out hw190_1 :),(zS HB.out hw192_0 :),(zS HB.out hw192_1 :),(zS HB.out hw193_0 :),(zS HB.out hw193_1 :)⟩ (fun hHeld=>?_)
          clear hK K;refine zzn 17 ?_;refine zzp 6 18 (zzb 24 127) ?_ (hc:=zzx HT_);refine zzp 7 19 (zzb 24 255) ?_ (hc:=zzx HT_);refine zzp 8 20 (zzb 24 511) ?_ (hc:=zzx HT_);refine zzp 9 21 (zzb 24 1023) ?_ (hc:=zzx HT_);refine zzp 10 22 (zzb 24 2047) ?_ (hc:=zzx HT_);refine zzp 11 23 (zzb 24 4095) ?_ (hc:=zzx HT_);refine zzp 12 24 (zzb 24 8191) ?_ (hc:=zzx HT_);refine zzp 13 25 (zzb 24 16383) ?_ (hc:=zzx HT_);refine zzp 14 26 (zzb 24 32767) ?_ (hc:=zzx HT_);refine zzp 16 28 (zzb 24 98303) ?_ (hc:=zzx HT_);refine zzp 17 29 (zzb 24 229375) ?_ (hc:=zzx HT_);refine zzp 18 30 (zzb 24 491519) ?_ (hc:=zzx HT_)
          refine zzt 15 27 (zzb 24 524287) hHeld ?_ (hc:=zzy HT_ HW_) (hy:=by rintro w' ⟨s0,s1,s2,s3,s4,s5,s6,s7,s8⟩;go_simp;with_reducible rfl)
          refine zzt 19 31 (zzb 24 1048575) hHeld ?_ (hc:=zzy HT_ HW_) (hy:=by rintro w' ⟨s0,s1,s2,s3,s4,s5,s6,s7,s8⟩;go_simp;with_reducible rfl)
          refine one_ (i:=20) (N:=some 32) #[true,true,true,true,true,true,true,true,true,true,true,true,true,true,true,true,true,true,true,true,true,false,false,false] rfl rfl (one_of HT_.out (by kernel_rfl)) (by decide) (fun K hK=>?_)
          refine goes_ Try.func83 (by kernel_rfl) rfl #[.agg #[.int .i64 ((rd_T48 l1 (ji9)).f0),.int .i64 ((rd_T48 l1 (ji9)).f1)],.agg #[.int .i64 ((rd_T48 l1 x5_1).f0),.int .i64 ((rd_T48 l1 x5_1).f1)]] (by rfl) rfl rfl (by (try simp only [List.map_toArray,List.map_cons,List.map_nil]);first|done|(simp only [hji9];rfl)|rfl|(simp only [List.length_drop,List.length_take];rfl)) ?_
          with_reducible refine (spec_l16Near.calls ((rd_T48 l1 (ji9)).f0) ((rd_T48 l1 (ji9)).f1) ((rd_T48 l1 x5_1).f0) ((rd_T48 l1 x5_1).f1) true _ A12.out).mono ?_
          rintro e w16 ⟨rfl,hb⟩
          refine ⟨_,rfl,?_⟩
          have n0_:=zM (blk_below (g:=gb188) (o := .cells #[.int .i64 a0_0,.int .i64 a0_1,.slice A0_2 l0_2.length c0_2] 29 (0,0)) (by (with_reducible repeat (first|refine zJ ?_ _|refine zK ?_|refine zL ?_ _));exact BK188.out) hb)
          have n1_:=zM (zQ (by repeat (first|(with_reducible first|exact HB.out|apply zD|apply zE|apply zF|refine below_set ?_ GE188.out)|exact HB.out)) hb)
          clear BK188;clear HB;have BK188:=n0_;have HB:=n1_;clear n0_ n1_;(try clear hb)
          (try clear hb2)
          (try clear hk)
          (try clear hi)
          refine hK.out _ _ ⟨(blk_cell BK188.out 0).trans rfl,(blk_cell BK188.out 1).trans rfl,(blk_cell BK188.out 2).trans rfl,(zS HB.out hw190_0 :),(zS HB.out hw190_1 :),(zS HB.out hw192_0 :),(zS HB.out hw192_1 :),(zS HB.out hw193_0 :),(zS HB.out hw193_1 :)⟩ (fun hHeld=>?_)
          clear hK K;refine zzn 32 ?_;refine zzp 21 33 (zzb 24 4194303) ?_ (hc:=zzx HT_);refine zzp 22 34 (zzb 24 8388607) ?_ (hc:=zzx HT_);refine zzp 23 35 (zzb 24 16777215) ?_ (hc:=zzx HT_)
          refine done_ (done_of HT_.out (by kernel_rfl)) ?_
          try go_wp2
          go_roundg k1
          case measure=>have:=HK1.out;omega
          case rel=>exact ⟨(wrap64 (x5_1 + 1)),(by first|rfl|(simp;done)|(simp [*];done)),H',⟨by have:=HK1.out;omega⟩,⟨by (with_reducible repeat (first|refine zJ ?_ _|refine zK ?_|refine zL ?_ _));exact BK188.out⟩,⟨by repeat (first|(with_reducible first|exact HB.out|apply zD|apply zE|apply zF|refine below_set ?_ GE188.out)|exact HB.out)⟩⟩
         ·replace c13:=Bool.eq_false_iff.mpr c13
          subst c13;have H1:(some false) = some r:=by rw [if_neg (show ¬ (false = true) by decide)] at H;exact H
          clear H;have H:=H1;clear H1;obtain rfl:=Option.some.inj H;try go_wp2
          have n0_:=zM (zK BK188.out);have n1_:=zM (zF HB.out);clear BK188;clear HB;have BK188:=n0_;have HB:=n1_;clear n0_ n1_;have p190:0 ≤ (x5_1:Int):=of_decide_eq_true (by first|(with_reducible assumption)|assumption)
          have q190:x5_1 < (l1.length:Int):=of_decide_eq_true (by first|(with_reducible assumption)|assumption)
          obtain ⟨ad190,e190,hx190_0,hx190_1⟩:=at_T48 HR1.out x5_1 p190 q190;have hw190_1:=hx190_1;have hw190_0:=hx190_0;cases e190
          replace hx190_0:=zS HB.out hx190_0;replace hx190_1:=zS HB.out hx190_1;replace p190:=eq_true p190;replace q190:=eq_true q190;have p192:0 ≤ ((ji9):Int):=of_decide_eq_true (by first|(with_reducible assumption)|assumption)
          have q192:(ji9) < (l1.length:Int):=of_decide_eq_true (by first|(with_reducible assumption)|assumption)
          obtain ⟨ad192,e192,hx192_0,hx192_1⟩:=at_T48 HR1.out (ji9) p192 q192;have hw192_1:=hx192_1;have hw192_0:=hx192_0;obtain rfl:ad190 = ad192:=(by injection e192)
          replace hx192_0:=zS HB.out hx192_0;replace hx192_1:=zS HB.out hx192_1;replace p192:=eq_true p192;replace q192:=eq_true q192;have p193:0 ≤ (x5_1:Int):=of_decide_eq_true (by first|(with_reducible assumption)|assumption)
          have q193:x5_1 < (l1.length:Int):=of_decide_eq_true (by first|(with_reducible assumption)|assumption)
          obtain ⟨ad193,e193,hx193_0,hx193_1⟩:=at_T48 HR1.out x5_1 p193 q193;have hw193_1:=hx193_1;have hw193_0:=hx193_0;obtain rfl:ad190 = ad193:=(by injection e193)
          replace hx193_0:=zS HB.out hx193_0;replace hx193_1:=zS HB.out hx193_1;replace p193:=eq_true p193;replace q193:=eq_true q193;refine start_ (n:=24) (S:=fun w'=>w'.cell? ⟨gb188,0,none⟩ = some (.int .i64 a0_0) ∧ w'.cell? ⟨gb188,1,none⟩ = some (.int .i64 a0_1) ∧ w'.cell? ⟨gb188,2,none⟩ = some (.slice A0_2 l0_2.length c0_2) ∧ w'.cell? (ad190.add ((x5_1).toNat * 2)) = some (.int .i64 ((rd_T48 l1 x5_1).f0)) ∧ w'.cell? ⟨(ad190.add ((x5_1).toNat * 2)).block,(ad190.add ((x5_1).toNat * 2)).off + 1,none⟩ = some (.int .i64 ((rd_T48 l1 x5_1).f1)) ∧ w'.cell? (ad190.add (((ji9)).toNat * 2)) = some (.int .i64 ((rd_T48 l1 (ji9)).f0)) ∧ w'.cell? ⟨(ad190.add (((ji9)).toNat * 2)).block,(ad190.add (((ji9)).toNat * 2)).off + 1,none⟩ = some (.int .i64 ((rd_T48 l1 (ji9)).f1)) ∧ w'.cell? (ad190.add ((x5_1).toNat * 2)) = some (.int .i64 ((rd_T48 l1 x5_1).f0)) ∧ w'.cell? ⟨(ad190.add ((x5_1).toNat * 2)).block,(ad190.add ((x5_1).toNat * 2)).off + 1,none⟩ = some (.int .i64 ((rd_T48 l1 x5_1).f1))) (ds:=[]) #[false,false,false,false,false,false,false,false,false,false,false,false,false,false,false,false,false,false,false,false,false,false,false,false] (by kernel_rfl) rfl rfl ⟨(blk_cell BK188.out 0).trans rfl,(blk_cell BK188.out 1).trans rfl,(blk_cell BK188.out 2).trans rfl,(zS HB.out hw190_0 :),(zS HB.out hw190_1 :),(zS HB.out hw192_0 :),(zS HB.out hw192_1 :),(zS HB.out hw193_0 :),(zS HB.out hw193_1 :)⟩ (fun hHeld=>?_);refine with_tabW spec_l16Path.tab4 spec_l16Path.bits4 (fun HT_ HW_=>?_)
          generalize wr.drew = w17 at BK188 HB hx190_0 hx190_1 hx192_0 hx192_1 hx193_0 hx193_1 hHeld ⊢
          refine zzp 1 13 (zzb 24 2) ?_ (hc:=zzx HT_);refine zzp 2 14 (zzb 24 6) ?_ (hc:=zzx HT_);refine zzp 3 15 (zzb 24 14) ?_ (hc:=zzx HT_)
          refine zzt 0 12 (zzb 24 15) hHeld ?_ (hc:=zzy HT_ HW_) (hy:=by rintro w' ⟨s0,s1,s2,s3,s4,s5,s6,s7,s8⟩;go_simp;with_reducible rfl)
          refine zzt 4 16 (zzb 24 31) hHeld ?_ (hc:=zzy HT_ HW_) (hy:=by rintro w' ⟨s0,s1,s2,s3,s4,s5,s6,s7,s8⟩;go_simp;with_reducible rfl)
          refine one_ (i:=5) (N:=some 17) #[true,true,true,true,true,true,false,false,false,false,false,false,false,false,false,false,false,false,false,false,false,false,false,false] rfl rfl (one_of HT_.out (by kernel_rfl)) (by decide) (fun K hK=>?_)
          refine goes_ Try.func82 (by kernel_rfl) rfl #[.agg #[.int .i64 a0_0,.int .i64 a0_1,.slice A0_2 l0_2.length c0_2],.agg #[.int .i64 ((rd_T48 l1 x5_1).f0),.int .i64 ((rd_T48 l1 x5_1).f1)]] (by rfl) rfl rfl (by (try simp only [List.map_toArray,List.map_cons,List.map_nil]);first|done|rfl|(simp only [List.length_drop,List.length_take];rfl)) ?_
          with_reducible refine (spec_l16Free.calls k1 a0_0 a0_1 _ _ l0_2 ((rd_T48 l1 x5_1).f0) ((rd_T48 l1 x5_1).f1) true _ ?side1 ?side2 A6.out).mono ?_
          (case side1=>repeat (first|exact (zO HR0_2.out HB.out)|(with_reducible first|refine zG ?_ _|refine zH ?_ _|refine zI ?_)))
          (case side2=>exact HC0_2.out)
          rintro e w18 ⟨rfl,hb⟩
          refine ⟨_,rfl,?_⟩
          have n0_:=zM (blk_below (g:=gb188) (o := .cells #[.int .i64 a0_0,.int .i64 a0_1,.slice A0_2 l0_2.length c0_2] 29 (0,0)) (by (with_reducible repeat (first|refine zJ ?_ _|refine zK ?_|refine zL ?_ _));exact BK188.out) hb)
          have n1_:=zM (zQ (by repeat (first|(with_reducible first|exact HB.out|apply zD|apply zE|apply zF|refine below_set ?_ GE188.out)|exact HB.out)) hb)
          clear BK188;clear HB;have BK188:=n0_;have HB:=n1_;clear n0_ n1_;(try clear hb)
          (try clear hb2)
          (try clear hk)
          (try clear hi)
          refine hK.out _ _ ⟨(blk_cell BK188.out 0).trans rfl,(blk_cell BK188.out 1).trans rfl,(blk_cell BK188.out 2).trans rfl,(zS HB.out hw190_0 :),(zS HB.out hw190_1 :),(zS HB.out hw192_0 :),(zS HB.out hw192_1 :),(zS HB.out hw193_0 :),(zS HB.out hw193_1 :)⟩ (fun hHeld=>?_)
          clear hK K;refine zzn 17 ?_;refine zzp 6 18 (zzb 24 127) ?_ (hc:=zzx HT_);refine zzp 7 19 (zzb 24 255) ?_ (hc:=zzx HT_);refine zzp 8 20 (zzb 24 511) ?_ (hc:=zzx HT_);refine zzp 9 21 (zzb 24 1023) ?_ (hc:=zzx HT_);refine zzp 10 22 (zzb 24 2047) ?_ (hc:=zzx HT_);refine zzp 11 23 (zzb 24 4095) ?_ (hc:=zzx HT_);refine zzp 12 24 (zzb 24 8191) ?_ (hc:=zzx HT_);refine zzp 13 25 (zzb 24 16383) ?_ (hc:=zzx HT_);refine zzp 14 26 (zzb 24 32767) ?_ (hc:=zzx HT_);refine zzp 16 28 (zzb 24 98303) ?_ (hc:=zzx HT_);refine zzp 17 29 (zzb 24 229375) ?_ (hc:=zzx HT_);refine zzp 18 30 (zzb 24 491519) ?_ (hc:=zzx HT_)
          refine zzt 15 27 (zzb 24 524287) hHeld ?_ (hc:=zzy HT_ HW_) (hy:=by rintro w' ⟨s0,s1,s2,s3,s4,s5,s6,s7,s8⟩;go_simp;with_reducible rfl)
          refine zzt 19 31 (zzb 24 1048575) hHeld ?_ (hc:=zzy HT_ HW_) (hy:=by rintro w' ⟨s0,s1,s2,s3,s4,s5,s6,s7,s8⟩;go_simp;with_reducible rfl)
          refine one_ (i:=20) (N:=some 32) #[true,true,true,true,true,true,true,true,true,true,true,true,true,true,true,true,true,true,true,true,true,false,false,false] rfl rfl (one_of HT_.out (by kernel_rfl)) (by decide) (fun K hK=>?_)
          refine goes_ Try.func83 (by kernel_rfl) rfl #[.agg #[.int .i64 ((rd_T48 l1 (ji9)).f0),.int .i64 ((rd_T48 l1 (ji9)).f1)],.agg #[.int .i64 ((rd_T48 l1 x5_1).f0),.int .i64 ((rd_T48 l1 x5_1).f1)]] (by rfl) rfl rfl (by (try simp only [List.map_toArray,List.map_cons,List.map_nil]);first|done|(simp only [hji9];rfl)|rfl|(simp only [List.length_drop,List.length_take];rfl)) ?_
          with_reducible refine (spec_l16Near.calls ((rd_T48 l1 (ji9)).f0) ((rd_T48 l1 (ji9)).f1) ((rd_T48 l1 x5_1).f0) ((rd_T48 l1 x5_1).f1) false _ A12.out).mono ?_
          rintro e w19 ⟨rfl,hb⟩
          refine ⟨_,rfl,?_⟩
          have n0_:=zM (blk_below (g:=gb188) (o := .cells #[.int .i64 a0_0,.int .i64 a0_1,.slice A0_2 l0_2.length c0_2] 29 (0,0)) (by (with_reducible repeat (first|refine zJ ?_ _|refine zK ?_|refine zL ?_ _));exact BK188.out) hb)
          have n1_:=zM (zQ (by repeat (first|(with_reducible first|exact HB.out|apply zD|apply zE|apply zF|refine below_set ?_ GE188.out)|exact HB.out)) hb)
          clear BK188;clear HB;have BK188:=n0_;have HB:=n1_;clear n0_ n1_;(try clear hb)
          (try clear hb2)
          (try clear hk)
          (try clear hi)
          refine hK.out _ _ ⟨(blk_cell BK188.out 0).trans rfl,(blk_cell BK188.out 1).trans rfl,(blk_cell BK188.out 2).trans rfl,(zS HB.out hw190_0 :),(zS HB.out hw190_1 :),(zS HB.out hw192_0 :),(zS HB.out hw192_1 :),(zS HB.out hw193_0 :),(zS HB.out hw193_1 :)⟩ (fun hHeld=>?_)
          clear hK K;refine zzn 32 ?_;refine zzp 21 33 (zzb 24 4194303) ?_ (hc:=zzx HT_);refine zzp 22 34 (zzb 24 8388607) ?_ (hc:=zzx HT_);refine zzp 23 35 (zzb 24 16777215) ?_ (hc:=zzx HT_)
          refine done_ (done_of HT_.out (by kernel_rfl)) ?_
          try go_wp2
          go_ret
          exact ⟨by first|rfl|(simp [errW_none,errW_some] <;> rfl)|(simp only [← hji9];first|rfl|(simp [errW_none,errW_some] <;> rfl))|(simp [*,errW_none,errW_some] <;> rfl),by repeat (first|(with_reducible first|exact HB.out|apply zD|apply zE|apply zF|refine below_set ?_ GE188.out)|exact HB.out)⟩
        ·rw [if_neg c11] at H
         exact absurd H (by simp)
       ·rw [if_neg c10] at H
        exact absurd H (by simp)
      ·rw [if_neg c8] at H
       have c8b0:decide (0 < x5_1) = false:=decide_eq_false c8
       clear c8;have H':=zM H;clear H;try go_wp2
       have n0_:=zM (zK BK188.out);have n1_:=zM (zF HB.out);clear BK188;clear HB;have BK188:=n0_;have HB:=n1_;clear n0_ n1_;have p190:0 ≤ (x5_1:Int):=of_decide_eq_true (by first|(with_reducible assumption)|assumption)
       have q190:x5_1 < (l1.length:Int):=of_decide_eq_true (by first|(with_reducible assumption)|assumption)
       obtain ⟨ad190,e190,hx190_0,hx190_1⟩:=at_T48 HR1.out x5_1 p190 q190;have hw190_1:=hx190_1;have hw190_0:=hx190_0;cases e190
       replace hx190_0:=zS HB.out hx190_0;replace hx190_1:=zS HB.out hx190_1;replace p190:=eq_true p190;replace q190:=eq_true q190;refine start_ (n:=24) (S:=fun w'=>w'.cell? ⟨gb188,0,none⟩ = some (.int .i64 a0_0) ∧ w'.cell? ⟨gb188,1,none⟩ = some (.int .i64 a0_1) ∧ w'.cell? ⟨gb188,2,none⟩ = some (.slice A0_2 l0_2.length c0_2) ∧ w'.cell? (ad190.add ((x5_1).toNat * 2)) = some (.int .i64 ((rd_T48 l1 x5_1).f0)) ∧ w'.cell? ⟨(ad190.add ((x5_1).toNat * 2)).block,(ad190.add ((x5_1).toNat * 2)).off + 1,none⟩ = some (.int .i64 ((rd_T48 l1 x5_1).f1))) (ds:=[]) #[false,false,false,false,false,false,false,false,false,false,false,false,false,false,false,false,false,false,false,false,false,false,false,false] (by kernel_rfl) rfl rfl ⟨(blk_cell BK188.out 0).trans rfl,(blk_cell BK188.out 1).trans rfl,(blk_cell BK188.out 2).trans rfl,(zS HB.out hw190_0 :),(zS HB.out hw190_1 :)⟩ (fun hHeld=>?_);refine with_tabW spec_l16Path.tab4 spec_l16Path.bits4 (fun HT_ HW_=>?_)
       generalize wr.drew = w20 at BK188 HB hx190_0 hx190_1 hHeld ⊢
       refine zzp 1 13 (zzb 24 2) ?_ (hc:=zzx HT_);refine zzp 2 14 (zzb 24 6) ?_ (hc:=zzx HT_);refine zzp 3 15 (zzb 24 14) ?_ (hc:=zzx HT_)
       refine zzt 0 12 (zzb 24 15) hHeld ?_ (hc:=zzy HT_ HW_) (hy:=by rintro w' ⟨s0,s1,s2,s3,s4⟩;go_simp;with_reducible rfl)
       refine zzt 4 16 (zzb 24 31) hHeld ?_ (hc:=zzy HT_ HW_) (hy:=by rintro w' ⟨s0,s1,s2,s3,s4⟩;go_simp;with_reducible rfl)
       refine one_ (i:=5) (N:=some 17) #[true,true,true,true,true,true,false,false,false,false,false,false,false,false,false,false,false,false,false,false,false,false,false,false] rfl rfl (one_of HT_.out (by kernel_rfl)) (by decide) (fun K hK=>?_)
       refine goes_ Try.func82 (by kernel_rfl) rfl #[.agg #[.int .i64 a0_0,.int .i64 a0_1,.slice A0_2 l0_2.length c0_2],.agg #[.int .i64 ((rd_T48 l1 x5_1).f0),.int .i64 ((rd_T48 l1 x5_1).f1)]] (by rfl) rfl rfl (by (try simp only [List.map_toArray,List.map_cons,List.map_nil]);first|done|rfl|(simp only [List.length_drop,List.length_take];rfl)) ?_
       with_reducible refine (spec_l16Free.calls k1 a0_0 a0_1 _ _ l0_2 ((rd_T48 l1 x5_1).f0) ((rd_T48 l1 x5_1).f1) true _ ?side1 ?side2 A6.out).mono ?_
       (case side1=>repeat (first|exact (zO HR0_2.out HB.out)|(with_reducible first|refine zG ?_ _|refine zH ?_ _|refine zI ?_)))
       (case side2=>exact HC0_2.out)
       rintro e w21 ⟨rfl,hb⟩
       refine ⟨_,rfl,?_⟩
       have n0_:=zM (blk_below (g:=gb188) (o := .cells #[.int .i64 a0_0,.int .i64 a0_1,.slice A0_2 l0_2.length c0_2] 29 (0,0)) (by (with_reducible repeat (first|refine zJ ?_ _|refine zK ?_|refine zL ?_ _));exact BK188.out) hb)
       have n1_:=zM (zQ (by repeat (first|(with_reducible first|exact HB.out|apply zD|apply zE|apply zF|refine below_set ?_ GE188.out)|exact HB.out)) hb)
       clear BK188;clear HB;have BK188:=n0_;have HB:=n1_;clear n0_ n1_;(try clear hb)
       (try clear hb2)
       (try clear hk)
       (try clear hi)
       refine hK.out _ _ ⟨(blk_cell BK188.out 0).trans rfl,(blk_cell BK188.out 1).trans rfl,(blk_cell BK188.out 2).trans rfl,(zS HB.out hw190_0 :),(zS HB.out hw190_1 :)⟩ (fun hHeld=>?_)
       clear hK K;refine zzn 17 ?_;refine zzp 6 18 (zzb 24 127) ?_ (hc:=zzx HT_);refine zzp 7 19 (zzb 24 255) ?_ (hc:=zzx HT_);refine zzp 8 20 (zzb 24 511) ?_ (hc:=zzx HT_);refine zzp 9 21 (zzb 24 1023) ?_ (hc:=zzx HT_);refine zzp 10 22 (zzb 24 2047) ?_ (hc:=zzx HT_);refine zzu 11 23 (zzb 24 4095) ?_ (hc:=zzx HT_);refine zzu 12 24 (zzb 24 8191) ?_ (hc:=zzx HT_);refine zzu 13 25 (zzb 24 16383) ?_ (hc:=zzx HT_);refine zzu 14 26 (zzb 24 32767) ?_ (hc:=zzx HT_);refine zzu 15 27 (zzb 24 65535) ?_ (hc:=zzx HT_);refine zzu 16 28 (zzb 24 131071) ?_ (hc:=zzx HT_);refine zzu 17 29 (zzb 24 262143) ?_ (hc:=zzx HT_);refine zzu 18 30 (zzb 24 524287) ?_ (hc:=zzx HT_);refine zzu 19 31 (zzb 24 1048575) ?_ (hc:=zzx HT_);refine zzu 20 32 (zzb 24 2097151) ?_ (hc:=zzx HT_);refine zzu 21 33 (zzb 24 4194303) ?_ (hc:=zzx HT_);refine zzp 22 34 (zzb 24 8388607) ?_ (hc:=zzx HT_);refine zzp 23 35 (zzb 24 16777215) ?_ (hc:=zzx HT_)
       refine done_ (done_of HT_.out (by kernel_rfl)) ?_
       try go_wp2
       go_roundg k1
       case measure=>have:=HK1.out;omega
       case rel=>exact ⟨(wrap64 (x5_1 + 1)),(by first|rfl|(simp;done)|(simp [*];done)),H',⟨by have:=HK1.out;omega⟩,⟨by (with_reducible repeat (first|refine zJ ?_ _|refine zK ?_|refine zL ?_ _));exact BK188.out⟩,⟨by repeat (first|(with_reducible first|exact HB.out|apply zD|apply zE|apply zF|refine below_set ?_ GE188.out)|exact HB.out)⟩⟩
     ·replace c7:=Bool.eq_false_iff.mpr c7
      subst c7;have H1:(some false) = some r:=by rw [if_neg (show ¬ (false = true) by decide)] at H;exact H
      clear H;have H:=H1;clear H1;obtain rfl:=Option.some.inj H;try go_wp2
      have n0_:=zM (zK BK188.out);have n1_:=zM (zF HB.out);clear BK188;clear HB;have BK188:=n0_;have HB:=n1_;clear n0_ n1_;have p190:0 ≤ (x5_1:Int):=of_decide_eq_true (by first|(with_reducible assumption)|assumption)
      have q190:x5_1 < (l1.length:Int):=of_decide_eq_true (by first|(with_reducible assumption)|assumption)
      obtain ⟨ad190,e190,hx190_0,hx190_1⟩:=at_T48 HR1.out x5_1 p190 q190;have hw190_1:=hx190_1;have hw190_0:=hx190_0;cases e190
      replace hx190_0:=zS HB.out hx190_0;replace hx190_1:=zS HB.out hx190_1;replace p190:=eq_true p190;replace q190:=eq_true q190;refine start_ (n:=24) (S:=fun w'=>w'.cell? ⟨gb188,0,none⟩ = some (.int .i64 a0_0) ∧ w'.cell? ⟨gb188,1,none⟩ = some (.int .i64 a0_1) ∧ w'.cell? ⟨gb188,2,none⟩ = some (.slice A0_2 l0_2.length c0_2) ∧ w'.cell? (ad190.add ((x5_1).toNat * 2)) = some (.int .i64 ((rd_T48 l1 x5_1).f0)) ∧ w'.cell? ⟨(ad190.add ((x5_1).toNat * 2)).block,(ad190.add ((x5_1).toNat * 2)).off + 1,none⟩ = some (.int .i64 ((rd_T48 l1 x5_1).f1))) (ds:=[]) #[false,false,false,false,false,false,false,false,false,false,false,false,false,false,false,false,false,false,false,false,false,false,false,false] (by kernel_rfl) rfl rfl ⟨(blk_cell BK188.out 0).trans rfl,(blk_cell BK188.out 1).trans rfl,(blk_cell BK188.out 2).trans rfl,(zS HB.out hw190_0 :),(zS HB.out hw190_1 :)⟩ (fun hHeld=>?_);refine with_tabW spec_l16Path.tab4 spec_l16Path.bits4 (fun HT_ HW_=>?_)
      generalize wr.drew = w22 at BK188 HB hx190_0 hx190_1 hHeld ⊢
      refine zzp 1 13 (zzb 24 2) ?_ (hc:=zzx HT_);refine zzp 2 14 (zzb 24 6) ?_ (hc:=zzx HT_);refine zzp 3 15 (zzb 24 14) ?_ (hc:=zzx HT_)
      refine zzt 0 12 (zzb 24 15) hHeld ?_ (hc:=zzy HT_ HW_) (hy:=by rintro w' ⟨s0,s1,s2,s3,s4⟩;go_simp;with_reducible rfl)
      refine zzt 4 16 (zzb 24 31) hHeld ?_ (hc:=zzy HT_ HW_) (hy:=by rintro w' ⟨s0,s1,s2,s3,s4⟩;go_simp;with_reducible rfl)
      refine one_ (i:=5) (N:=some 17) #[true,true,true,true,true,true,false,false,false,false,false,false,false,false,false,false,false,false,false,false,false,false,false,false] rfl rfl (one_of HT_.out (by kernel_rfl)) (by decide) (fun K hK=>?_)
      refine goes_ Try.func82 (by kernel_rfl) rfl #[.agg #[.int .i64 a0_0,.int .i64 a0_1,.slice A0_2 l0_2.length c0_2],.agg #[.int .i64 ((rd_T48 l1 x5_1).f0),.int .i64 ((rd_T48 l1 x5_1).f1)]] (by rfl) rfl rfl (by (try simp only [List.map_toArray,List.map_cons,List.map_nil]);first|done|rfl|(simp only [List.length_drop,List.length_take];rfl)) ?_
      with_reducible refine (spec_l16Free.calls k1 a0_0 a0_1 _ _ l0_2 ((rd_T48 l1 x5_1).f0) ((rd_T48 l1 x5_1).f1) false _ ?side1 ?side2 A6.out).mono ?_
      (case side1=>repeat (first|exact (zO HR0_2.out HB.out)|(with_reducible first|refine zG ?_ _|refine zH ?_ _|refine zI ?_)))
      (case side2=>exact HC0_2.out)
      rintro e w23 ⟨rfl,hb⟩
      refine ⟨_,rfl,?_⟩
      have n0_:=zM (blk_below (g:=gb188) (o := .cells #[.int .i64 a0_0,.int .i64 a0_1,.slice A0_2 l0_2.length c0_2] 29 (0,0)) (by (with_reducible repeat (first|refine zJ ?_ _|refine zK ?_|refine zL ?_ _));exact BK188.out) hb)
      have n1_:=zM (zQ (by repeat (first|(with_reducible first|exact HB.out|apply zD|apply zE|apply zF|refine below_set ?_ GE188.out)|exact HB.out)) hb)
      clear BK188;clear HB;have BK188:=n0_;have HB:=n1_;clear n0_ n1_;(try clear hb)
      (try clear hb2)
      (try clear hk)
      (try clear hi)
      refine hK.out _ _ ⟨(blk_cell BK188.out 0).trans rfl,(blk_cell BK188.out 1).trans rfl,(blk_cell BK188.out 2).trans rfl,(zS HB.out hw190_0 :),(zS HB.out hw190_1 :)⟩ (fun hHeld=>?_)
      clear hK K;refine zzn 17 ?_;refine zzp 6 18 (zzb 24 127) ?_ (hc:=zzx HT_);refine zzp 7 19 (zzb 24 255) ?_ (hc:=zzx HT_);refine zzu 8 20 (zzb 24 511) ?_ (hc:=zzx HT_);refine zzu 9 21 (zzb 24 1023) ?_ (hc:=zzx HT_);refine zzu 10 22 (zzb 24 2047) ?_ (hc:=zzx HT_);refine zzu 11 23 (zzb 24 4095) ?_ (hc:=zzx HT_);refine zzu 12 24 (zzb 24 8191) ?_ (hc:=zzx HT_);refine zzu 13 25 (zzb 24 16383) ?_ (hc:=zzx HT_);refine zzu 14 26 (zzb 24 32767) ?_ (hc:=zzx HT_);refine zzu 15 27 (zzb 24 65535) ?_ (hc:=zzx HT_);refine zzu 16 28 (zzb 24 131071) ?_ (hc:=zzx HT_);refine zzu 17 29 (zzb 24 262143) ?_ (hc:=zzx HT_);refine zzu 18 30 (zzb 24 524287) ?_ (hc:=zzx HT_);refine zzu 19 31 (zzb 24 1048575) ?_ (hc:=zzx HT_);refine zzu 20 32 (zzb 24 2097151) ?_ (hc:=zzx HT_);refine zzu 21 33 (zzb 24 4194303) ?_ (hc:=zzx HT_);refine zzu 22 34 (zzb 24 8388607) ?_ (hc:=zzx HT_);refine zzp 23 35 (zzb 24 16777215) ?_ (hc:=zzx HT_)
      refine done_ (done_of HT_.out (by kernel_rfl)) ?_
      try go_wp2
      go_ret
      exact ⟨by first|rfl|(simp [errW_none,errW_some] <;> rfl)|(simp [*,errW_none,errW_some] <;> rfl),by repeat (first|(with_reducible first|exact HB.out|apply zD|apply zE|apply zF|refine below_set ?_ GE188.out)|exact HB.out)⟩
    ·rw [if_neg c5] at H
     exact absurd H (by simp)
   ·rw [if_neg c4] at H
    have c4b0:decide (x5_1 < (l1.length:Int)) = false:=decide_eq_false c4
    clear c4;replace H:=Option.bind_eq_some_iff.mp H;obtain ⟨t189,A240,H⟩:=H;replace H:(some t189) = some r:=H
    have A24:=zM A240;clear A240;obtain rfl:=Option.some.inj H;go_wp2_with (first|((with_reducible refine gate_callee (f:=80) rfl ?_);refine goesL_ (some 38) rfl rfl Try.func80 (by kernel_rfl) rfl #[.int .i64 (l1.length:Int),.int .i64 1,.int .i64 25] rfl (by (try simp only [List.map_toArray,List.map_cons,List.map_nil]);first|done|rfl|(simp only [List.length_drop,List.length_take];rfl)) ?_;(with_reducible refine (spec_l1In.calls (l1.length:Int) 1 25 t189 _ A24.out).mono ?_);rintro e w' ⟨rfl,⟨nd,rfl⟩⟩;refine ⟨_,rfl,?_⟩))
    go_ret
    exact ⟨by first|rfl|(simp [errW_none,errW_some] <;> rfl)|(simp [*,errW_none,errW_some] <;> rfl),by repeat (first|(with_reducible first|exact HB.out|apply zD|apply zE|apply zF|refine below_set ?_ GE188.out)|exact HB.out)⟩



/-! ### spec_IsValidPath: function 19 -/
def spec_IsValidPath.f (k:Nat) (a0_0:Int) (a0_1:Int) (l0_2:List (S48)) (l1:List (S48)):Option (Bool):=(spec_l16Good.f k a0_0 a0_1 l0_2).bind fun t196=>(if t196 = true then ((spec_l16Path.f k a0_0 a0_1 l0_2 l1).bind fun t197=>(some t197)) else (some false))
end Go.Proofs.Ytbpccdbkaiigcaa.G

namespace Go.Proofs.Ytbpccdbkaiigcaa.G
open Go.RowKit Go.Proofs.YtbpccdbkaiigcaaW.PrintWords Go.Proofs.YtbpccdbkaiigcaaW.PrintLast
set_option linter.unusedVariables false
set_option linter.unusedSimpArgs false
def eqc (a b : S48) : Prop:=a.f0 = b.f0 ∧ a.f1 = b.f1
/-- A cell stands in a list. -/
def HasC (l : List S48) (c : S48) : Prop := ¬ All (fun j => ¬ eqc (rd_T48 l j) c) 0 (l.length : Int)
def Free (w h : Int) (bl : List S48) (c : S48) : Prop:=In w h c ∧ ¬ HasC bl c
theorem eqc_bool (a b : S48) : (a.f0 == b.f0 && (a.f1 == b.f1)) = true ↔ eqc a b:=by
 unfold eqc;simp
theorem spec_blocked (w h : Int) (bl : List S48) (c : S48) (hb : (bl.length : Int) ≤ 1099511627776) : Ev (fun k=>spec_l16Blocked.f k w h bl c.f0 c.f1) (chk (HasC bl c) true false):=by
 unfold spec_l16Blocked.f
 have h:=Ev.check (fun k i=>spec_l16Blocked.l0 k i w h bl c.f0 c.f1) (bl.length : Int) (fun j => ¬ eqc (rd_T48 bl j) c) false true 0 (by
  refine Ev.step (fun k=>by rw [spec_l16Blocked.l0]) ?_
  simp only [Int.lt_irrefl,if_false]
  exact Ev.now _) (by
  intro i h0 hlt r hr
  refine Ev.step (fun k=>by rw [spec_l16Blocked.l0]) ?_
  simp (disch:=omega) only [if_pos,wrap64_id]
  refine Ev.ite (fun g=>?_) (fun g=>?_)
  ·rw [chk_neg (fun m=>m ((eqc_bool _ _).1 g))];exact Ev.now _
  ·rw [chk_pos (fun m=>g ((eqc_bool _ _).2 m))];exact hr) 0 (by omega) (by omega)
 refine Ev.eq h ?_
 by_cases ha : All (fun j => ¬ eqc (rd_T48 bl j) c) 0 (bl.length : Int)
 ·rw [chk_pos ha,chk_neg (fun m : HasC bl c=>m ha)]
 ·rw [chk_neg ha,chk_pos (show HasC bl c from ha)]
theorem impl_contains (bl : List S48) (c : S48) (hb : (bl.length : Int) ≤ 1099511627776) : Ev (fun k=>impl_Cell_84.f k bl c.f0 c.f1) (chk (HasC bl c) true false):=by
 unfold impl_Cell_84.f impl_Cell_97.f
 have main : ∀ (d : Nat) (i : Int),0 ≤ i → i + d = (bl.length : Int) → ∃ v,Ev (fun k=>impl_Cell_97.l0 k bl (bl.length : Int) i c.f0 c.f1) v ∧ (v ≥ 0 ↔ ¬ All (fun j => ¬ eqc (rd_T48 bl j) c) i (bl.length : Int)):=by
  intro d
  induction d with
  | zero =>
   intro i h0 hd
   refine ⟨-1,?_,?_⟩
   ·refine Ev.step (fun k=>by rw [impl_Cell_97.l0]) ?_
    simp (disch:=omega) only [if_neg]
    exact Ev.now _
   ·constructor
    ·intro h;omega
    ·intro h;exact absurd (fun j h1 h2=>by omega) h
  | succ d ih =>
   intro i h0 hd
   by_cases e : (c.f0 == (rd_T48 bl i).f0 && (c.f1 == (rd_T48 bl i).f1)) = true
   ·refine ⟨i,?_,?_⟩
    ·refine Ev.step (fun k=>by rw [impl_Cell_97.l0]) ?_
     simp (disch:=omega) only [if_pos]
     exact Ev.now _
    ·refine ⟨fun _ a=>a i (by omega) (by omega) ?_,fun _=>h0⟩
     have:=(eqc_bool _ _).1 e
     exact ⟨this.1.symm,this.2.symm⟩
   ·obtain ⟨v,hv,hi⟩:=ih (i + 1) (by omega) (by omega)
    refine ⟨v,?_,?_⟩
    ·refine Ev.step (fun k=>by rw [impl_Cell_97.l0]) ?_
     simp (disch:=omega) only [if_pos,wrap64_id]
     simp only [if_neg e]
     exact hv
    ·rw [hi,All.step (show i < (bl.length : Int) by omega)]
     exact ⟨fun h a=>h a.2,fun h a=>h ⟨fun e2=>e ((eqc_bool _ _).2 ⟨e2.1.symm,e2.2.symm⟩),a⟩⟩
 obtain ⟨v,hv,hi⟩:=main bl.length 0 (by omega) (by omega)
 refine Ev.bind hv ?_
 refine Ev.val ?_
 by_cases hh : HasC bl c
 ·rw [chk_pos hh];exact decide_eq_true (hi.2 hh)
 ·rw [chk_neg hh];exact decide_eq_false (fun h=>hh (hi.1 h))
theorem impl_free (w h : Int) (bl : List S48) (c : S48) (hw : 1 ≤ w ∧ w ≤ 6) (hh : 1 ≤ h ∧ h ≤ 6) (hb : (bl.length : Int) ≤ 1099511627776) : Ev (fun k=>impl_isFree.f k w h bl c.f0 c.f1) (chk (Free w h bl c) true false):=by
 unfold impl_isFree.f
 rw [impl_on w h bl c hw hh]
 simp only [Option.bind_some]
 refine Ev.ite (fun g=>?_) (fun g=>?_)
 ·refine Ev.bind (impl_contains bl c hb) ?_
  refine Ev.val ?_
  by_cases hc : HasC bl c
  ·rw [chk_pos hc,chk_neg (fun m : Free w h bl c=>m.2 hc)];rfl
  ·rw [chk_neg hc,chk_pos (show Free w h bl c from ⟨chk_true.1 g,hc⟩)];rfl
 ·rw [chk_neg (fun m : Free w h bl c=>g (chk_true.2 m.1))];exact Ev.now _
theorem spec_free (w h : Int) (bl : List S48) (c : S48) (hw : 1 ≤ w ∧ w ≤ 6) (hh : 1 ≤ h ∧ h ≤ 6) (hb : (bl.length : Int) ≤ 1099511627776) : Ev (fun k=>spec_l16Free.f k w h bl c.f0 c.f1) (chk (Free w h bl c) true false):=by
 unfold spec_l16Free.f
 rw [spec_in w h bl c hw hh]
 simp only [Option.bind_some]
 refine Ev.ite (fun g=>?_) (fun g=>?_)
 ·refine Ev.bind (spec_blocked w h bl c hb) ?_
  refine Ev.val ?_
  by_cases hc : HasC bl c
  ·rw [chk_pos hc,chk_neg (fun m : Free w h bl c=>m.2 hc)];rfl
  ·rw [chk_neg hc,chk_pos (show Free w h bl c from ⟨chk_true.1 g,hc⟩)];rfl
 ·rw [chk_neg (fun m : Free w h bl c=>g (chk_true.2 m.1))];exact Ev.now _
/-- Two cells lie side by side, or are the same. -/
def Near (a b : S48) : Prop:=mx (a.f0 - b.f0) (b.f0 - a.f0) + mx (a.f1 - b.f1) (b.f1 - a.f1) ≤ 1
theorem mx_cases (a b : Int) : mx a b = a ∨ mx a b = b:=by unfold mx;split <;> omega
theorem near_imp (a b : S48) (ha : (0 ≤ a.f0 ∧ a.f0 ≤ 5) ∧ (0 ≤ a.f1 ∧ a.f1 ≤ 5)) (hb : (0 ≤ b.f0 ∧ b.f0 ≤ 5) ∧ (0 ≤ b.f1 ∧ b.f1 ≤ 5)) : impl_besides.f a.f0 a.f1 b.f0 b.f1 = some (chk (Near a b) true false):=by
 have c1:=mx_cases (a.f0 - b.f0) (b.f0 - a.f0)
 have c2:=mx_cases (a.f1 - b.f1) (b.f1 - a.f1)
 unfold impl_besides.f impl_size.f
 simp (disch:=omega) only [wrap64_id,Option.bind_some]
 rw [show -(a.f0 - b.f0) = b.f0 - a.f0 from by omega,show -(a.f1 - b.f1) = b.f1 - a.f1 from by omega]
 rw [wrap64_id (by omega) (by omega)]
 by_cases hn : Near a b
 ·rw [chk_pos hn];congr 1;have hn':=hn;unfold Near at hn';exact decide_eq_true hn'
 ·rw [chk_neg hn];congr 1;have hn':=hn;unfold Near at hn';exact decide_eq_false hn'
theorem near_spec (a b : S48) (ha : (0 ≤ a.f0 ∧ a.f0 ≤ 5) ∧ (0 ≤ a.f1 ∧ a.f1 ≤ 5)) (hb : (0 ≤ b.f0 ∧ b.f0 ≤ 5) ∧ (0 ≤ b.f1 ∧ b.f1 ≤ 5)) : spec_l16Near.f a.f0 a.f1 b.f0 b.f1 = some (chk (Near a b) true false):=by
 have c1:=mx_cases (a.f0 - b.f0) (b.f0 - a.f0)
 have c2:=mx_cases (a.f1 - b.f1) (b.f1 - a.f1)
 unfold spec_l16Near.f
 simp (disch:=omega) only [wrap64_id,spec_most_eq,Option.bind_some]
 by_cases hn : Near a b
 ·rw [chk_pos hn];congr 1;have hn':=hn;unfold Near at hn';exact decide_eq_true hn'
 ·rw [chk_neg hn];congr 1;have hn':=hn;unfold Near at hn';exact decide_eq_false hn'
theorem check_all {P : Int → Prop} (r0 : Bool) (g : Nat → Int → Option Bool) (n : Int) (hend : Ev (fun k=>g k n) r0) (hstep : ∀ i,0 ≤ i → i < n → All P 0 i → (P i → Ev (fun k=>g k (i + 1)) (chk (All P (i + 1) n) r0 false)) → Ev (fun k=>g k i) (chk (All P i n) r0 false)) : ∀ (d : Nat) (i : Int),0 ≤ i → i + d = n → All P 0 i → Ev (fun k=>g k i) (chk (All P i n) r0 false):=by
 intro d
 induction d with
 | zero =>
  intro i h0 hd ha
  obtain rfl : i = n:=by omega
  rw [chk_pos (All.end_ P i)]
  exact hend
 | succ d ih =>
  intro i h0 hd ha
  refine hstep i h0 (by omega) ha (fun hp=>ih (i + 1) (by omega) (by omega) (fun j a b=>?_))
  by_cases e : j = i
  ·rw [e];exact hp
  ·exact ha j a (by omega)
/-- Step i of a path is well. -/
def stepOk (w h : Int) (bl p : List S48) (i : Int) : Prop:=Free w h bl (rd_T48 p i) ∧ (0 < i → Near (rd_T48 p (i - 1)) (rd_T48 p i))
def PathOk (w h : Int) (bl p : List S48) : Prop:=FloorOk w h bl ∧ (1 ≤ (p.length : Int) ∧ (p.length : Int) ≤ 25) ∧ All (stepOk w h bl p) 0 (p.length : Int)
theorem step_in {w h : Int} {bl p : List S48} (hw : 1 ≤ w ∧ w ≤ 6) (hh : 1 ≤ h ∧ h ≤ 6) {i : Int} (m : Free w h bl (rd_T48 p i)) : (0 ≤ (rd_T48 p i).f0 ∧ (rd_T48 p i).f0 ≤ 5) ∧ (0 ≤ (rd_T48 p i).f1 ∧ (rd_T48 p i).f1 ≤ 5):=by
 have:=m.1
 unfold In at this
 omega
theorem impl_path (w h : Int) (bl : List S48) (hb : (bl.length : Int) ≤ 1099511627776) (p : List S48) : Ev (fun k=>impl_IsValidPath.f k w h bl p) (chk (PathOk w h bl p) true false):=by
 have no : ¬ PathOk w h bl p → Ev (fun k=>impl_IsValidPath.j0 k p true w h bl) (chk (PathOk w h bl p) true false):=by
  intro hn
  rw [chk_neg hn]
  refine Ev.step (fun k=>by rw [impl_IsValidPath.j0]) ?_
  simp only [if_true];exact Ev.now _
 unfold impl_IsValidPath.f
 refine Ev.bind (impl_floor w h bl hb) ?_
 refine Ev.ite (fun hf=>?_) (fun hf=>no (fun m=>hf (chk_true.2 m.1)))
 have hf:=chk_true.1 hf
 have hw:=hf.1
 have hh:=hf.2.1
 simp only [impl_within_eq,Option.bind_some]
 by_cases hl : 1 ≤ (p.length : Int) ∧ (p.length : Int) ≤ 25
 ·rw [decide_eq_true hl]
  refine Ev.step (fun k=>by rw [impl_IsValidPath.j0]) ?_
  simp only [Bool.not_true,Bool.false_eq_true,if_false]
  rw [chk_congr (show PathOk w h bl p ↔ All (stepOk w h bl p) 0 (p.length : Int) from ⟨fun m=>m.2.2,fun m=>⟨hf,hl,m⟩⟩)]
  refine check_all true (fun k i=>impl_IsValidPath.l0 k p p (p.length : Int) i w h bl) (p.length : Int) ?_ ?_ p.length 0 (by omega) (by omega) (fun j a b=>by omega)
  ·refine Ev.step (fun k=>by rw [impl_IsValidPath.l0]) ?_
   simp only [Int.lt_irrefl,if_false]
   exact Ev.now _
  ·intro i h0 hlt ha nx
   refine Ev.step (fun k=>by rw [impl_IsValidPath.l0]) ?_
   simp (disch:=omega) only [if_pos]
   refine Ev.bind (impl_free w h bl (rd_T48 p i) hw hh hb) ?_
   refine Ev.ite (fun g=>?_) (fun g=>?_)
   ·have g:=chk_true.1 g
    rw [wrap64_id (x:=i + 1) (by omega) (by omega),chk_congr (All.step hlt)]
    refine Ev.ite (fun g1=>?_) (fun g1=>?_)
    ·simp (disch:=omega) only [if_pos,wrap64_id]
     rw [near_imp _ _ (step_in hw hh (ha (i - 1) (by omega) (by omega)).1) (step_in hw hh g)]
     simp only [Option.bind_some]
     refine Ev.ite (fun g2=>?_) (fun g2=>?_)
     ·have ok : stepOk w h bl p i:=⟨g,fun _=>chk_true.1 g2⟩
      rw [chk_congr (show stepOk w h bl p i ∧ All (stepOk w h bl p) (i + 1) (p.length : Int) ↔ All (stepOk w h bl p) (i + 1) (p.length : Int) from ⟨fun m=>m.2,fun m=>⟨ok,m⟩⟩)]
      exact nx ok
     ·rw [chk_neg (fun m=>g2 (chk_true.2 (m.1.2 (by omega))))];exact Ev.now _
    ·have ok : stepOk w h bl p i:=⟨g,fun h=>absurd h (by omega)⟩
     rw [chk_congr (show stepOk w h bl p i ∧ All (stepOk w h bl p) (i + 1) (p.length : Int) ↔ All (stepOk w h bl p) (i + 1) (p.length : Int) from ⟨fun m=>m.2,fun m=>⟨ok,m⟩⟩)]
     exact nx ok
   ·rw [chk_neg (fun m=>g (chk_true.2 (m i (by omega) hlt).1))];exact Ev.now _
 ·rw [decide_eq_false hl]
  exact no (fun m=>hl m.2.1)
theorem spec_path {w h : Int} {bl : List S48} (hf : FloorOk w h bl) (hb : (bl.length : Int) ≤ 1099511627776) (p : List S48) (hp : (p.length : Int) ≤ 1099511627776) : Ev (fun k=>spec_l16Path.f k w h bl p) (chk (PathOk w h bl p) true false):=by
 have hw:=hf.1
 have hh:=hf.2.1
 unfold spec_l16Path.f
 have main:=check_all (P:=stepOk w h bl p) (decide (1 ≤ (p.length : Int) ∧ (p.length : Int) ≤ 25)) (fun k i=>spec_l16Path.l0 k p i w h bl) (p.length : Int) (by
   refine Ev.step (fun k=>by rw [spec_l16Path.l0]) ?_
   simp only [Int.lt_irrefl,if_false,spec_l1In_eq,Option.bind_some]
   exact Ev.now _) (by
   intro i h0 hlt ha nx
   refine Ev.step (fun k=>by rw [spec_l16Path.l0]) ?_
   simp (disch:=omega) only [if_pos]
   refine Ev.bind (spec_free w h bl (rd_T48 p i) hw hh hb) ?_
   refine Ev.ite (fun g=>?_) (fun g=>?_)
   ·have g:=chk_true.1 g
    rw [wrap64_id (x:=i + 1) (by omega) (by omega),chk_congr (All.step hlt)]
    refine Ev.ite (fun g1=>?_) (fun g1=>?_)
    ·simp (disch:=omega) only [if_pos,wrap64_id]
     rw [near_spec _ _ (step_in hw hh (ha (i - 1) (by omega) (by omega)).1) (step_in hw hh g)]
     simp only [Option.bind_some]
     refine Ev.ite (fun g2=>?_) (fun g2=>?_)
     ·have ok : stepOk w h bl p i:=⟨g,fun _=>chk_true.1 g2⟩
      rw [chk_congr (show stepOk w h bl p i ∧ All (stepOk w h bl p) (i + 1) (p.length : Int) ↔ All (stepOk w h bl p) (i + 1) (p.length : Int) from ⟨fun m=>m.2,fun m=>⟨ok,m⟩⟩)]
      exact nx ok
     ·rw [chk_neg (fun m=>g2 (chk_true.2 (m.1.2 (by omega))))];exact Ev.now _
    ·have ok : stepOk w h bl p i:=⟨g,fun h=>absurd h (by omega)⟩
     rw [chk_congr (show stepOk w h bl p i ∧ All (stepOk w h bl p) (i + 1) (p.length : Int) ↔ All (stepOk w h bl p) (i + 1) (p.length : Int) from ⟨fun m=>m.2,fun m=>⟨ok,m⟩⟩)]
     exact nx ok
   ·rw [chk_neg (fun m=>g (chk_true.2 (m i (by omega) hlt).1))];exact Ev.now _) p.length 0 (by omega) (by omega) (fun j a b=>by omega)
 refine Ev.eq main ?_
 by_cases hal : All (stepOk w h bl p) 0 (p.length : Int)
 ·rw [chk_pos hal]
  by_cases hl : 1 ≤ (p.length : Int) ∧ (p.length : Int) ≤ 25
  ·rw [decide_eq_true hl,chk_pos (show PathOk w h bl p from ⟨hf,hl,hal⟩)]
  ·rw [decide_eq_false hl,chk_neg (fun m : PathOk w h bl p=>hl m.2.1)]
 ·rw [chk_neg hal,chk_neg (fun m : PathOk w h bl p=>hal m.2.2)]
end Go.Proofs.Ytbpccdbkaiigcaa.G

/- Maps from cells to whole numbers and to bools, told as functions. -/
namespace Go.Proofs.Ytbpccdbkaiigcaa.G
open Go.RowKit Go.Maps Go.Proofs.YtbpccdbkaiigcaaW.PrintWords Go.Proofs.YtbpccdbkaiigcaaW.PrintLast
set_option linter.unusedVariables false
set_option linter.unusedSimpArgs false
theorem laidOutP : laidOutB Try.prog = true:=by kernel_rfl
theorem keyed48 : Keyed Try.prog 48:=Keyed.of_law (deep_law_laid laidOutP (m:=2) (by omega) (of_decide_eq_true (by kernel_rfl)) (by kernel_rfl) (by rw [Try.underlying48]))
def kl (c : S48) : Lit := .string (keyBytes [.int .i64 c.f0,.int .i64 c.f1])
def W64 (c : S48) : Prop:=(Lit.int .i64 c.f0).wf = true ∧ (Lit.int .i64 c.f1).wf = true
def cv (c : S48) : Value := .agg #[.int .i64 c.f0,.int .i64 c.f1]
theorem cells48 : Try.prog.cellsOf 48 = 2:=by kernel_rfl
theorem cells3 : Try.prog.cellsOf 3 = 1:=by kernel_rfl
theorem keyT48 : Try.prog.keyType 48 = true:=by kernel_rfl
theorem formed48 {a b : Value} : (Value.agg #[a,b]).formed Try.prog 48 = true:=by simp [Value.formed,Try.underlying48,cells48]
theorem sizes48 : ∃ n,Try.prog.types.size = n + 1:=⟨Try.prog.types.size - 1,by kernel_rfl⟩
theorem lits48 {c : S48} (h : W64 c) (n : Nat) : Try.prog.keyLits (n + 2) 48 [.int .i64 c.f0,.int .i64 c.f1] = some [.int .i64 c.f0,.int .i64 c.f1]:=by
 simp [Program.keyLits,Try.underlying48,Try.underlying3,cells48,cells3,h.1,h.2]
theorem keyOf_struct {P : Program} {k : TypeId} {v : Value} {fs : Array Field} (hu : P.underlying k = some (.struct fs)) (hk : P.keyType k = true) (hf : v.formed P k = true) (cs : List Value) (hc : v.cells.toList = cs) (n : Nat) (hn : P.types.size = n + 1) (ls : List Lit) (hl : P.keyLits (n + 2) k cs = some ls) : keyOf P k v = some (.string (keyBytes ls)):=by
 unfold keyOf
 rw [hu]
 simp only [hk,hf,Bool.and_self,if_true]
 rw [hn,hc,hl]
 rfl
theorem key48 {c : S48} (h : W64 c) : keyOf Try.prog 48 (cv c) = some (kl c):=by
 obtain ⟨n,hn⟩:=sizes48
 exact keyOf_struct Try.underlying48 keyT48 formed48 _ rfl n hn _ (lits48 h n)
set_option maxRecDepth 20000 in
theorem kl_inj {c d : S48} (hc : W64 c) (hd : W64 d) (h : kl c = kl d) : c = d:=by
 have h1:=key48 hc
 rw [h] at h1
 have this : cv c = cv d:=Keyed.inj keyed48 h1 (key48 hd)
 have h2 : (cv c).cells.toList = (cv d).cells.toList:=by rw [this]
 have h3 : [Value.int .i64 c.f0,Value.int .i64 c.f1] = [Value.int .i64 d.f0,Value.int .i64 d.f1]:=h2
 injection h3 with e1 e2
 injection e2 with e2 _
 injection e1 with _ e1
 injection e2 with _ e2
 cases c
 cases d
 subst e1
 subst e2
 rfl
theorem isKey_kl {c : S48} (h : W64 c) : WideAt.IsKeyLit (kl c):=keyed48.key (key48 h)
abbrev Mp:=S48 → Option Int
def upd (m : Mp) (c : S48) (v : Int) : Mp:=fun d=>if d.f0 = c.f0 ∧ d.f1 = c.f1 then some v else m d
theorem zero4 (w : World) : (zeroValue 4).run Try.prog w = .ok (.bool false) w:=by kernel_rfl
/-- Block b is a map of at most n cells' numbers: m. -/
def MapI (w : World) (b n : Nat) (m : Mp) : Prop := ∃ D : DataW Unit,w.ownsMap Try.prog 48 (plainElem Try.prog 3) b n D ∧ ∀ c,W64 c → Maps.has D (kl c) = (m c).isSome ∧ D.atKey (kl c) (.lit (.int .i64 0)) = .lit (.int .i64 ((m c).getD 0))
theorem MapI.lt {w : World} {b n : Nat} {m : Mp} (h : MapI w b n m) : b < w.heap.size:=by obtain ⟨D,h,_⟩:=h;exact h.lt
theorem MapI.step {w w1 : World} {b n : Nat} {m : Mp} (h : MapI w b n m) (hm : w1.heap[b]? = w.heap[b]?) : MapI w1 b n m:=by
 obtain ⟨D,⟨es,clock,hb,r⟩,h⟩:=h
 exact ⟨D,⟨es,clock,hm.trans hb,r⟩,h⟩
theorem MapI.below {w w1 : World} {b n : Nat} {m : Mp} (h : MapI w b n m) (hb : Below w.heap.size w w1) : MapI w1 b n m:=h.step (hb.block b h.lt)
theorem MapI.grown {w w1 : World} {b n : Nat} {m : Mp} {row : Option Nat} (h : MapI w b n m) (hg : w.grownBy w1 row) (hne : some b ≠ row) : MapI w1 b n m:=h.step (hg.block b h.lt hne)
theorem MapI.cells {w : World} {b n : Nat} {m : Mp} (h : MapI w b n m) {g : Nat} {cs : Array Value} {t : TypeId} {p : Nat × Nat} (hg : w.heap[g]? = some (.cells cs t p)) : b ≠ g:=by
 rintro rfl
 obtain ⟨D,⟨es,clock,hb,r⟩,h⟩:=h
 rw [hg] at hb
 cases hb
section
variable {ops : Array Oper} {rest : List Oper} {o : Oper} {a : Act} {Q : Exit → Act → World → Prop} {w : World} {b n : Nat} {m : Mp} {c : S48}
end
end Go.Proofs.Ytbpccdbkaiigcaa.G

/- The search by breadth, as a pure function, and what the walks hold of the world while they search. -/
namespace Go.Proofs.Ytbpccdbkaiigcaa.G
open Go.RowKit Go.Proofs.YtbpccdbkaiigcaaW.PrintWords Go.Proofs.YtbpccdbkaiigcaaW.PrintLast Go.Proofs.YtbpccdbkaiigcaaW.PrintMore
set_option linter.unusedVariables false
set_option linter.unusedSimpArgs false
/-- The neighbours of a cell, one behind another: what is new is noted and stands in line. -/
def stepIn (x : Int) : List S48 → Mp → List S48 → Mp × List S48
 | [],m,q=>(m,q)
 | d :: ds,m,q=>match m d with
  | some _=>stepIn x ds m q
  | none=>stepIn x ds (upd m d x) (q ++ [d])
def bfs (nb : S48 → List S48) : Nat → Mp → List S48 → Option Mp
 | 0,_,_=>none
 | _ + 1,m,[]=>some m
 | k + 1,m,c :: q=>match m c with
  | none=>none
  | some v=>if q.length < 1000 ∧ 0 ≤ v ∧ v < 1000 then bfs nb k (stepIn (v + 1) (nb c) m q).1 (stepIn (v + 1) (nb c) m q).2 else none
theorem drop48 (ds : List S48) (x : Int) (h0 : 0 ≤ x) (h1 : x < (ds.length : Int)) : ds.drop x.toNat = rd_T48 ds x :: ds.drop (x + 1).toNat:=by
 unfold rd_T48
 rw [List.getD_eq_getElem?_getD,List.getElem?_eq_getElem (by omega),show (x + 1).toNat = x.toNat + 1 from by omega]
 exact List.drop_eq_getElem_cons (by omega)
theorem mem48 (ds : List S48) (x : Int) (h0 : 0 ≤ x) (h1 : x < (ds.length : Int)) : rd_T48 ds x ∈ ds:=by
 unfold rd_T48
 rw [List.getD_eq_getElem?_getD,List.getElem?_eq_getElem (by omega)]
 exact List.getElem_mem _
/-- What the search's walk holds of the world. -/
structure SF (w0 w : World) (fc : Array Value) (g2 b n : Nat) (m : Mp) (v6 : Value) (l : List S48) (vn : Value) (ds : List S48) : Prop where
 fl : w.heap[g2]? = some (.cells fc 29 (0,0))
 mp : MapI w b n m
 mb : w0.heap.size ≤ b
 gb : w0.heap.size ≤ g2
 ln : Kd.Q k48 48 w w0.heap.size (fun k=>k ≠ b ∧ k ≠ g2) v6 l
 nb : Kd.R k48 48 w w0.heap.size (fun k=>(k ≠ b ∧ k ≠ g2) ∧ some k ≠ v6.ownBlock) vn ds
 bl : Below w0.heap.size w0 w
theorem SF.below {w0 w w1 : World} {fc : Array Value} {g2 b n : Nat} {m : Mp} {v6 vn : Value} {l ds : List S48} (h : SF w0 w fc g2 b n m v6 l vn ds) (hb : Below w.heap.size w w1) : SF w0 w1 fc g2 b n m v6 l vn ds :=
 ⟨blk_below h.fl hb,h.mp.below hb,h.mb,h.gb,Kd.Q_below h.ln hb,Kd.R_below h.nb hb,below_step h.bl hb⟩
theorem SF.put {w0 w w1 : World} {fc : Array Value} {g2 b n n' : Nat} {m m' : Mp} {v6 vn : Value} {l ds : List S48} (h : SF w0 w fc g2 b n m v6 l vn ds) (hm : MapI w1 b n' m') (hg : w.grownBy w1 (some b)) : SF w0 w1 fc g2 b n' m' v6 l vn ds :=
 ⟨(hg.block g2 (blk_lt h.fl) (fun e=>h.mp.cells h.fl (Option.some.inj e).symm)).trans h.fl,hm,h.mb,h.gb,Kd.Q_grown h.ln hg (fun k hk e=>hk.1 (Option.some.inj e)),Kd.R_grown h.nb hg (fun k hk e=>hk.1.1 (Option.some.inj e)),h.bl.grown hg h.bl.size (fun k hk=>by cases hk;exact h.mb)⟩
theorem SF.app {w0 w w1 : World} {fc : Array Value} {g2 b n : Nat} {m : Mp} {v6 v7 vn : Value} {l l' ds : List S48} (h : SF w0 w fc g2 b n m v6 l vn ds) (hq : Kd.Q k48 48 w1 w0.heap.size (fun k=>k ≠ b ∧ k ≠ g2) v7 l') (hb : Below w0.heap.size w0 w1) (hg : w.grownBy w1 v6.ownBlock) (hat : v7.ownBlock = v6.ownBlock ∨ ∃ b,v7.ownBlock = some b ∧ w.heap.size ≤ b) : SF w0 w1 fc g2 b n m v7 l' vn ds :=
 ⟨(hg.block g2 (blk_lt h.fl) (Kd.Q_ne h.ln h.fl (by decide))).trans h.fl,h.mp.grown hg (Kd.Q_away h.ln (fun k hk=>hk.1)),h.mb,h.gb,hq,Kd.R_after h.nb hg hat,hb⟩
/-- The neighbours have come: their list is a new one. -/
theorem SF.near {w0 w w1 : World} {fc : Array Value} {g2 b n : Nat} {m : Mp} {v6 vn vn' : Value} {l ds ds' : List S48} (h : SF w0 w fc g2 b n m v6 l vn ds) (hb : Below w.heap.size w w1) (hr : Kd.R k48 48 w1 w.heap.size (fun _=>True) vn' ds') : SF w0 w1 fc g2 b n m v6 l vn' ds' :=
 have h':=h.below hb
 ⟨h'.fl,h'.mp,h.mb,h.gb,h'.ln,Kd.R_lower (Kd.R_mono (Kd.R_bound hr) (fun k hk=>⟨⟨fun e=>by have:=h.mp.lt;have:=hk.2.1;omega,fun e=>by have:=blk_lt h.fl;have:=hk.2.1;omega⟩,fun e=>by have:=Kd.Q_lt h.ln k e.symm;have:=hk.2.1;omega⟩)) h.bl.size,h'.bl⟩
theorem SF.next {w0 w : World} {fc : Array Value} {g2 b n : Nat} {m : Mp} {A : Option Addr} {nn c : Nat} {vn : Value} {x : S48} {l ds : List S48} (h : SF w0 w fc g2 b n m (.slice A nn c) (x :: l) vn ds) : SF w0 w fc g2 b n m (.slice (if c = 1 then A else A.map (·.add (1 * 2))) (nn - 1) (c - 1)) l (.slice none 0 0) [] :=
 ⟨h.fl,h.mp,h.mb,h.gb,Kd.Q_drop (k:=1) h.ln (by simp),Kd.R_nil _ _ _ _ _,h.bl⟩
end Go.Proofs.Ytbpccdbkaiigcaa.G

-- Written by wip/tools/gen.py out of the translation (the kit's printer, one namespace a seat). Lean checks it.
namespace Go.Proofs.Ytbpccdbkaiigcaa.G
open Go.RowKit Go.Proofs.YtbpccdbkaiigcaaW.PrintWords Go.Proofs.YtbpccdbkaiigcaaW.PrintLast Go.Proofs.YtbpccdbkaiigcaaW.PrintMore
attribute [local go_sem] max2_int min2_int max_two min_two max_three min_three max_four min_four   -- for this text's walks alone
set_option linter.unusedVariables false
set_option linter.unusedSimpArgs false

/-! ### impl_around: function 70 -/
def impl_around.l0:Nat → List (S48) → List (S48) → Int → Int → Int → Int → List (S48) → Int → Int → Option ((List (S48)))
 | 0,_,_,_,_,_,_,_,_,_=>none
 | k + 1,x5,x15,x16,x17,x441000,x441001,x441002,x442000,x442001=>if x17 < x16 then (if 0 ≤ x17 then (if x17 < (x15.length:Int) then ((impl_isFree.f k x441000 x441001 x441002 (wrap64 (x442000 + ((rd_T48 x15 x17).f0))) (wrap64 (x442001 + ((rd_T48 x15 x17).f1)))).bind fun t451=>(if t451 = true then (if x5.length < 8796093022208 then (impl_around.l0 k (x5 ++ [(⟨wrap64 (x442000 + ((rd_T48 x15 x17).f0)),wrap64 (x442001 + ((rd_T48 x15 x17).f1))⟩ : S48)]) x15 x16 (wrap64 (x17 + 1)) x441000 x441001 x441002 x442000 x442001) else (none)) else (impl_around.l0 k x5 x15 x16 (wrap64 (x17 + 1)) x441000 x441001 x441002 x442000 x442001))) else (none)) else (none)) else (some x5)
def impl_around.f (k:Nat) (a0_0:Int) (a0_1:Int) (l0_2:List (S48)) (a1_0:Int) (a1_1:Int):Option ((List (S48))):=(some (([(⟨0,(-1)⟩ : S48),(⟨(-1),0⟩ : S48),(⟨0,0⟩ : S48),(⟨1,0⟩ : S48),(⟨0,1⟩ : S48)]:List (S48)):List (S48))).bind fun y445=>(impl_around.l0 k (([]:List (S48))) y445 (y445.length:Int) 0 a0_0 a0_1 l0_2 a1_0 a1_1)
set_option maxHeartbeats 8000000 in
set_option maxRecDepth 100000 in
theorem impl_around.calls (k:Nat) (a0_0:Int) (a0_1:Int) (A0_2:Option Addr) (c0_2:Nat) (l0_2:List (S48)) (a1_0:Int) (a1_1:Int) (r:List (S48)) (w:World) (hr0_2:Kd.C k48 w A0_2 l0_2.length l0_2) (hc0_2:l0_2.length ≤ c0_2) (h:impl_around.f k a0_0 a0_1 l0_2 a1_0 a1_1 = some r) :
  Calls Try.prog 70 #[.agg #[.int .i64 a0_0,.int .i64 a0_1,.slice A0_2 l0_2.length c0_2],.agg #[.int .i64 a1_0,.int .i64 a1_1]] w fun e w' => ∃ v0_:Value,e = .returned (v0_) ∧ Kd.R k48 48 w' w.heap.size (fun _=>True) v0_ r ∧ Below w.heap.size w w':=by
 have hu29:=Try.underlying29;have hu48:=Try.underlying48;have HR0_2:=zM hr0_2;have HC0_2:=zM hc0_2;clear hr0_2 hc0_2;have HB:=zM (Below.refl w.heap.size w);have H:((some (([(⟨0,(-1)⟩ : S48),(⟨(-1),0⟩ : S48),(⟨0,0⟩ : S48),(⟨1,0⟩ : S48),(⟨0,1⟩ : S48)]:List (S48)):List (S48))).bind fun y445=>(impl_around.l0 k (([]:List (S48))) y445 (y445.length:Int) 0 a0_0 a0_1 l0_2 a1_0 a1_1)) = some r:=h
 clear h;obtain ⟨y442,hy442⟩ : ∃ y_:List (S48),y_ = (([]:List (S48))):=⟨_,rfl⟩
 replace H:((some (([(⟨0,(-1)⟩ : S48),(⟨(-1),0⟩ : S48),(⟨0,0⟩ : S48),(⟨1,0⟩ : S48),(⟨0,1⟩ : S48)]:List (S48)):List (S48))).bind fun y445=>(impl_around.l0 k y442 y445 (y445.length:Int) 0 a0_0 a0_1 l0_2 a1_0 a1_1)) = some r:=by first|(rw [hy442];with_reducible exact H)|(have H2_:=(Option.bind_some _ _).symm.trans H;rw [hy442];with_reducible exact H2_)|(have H2_:=(Option.bind_some _ _).symm.trans H;with_reducible exact H2_)|with_reducible exact H|(rw [hy442];exact H)|exact H
 have Ny442:=zM hy442;clear hy442;obtain ⟨y445,hy445⟩ : ∃ y_:List (S48),y_ = (([(⟨0,(-1)⟩ : S48),(⟨(-1),0⟩ : S48),(⟨0,0⟩ : S48),(⟨1,0⟩ : S48),(⟨0,1⟩ : S48)]:List (S48))):=⟨_,rfl⟩
 replace H:(impl_around.l0 k y442 y445 (y445.length:Int) 0 a0_0 a0_1 l0_2 a1_0 a1_1) = some r:=by first|(rw [hy445];with_reducible exact H)|(have H2_:=(Option.bind_some _ _).symm.trans H;rw [hy445];with_reducible exact H2_)|(have H2_:=(Option.bind_some _ _).symm.trans H;with_reducible exact H2_)|with_reducible exact H|(rw [hy445];exact H)|exact H
 have Ny445:=zM hy445;clear hy445;have H':=zM H;clear H;go_enter Try.func70,Try.ntmps70
 go_wp2_with (first|((with_reducible refine gate_dst (N:=2) rfl ?_);refine box_event ?hg (N:=2) ?hd (cs := #[.int .i64 a0_0,.int .i64 a0_1,.slice A0_2 l0_2.length c0_2]) (t:=29) ?hr ?_;(case hd=>rfl);(case hg=>rfl);(case hr=>first|(go_simp;done)|(go_simp;rfl));intro gb440 hg w3 hbox hb;have n0_:=zM (zQ (by repeat (first|(with_reducible first|exact HB.out|apply zD|apply zE|apply zF)|exact HB.out)) hb);have n1_:=zM (hbox);have n2_:=zM ((by rw [hg];exact (zR (by repeat (first|(with_reducible first|exact HB.out|apply zD|apply zE|apply zF)|exact HB.out))):w.heap.size ≤ gb440));have n3_:=zM ((by rw [hg];exact (zR (by repeat (first|(with_reducible first|exact HB.out|apply zD|apply zE|apply zF)|exact HB.out))):w.heap.size ≤ gb440));clear HB;have HB:=n0_;have BK440:=n1_;have GW440:=n2_;have GE440:=n3_;clear n0_ n1_ n2_ n3_;clear hb hbox hg)|((with_reducible refine gate_dst (N:=3) rfl ?_);refine box_event ?hg (N:=3) ?hd (cs := #[.int .i64 a1_0,.int .i64 a1_1]) (t:=48) ?hr ?_;(case hd=>rfl);(case hg=>rfl);(case hr=>first|(go_simp;done)|(go_simp;rfl));intro gb441 hg w4 hbox hb;have n0_:=zM (blk_below (g:=gb440) (o := .cells #[.int .i64 a0_0,.int .i64 a0_1,.slice A0_2 l0_2.length c0_2] 29 (0,0)) (by (with_reducible repeat (first|refine zJ ?_ _|refine zK ?_|refine zL ?_ _));exact BK440.out) hb);have n1_:=zM (zQ (by repeat (first|(with_reducible first|exact HB.out|apply zD|apply zE|apply zF|refine below_set ?_ GE440.out)|exact HB.out)) hb);have n2_:=zM (hbox);have n3_:=zM ((by rw [hg];exact (zR (by repeat (first|(with_reducible first|exact HB.out|apply zD|apply zE|apply zF|refine below_set ?_ GE440.out)|exact HB.out))):w.heap.size ≤ gb441));have n4_:=zM ((by rw [hg];exact (zR (by repeat (first|(with_reducible first|exact HB.out|apply zD|apply zE|apply zF|refine below_set ?_ GE440.out)|exact HB.out))):w.heap.size ≤ gb441));have n5_:=zM ((by rw [hg];exact Nat.ne_of_lt (blk_lt (g:=gb440) (o := .cells #[.int .i64 a0_0,.int .i64 a0_1,.slice A0_2 l0_2.length c0_2] 29 (0,0)) (by (with_reducible repeat (first|refine zJ ?_ _|refine zK ?_|refine zL ?_ _));exact BK440.out)):gb440 ≠ gb441));have n6_:=zM ((by rw [hg];exact Nat.ne_of_gt (blk_lt (g:=gb440) (o := .cells #[.int .i64 a0_0,.int .i64 a0_1,.slice A0_2 l0_2.length c0_2] 29 (0,0)) (by (with_reducible repeat (first|refine zJ ?_ _|refine zK ?_|refine zL ?_ _));exact BK440.out)):gb441 ≠ gb440));clear BK440;clear HB;have BK440:=n0_;have HB:=n1_;have BK441:=n2_;have GW441:=n3_;have GE441:=n4_;have NB440_441:=n5_;have NB441_440:=n6_;clear n0_ n1_ n2_ n3_ n4_ n5_ n6_;clear hb hbox hg)|((with_reducible refine gate_dst (N:=9) rfl ?_);refine Kd.R_lit k48 _ 48 ?hg (N:=9) ?hd (xs:=([]:List (S48))) (inner:=[]) (ok:=fun _=>True) (okp:=fun _=>True) ?hr ?hp (fun _ hk=>hk) trivial (Below.refl _ _) (Nat.le_refl _) (by simp) ?_;(case hd=>rfl);(case hg=>rfl);(case hr=>first|(go_simp;done)|(go_simp;rfl));(case hp=>exact (Reps.none _ _));intro v443 w5 ho6 hb hg_ hnew_;clear hg_ hnew_;(first|rw [← Ny442.out] at ho6|(simp only [Int.reduceToNat] at ho6;rw [← Ny442.out] at ho6));have n0_:=zM (Kd.R_lower (Kd.R_newB ho6 (g:=gb441) (o := .cells #[.int .i64 a1_0,.int .i64 a1_1] 48 (0,0)) (by (with_reducible repeat (first|refine zJ ?_ _|refine zK ?_|refine zL ?_ _));exact BK441.out)) (zR (by repeat (first|(with_reducible first|exact HB.out|apply zD|apply zE|apply zF|refine below_set ?_ GE440.out|refine below_set ?_ GE441.out)|exact HB.out))));have n1_:=zM (blk_below (g:=gb440) (o := .cells #[.int .i64 a0_0,.int .i64 a0_1,.slice A0_2 l0_2.length c0_2] 29 (0,0)) (by (with_reducible repeat (first|refine zJ ?_ _|refine zK ?_|refine zL ?_ _));exact BK440.out) hb);have n2_:=zM (blk_below (g:=gb441) (o := .cells #[.int .i64 a1_0,.int .i64 a1_1] 48 (0,0)) (by (with_reducible repeat (first|refine zJ ?_ _|refine zK ?_|refine zL ?_ _));exact BK441.out) hb);have n3_:=zM (zQ (by repeat (first|(with_reducible first|exact HB.out|apply zD|apply zE|apply zF|refine below_set ?_ GE440.out|refine below_set ?_ GE441.out)|exact HB.out)) hb);clear BK440;clear BK441;clear HB;have HO444:=n0_;have BK440:=n1_;have BK441:=n2_;have HB:=n3_;clear n0_ n1_ n2_ n3_;clear hb ho6)|((with_reducible refine gate_dst (N:=15) rfl ?_);refine Kd.R_lit k48 _ 48 ?hg (N:=15) ?hd (xs:=([(⟨0,(-1)⟩ : S48),(⟨(-1),0⟩ : S48),(⟨0,0⟩ : S48),(⟨1,0⟩ : S48),(⟨0,1⟩ : S48)]:List (S48))) (inner:=[.int .i64 0,.int .i64 (-1),.int .i64 (-1),.int .i64 0,.int .i64 0,.int .i64 0,.int .i64 1,.int .i64 0,.int .i64 0,.int .i64 1]) (ok:=fun _=>True) (okp:=fun _=>True) ?hr ?hp (fun _ hk=>hk) trivial (Below.refl _ _) (Nat.le_refl _) (by simp) ?_;(case hd=>rfl);(case hg=>rfl);(case hr=>first|(go_simp;done)|(go_simp;rfl));(case hp=>exact (Reps.c2 (show Kd.M k48 _ _ _ (⟨0,(-1)⟩ : S48) [.int .i64 0,.int .i64 (-1)] from (k48_mkM _ _ _ (⟨0,(-1)⟩ : S48) )) (Reps.c2 (show Kd.M k48 _ _ _ (⟨(-1),0⟩ : S48) [.int .i64 (-1),.int .i64 0] from (k48_mkM _ _ _ (⟨(-1),0⟩ : S48) )) (Reps.c2 (show Kd.M k48 _ _ _ (⟨0,0⟩ : S48) [.int .i64 0,.int .i64 0] from (k48_mkM _ _ _ (⟨0,0⟩ : S48) )) (Reps.c2 (show Kd.M k48 _ _ _ (⟨1,0⟩ : S48) [.int .i64 1,.int .i64 0] from (k48_mkM _ _ _ (⟨1,0⟩ : S48) )) (Reps.c2 (show Kd.M k48 _ _ _ (⟨0,1⟩ : S48) [.int .i64 0,.int .i64 1] from (k48_mkM _ _ _ (⟨0,1⟩ : S48) )) (Reps.none _ _)))))));intro v446 w7 ho8 hb hg_ hnew_;clear hg_ hnew_;(first|rw [← Ny445.out] at ho8|(simp only [Int.reduceToNat] at ho8;rw [← Ny445.out] at ho8));have n0_:=zM (Kd.R_elder' (by (with_reducible repeat (first|apply zA|apply zB|apply zC));exact HO444.out) (Kd.R_base ho8) hb);have n1_:=zM (Kd.R_lower (Kd.R_newB (Kd.R_new' ho8 (Kd.R_lt (by (with_reducible repeat (first|apply zA|apply zB|apply zC));exact HO444.out))) (g:=gb441) (o := .cells #[.int .i64 a1_0,.int .i64 a1_1] 48 (0,0)) (by (with_reducible repeat (first|refine zJ ?_ _|refine zK ?_|refine zL ?_ _));exact BK441.out)) (zR (by repeat (first|(with_reducible first|exact HB.out|apply zD|apply zE|apply zF|refine below_set ?_ GE440.out|refine below_set ?_ GE441.out)|exact HB.out))));have n2_:=zM (blk_below (g:=gb440) (o := .cells #[.int .i64 a0_0,.int .i64 a0_1,.slice A0_2 l0_2.length c0_2] 29 (0,0)) (by (with_reducible repeat (first|refine zJ ?_ _|refine zK ?_|refine zL ?_ _));exact BK440.out) hb);have n3_:=zM (blk_below (g:=gb441) (o := .cells #[.int .i64 a1_0,.int .i64 a1_1] 48 (0,0)) (by (with_reducible repeat (first|refine zJ ?_ _|refine zK ?_|refine zL ?_ _));exact BK441.out) hb);have n4_:=zM (zQ (by repeat (first|(with_reducible first|exact HB.out|apply zD|apply zE|apply zF|refine below_set ?_ GE440.out|refine below_set ?_ GE441.out)|exact HB.out)) hb);clear HO444;clear BK440;clear BK441;clear HB;have HO444:=n0_;have HO447:=n1_;have BK440:=n2_;have BK441:=n3_;have HB:=n4_;clear n0_ n1_ n2_ n3_ n4_;clear hb ho8;obtain ⟨Ao9,co9,eo9⟩:=Kd.R_slice HO447.out;subst eo9))
 go_loopg [5,17] k (fun kq v5 v17 w' => ∃ (x5_1:List (S48)) (x17_1:Int),v17 = .int .i64 x17_1 ∧ Aside0 (impl_around.l0 kq x5_1 y445 (y445.length:Int) x17_1 a0_0 a0_1 l0_2 a1_0 a1_1 = some r) ∧ Aside0 (kq ≤ k) ∧ Aside0 (Kd.R k48 48 w' w.heap.size (fun k_=>some k_ ≠ ((.slice Ao9 y445.length co9):Value).ownBlock ∧ k_ ≠ gb441) v5 x5_1) ∧ Aside0 (Kd.R k48 48 w' w.heap.size (fun k_=>some k_ ≠ (v5:Value).ownBlock ∧ k_ ≠ gb441) (.slice Ao9 y445.length co9) y445) ∧ Aside0 (w'.heap[gb440]? = some (.cells #[.int .i64 a0_0,.int .i64 a0_1,(.slice A0_2 l0_2.length c0_2)] 29 (0,0))) ∧ Aside0 (w'.heap[gb441]? = some (.cells #[.int .i64 a1_0,.int .i64 a1_1] 48 (0,0))) ∧ Aside0 (Below w.heap.size w w'))
 case atStart=>exact ⟨(y442),(0),(by first|rfl|(simp;done)|(simp [*];done)),H',⟨Nat.le_refl _⟩,⟨by (with_reducible repeat (first|apply zA|apply zB|apply zC));exact Kd.R_mono HO444.out (fun _ hk=>⟨hk.2,hk.1.2⟩)⟩,⟨by (with_reducible repeat (first|apply zA|apply zB|apply zC));exact Kd.R_mono HO447.out (fun _ hk=>⟨hk.1.2,hk.2⟩)⟩,⟨by (with_reducible repeat (first|refine zJ ?_ _|refine zK ?_|refine zL ?_ _));exact BK440.out⟩,⟨by (with_reducible repeat (first|refine zJ ?_ _|refine zK ?_|refine zL ?_ _));exact BK441.out⟩,⟨by repeat (first|(with_reducible first|exact HB.out|apply zD|apply zE|apply zF|refine below_set ?_ GE440.out|refine below_set ?_ GE441.out)|exact HB.out)⟩⟩
 case round =>
  clear H';(try clear c2);(try clear p2);(try clear c7);obtain ⟨x5_1,x17_1,rfl,HA,HK1,HO_5,HO_15,BK440,BK441,HB⟩:=hrel;cases gk with
  | zero=>exact absurd HA.out (by simp [impl_around.l0])
  | succ k1 =>
   have H:=HA.out;clear HA;simp only [impl_around.l0] at H
   by_cases c10:x17_1 < (y445.length:Int)
   ·rw [if_pos c10] at H
    have c10b0:decide (x17_1 < (y445.length:Int)) = true:=decide_eq_true c10
    clear c10;by_cases c11:0 ≤ x17_1
    ·rw [if_pos c11] at H
     have c11b0:decide (0 ≤ x17_1) = true:=decide_eq_true c11
     clear c11;by_cases c12:x17_1 < (y445.length:Int)
     ·rw [if_pos c12] at H
      have c12b0:decide (x17_1 < (y445.length:Int)) = true:=decide_eq_true c12
      clear c12;replace H:=Option.bind_eq_some_iff.mp H;obtain ⟨t451,A130,H⟩:=H;replace H:(if t451 = true then (if x5_1.length < 8796093022208 then (impl_around.l0 k1 (x5_1 ++ [(⟨wrap64 (a1_0 + ((rd_T48 y445 x17_1).f0)),wrap64 (a1_1 + ((rd_T48 y445 x17_1).f1))⟩ : S48)]) y445 (y445.length:Int) (wrap64 (x17_1 + 1)) a0_0 a0_1 l0_2 a1_0 a1_1) else (none)) else (impl_around.l0 k1 x5_1 y445 (y445.length:Int) (wrap64 (x17_1 + 1)) a0_0 a0_1 l0_2 a1_0 a1_1)) = some r:=H
      have A13:=zM A130;clear A130;by_cases c14:t451 = true
      ·subst c14
       have H1:(if x5_1.length < 8796093022208 then (impl_around.l0 k1 (x5_1 ++ [(⟨wrap64 (a1_0 + ((rd_T48 y445 x17_1).f0)),wrap64 (a1_1 + ((rd_T48 y445 x17_1).f1))⟩ : S48)]) y445 (y445.length:Int) (wrap64 (x17_1 + 1)) a0_0 a0_1 l0_2 a1_0 a1_1) else (none)) = some r:=by rw [if_pos rfl] at H;exact H
       clear H;have H:=H1;clear H1;by_cases c15:x5_1.length < 8796093022208
       ·rw [if_pos c15] at H
        have LMc15:=zM c15;clear c15;obtain ⟨y452,hy452⟩ : ∃ y_:List (S48),y_ = (x5_1 ++ [(⟨wrap64 (a1_0 + ((rd_T48 y445 x17_1).f0)),wrap64 (a1_1 + ((rd_T48 y445 x17_1).f1))⟩ : S48)]):=⟨_,rfl⟩
        replace H:(impl_around.l0 k1 y452 y445 (y445.length:Int) (wrap64 (x17_1 + 1)) a0_0 a0_1 l0_2 a1_0 a1_1) = some r:=by first|(rw [hy452];with_reducible exact H)|(have H2_:=(Option.bind_some _ _).symm.trans H;rw [hy452];with_reducible exact H2_)|(have H2_:=(Option.bind_some _ _).symm.trans H;with_reducible exact H2_)|with_reducible exact H|(rw [hy452];exact H)|exact H
        have Ny452:=zM hy452;clear hy452;have H':=zM H;clear H;have p448:0 ≤ (x17_1:Int):=of_decide_eq_true (by first|(with_reducible assumption)|assumption)
        have q448:x17_1 < (y445.length:Int):=of_decide_eq_true (by first|(with_reducible assumption)|assumption)
        obtain ⟨ad448,e448,hx448_0,hx448_1⟩:=at_T48 (zN HO_15.out).2.2 x17_1 p448 q448;cases e448
        replace p448:=eq_true p448;replace q448:=eq_true q448;go_wp2_with (first|((with_reducible refine gate_dst (N:=7) rfl ?_);refine box_event ?hg (N:=7) ?hd (cs := #[.int .i64 0,.int .i64 0]) (t:=48) ?hr ?_;(case hd=>rfl);(case hg=>rfl);(case hr=>first|(go_simp;done)|(go_simp;rfl));intro gb449 hg w16 hbox hb;have n0_:=zM (zP (Kd.R_elderB (by (with_reducible repeat (first|apply zA|apply zB|apply zC));exact HO_5.out) gb449 (Nat.le_of_eq hg.symm)) hb);have n1_:=zM (zP (Kd.R_elderB (by (with_reducible repeat (first|apply zA|apply zB|apply zC));exact HO_15.out) gb449 (Nat.le_of_eq hg.symm)) hb);have n2_:=zM (blk_below (g:=gb440) (o := .cells #[.int .i64 a0_0,.int .i64 a0_1,.slice A0_2 l0_2.length c0_2] 29 (0,0)) (by (with_reducible repeat (first|refine zJ ?_ _|refine zK ?_|refine zL ?_ _));exact BK440.out) hb);have n3_:=zM (blk_below (g:=gb441) (o := .cells #[.int .i64 a1_0,.int .i64 a1_1] 48 (0,0)) (by (with_reducible repeat (first|refine zJ ?_ _|refine zK ?_|refine zL ?_ _));exact BK441.out) hb);have n4_:=zM (zQ (by repeat (first|(with_reducible first|exact HB.out|apply zD|apply zE|apply zF|refine below_set ?_ GE440.out|refine below_set ?_ GE441.out)|exact HB.out)) hb);have n5_:=zM (hbox);have n6_:=zM ((by rw [hg];exact (zR (by repeat (first|(with_reducible first|exact HB.out|apply zD|apply zE|apply zF|refine below_set ?_ GE440.out|refine below_set ?_ GE441.out)|exact HB.out))):w.heap.size ≤ gb449));have n7_:=zM ((by rw [hg];exact (zR (by repeat (first|(with_reducible first|exact HB.out|apply zD|apply zE|apply zF|refine below_set ?_ GE440.out|refine below_set ?_ GE441.out)|exact HB.out))):w.heap.size ≤ gb449));have n8_:=zM ((by rw [hg];exact Nat.ne_of_lt (blk_lt (g:=gb440) (o := .cells #[.int .i64 a0_0,.int .i64 a0_1,.slice A0_2 l0_2.length c0_2] 29 (0,0)) (by (with_reducible repeat (first|refine zJ ?_ _|refine zK ?_|refine zL ?_ _));exact BK440.out)):gb440 ≠ gb449));have n9_:=zM ((by rw [hg];exact Nat.ne_of_gt (blk_lt (g:=gb440) (o := .cells #[.int .i64 a0_0,.int .i64 a0_1,.slice A0_2 l0_2.length c0_2] 29 (0,0)) (by (with_reducible repeat (first|refine zJ ?_ _|refine zK ?_|refine zL ?_ _));exact BK440.out)):gb449 ≠ gb440));have n10_:=zM ((by rw [hg];exact Nat.ne_of_lt (blk_lt (g:=gb441) (o := .cells #[.int .i64 a1_0,.int .i64 a1_1] 48 (0,0)) (by (with_reducible repeat (first|refine zJ ?_ _|refine zK ?_|refine zL ?_ _));exact BK441.out)):gb441 ≠ gb449));have n11_:=zM ((by rw [hg];exact Nat.ne_of_gt (blk_lt (g:=gb441) (o := .cells #[.int .i64 a1_0,.int .i64 a1_1] 48 (0,0)) (by (with_reducible repeat (first|refine zJ ?_ _|refine zK ?_|refine zL ?_ _));exact BK441.out)):gb449 ≠ gb441));clear HO_5;clear HO_15;clear BK440;clear BK441;clear HB;have HO_5:=n0_;have HO_15:=n1_;have BK440:=n2_;have BK441:=n3_;have HB:=n4_;have BK449:=n5_;have GW449:=n6_;have GE449:=n7_;have NB440_449:=n8_;have NB449_440:=n9_;have NB441_449:=n10_;have NB449_441:=n11_;clear n0_ n1_ n2_ n3_ n4_ n5_ n6_ n7_ n8_ n9_ n10_ n11_;clear hb hbox hg;have hnb17:=NB449_440.out;have hnc17:=NB440_449.out;have hnb18:=NB449_441.out;have hnc18:=NB441_449.out;have hcz19_0:w16.cell? ⟨gb449,0,none⟩ = some (.int .i64 0):=(blk_cell BK449.out 0).trans rfl;have hcz19_1:w16.cell? ⟨gb449,1,none⟩ = some (.int .i64 0):=(blk_cell BK449.out 1).trans rfl;have hfz19_0:=blk_frozen BK449.out 0;have hfz19_1:=blk_frozen BK449.out 1;have hnb20:=NB441_440.out;have hnc20:=NB440_441.out;have hcz21_0:w16.cell? ⟨gb441,0,none⟩ = some (.int .i64 a1_0):=(blk_cell BK441.out 0).trans rfl;have hcz21_1:w16.cell? ⟨gb441,1,none⟩ = some (.int .i64 a1_1):=(blk_cell BK441.out 1).trans rfl;have hfz21_0:=blk_frozen BK441.out 0;have hfz21_1:=blk_frozen BK441.out 1)|((with_reducible refine gate_dst (N:=8) rfl ?_);refine box_event ?hg (N:=8) ?hd (cs := #[.int .i64 0,.int .i64 0]) (t:=48) ?hr ?_;(case hd=>rfl);(case hg=>rfl);(case hr=>first|(go_simp;done)|(go_simp;rfl));intro gb450 hg w22 hbox hb;have n0_:=zM (zP (Kd.R_elderB (by (with_reducible repeat (first|apply zA|apply zB|apply zC));exact (Kd.R_mono (Kd.R_far (p:=⟨gb449,1,none⟩) (Kd.R_far (p:=⟨gb449,0,none⟩) (Kd.R_mono HO_5.out (fun k_ hk=>(⟨hk,hk.2⟩ : _ ∧ k_ ≠ gb449))) (fun _ hk=>hk.2) (.int .i64 ((rd_T48 y445 x17_1).f0))) (fun _ hk=>hk.2) (.int .i64 ((rd_T48 y445 x17_1).f1))) (fun _ h_=>h_.1))) gb450 (Nat.le_of_eq hg.symm)) hb);have n1_:=zM (zP (Kd.R_elderB (by (with_reducible repeat (first|apply zA|apply zB|apply zC));exact (Kd.R_mono (Kd.R_far (p:=⟨gb449,1,none⟩) (Kd.R_far (p:=⟨gb449,0,none⟩) (Kd.R_mono HO_15.out (fun k_ hk=>(⟨hk,hk.2⟩ : _ ∧ k_ ≠ gb449))) (fun _ hk=>hk.2) (.int .i64 ((rd_T48 y445 x17_1).f0))) (fun _ hk=>hk.2) (.int .i64 ((rd_T48 y445 x17_1).f1))) (fun _ h_=>h_.1))) gb450 (Nat.le_of_eq hg.symm)) hb);have n2_:=zM (blk_below (g:=gb440) (o := .cells #[.int .i64 a0_0,.int .i64 a0_1,.slice A0_2 l0_2.length c0_2] 29 (0,0)) (by (with_reducible repeat (first|refine zJ ?_ _|refine zK ?_|refine zL ?_ _));refine blk_far ?_ NB440_449.out _;(with_reducible repeat (first|refine zJ ?_ _|refine zK ?_|refine zL ?_ _));refine blk_far ?_ NB440_449.out _;(with_reducible repeat (first|refine zJ ?_ _|refine zK ?_|refine zL ?_ _));exact BK440.out) hb);have n3_:=zM (blk_below (g:=gb441) (o := .cells #[.int .i64 a1_0,.int .i64 a1_1] 48 (0,0)) (by (with_reducible repeat (first|refine zJ ?_ _|refine zK ?_|refine zL ?_ _));refine blk_far ?_ NB441_449.out _;(with_reducible repeat (first|refine zJ ?_ _|refine zK ?_|refine zL ?_ _));refine blk_far ?_ NB441_449.out _;(with_reducible repeat (first|refine zJ ?_ _|refine zK ?_|refine zL ?_ _));exact BK441.out) hb);have n4_:=zM (blk_below (g:=gb449) (o := .cells #[.int .i64 ((rd_T48 y445 x17_1).f0),.int .i64 ((rd_T48 y445 x17_1).f1)] 48 (0,0)) (by (with_reducible repeat (first|refine zJ ?_ _|refine zK ?_|refine zL ?_ _));refine blk_put (cs := #[.int .i64 ((rd_T48 y445 x17_1).f0),.int .i64 0]) ?_ 1 _ rfl;(with_reducible repeat (first|refine zJ ?_ _|refine zK ?_|refine zL ?_ _));refine blk_put (cs := #[.int .i64 0,.int .i64 0]) ?_ 0 _ rfl;(with_reducible repeat (first|refine zJ ?_ _|refine zK ?_|refine zL ?_ _));exact BK449.out) hb);have n5_:=zM (zQ (by repeat (first|(with_reducible first|exact HB.out|apply zD|apply zE|apply zF|refine below_set ?_ GE440.out|refine below_set ?_ GE441.out|refine below_set ?_ GE449.out)|exact HB.out)) hb);have n6_:=zM (hbox);have n7_:=zM ((by rw [hg];exact (zR (by repeat (first|(with_reducible first|exact HB.out|apply zD|apply zE|apply zF|refine below_set ?_ GE440.out|refine below_set ?_ GE441.out|refine below_set ?_ GE449.out)|exact HB.out))):w.heap.size ≤ gb450));have n8_:=zM ((by rw [hg];exact (zR (by repeat (first|(with_reducible first|exact HB.out|apply zD|apply zE|apply zF|refine below_set ?_ GE440.out|refine below_set ?_ GE441.out|refine below_set ?_ GE449.out)|exact HB.out))):w.heap.size ≤ gb450));have n9_:=zM ((by rw [hg];exact Nat.ne_of_lt (blk_lt (g:=gb440) (o := .cells #[.int .i64 a0_0,.int .i64 a0_1,.slice A0_2 l0_2.length c0_2] 29 (0,0)) (by (with_reducible repeat (first|refine zJ ?_ _|refine zK ?_|refine zL ?_ _));refine blk_far ?_ NB440_449.out _;(with_reducible repeat (first|refine zJ ?_ _|refine zK ?_|refine zL ?_ _));refine blk_far ?_ NB440_449.out _;(with_reducible repeat (first|refine zJ ?_ _|refine zK ?_|refine zL ?_ _));exact BK440.out)):gb440 ≠ gb450));have n10_:=zM ((by rw [hg];exact Nat.ne_of_gt (blk_lt (g:=gb440) (o := .cells #[.int .i64 a0_0,.int .i64 a0_1,.slice A0_2 l0_2.length c0_2] 29 (0,0)) (by (with_reducible repeat (first|refine zJ ?_ _|refine zK ?_|refine zL ?_ _));refine blk_far ?_ NB440_449.out _;(with_reducible repeat (first|refine zJ ?_ _|refine zK ?_|refine zL ?_ _));refine blk_far ?_ NB440_449.out _;(with_reducible repeat (first|refine zJ ?_ _|refine zK ?_|refine zL ?_ _));exact BK440.out)):gb450 ≠ gb440));have n11_:=zM ((by rw [hg];exact Nat.ne_of_lt (blk_lt (g:=gb441) (o := .cells #[.int .i64 a1_0,.int .i64 a1_1] 48 (0,0)) (by (with_reducible repeat (first|refine zJ ?_ _|refine zK ?_|refine zL ?_ _));refine blk_far ?_ NB441_449.out _;(with_reducible repeat (first|refine zJ ?_ _|refine zK ?_|refine zL ?_ _));refine blk_far ?_ NB441_449.out _;(with_reducible repeat (first|refine zJ ?_ _|refine zK ?_|refine zL ?_ _));exact BK441.out)):gb441 ≠ gb450));have n12_:=zM ((by rw [hg];exact Nat.ne_of_gt (blk_lt (g:=gb441) (o := .cells #[.int .i64 a1_0,.int .i64 a1_1] 48 (0,0)) (by (with_reducible repeat (first|refine zJ ?_ _|refine zK ?_|refine zL ?_ _));refine blk_far ?_ NB441_449.out _;(with_reducible repeat (first|refine zJ ?_ _|refine zK ?_|refine zL ?_ _));refine blk_far ?_ NB441_449.out _;(with_reducible repeat (first|refine zJ ?_ _|refine zK ?_|refine zL ?_ _));exact BK441.out)):gb450 ≠ gb441));have n13_:=zM ((by rw [hg];exact Nat.ne_of_lt (blk_lt (g:=gb449) (o := .cells #[.int .i64 ((rd_T48 y445 x17_1).f0),.int .i64 ((rd_T48 y445 x17_1).f1)] 48 (0,0)) (by (with_reducible repeat (first|refine zJ ?_ _|refine zK ?_|refine zL ?_ _));refine blk_put (cs := #[.int .i64 ((rd_T48 y445 x17_1).f0),.int .i64 0]) ?_ 1 _ rfl;(with_reducible repeat (first|refine zJ ?_ _|refine zK ?_|refine zL ?_ _));refine blk_put (cs := #[.int .i64 0,.int .i64 0]) ?_ 0 _ rfl;(with_reducible repeat (first|refine zJ ?_ _|refine zK ?_|refine zL ?_ _));exact BK449.out)):gb449 ≠ gb450));have n14_:=zM ((by rw [hg];exact Nat.ne_of_gt (blk_lt (g:=gb449) (o := .cells #[.int .i64 ((rd_T48 y445 x17_1).f0),.int .i64 ((rd_T48 y445 x17_1).f1)] 48 (0,0)) (by (with_reducible repeat (first|refine zJ ?_ _|refine zK ?_|refine zL ?_ _));refine blk_put (cs := #[.int .i64 ((rd_T48 y445 x17_1).f0),.int .i64 0]) ?_ 1 _ rfl;(with_reducible repeat (first|refine zJ ?_ _|refine zK ?_|refine zL ?_ _));refine blk_put (cs := #[.int .i64 0,.int .i64 0]) ?_ 0 _ rfl;(with_reducible repeat (first|refine zJ ?_ _|refine zK ?_|refine zL ?_ _));exact BK449.out)):gb450 ≠ gb449));clear HO_5;clear HO_15;clear BK440;clear BK441;clear BK449;clear HB;have HO_5:=n0_;have HO_15:=n1_;have BK440:=n2_;have BK441:=n3_;have BK449:=n4_;have HB:=n5_;have BK450:=n6_;have GW450:=n7_;have GE450:=n8_;have NB440_450:=n9_;have NB450_440:=n10_;have NB441_450:=n11_;have NB450_441:=n12_;have NB449_450:=n13_;have NB450_449:=n14_;clear n0_ n1_ n2_ n3_ n4_ n5_ n6_ n7_ n8_ n9_ n10_ n11_ n12_ n13_ n14_;clear hb hbox hg;have hnb23:=NB450_440.out;have hnc23:=NB440_450.out;have hnb24:=NB450_441.out;have hnc24:=NB441_450.out;have hnb25:=NB450_449.out;have hnc25:=NB449_450.out;have hcz26_0:w22.cell? ⟨gb450,0,none⟩ = some (.int .i64 0):=(blk_cell BK450.out 0).trans rfl;have hcz26_1:w22.cell? ⟨gb450,1,none⟩ = some (.int .i64 0):=(blk_cell BK450.out 1).trans rfl;have hfz26_0:=blk_frozen BK450.out 0;have hfz26_1:=blk_frozen BK450.out 1;have hcz27_0:w22.cell? ⟨gb440,0,none⟩ = some (.int .i64 a0_0):=(blk_cell BK440.out 0).trans rfl;have hcz27_1:w22.cell? ⟨gb440,1,none⟩ = some (.int .i64 a0_1):=(blk_cell BK440.out 1).trans rfl;have hcz27_2:w22.cell? ⟨gb440,2,none⟩ = some (.slice A0_2 l0_2.length c0_2):=(blk_cell BK440.out 2).trans rfl;have hfz27_0:=blk_frozen BK440.out 0;have hfz27_1:=blk_frozen BK440.out 1;have hfz27_2:=blk_frozen BK440.out 2)|((with_reducible refine gate_callee (f:=58) rfl ?_);refine goesL_ (some 34) rfl rfl Try.func58 (by kernel_rfl) rfl #[.agg #[.int .i64 a0_0,.int .i64 a0_1,.slice A0_2 l0_2.length c0_2],.agg #[.int .i64 (wrap64 (a1_0 + ((rd_T48 y445 x17_1).f0))),.int .i64 (wrap64 (a1_1 + ((rd_T48 y445 x17_1).f1)))]] rfl (by (try simp only [List.map_toArray,List.map_cons,List.map_nil]);first|done|rfl|(simp only [List.length_drop,List.length_take];rfl)) ?_;(with_reducible refine (impl_isFree.calls k1 a0_0 a0_1 _ _ l0_2 (wrap64 (a1_0 + ((rd_T48 y445 x17_1).f0))) (wrap64 (a1_1 + ((rd_T48 y445 x17_1).f1))) true _ ?side1 ?side2 A13.out).mono ?_);(case side1=>exact zO HR0_2.out (by repeat (first|(with_reducible first|exact HB.out|apply zD|apply zE|apply zF|refine below_set ?_ GE440.out|refine below_set ?_ GE441.out|refine below_set ?_ GE449.out|refine below_set ?_ GE450.out)|exact HB.out)));(case side2=>exact HC0_2.out);rintro e w28 ⟨rfl,hb⟩;refine ⟨_,rfl,?_⟩;have n0_:=zM (zP (by (with_reducible repeat (first|apply zA|apply zB|apply zC));exact (Kd.R_mono (Kd.R_far (p:=⟨gb450,1,none⟩) (Kd.R_far (p:=⟨gb450,0,none⟩) (Kd.R_mono HO_5.out (fun k_ hk=>(⟨hk,hk.2⟩ : _ ∧ k_ ≠ gb450))) (fun _ hk=>hk.2) (.int .i64 (wrap64 (a1_0 + ((rd_T48 y445 x17_1).f0))))) (fun _ hk=>hk.2) (.int .i64 (wrap64 (a1_1 + ((rd_T48 y445 x17_1).f1))))) (fun _ h_=>h_.1))) hb);have n1_:=zM (zP (by (with_reducible repeat (first|apply zA|apply zB|apply zC));exact (Kd.R_mono (Kd.R_far (p:=⟨gb450,1,none⟩) (Kd.R_far (p:=⟨gb450,0,none⟩) (Kd.R_mono HO_15.out (fun k_ hk=>(⟨hk,hk.2⟩ : _ ∧ k_ ≠ gb450))) (fun _ hk=>hk.2) (.int .i64 (wrap64 (a1_0 + ((rd_T48 y445 x17_1).f0))))) (fun _ hk=>hk.2) (.int .i64 (wrap64 (a1_1 + ((rd_T48 y445 x17_1).f1))))) (fun _ h_=>h_.1))) hb);have n2_:=zM (blk_below (g:=gb440) (o := .cells #[.int .i64 a0_0,.int .i64 a0_1,.slice A0_2 l0_2.length c0_2] 29 (0,0)) (by (with_reducible repeat (first|refine zJ ?_ _|refine zK ?_|refine zL ?_ _));refine blk_far ?_ NB440_450.out _;(with_reducible repeat (first|refine zJ ?_ _|refine zK ?_|refine zL ?_ _));refine blk_far ?_ NB440_450.out _;(with_reducible repeat (first|refine zJ ?_ _|refine zK ?_|refine zL ?_ _));exact BK440.out) hb);have n3_:=zM (blk_below (g:=gb441) (o := .cells #[.int .i64 a1_0,.int .i64 a1_1] 48 (0,0)) (by (with_reducible repeat (first|refine zJ ?_ _|refine zK ?_|refine zL ?_ _));refine blk_far ?_ NB441_450.out _;(with_reducible repeat (first|refine zJ ?_ _|refine zK ?_|refine zL ?_ _));refine blk_far ?_ NB441_450.out _;(with_reducible repeat (first|refine zJ ?_ _|refine zK ?_|refine zL ?_ _));exact BK441.out) hb);have n4_:=zM (blk_below (g:=gb449) (o := .cells #[.int .i64 ((rd_T48 y445 x17_1).f0),.int .i64 ((rd_T48 y445 x17_1).f1)] 48 (0,0)) (by (with_reducible repeat (first|refine zJ ?_ _|refine zK ?_|refine zL ?_ _));refine blk_far ?_ NB449_450.out _;(with_reducible repeat (first|refine zJ ?_ _|refine zK ?_|refine zL ?_ _));refine blk_far ?_ NB449_450.out _;(with_reducible repeat (first|refine zJ ?_ _|refine zK ?_|refine zL ?_ _));exact BK449.out) hb);have n5_:=zM (blk_below (g:=gb450) (o := .cells #[.int .i64 (wrap64 (a1_0 + ((rd_T48 y445 x17_1).f0))),.int .i64 (wrap64 (a1_1 + ((rd_T48 y445 x17_1).f1)))] 48 (0,0)) (by (with_reducible repeat (first|refine zJ ?_ _|refine zK ?_|refine zL ?_ _));refine blk_put (cs := #[.int .i64 (wrap64 (a1_0 + ((rd_T48 y445 x17_1).f0))),.int .i64 0]) ?_ 1 _ rfl;(with_reducible repeat (first|refine zJ ?_ _|refine zK ?_|refine zL ?_ _));refine blk_put (cs := #[.int .i64 0,.int .i64 0]) ?_ 0 _ rfl;(with_reducible repeat (first|refine zJ ?_ _|refine zK ?_|refine zL ?_ _));exact BK450.out) hb);have n6_:=zM (zQ (by repeat (first|(with_reducible first|exact HB.out|apply zD|apply zE|apply zF|refine below_set ?_ GE440.out|refine below_set ?_ GE441.out|refine below_set ?_ GE449.out|refine below_set ?_ GE450.out)|exact HB.out)) hb);clear HO_5;clear HO_15;clear BK440;clear BK441;clear BK449;clear BK450;clear HB;have HO_5:=n0_;have HO_15:=n1_;have BK440:=n2_;have BK441:=n3_;have BK449:=n4_;have BK450:=n5_;have HB:=n6_;clear n0_ n1_ n2_ n3_ n4_ n5_ n6_;(try clear hb);(try clear hb2);(try clear hk);(try clear hi);have hcz29_0:w28.cell? ⟨gb450,0,none⟩ = some (.int .i64 (wrap64 (a1_0 + ((rd_T48 y445 x17_1).f0)))):=(blk_cell BK450.out 0).trans rfl;have hcz29_1:w28.cell? ⟨gb450,1,none⟩ = some (.int .i64 (wrap64 (a1_1 + ((rd_T48 y445 x17_1).f1)))):=(blk_cell BK450.out 1).trans rfl;have hfz29_0:=blk_frozen BK450.out 0;have hfz29_1:=blk_frozen BK450.out 1)|((with_reducible refine gate_builtin (b := .append) (xs := #[.tmp 35,.tmp 37]) rfl ?_);at_builtin;refine Kd.R_append k48 (w0:=w) w.heap.size rfl (.tmp 35) (.tmp 37) 27 48 (.agg #[(.int .i64 0),(.int .i64 0)]) 16 rfl Try.underlying27 info48 rfl (by decide) (by omega) u5 x5_1 (⟨wrap64 (a1_0 + ((rd_T48 y445 x17_1).f0)),wrap64 (a1_1 + ((rd_T48 y445 x17_1).f1))⟩ : S48) [.int .i64 (wrap64 (a1_0 + ((rd_T48 y445 x17_1).f0))),.int .i64 (wrap64 (a1_1 + ((rd_T48 y445 x17_1).f1)))] (fun k_=>some k_ ≠ (.slice (some ad448) y445.length co9:Value).ownBlock ∧ k_ ≠ gb441 ∧ k_ ≠ gb449 ∧ k_ ≠ gb450) (fun _=>False) rfl rfl ?aP (fun _ hk=>hk.elim) ?aF ?aO ?aB ?aS ?aL ?_;(case aP=>exact k48_mkM _ _ _ (⟨wrap64 (a1_0 + ((rd_T48 y445 x17_1).f0)),wrap64 (a1_1 + ((rd_T48 y445 x17_1).f1))⟩ : S48));(case aB=>exact (by repeat (first|(with_reducible first|exact HB.out|apply zD|apply zE|apply zF|refine below_set ?_ GE440.out|refine below_set ?_ GE441.out|refine below_set ?_ GE449.out|refine below_set ?_ GE450.out)|exact HB.out)));(case aF=>exact (fun k_ hk=>⟨Kd.fresh' (Kd.R_lt (by (with_reducible repeat (first|apply zA|apply zB|apply zC));exact HO_15.out)) k_ hk,Kd.freshB (g:=gb441) (o := .cells #[.int .i64 a1_0,.int .i64 a1_1] 48 (0,0)) (by (with_reducible repeat (first|refine zJ ?_ _|refine zK ?_|refine zL ?_ _));exact BK441.out) k_ hk,Kd.freshB (g:=gb449) (o := .cells #[.int .i64 ((rd_T48 y445 x17_1).f0),.int .i64 ((rd_T48 y445 x17_1).f1)] 48 (0,0)) (by (with_reducible repeat (first|refine zJ ?_ _|refine zK ?_|refine zL ?_ _));exact BK449.out) k_ hk,Kd.freshB (g:=gb450) (o := .cells #[.int .i64 (wrap64 (a1_0 + ((rd_T48 y445 x17_1).f0))),.int .i64 (wrap64 (a1_1 + ((rd_T48 y445 x17_1).f1)))] 48 (0,0)) (by (with_reducible repeat (first|refine zJ ?_ _|refine zK ?_|refine zL ?_ _));exact BK450.out) k_ hk⟩));(case aO=>exact (by (with_reducible repeat (first|apply zA|apply zB|apply zC));exact Kd.R_mono HO_5.out (fun _ hk=>⟨hk.1.1.1,⟨hk.1.1.2,⟨hk.1.2,hk.2⟩⟩⟩)));(case aS=>exact (zR (by repeat (first|(with_reducible first|exact HB.out|apply zD|apply zE|apply zF|refine below_set ?_ GE440.out|refine below_set ?_ GE441.out|refine below_set ?_ GE449.out|refine below_set ?_ GE450.out)|exact HB.out))));(case aL=>have:=LMc15.out;omega);intro v453 w30 ho hb hg hat;rw [← Ny452.out] at ho;have n0_:=zM (Kd.R_after (ok:=(fun k_=>k_ ≠ gb441 ∧ k_ ≠ gb449 ∧ k_ ≠ gb450)) (by (with_reducible repeat (first|apply zA|apply zB|apply zC));exact Kd.R_mono HO_15.out (fun _ hk=>⟨⟨hk.1.1.2,⟨hk.1.2,hk.2⟩⟩,hk.1.1.1⟩)) hg hat);have n1_:=zM (blk_grown (g:=gb440) (o := .cells #[.int .i64 a0_0,.int .i64 a0_1,.slice A0_2 l0_2.length c0_2] 29 (0,0)) (by (with_reducible repeat (first|refine zJ ?_ _|refine zK ?_|refine zL ?_ _));exact BK440.out) hg (Kd.R_ne HO_5.out BK440.out (by decide)));have n2_:=zM (blk_grown (g:=gb441) (o := .cells #[.int .i64 a1_0,.int .i64 a1_1] 48 (0,0)) (by (with_reducible repeat (first|refine zJ ?_ _|refine zK ?_|refine zL ?_ _));exact BK441.out) hg (Kd.R_away HO_5.out (fun _ hk=>hk.1.1.2)));have n3_:=zM (blk_grown (g:=gb449) (o := .cells #[.int .i64 ((rd_T48 y445 x17_1).f0),.int .i64 ((rd_T48 y445 x17_1).f1)] 48 (0,0)) (by (with_reducible repeat (first|refine zJ ?_ _|refine zK ?_|refine zL ?_ _));exact BK449.out) hg (Kd.R_away HO_5.out (fun _ hk=>hk.1.2)));have n4_:=zM (blk_grown (g:=gb450) (o := .cells #[.int .i64 (wrap64 (a1_0 + ((rd_T48 y445 x17_1).f0))),.int .i64 (wrap64 (a1_1 + ((rd_T48 y445 x17_1).f1)))] 48 (0,0)) (by (with_reducible repeat (first|refine zJ ?_ _|refine zK ?_|refine zL ?_ _));exact BK450.out) hg (Kd.R_away HO_5.out (fun _ hk=>hk.2)));have n5_:=zM (hb);have n6_:=zM (ho);clear HO_15;clear BK440;clear BK441;clear BK449;clear BK450;clear HB;clear HO_5;have HO_15:=n0_;have BK440:=n1_;have BK441:=n2_;have BK449:=n3_;have BK450:=n4_;have HB:=n5_;have HO454:=n6_;clear n0_ n1_ n2_ n3_ n4_ n5_ n6_;clear ho hb hg hat))
        go_roundg k1
        case measure=>have:=HK1.out;omega
        case rel=>exact ⟨(y452),(wrap64 (x17_1 + 1)),(by first|rfl|(simp;done)|(simp [*];done)),H',⟨by have:=HK1.out;omega⟩,⟨by (with_reducible repeat (first|apply zA|apply zB|apply zC));exact Kd.R_mono HO454.out (fun _ hk=>⟨hk.1,hk.2.1⟩)⟩,⟨by (with_reducible repeat (first|apply zA|apply zB|apply zC));exact Kd.R_mono HO_15.out (fun _ hk=>⟨hk.2,hk.1.1⟩)⟩,⟨by (with_reducible repeat (first|refine zJ ?_ _|refine zK ?_|refine zL ?_ _));exact BK440.out⟩,⟨by (with_reducible repeat (first|refine zJ ?_ _|refine zK ?_|refine zL ?_ _));exact BK441.out⟩,⟨by repeat (first|(with_reducible first|exact HB.out|apply zD|apply zE|apply zF|refine below_set ?_ GE440.out|refine below_set ?_ GE441.out|refine below_set ?_ GE449.out|refine below_set ?_ GE450.out)|exact HB.out)⟩⟩
       ·rw [if_neg c15] at H
        exact absurd H (by simp)
      ·replace c14:=Bool.eq_false_iff.mpr c14
       subst c14;have H1:(impl_around.l0 k1 x5_1 y445 (y445.length:Int) (wrap64 (x17_1 + 1)) a0_0 a0_1 l0_2 a1_0 a1_1) = some r:=by rw [if_neg (show ¬ (false = true) by decide)] at H;exact H
       clear H;have H:=H1;clear H1;have H':=zM H;clear H;have p448:0 ≤ (x17_1:Int):=of_decide_eq_true (by first|(with_reducible assumption)|assumption)
       have q448:x17_1 < (y445.length:Int):=of_decide_eq_true (by first|(with_reducible assumption)|assumption)
       obtain ⟨ad448,e448,hx448_0,hx448_1⟩:=at_T48 (zN HO_15.out).2.2 x17_1 p448 q448;cases e448
       replace p448:=eq_true p448;replace q448:=eq_true q448;go_wp2_with (first|((with_reducible refine gate_dst (N:=7) rfl ?_);refine box_event ?hg (N:=7) ?hd (cs := #[.int .i64 0,.int .i64 0]) (t:=48) ?hr ?_;(case hd=>rfl);(case hg=>rfl);(case hr=>first|(go_simp;done)|(go_simp;rfl));intro gb449 hg w31 hbox hb;have n0_:=zM (zP (Kd.R_elderB (by (with_reducible repeat (first|apply zA|apply zB|apply zC));exact HO_5.out) gb449 (Nat.le_of_eq hg.symm)) hb);have n1_:=zM (zP (Kd.R_elderB (by (with_reducible repeat (first|apply zA|apply zB|apply zC));exact HO_15.out) gb449 (Nat.le_of_eq hg.symm)) hb);have n2_:=zM (blk_below (g:=gb440) (o := .cells #[.int .i64 a0_0,.int .i64 a0_1,.slice A0_2 l0_2.length c0_2] 29 (0,0)) (by (with_reducible repeat (first|refine zJ ?_ _|refine zK ?_|refine zL ?_ _));exact BK440.out) hb);have n3_:=zM (blk_below (g:=gb441) (o := .cells #[.int .i64 a1_0,.int .i64 a1_1] 48 (0,0)) (by (with_reducible repeat (first|refine zJ ?_ _|refine zK ?_|refine zL ?_ _));exact BK441.out) hb);have n4_:=zM (zQ (by repeat (first|(with_reducible first|exact HB.out|apply zD|apply zE|apply zF|refine below_set ?_ GE440.out|refine below_set ?_ GE441.out)|exact HB.out)) hb);have n5_:=zM (hbox);have n6_:=zM ((by rw [hg];exact (zR (by repeat (first|(with_reducible first|exact HB.out|apply zD|apply zE|apply zF|refine below_set ?_ GE440.out|refine below_set ?_ GE441.out)|exact HB.out))):w.heap.size ≤ gb449));have n7_:=zM ((by rw [hg];exact (zR (by repeat (first|(with_reducible first|exact HB.out|apply zD|apply zE|apply zF|refine below_set ?_ GE440.out|refine below_set ?_ GE441.out)|exact HB.out))):w.heap.size ≤ gb449));have n8_:=zM ((by rw [hg];exact Nat.ne_of_lt (blk_lt (g:=gb440) (o := .cells #[.int .i64 a0_0,.int .i64 a0_1,.slice A0_2 l0_2.length c0_2] 29 (0,0)) (by (with_reducible repeat (first|refine zJ ?_ _|refine zK ?_|refine zL ?_ _));exact BK440.out)):gb440 ≠ gb449));have n9_:=zM ((by rw [hg];exact Nat.ne_of_gt (blk_lt (g:=gb440) (o := .cells #[.int .i64 a0_0,.int .i64 a0_1,.slice A0_2 l0_2.length c0_2] 29 (0,0)) (by (with_reducible repeat (first|refine zJ ?_ _|refine zK ?_|refine zL ?_ _));exact BK440.out)):gb449 ≠ gb440));have n10_:=zM ((by rw [hg];exact Nat.ne_of_lt (blk_lt (g:=gb441) (o := .cells #[.int .i64 a1_0,.int .i64 a1_1] 48 (0,0)) (by (with_reducible repeat (first|refine zJ ?_ _|refine zK ?_|refine zL ?_ _));exact BK441.out)):gb441 ≠ gb449));have n11_:=zM ((by rw [hg];exact Nat.ne_of_gt (blk_lt (g:=gb441) (o := .cells #[.int .i64 a1_0,.int .i64 a1_1] 48 (0,0)) (by (with_reducible repeat (first|refine zJ ?_ _|refine zK ?_|refine zL ?_ _));exact BK441.out)):gb449 ≠ gb441));clear HO_5;clear HO_15;clear BK440;clear BK441;clear HB;have HO_5:=n0_;have HO_15:=n1_;have BK440:=n2_;have BK441:=n3_;have HB:=n4_;have BK449:=n5_;have GW449:=n6_;have GE449:=n7_;have NB440_449:=n8_;have NB449_440:=n9_;have NB441_449:=n10_;have NB449_441:=n11_;clear n0_ n1_ n2_ n3_ n4_ n5_ n6_ n7_ n8_ n9_ n10_ n11_;clear hb hbox hg;have hnb32:=NB449_440.out;have hnc32:=NB440_449.out;have hnb33:=NB449_441.out;have hnc33:=NB441_449.out;have hcz34_0:w31.cell? ⟨gb449,0,none⟩ = some (.int .i64 0):=(blk_cell BK449.out 0).trans rfl;have hcz34_1:w31.cell? ⟨gb449,1,none⟩ = some (.int .i64 0):=(blk_cell BK449.out 1).trans rfl;have hfz34_0:=blk_frozen BK449.out 0;have hfz34_1:=blk_frozen BK449.out 1;have hnb35:=NB441_440.out;have hnc35:=NB440_441.out;have hcz36_0:w31.cell? ⟨gb441,0,none⟩ = some (.int .i64 a1_0):=(blk_cell BK441.out 0).trans rfl;have hcz36_1:w31.cell? ⟨gb441,1,none⟩ = some (.int .i64 a1_1):=(blk_cell BK441.out 1).trans rfl;have hfz36_0:=blk_frozen BK441.out 0;have hfz36_1:=blk_frozen BK441.out 1)|((with_reducible refine gate_dst (N:=8) rfl ?_);refine box_event ?hg (N:=8) ?hd (cs := #[.int .i64 0,.int .i64 0]) (t:=48) ?hr ?_;(case hd=>rfl);(case hg=>rfl);(case hr=>first|(go_simp;done)|(go_simp;rfl));intro gb450 hg w37 hbox hb;have n0_:=zM (zP (Kd.R_elderB (by (with_reducible repeat (first|apply zA|apply zB|apply zC));exact (Kd.R_mono (Kd.R_far (p:=⟨gb449,1,none⟩) (Kd.R_far (p:=⟨gb449,0,none⟩) (Kd.R_mono HO_5.out (fun k_ hk=>(⟨hk,hk.2⟩ : _ ∧ k_ ≠ gb449))) (fun _ hk=>hk.2) (.int .i64 ((rd_T48 y445 x17_1).f0))) (fun _ hk=>hk.2) (.int .i64 ((rd_T48 y445 x17_1).f1))) (fun _ h_=>h_.1))) gb450 (Nat.le_of_eq hg.symm)) hb);have n1_:=zM (zP (Kd.R_elderB (by (with_reducible repeat (first|apply zA|apply zB|apply zC));exact (Kd.R_mono (Kd.R_far (p:=⟨gb449,1,none⟩) (Kd.R_far (p:=⟨gb449,0,none⟩) (Kd.R_mono HO_15.out (fun k_ hk=>(⟨hk,hk.2⟩ : _ ∧ k_ ≠ gb449))) (fun _ hk=>hk.2) (.int .i64 ((rd_T48 y445 x17_1).f0))) (fun _ hk=>hk.2) (.int .i64 ((rd_T48 y445 x17_1).f1))) (fun _ h_=>h_.1))) gb450 (Nat.le_of_eq hg.symm)) hb);have n2_:=zM (blk_below (g:=gb440) (o := .cells #[.int .i64 a0_0,.int .i64 a0_1,.slice A0_2 l0_2.length c0_2] 29 (0,0)) (by (with_reducible repeat (first|refine zJ ?_ _|refine zK ?_|refine zL ?_ _));refine blk_far ?_ NB440_449.out _;(with_reducible repeat (first|refine zJ ?_ _|refine zK ?_|refine zL ?_ _));refine blk_far ?_ NB440_449.out _;(with_reducible repeat (first|refine zJ ?_ _|refine zK ?_|refine zL ?_ _));exact BK440.out) hb);have n3_:=zM (blk_below (g:=gb441) (o := .cells #[.int .i64 a1_0,.int .i64 a1_1] 48 (0,0)) (by (with_reducible repeat (first|refine zJ ?_ _|refine zK ?_|refine zL ?_ _));refine blk_far ?_ NB441_449.out _;(with_reducible repeat (first|refine zJ ?_ _|refine zK ?_|refine zL ?_ _));refine blk_far ?_ NB441_449.out _;(with_reducible repeat (first|refine zJ ?_ _|refine zK ?_|refine zL ?_ _));exact BK441.out) hb);have n4_:=zM (blk_below (g:=gb449) (o := .cells #[.int .i64 ((rd_T48 y445 x17_1).f0),.int .i64 ((rd_T48 y445 x17_1).f1)] 48 (0,0)) (by (with_reducible repeat (first|refine zJ ?_ _|refine zK ?_|refine zL ?_ _));refine blk_put (cs := #[.int .i64 ((rd_T48 y445 x17_1).f0),.int .i64 0]) ?_ 1 _ rfl;(with_reducible repeat (first|refine zJ ?_ _|refine zK ?_|refine zL ?_ _));refine blk_put (cs := #[.int .i64 0,.int .i64 0]) ?_ 0 _ rfl;(with_reducible repeat (first|refine zJ ?_ _|refine zK ?_|refine zL ?_ _));exact BK449.out) hb);have n5_:=zM (zQ (by repeat (first|(with_reducible first|exact HB.out|apply zD|apply zE|apply zF|refine below_set ?_ GE440.out|refine below_set ?_ GE441.out|refine below_set ?_ GE449.out)|exact HB.out)) hb);have n6_:=zM (hbox);have n7_:=zM ((by rw [hg];exact (zR (by repeat (first|(with_reducible first|exact HB.out|apply zD|apply zE|apply zF|refine below_set ?_ GE440.out|refine below_set ?_ GE441.out|refine below_set ?_ GE449.out)|exact HB.out))):w.heap.size ≤ gb450));have n8_:=zM ((by rw [hg];exact (zR (by repeat (first|(with_reducible first|exact HB.out|apply zD|apply zE|apply zF|refine below_set ?_ GE440.out|refine below_set ?_ GE441.out|refine below_set ?_ GE449.out)|exact HB.out))):w.heap.size ≤ gb450));have n9_:=zM ((by rw [hg];exact Nat.ne_of_lt (blk_lt (g:=gb440) (o := .cells #[.int .i64 a0_0,.int .i64 a0_1,.slice A0_2 l0_2.length c0_2] 29 (0,0)) (by (with_reducible repeat (first|refine zJ ?_ _|refine zK ?_|refine zL ?_ _));refine blk_far ?_ NB440_449.out _;(with_reducible repeat (first|refine zJ ?_ _|refine zK ?_|refine zL ?_ _));refine blk_far ?_ NB440_449.out _;(with_reducible repeat (first|refine zJ ?_ _|refine zK ?_|refine zL ?_ _));exact BK440.out)):gb440 ≠ gb450));have n10_:=zM ((by rw [hg];exact Nat.ne_of_gt (blk_lt (g:=gb440) (o := .cells #[.int .i64 a0_0,.int .i64 a0_1,.slice A0_2 l0_2.length c0_2] 29 (0,0)) (by (with_reducible repeat (first|refine zJ ?_ _|refine zK ?_|refine zL ?_ _));refine blk_far ?_ NB440_449.out _;(with_reducible repeat (first|refine zJ ?_ _|refine zK ?_|refine zL ?_ _));refine blk_far ?_ NB440_449.out _;(with_reducible repeat (first|refine zJ ?_ _|refine zK ?_|refine zL ?_ _));exact BK440.out)):gb450 ≠ gb440));have n11_:=zM ((by rw [hg];exact Nat.ne_of_lt (blk_lt (g:=gb441) (o := .cells #[.int .i64 a1_0,.int .i64 a1_1] 48 (0,0)) (by (with_reducible repeat (first|refine zJ ?_ _|refine zK ?_|refine zL ?_ _));refine blk_far ?_ NB441_449.out _;(with_reducible repeat (first|refine zJ ?_ _|refine zK ?_|refine zL ?_ _));refine blk_far ?_ NB441_449.out _;(with_reducible repeat (first|refine zJ ?_ _|refine zK ?_|refine zL ?_ _));exact BK441.out)):gb441 ≠ gb450));have n12_:=zM ((by rw [hg];exact Nat.ne_of_gt (blk_lt (g:=gb441) (o := .cells #[.int .i64 a1_0,.int .i64 a1_1] 48 (0,0)) (by (with_reducible repeat (first|refine zJ ?_ _|refine zK ?_|refine zL ?_ _));refine blk_far ?_ NB441_449.out _;(with_reducible repeat (first|refine zJ ?_ _|refine zK ?_|refine zL ?_ _));refine blk_far ?_ NB441_449.out _;(with_reducible repeat (first|refine zJ ?_ _|refine zK ?_|refine zL ?_ _));exact BK441.out)):gb450 ≠ gb441));have n13_:=zM ((by rw [hg];exact Nat.ne_of_lt (blk_lt (g:=gb449) (o := .cells #[.int .i64 ((rd_T48 y445 x17_1).f0),.int .i64 ((rd_T48 y445 x17_1).f1)] 48 (0,0)) (by (with_reducible repeat (first|refine zJ ?_ _|refine zK ?_|refine zL ?_ _));refine blk_put (cs := #[.int .i64 ((rd_T48 y445 x17_1).f0),.int .i64 0]) ?_ 1 _ rfl;(with_reducible repeat (first|refine zJ ?_ _|refine zK ?_|refine zL ?_ _));refine blk_put (cs := #[.int .i64 0,.int .i64 0]) ?_ 0 _ rfl;(with_reducible repeat (first|refine zJ ?_ _|refine zK ?_|refine zL ?_ _));exact BK449.out)):gb449 ≠ gb450));have n14_:=zM ((by rw [hg];exact Nat.ne_of_gt (blk_lt (g:=gb449) (o := .cells #[.int .i64 ((rd_T48 y445 x17_1).f0),.int .i64 ((rd_T48 y445 x17_1).f1)] 48 (0,0)) (by (with_reducible repeat (first|refine zJ ?_ _|refine zK ?_|refine zL ?_ _));refine blk_put (cs := #[.int .i64 ((rd_T48 y445 x17_1).f0),.int .i64 0]) ?_ 1 _ rfl;(with_reducible repeat (first|refine zJ ?_ _|refine zK ?_|refine zL ?_ _));refine blk_put (cs := #[.int .i64 0,.int .i64 0]) ?_ 0 _ rfl;(with_reducible repeat (first|refine zJ ?_ _|refine zK ?_|refine zL ?_ _));exact BK449.out)):gb450 ≠ gb449));clear HO_5;clear HO_15;clear BK440;clear BK441;clear BK449;clear HB;have HO_5:=n0_;have HO_15:=n1_;have BK440:=n2_;have BK441:=n3_;have BK449:=n4_;have HB:=n5_;have BK450:=n6_;have GW450:=n7_;have GE450:=n8_;have NB440_450:=n9_;have NB450_440:=n10_;have NB441_450:=n11_;have NB450_441:=n12_;have NB449_450:=n13_;have NB450_449:=n14_;clear n0_ n1_ n2_ n3_ n4_ n5_ n6_ n7_ n8_ n9_ n10_ n11_ n12_ n13_ n14_;clear hb hbox hg;have hnb38:=NB450_440.out;have hnc38:=NB440_450.out;have hnb39:=NB450_441.out;have hnc39:=NB441_450.out;have hnb40:=NB450_449.out;have hnc40:=NB449_450.out;have hcz41_0:w37.cell? ⟨gb450,0,none⟩ = some (.int .i64 0):=(blk_cell BK450.out 0).trans rfl;have hcz41_1:w37.cell? ⟨gb450,1,none⟩ = some (.int .i64 0):=(blk_cell BK450.out 1).trans rfl;have hfz41_0:=blk_frozen BK450.out 0;have hfz41_1:=blk_frozen BK450.out 1;have hcz42_0:w37.cell? ⟨gb440,0,none⟩ = some (.int .i64 a0_0):=(blk_cell BK440.out 0).trans rfl;have hcz42_1:w37.cell? ⟨gb440,1,none⟩ = some (.int .i64 a0_1):=(blk_cell BK440.out 1).trans rfl;have hcz42_2:w37.cell? ⟨gb440,2,none⟩ = some (.slice A0_2 l0_2.length c0_2):=(blk_cell BK440.out 2).trans rfl;have hfz42_0:=blk_frozen BK440.out 0;have hfz42_1:=blk_frozen BK440.out 1;have hfz42_2:=blk_frozen BK440.out 2)|((with_reducible refine gate_callee (f:=58) rfl ?_);refine goesL_ (some 34) rfl rfl Try.func58 (by kernel_rfl) rfl #[.agg #[.int .i64 a0_0,.int .i64 a0_1,.slice A0_2 l0_2.length c0_2],.agg #[.int .i64 (wrap64 (a1_0 + ((rd_T48 y445 x17_1).f0))),.int .i64 (wrap64 (a1_1 + ((rd_T48 y445 x17_1).f1)))]] rfl (by (try simp only [List.map_toArray,List.map_cons,List.map_nil]);first|done|rfl|(simp only [List.length_drop,List.length_take];rfl)) ?_;(with_reducible refine (impl_isFree.calls k1 a0_0 a0_1 _ _ l0_2 (wrap64 (a1_0 + ((rd_T48 y445 x17_1).f0))) (wrap64 (a1_1 + ((rd_T48 y445 x17_1).f1))) false _ ?side1 ?side2 A13.out).mono ?_);(case side1=>exact zO HR0_2.out (by repeat (first|(with_reducible first|exact HB.out|apply zD|apply zE|apply zF|refine below_set ?_ GE440.out|refine below_set ?_ GE441.out|refine below_set ?_ GE449.out|refine below_set ?_ GE450.out)|exact HB.out)));(case side2=>exact HC0_2.out);rintro e w43 ⟨rfl,hb⟩;refine ⟨_,rfl,?_⟩;have n0_:=zM (zP (by (with_reducible repeat (first|apply zA|apply zB|apply zC));exact (Kd.R_mono (Kd.R_far (p:=⟨gb450,1,none⟩) (Kd.R_far (p:=⟨gb450,0,none⟩) (Kd.R_mono HO_5.out (fun k_ hk=>(⟨hk,hk.2⟩ : _ ∧ k_ ≠ gb450))) (fun _ hk=>hk.2) (.int .i64 (wrap64 (a1_0 + ((rd_T48 y445 x17_1).f0))))) (fun _ hk=>hk.2) (.int .i64 (wrap64 (a1_1 + ((rd_T48 y445 x17_1).f1))))) (fun _ h_=>h_.1))) hb);have n1_:=zM (zP (by (with_reducible repeat (first|apply zA|apply zB|apply zC));exact (Kd.R_mono (Kd.R_far (p:=⟨gb450,1,none⟩) (Kd.R_far (p:=⟨gb450,0,none⟩) (Kd.R_mono HO_15.out (fun k_ hk=>(⟨hk,hk.2⟩ : _ ∧ k_ ≠ gb450))) (fun _ hk=>hk.2) (.int .i64 (wrap64 (a1_0 + ((rd_T48 y445 x17_1).f0))))) (fun _ hk=>hk.2) (.int .i64 (wrap64 (a1_1 + ((rd_T48 y445 x17_1).f1))))) (fun _ h_=>h_.1))) hb);have n2_:=zM (blk_below (g:=gb440) (o := .cells #[.int .i64 a0_0,.int .i64 a0_1,.slice A0_2 l0_2.length c0_2] 29 (0,0)) (by (with_reducible repeat (first|refine zJ ?_ _|refine zK ?_|refine zL ?_ _));refine blk_far ?_ NB440_450.out _;(with_reducible repeat (first|refine zJ ?_ _|refine zK ?_|refine zL ?_ _));refine blk_far ?_ NB440_450.out _;(with_reducible repeat (first|refine zJ ?_ _|refine zK ?_|refine zL ?_ _));exact BK440.out) hb);have n3_:=zM (blk_below (g:=gb441) (o := .cells #[.int .i64 a1_0,.int .i64 a1_1] 48 (0,0)) (by (with_reducible repeat (first|refine zJ ?_ _|refine zK ?_|refine zL ?_ _));refine blk_far ?_ NB441_450.out _;(with_reducible repeat (first|refine zJ ?_ _|refine zK ?_|refine zL ?_ _));refine blk_far ?_ NB441_450.out _;(with_reducible repeat (first|refine zJ ?_ _|refine zK ?_|refine zL ?_ _));exact BK441.out) hb);have n4_:=zM (blk_below (g:=gb449) (o := .cells #[.int .i64 ((rd_T48 y445 x17_1).f0),.int .i64 ((rd_T48 y445 x17_1).f1)] 48 (0,0)) (by (with_reducible repeat (first|refine zJ ?_ _|refine zK ?_|refine zL ?_ _));refine blk_far ?_ NB449_450.out _;(with_reducible repeat (first|refine zJ ?_ _|refine zK ?_|refine zL ?_ _));refine blk_far ?_ NB449_450.out _;(with_reducible repeat (first|refine zJ ?_ _|refine zK ?_|refine zL ?_ _));exact BK449.out) hb);have n5_:=zM (blk_below (g:=gb450) (o := .cells #[.int .i64 (wrap64 (a1_0 + ((rd_T48 y445 x17_1).f0))),.int .i64 (wrap64 (a1_1 + ((rd_T48 y445 x17_1).f1)))] 48 (0,0)) (by (with_reducible repeat (first|refine zJ ?_ _|refine zK ?_|refine zL ?_ _));refine blk_put (cs := #[.int .i64 (wrap64 (a1_0 + ((rd_T48 y445 x17_1).f0))),.int .i64 0]) ?_ 1 _ rfl;(with_reducible repeat (first|refine zJ ?_ _|refine zK ?_|refine zL ?_ _));refine blk_put (cs := #[.int .i64 0,.int .i64 0]) ?_ 0 _ rfl;(with_reducible repeat (first|refine zJ ?_ _|refine zK ?_|refine zL ?_ _));exact BK450.out) hb);have n6_:=zM (zQ (by repeat (first|(with_reducible first|exact HB.out|apply zD|apply zE|apply zF|refine below_set ?_ GE440.out|refine below_set ?_ GE441.out|refine below_set ?_ GE449.out|refine below_set ?_ GE450.out)|exact HB.out)) hb);clear HO_5;clear HO_15;clear BK440;clear BK441;clear BK449;clear BK450;clear HB;have HO_5:=n0_;have HO_15:=n1_;have BK440:=n2_;have BK441:=n3_;have BK449:=n4_;have BK450:=n5_;have HB:=n6_;clear n0_ n1_ n2_ n3_ n4_ n5_ n6_;(try clear hb);(try clear hb2);(try clear hk);(try clear hi)))
       go_roundg k1
       case measure=>have:=HK1.out;omega
       case rel=>exact ⟨(x5_1),(wrap64 (x17_1 + 1)),(by first|rfl|(simp;done)|(simp [*];done)),H',⟨by have:=HK1.out;omega⟩,⟨by (with_reducible repeat (first|apply zA|apply zB|apply zC));exact Kd.R_mono HO_5.out (fun _ hk=>⟨hk.1.1.1,hk.1.1.2⟩)⟩,⟨by (with_reducible repeat (first|apply zA|apply zB|apply zC));exact Kd.R_mono HO_15.out (fun _ hk=>⟨hk.1.1.1,hk.1.1.2⟩)⟩,⟨by (with_reducible repeat (first|refine zJ ?_ _|refine zK ?_|refine zL ?_ _));exact BK440.out⟩,⟨by (with_reducible repeat (first|refine zJ ?_ _|refine zK ?_|refine zL ?_ _));exact BK441.out⟩,⟨by repeat (first|(with_reducible first|exact HB.out|apply zD|apply zE|apply zF|refine below_set ?_ GE440.out|refine below_set ?_ GE441.out|refine below_set ?_ GE449.out|refine below_set ?_ GE450.out)|exact HB.out)⟩⟩
     ·rw [if_neg c12] at H
      exact absurd H (by simp)
    ·rw [if_neg c11] at H
     exact absurd H (by simp)
   ·rw [if_neg c10] at H
    have c10b0:decide (x17_1 < (y445.length:Int)) = false:=decide_eq_false c10
    clear c10;obtain rfl:=Option.some.inj H;go_wp2
    go_ret
    exact ⟨_,by first|rfl|(simp [errW_none,errW_some] <;> rfl)|(simp [*,errW_none,errW_some] <;> rfl),by (with_reducible repeat (first|apply zA|apply zB|apply zC));exact Kd.R_mono HO_5.out (fun _ hk=>trivial),by repeat (first|(with_reducible first|exact HB.out|apply zD|apply zE|apply zF|refine below_set ?_ GE440.out|refine below_set ?_ GE441.out)|exact HB.out)⟩

end Go.Proofs.Ytbpccdbkaiigcaa.G

/- The walk of impl.stepsFrom: what it hands back is the map that the search by breadth makes. -/
namespace Go.Proofs.Ytbpccdbkaiigcaa.G
open Go.RowKit Go.Proofs.YtbpccdbkaiigcaaW.PrintWords Go.Proofs.YtbpccdbkaiigcaaW.PrintLast Go.Proofs.YtbpccdbkaiigcaaW.PrintMore
set_option linter.unusedVariables false
set_option linter.unusedSimpArgs false
/-- What is known of the floor's neighbours among the cells G. -/
structure Nbs (a0_0 a0_1 : Int) (l0_2 : List S48) (G : S48 → Prop) (nb : S48 → List S48) : Prop where
 wf : ∀ d,G d → W64 d
 len : ∀ d,G d → (nb d).length ≤ 5
 cl : ∀ d,G d → ∀ e ∈ nb d,G e
 run : ∀ d,G d → ∃ k,impl_around.f k a0_0 a0_1 l0_2 d.f0 d.f1 = some (nb d)
theorem wf_small {x : Int} (h0 : -1 ≤ x) (h1 : x ≤ 2000) : (Lit.int .i64 x).wf = true:=wf_iff.2 ⟨by omega,by omega⟩
end Go.Proofs.Ytbpccdbkaiigcaa.G

/- The table of the numbers of steps: as a list of rows, and what the walks hold of the world while it is built. -/
namespace Go.Proofs.Ytbpccdbkaiigcaa.G
open Go.RowKit Go.Proofs.YtbpccdbkaiigcaaW.PrintWords Go.Proofs.YtbpccdbkaiigcaaW.PrintLast Go.Proofs.YtbpccdbkaiigcaaW.PrintMore
set_option linter.unusedVariables false
set_option linter.unusedSimpArgs false
def rowOf (f : S48 → Int) (y : Int) : Nat → List Int
 | 0=>[]
 | x + 1=>rowOf f y x ++ [f ⟨x,y⟩]
def tabOf (f : S48 → Int) (wd : Nat) : Nat → List (List Int)
 | 0=>[]
 | y + 1=>tabOf f wd y ++ [rowOf f y wd]
abbrev SS:=Kd.slice 3 (Kd.int .i64)
/-- Rows behind one another, and the row that is built. -/
structure TB (w0 w : World) (ok : Nat → Prop) (v7 : Value) (rows : List (List Int)) (v9 : Value) (row : List Int) : Prop where
 out : Kd.S SS 72 w w0.heap.size (fun k=>ok k ∧ some k ≠ v9.ownBlock) v7 rows
 row : Kd.R (Kd.int .i64) 3 w w0.heap.size ok v9 row
 bl : Below w0.heap.size w0 w
section
variable {w0 w w1 : World} {ok : Nat → Prop} {v7 v9 v1 : Value} {rows : List (List Int)} {row row' : List Int}
theorem TB.below (h : TB w0 w ok v7 rows v9 row) (hb : Below w.heap.size w w1) : TB w0 w1 ok v7 rows v9 row:=⟨Kd.S_below h.out hb,Kd.R_below h.row hb,below_step h.bl hb⟩
end
end Go.Proofs.Ytbpccdbkaiigcaa.G

/- The table of the numbers of steps: read at a cell, written at a cell; what the reference's walk holds of the world. -/
namespace Go.Proofs.Ytbpccdbkaiigcaa.G
open Go.RowKit Go.Proofs.YtbpccdbkaiigcaaW.PrintWords Go.Proofs.YtbpccdbkaiigcaaW.PrintLast Go.Proofs.YtbpccdbkaiigcaaW.PrintMore
set_option linter.unusedVariables false
set_option linter.unusedSimpArgs false
structure SQ (w0 w : World) (fc : Array Value) (g2 : Nat) (v6 : Value) (T : List (List Int)) (v10 : Value) (l : List S48) (vn : Value) (ds : List S48) : Prop where
 fl : w.heap[g2]? = some (.cells fc 29 (0,0))
 tb : Kd.S SS 72 w w0.heap.size (fun _=>True) v6 T
 qu : Kd.R k48 48 w w0.heap.size (fun _=>True) v10 l
 nx : Kd.R k48 48 w w0.heap.size (fun k=>True ∧ some k ≠ v10.ownBlock) vn ds
 bl : Below w0.heap.size w0 w
section
variable {w0 w w1 : World} {fc : Array Value} {g2 : Nat} {v6 v10 v11 vn vn' : Value} {T T' : List (List Int)} {l l' ds ds' : List S48}
theorem SQ.below (h : SQ w0 w fc g2 v6 T v10 l vn ds) (hb : Below w.heap.size w w1) : SQ w0 w1 fc g2 v6 T v10 l vn ds:=⟨blk_below h.fl hb,Kd.S_below h.tb hb,Kd.R_below h.qu hb,Kd.R_below h.nx hb,below_step h.bl hb⟩
theorem SQ.app (h : SQ w0 w fc g2 v6 T v10 l vn ds) (hq : Kd.R k48 48 w1 w0.heap.size (fun _=>True) v11 l') (hb : Below w0.heap.size w0 w1) (hg : w.grownBy w1 v10.ownBlock) (hat : v11.ownBlock = v10.ownBlock ∨ ∃ b,v11.ownBlock = some b ∧ w.heap.size ≤ b) : SQ w0 w1 fc g2 v6 T v11 l' vn ds :=
 ⟨(hg.block g2 (blk_lt h.fl) (Kd.R_ne h.qu h.fl (by decide))).trans h.fl,Kd.S_over' h.tb (fun k hk=>Kd.R_typed h.qu k hk) (by decide) hg,hq,Kd.R_after h.nx hg hat,hb⟩
theorem SQ.near (h : SQ w0 w fc g2 v6 T v10 l vn ds) (hb : Below w.heap.size w w1) (hr : Kd.R k48 48 w1 w.heap.size (fun _=>True) vn' ds') : SQ w0 w1 fc g2 v6 T v10 l vn' ds' :=
 have h':=h.below hb
 ⟨h'.fl,h'.tb,h'.qu,Kd.R_lower (Kd.R_mono (Kd.R_bound hr) (fun k hk=>⟨trivial,fun e=>by have:=Kd.R_lt h.qu k e.symm;have:=hk.2.1;omega⟩)) h.bl.size,h'.bl⟩
end
end Go.Proofs.Ytbpccdbkaiigcaa.G

-- Written by wip/tools/gen.py out of the translation (the kit's printer, one namespace a seat). Lean checks it.
namespace Go.Proofs.Ytbpccdbkaiigcaa.G
open Go.RowKit Go.Proofs.YtbpccdbkaiigcaaW.PrintWords Go.Proofs.YtbpccdbkaiigcaaW.PrintLast Go.Proofs.YtbpccdbkaiigcaaW.PrintMore
attribute [local go_sem] max2_int min2_int max_two min_two max_three min_three max_four min_four   -- for this text's walks alone
set_option linter.unusedVariables false
set_option linter.unusedSimpArgs false

/-! ### spec_l16Asked: function 63 -/
def spec_l16Asked.f (k:Nat) (a0_0:Int) (a0_1:Int) (l0_2:List (S48)) (a1_0:Int) (a1_1:Int) (a2_0:Int) (a2_1:Int):Option (Bool):=(spec_l16Good.f k a0_0 a0_1 l0_2).bind fun t380=>(if t380 = true then ((spec_l16Free.f k a0_0 a0_1 l0_2 a1_0 a1_1).bind fun t381=>(if t381 = true then ((spec_l16Free.f k a0_0 a0_1 l0_2 a2_0 a2_1).bind fun t382=>(some t382)) else (some false))) else (some false))
set_option maxHeartbeats 8000000 in
set_option maxRecDepth 100000 in
theorem spec_l16Asked.calls (k:Nat) (a0_0:Int) (a0_1:Int) (A0_2:Option Addr) (c0_2:Nat) (l0_2:List (S48)) (a1_0:Int) (a1_1:Int) (a2_0:Int) (a2_1:Int) (r:Bool) (w:World) (hr0_2:Kd.C k48 w A0_2 l0_2.length l0_2) (hc0_2:l0_2.length ≤ c0_2) (h:spec_l16Asked.f k a0_0 a0_1 l0_2 a1_0 a1_1 a2_0 a2_1 = some r) :
  Calls Try.prog 63 #[.agg #[.int .i64 a0_0,.int .i64 a0_1,.slice A0_2 l0_2.length c0_2],.agg #[.int .i64 a1_0,.int .i64 a1_1],.agg #[.int .i64 a2_0,.int .i64 a2_1]] w fun e w'=>e = .returned (.bool r) ∧ Below w.heap.size w w':=by
 have hu29:=Try.underlying29;have hu48:=Try.underlying48;have HR0_2:=zM hr0_2;have HC0_2:=zM hc0_2;clear hr0_2 hc0_2;have HB:=zM (Below.refl w.heap.size w);have H:((spec_l16Good.f k a0_0 a0_1 l0_2).bind fun t380=>(if t380 = true then ((spec_l16Free.f k a0_0 a0_1 l0_2 a1_0 a1_1).bind fun t381=>(if t381 = true then ((spec_l16Free.f k a0_0 a0_1 l0_2 a2_0 a2_1).bind fun t382=>(some t382)) else (some false))) else (some false))) = some r:=h
 clear h;replace H:=Option.bind_eq_some_iff.mp H;obtain ⟨t380,A40,H⟩:=H;replace H:(if t380 = true then ((spec_l16Free.f k a0_0 a0_1 l0_2 a1_0 a1_1).bind fun t381=>(if t381 = true then ((spec_l16Free.f k a0_0 a0_1 l0_2 a2_0 a2_1).bind fun t382=>(some t382)) else (some false))) else (some false)) = some r:=H
 have A4:=zM A40;clear A40;by_cases c5:t380 = true
 ·subst c5
  have H1:((spec_l16Free.f k a0_0 a0_1 l0_2 a1_0 a1_1).bind fun t381=>(if t381 = true then ((spec_l16Free.f k a0_0 a0_1 l0_2 a2_0 a2_1).bind fun t382=>(some t382)) else (some false))) = some r:=by rw [if_pos rfl] at H;exact H
  clear H;have H:=H1;clear H1;replace H:=Option.bind_eq_some_iff.mp H;obtain ⟨t381,A60,H⟩:=H;replace H:(if t381 = true then ((spec_l16Free.f k a0_0 a0_1 l0_2 a2_0 a2_1).bind fun t382=>(some t382)) else (some false)) = some r:=H
  have A6:=zM A60;clear A60;by_cases c7:t381 = true
  ·subst c7
   have H1:((spec_l16Free.f k a0_0 a0_1 l0_2 a2_0 a2_1).bind fun t382=>(some t382)) = some r:=by rw [if_pos rfl] at H;exact H
   clear H;have H:=H1;clear H1;replace H:=Option.bind_eq_some_iff.mp H;obtain ⟨t382,A80,H⟩:=H;replace H:(some t382) = some r:=H
   have A8:=zM A80;clear A80;obtain rfl:=Option.some.inj H;go_enter Try.func63,Try.ntmps63
   go_wp2_with (first|((with_reducible refine gate_dst (N:=3) rfl ?_);refine box_event ?hg (N:=3) ?hd (cs := #[.int .i64 a0_0,.int .i64 a0_1,.slice A0_2 l0_2.length c0_2]) (t:=29) ?hr ?_;(case hd=>rfl);(case hg=>rfl);(case hr=>first|(go_simp;done)|(go_simp;rfl));intro gb377 hg w9 hbox hb;have n0_:=zM (zQ (by repeat (first|(with_reducible first|exact HB.out|apply zD|apply zE|apply zF)|exact HB.out)) hb);have n1_:=zM (hbox);have n2_:=zM ((by rw [hg];exact (zR (by repeat (first|(with_reducible first|exact HB.out|apply zD|apply zE|apply zF)|exact HB.out))):w.heap.size ≤ gb377));have n3_:=zM ((by rw [hg];exact (zR (by repeat (first|(with_reducible first|exact HB.out|apply zD|apply zE|apply zF)|exact HB.out))):w.heap.size ≤ gb377));clear HB;have HB:=n0_;have BK377:=n1_;have GW377:=n2_;have GE377:=n3_;clear n0_ n1_ n2_ n3_;clear hb hbox hg)|((with_reducible refine gate_dst (N:=4) rfl ?_);refine box_event ?hg (N:=4) ?hd (cs := #[.int .i64 a1_0,.int .i64 a1_1]) (t:=48) ?hr ?_;(case hd=>rfl);(case hg=>rfl);(case hr=>first|(go_simp;done)|(go_simp;rfl));intro gb378 hg w10 hbox hb;have n0_:=zM (blk_below (g:=gb377) (o := .cells #[.int .i64 a0_0,.int .i64 a0_1,.slice A0_2 l0_2.length c0_2] 29 (0,0)) (by (with_reducible repeat (first|refine zJ ?_ _|refine zK ?_|refine zL ?_ _));exact BK377.out) hb);have n1_:=zM (zQ (by repeat (first|(with_reducible first|exact HB.out|apply zD|apply zE|apply zF|refine below_set ?_ GE377.out)|exact HB.out)) hb);have n2_:=zM (hbox);have n3_:=zM ((by rw [hg];exact (zR (by repeat (first|(with_reducible first|exact HB.out|apply zD|apply zE|apply zF|refine below_set ?_ GE377.out)|exact HB.out))):w.heap.size ≤ gb378));have n4_:=zM ((by rw [hg];exact (zR (by repeat (first|(with_reducible first|exact HB.out|apply zD|apply zE|apply zF|refine below_set ?_ GE377.out)|exact HB.out))):w.heap.size ≤ gb378));have n5_:=zM ((by rw [hg];exact Nat.ne_of_lt (blk_lt (g:=gb377) (o := .cells #[.int .i64 a0_0,.int .i64 a0_1,.slice A0_2 l0_2.length c0_2] 29 (0,0)) (by (with_reducible repeat (first|refine zJ ?_ _|refine zK ?_|refine zL ?_ _));exact BK377.out)):gb377 ≠ gb378));have n6_:=zM ((by rw [hg];exact Nat.ne_of_gt (blk_lt (g:=gb377) (o := .cells #[.int .i64 a0_0,.int .i64 a0_1,.slice A0_2 l0_2.length c0_2] 29 (0,0)) (by (with_reducible repeat (first|refine zJ ?_ _|refine zK ?_|refine zL ?_ _));exact BK377.out)):gb378 ≠ gb377));clear BK377;clear HB;have BK377:=n0_;have HB:=n1_;have BK378:=n2_;have GW378:=n3_;have GE378:=n4_;have NB377_378:=n5_;have NB378_377:=n6_;clear n0_ n1_ n2_ n3_ n4_ n5_ n6_;clear hb hbox hg)|((with_reducible refine gate_dst (N:=5) rfl ?_);refine box_event ?hg (N:=5) ?hd (cs := #[.int .i64 a2_0,.int .i64 a2_1]) (t:=48) ?hr ?_;(case hd=>rfl);(case hg=>rfl);(case hr=>first|(go_simp;done)|(go_simp;rfl));intro gb379 hg w11 hbox hb;have n0_:=zM (blk_below (g:=gb377) (o := .cells #[.int .i64 a0_0,.int .i64 a0_1,.slice A0_2 l0_2.length c0_2] 29 (0,0)) (by (with_reducible repeat (first|refine zJ ?_ _|refine zK ?_|refine zL ?_ _));exact BK377.out) hb);have n1_:=zM (blk_below (g:=gb378) (o := .cells #[.int .i64 a1_0,.int .i64 a1_1] 48 (0,0)) (by (with_reducible repeat (first|refine zJ ?_ _|refine zK ?_|refine zL ?_ _));exact BK378.out) hb);have n2_:=zM (zQ (by repeat (first|(with_reducible first|exact HB.out|apply zD|apply zE|apply zF|refine below_set ?_ GE377.out|refine below_set ?_ GE378.out)|exact HB.out)) hb);have n3_:=zM (hbox);have n4_:=zM ((by rw [hg];exact (zR (by repeat (first|(with_reducible first|exact HB.out|apply zD|apply zE|apply zF|refine below_set ?_ GE377.out|refine below_set ?_ GE378.out)|exact HB.out))):w.heap.size ≤ gb379));have n5_:=zM ((by rw [hg];exact (zR (by repeat (first|(with_reducible first|exact HB.out|apply zD|apply zE|apply zF|refine below_set ?_ GE377.out|refine below_set ?_ GE378.out)|exact HB.out))):w.heap.size ≤ gb379));have n6_:=zM ((by rw [hg];exact Nat.ne_of_lt (blk_lt (g:=gb377) (o := .cells #[.int .i64 a0_0,.int .i64 a0_1,.slice A0_2 l0_2.length c0_2] 29 (0,0)) (by (with_reducible repeat (first|refine zJ ?_ _|refine zK ?_|refine zL ?_ _));exact BK377.out)):gb377 ≠ gb379));have n7_:=zM ((by rw [hg];exact Nat.ne_of_gt (blk_lt (g:=gb377) (o := .cells #[.int .i64 a0_0,.int .i64 a0_1,.slice A0_2 l0_2.length c0_2] 29 (0,0)) (by (with_reducible repeat (first|refine zJ ?_ _|refine zK ?_|refine zL ?_ _));exact BK377.out)):gb379 ≠ gb377));have n8_:=zM ((by rw [hg];exact Nat.ne_of_lt (blk_lt (g:=gb378) (o := .cells #[.int .i64 a1_0,.int .i64 a1_1] 48 (0,0)) (by (with_reducible repeat (first|refine zJ ?_ _|refine zK ?_|refine zL ?_ _));exact BK378.out)):gb378 ≠ gb379));have n9_:=zM ((by rw [hg];exact Nat.ne_of_gt (blk_lt (g:=gb378) (o := .cells #[.int .i64 a1_0,.int .i64 a1_1] 48 (0,0)) (by (with_reducible repeat (first|refine zJ ?_ _|refine zK ?_|refine zL ?_ _));exact BK378.out)):gb379 ≠ gb378));clear BK377;clear BK378;clear HB;have BK377:=n0_;have BK378:=n1_;have HB:=n2_;have BK379:=n3_;have GW379:=n4_;have GE379:=n5_;have NB377_379:=n6_;have NB379_377:=n7_;have NB378_379:=n8_;have NB379_378:=n9_;clear n0_ n1_ n2_ n3_ n4_ n5_ n6_ n7_ n8_ n9_;clear hb hbox hg;have hnb12:=NB377_378.out;have hnc12:=NB378_377.out;have hnb13:=NB377_379.out;have hnc13:=NB379_377.out;have hcz14_0:w11.cell? ⟨gb377,0,none⟩ = some (.int .i64 a0_0):=(blk_cell BK377.out 0).trans rfl;have hcz14_1:w11.cell? ⟨gb377,1,none⟩ = some (.int .i64 a0_1):=(blk_cell BK377.out 1).trans rfl;have hcz14_2:w11.cell? ⟨gb377,2,none⟩ = some (.slice A0_2 l0_2.length c0_2):=(blk_cell BK377.out 2).trans rfl;have hfz14_0:=blk_frozen BK377.out 0;have hfz14_1:=blk_frozen BK377.out 1;have hfz14_2:=blk_frozen BK377.out 2)|((with_reducible refine gate_callee (f:=53) rfl ?_);refine goesL_ (some 8) rfl rfl Try.func53 (by kernel_rfl) rfl #[.agg #[.int .i64 a0_0,.int .i64 a0_1,.slice A0_2 l0_2.length c0_2]] rfl (by (try simp only [List.map_toArray,List.map_cons,List.map_nil]);first|done|rfl|(simp only [List.length_drop,List.length_take];rfl)) ?_;(with_reducible refine (spec_l16Good.calls k a0_0 a0_1 _ _ l0_2 true _ ?side1 ?side2 A4.out).mono ?_);(case side1=>repeat (first|exact (zO HR0_2.out HB.out)|(with_reducible first|refine zG ?_ _|refine zH ?_ _|refine zI ?_)));(case side2=>exact HC0_2.out);rintro e w15 ⟨rfl,hb⟩;refine ⟨_,rfl,?_⟩;have n0_:=zM (blk_below (g:=gb377) (o := .cells #[.int .i64 a0_0,.int .i64 a0_1,.slice A0_2 l0_2.length c0_2] 29 (0,0)) (by (with_reducible repeat (first|refine zJ ?_ _|refine zK ?_|refine zL ?_ _));exact BK377.out) hb);have n1_:=zM (blk_below (g:=gb378) (o := .cells #[.int .i64 a1_0,.int .i64 a1_1] 48 (0,0)) (by (with_reducible repeat (first|refine zJ ?_ _|refine zK ?_|refine zL ?_ _));exact BK378.out) hb);have n2_:=zM (blk_below (g:=gb379) (o := .cells #[.int .i64 a2_0,.int .i64 a2_1] 48 (0,0)) (by (with_reducible repeat (first|refine zJ ?_ _|refine zK ?_|refine zL ?_ _));exact BK379.out) hb);have n3_:=zM (zQ (by repeat (first|(with_reducible first|exact HB.out|apply zD|apply zE|apply zF|refine below_set ?_ GE377.out|refine below_set ?_ GE378.out|refine below_set ?_ GE379.out)|exact HB.out)) hb);clear BK377;clear BK378;clear BK379;clear HB;have BK377:=n0_;have BK378:=n1_;have BK379:=n2_;have HB:=n3_;clear n0_ n1_ n2_ n3_;(try clear hb);(try clear hb2);(try clear hk);(try clear hi);have hcz16_0:w15.cell? ⟨gb377,0,none⟩ = some (.int .i64 a0_0):=(blk_cell BK377.out 0).trans rfl;have hcz16_1:w15.cell? ⟨gb377,1,none⟩ = some (.int .i64 a0_1):=(blk_cell BK377.out 1).trans rfl;have hcz16_2:w15.cell? ⟨gb377,2,none⟩ = some (.slice A0_2 l0_2.length c0_2):=(blk_cell BK377.out 2).trans rfl;have hfz16_0:=blk_frozen BK377.out 0;have hfz16_1:=blk_frozen BK377.out 1;have hfz16_2:=blk_frozen BK377.out 2;have hnb17:=NB378_379.out;have hnc17:=NB379_378.out;have hcz18_0:w15.cell? ⟨gb378,0,none⟩ = some (.int .i64 a1_0):=(blk_cell BK378.out 0).trans rfl;have hcz18_1:w15.cell? ⟨gb378,1,none⟩ = some (.int .i64 a1_1):=(blk_cell BK378.out 1).trans rfl;have hfz18_0:=blk_frozen BK378.out 0;have hfz18_1:=blk_frozen BK378.out 1)|(go_at_call 82;(with_reducible refine (spec_l16Free.calls k a0_0 a0_1 _ _ l0_2 a1_0 a1_1 true _ ?side1 ?side2 A6.out).mono ?_);(case side1=>repeat (first|exact (zO HR0_2.out HB.out)|(with_reducible first|refine zG ?_ _|refine zH ?_ _|refine zI ?_)));(case side2=>exact HC0_2.out);rintro e w19 ⟨rfl,hb⟩;have n0_:=zM (blk_below (g:=gb377) (o := .cells #[.int .i64 a0_0,.int .i64 a0_1,.slice A0_2 l0_2.length c0_2] 29 (0,0)) (by (with_reducible repeat (first|refine zJ ?_ _|refine zK ?_|refine zL ?_ _));exact BK377.out) hb);have n1_:=zM (blk_below (g:=gb378) (o := .cells #[.int .i64 a1_0,.int .i64 a1_1] 48 (0,0)) (by (with_reducible repeat (first|refine zJ ?_ _|refine zK ?_|refine zL ?_ _));exact BK378.out) hb);have n2_:=zM (blk_below (g:=gb379) (o := .cells #[.int .i64 a2_0,.int .i64 a2_1] 48 (0,0)) (by (with_reducible repeat (first|refine zJ ?_ _|refine zK ?_|refine zL ?_ _));exact BK379.out) hb);have n3_:=zM (zQ (by repeat (first|(with_reducible first|exact HB.out|apply zD|apply zE|apply zF|refine below_set ?_ GE377.out|refine below_set ?_ GE378.out|refine below_set ?_ GE379.out)|exact HB.out)) hb);clear BK377;clear BK378;clear BK379;clear HB;have BK377:=n0_;have BK378:=n1_;have BK379:=n2_;have HB:=n3_;clear n0_ n1_ n2_ n3_;(try clear hb);(try clear hb2);(try clear hk);(try clear hi);have hcz20_0:w19.cell? ⟨gb377,0,none⟩ = some (.int .i64 a0_0):=(blk_cell BK377.out 0).trans rfl;have hcz20_1:w19.cell? ⟨gb377,1,none⟩ = some (.int .i64 a0_1):=(blk_cell BK377.out 1).trans rfl;have hcz20_2:w19.cell? ⟨gb377,2,none⟩ = some (.slice A0_2 l0_2.length c0_2):=(blk_cell BK377.out 2).trans rfl;have hfz20_0:=blk_frozen BK377.out 0;have hfz20_1:=blk_frozen BK377.out 1;have hfz20_2:=blk_frozen BK377.out 2;have hcz21_0:w19.cell? ⟨gb379,0,none⟩ = some (.int .i64 a2_0):=(blk_cell BK379.out 0).trans rfl;have hcz21_1:w19.cell? ⟨gb379,1,none⟩ = some (.int .i64 a2_1):=(blk_cell BK379.out 1).trans rfl;have hfz21_0:=blk_frozen BK379.out 0;have hfz21_1:=blk_frozen BK379.out 1)|(go_at_call 82;(with_reducible refine (spec_l16Free.calls k a0_0 a0_1 _ _ l0_2 a2_0 a2_1 t382 _ ?side1 ?side2 A8.out).mono ?_);(case side1=>repeat (first|exact (zO HR0_2.out HB.out)|(with_reducible first|refine zG ?_ _|refine zH ?_ _|refine zI ?_)));(case side2=>exact HC0_2.out);rintro e w22 ⟨rfl,hb⟩;have n0_:=zM (blk_below (g:=gb377) (o := .cells #[.int .i64 a0_0,.int .i64 a0_1,.slice A0_2 l0_2.length c0_2] 29 (0,0)) (by (with_reducible repeat (first|refine zJ ?_ _|refine zK ?_|refine zL ?_ _));exact BK377.out) hb);have n1_:=zM (blk_below (g:=gb378) (o := .cells #[.int .i64 a1_0,.int .i64 a1_1] 48 (0,0)) (by (with_reducible repeat (first|refine zJ ?_ _|refine zK ?_|refine zL ?_ _));exact BK378.out) hb);have n2_:=zM (blk_below (g:=gb379) (o := .cells #[.int .i64 a2_0,.int .i64 a2_1] 48 (0,0)) (by (with_reducible repeat (first|refine zJ ?_ _|refine zK ?_|refine zL ?_ _));exact BK379.out) hb);have n3_:=zM (zQ (by repeat (first|(with_reducible first|exact HB.out|apply zD|apply zE|apply zF|refine below_set ?_ GE377.out|refine below_set ?_ GE378.out|refine below_set ?_ GE379.out)|exact HB.out)) hb);clear BK377;clear BK378;clear BK379;clear HB;have BK377:=n0_;have BK378:=n1_;have BK379:=n2_;have HB:=n3_;clear n0_ n1_ n2_ n3_;(try clear hb);(try clear hb2);(try clear hk);(try clear hi)))
   go_ret
   exact ⟨by first|rfl|(simp [errW_none,errW_some] <;> rfl)|(simp [*,errW_none,errW_some] <;> rfl),by repeat (first|(with_reducible first|exact HB.out|apply zD|apply zE|apply zF|refine below_set ?_ GE377.out|refine below_set ?_ GE378.out|refine below_set ?_ GE379.out)|exact HB.out)⟩
  ·replace c7:=Bool.eq_false_iff.mpr c7
   subst c7;have H1:(some false) = some r:=by rw [if_neg (show ¬ (false = true) by decide)] at H;exact H
   clear H;have H:=H1;clear H1;obtain rfl:=Option.some.inj H;go_enter Try.func63,Try.ntmps63
   go_wp2_with (first|((with_reducible refine gate_dst (N:=3) rfl ?_);refine box_event ?hg (N:=3) ?hd (cs := #[.int .i64 a0_0,.int .i64 a0_1,.slice A0_2 l0_2.length c0_2]) (t:=29) ?hr ?_;(case hd=>rfl);(case hg=>rfl);(case hr=>first|(go_simp;done)|(go_simp;rfl));intro gb377 hg w23 hbox hb;have n0_:=zM (zQ (by repeat (first|(with_reducible first|exact HB.out|apply zD|apply zE|apply zF)|exact HB.out)) hb);have n1_:=zM (hbox);have n2_:=zM ((by rw [hg];exact (zR (by repeat (first|(with_reducible first|exact HB.out|apply zD|apply zE|apply zF)|exact HB.out))):w.heap.size ≤ gb377));have n3_:=zM ((by rw [hg];exact (zR (by repeat (first|(with_reducible first|exact HB.out|apply zD|apply zE|apply zF)|exact HB.out))):w.heap.size ≤ gb377));clear HB;have HB:=n0_;have BK377:=n1_;have GW377:=n2_;have GE377:=n3_;clear n0_ n1_ n2_ n3_;clear hb hbox hg)|((with_reducible refine gate_dst (N:=4) rfl ?_);refine box_event ?hg (N:=4) ?hd (cs := #[.int .i64 a1_0,.int .i64 a1_1]) (t:=48) ?hr ?_;(case hd=>rfl);(case hg=>rfl);(case hr=>first|(go_simp;done)|(go_simp;rfl));intro gb378 hg w24 hbox hb;have n0_:=zM (blk_below (g:=gb377) (o := .cells #[.int .i64 a0_0,.int .i64 a0_1,.slice A0_2 l0_2.length c0_2] 29 (0,0)) (by (with_reducible repeat (first|refine zJ ?_ _|refine zK ?_|refine zL ?_ _));exact BK377.out) hb);have n1_:=zM (zQ (by repeat (first|(with_reducible first|exact HB.out|apply zD|apply zE|apply zF|refine below_set ?_ GE377.out)|exact HB.out)) hb);have n2_:=zM (hbox);have n3_:=zM ((by rw [hg];exact (zR (by repeat (first|(with_reducible first|exact HB.out|apply zD|apply zE|apply zF|refine below_set ?_ GE377.out)|exact HB.out))):w.heap.size ≤ gb378));have n4_:=zM ((by rw [hg];exact (zR (by repeat (first|(with_reducible first|exact HB.out|apply zD|apply zE|apply zF|refine below_set ?_ GE377.out)|exact HB.out))):w.heap.size ≤ gb378));have n5_:=zM ((by rw [hg];exact Nat.ne_of_lt (blk_lt (g:=gb377) (o := .cells #[.int .i64 a0_0,.int .i64 a0_1,.slice A0_2 l0_2.length c0_2] 29 (0,0)) (by (with_reducible repeat (first|refine zJ ?_ _|refine zK ?_|refine zL ?_ _));exact BK377.out)):gb377 ≠ gb378));have n6_:=zM ((by rw [hg];exact Nat.ne_of_gt (blk_lt (g:=gb377) (o := .cells #[.int .i64 a0_0,.int .i64 a0_1,.slice A0_2 l0_2.length c0_2] 29 (0,0)) (by (with_reducible repeat (first|refine zJ ?_ _|refine zK ?_|refine zL ?_ _));exact BK377.out)):gb378 ≠ gb377));clear BK377;clear HB;have BK377:=n0_;have HB:=n1_;have BK378:=n2_;have GW378:=n3_;have GE378:=n4_;have NB377_378:=n5_;have NB378_377:=n6_;clear n0_ n1_ n2_ n3_ n4_ n5_ n6_;clear hb hbox hg)|((with_reducible refine gate_dst (N:=5) rfl ?_);refine box_event ?hg (N:=5) ?hd (cs := #[.int .i64 a2_0,.int .i64 a2_1]) (t:=48) ?hr ?_;(case hd=>rfl);(case hg=>rfl);(case hr=>first|(go_simp;done)|(go_simp;rfl));intro gb379 hg w25 hbox hb;have n0_:=zM (blk_below (g:=gb377) (o := .cells #[.int .i64 a0_0,.int .i64 a0_1,.slice A0_2 l0_2.length c0_2] 29 (0,0)) (by (with_reducible repeat (first|refine zJ ?_ _|refine zK ?_|refine zL ?_ _));exact BK377.out) hb);have n1_:=zM (blk_below (g:=gb378) (o := .cells #[.int .i64 a1_0,.int .i64 a1_1] 48 (0,0)) (by (with_reducible repeat (first|refine zJ ?_ _|refine zK ?_|refine zL ?_ _));exact BK378.out) hb);have n2_:=zM (zQ (by repeat (first|(with_reducible first|exact HB.out|apply zD|apply zE|apply zF|refine below_set ?_ GE377.out|refine below_set ?_ GE378.out)|exact HB.out)) hb);have n3_:=zM (hbox);have n4_:=zM ((by rw [hg];exact (zR (by repeat (first|(with_reducible first|exact HB.out|apply zD|apply zE|apply zF|refine below_set ?_ GE377.out|refine below_set ?_ GE378.out)|exact HB.out))):w.heap.size ≤ gb379));have n5_:=zM ((by rw [hg];exact (zR (by repeat (first|(with_reducible first|exact HB.out|apply zD|apply zE|apply zF|refine below_set ?_ GE377.out|refine below_set ?_ GE378.out)|exact HB.out))):w.heap.size ≤ gb379));have n6_:=zM ((by rw [hg];exact Nat.ne_of_lt (blk_lt (g:=gb377) (o := .cells #[.int .i64 a0_0,.int .i64 a0_1,.slice A0_2 l0_2.length c0_2] 29 (0,0)) (by (with_reducible repeat (first|refine zJ ?_ _|refine zK ?_|refine zL ?_ _));exact BK377.out)):gb377 ≠ gb379));have n7_:=zM ((by rw [hg];exact Nat.ne_of_gt (blk_lt (g:=gb377) (o := .cells #[.int .i64 a0_0,.int .i64 a0_1,.slice A0_2 l0_2.length c0_2] 29 (0,0)) (by (with_reducible repeat (first|refine zJ ?_ _|refine zK ?_|refine zL ?_ _));exact BK377.out)):gb379 ≠ gb377));have n8_:=zM ((by rw [hg];exact Nat.ne_of_lt (blk_lt (g:=gb378) (o := .cells #[.int .i64 a1_0,.int .i64 a1_1] 48 (0,0)) (by (with_reducible repeat (first|refine zJ ?_ _|refine zK ?_|refine zL ?_ _));exact BK378.out)):gb378 ≠ gb379));have n9_:=zM ((by rw [hg];exact Nat.ne_of_gt (blk_lt (g:=gb378) (o := .cells #[.int .i64 a1_0,.int .i64 a1_1] 48 (0,0)) (by (with_reducible repeat (first|refine zJ ?_ _|refine zK ?_|refine zL ?_ _));exact BK378.out)):gb379 ≠ gb378));clear BK377;clear BK378;clear HB;have BK377:=n0_;have BK378:=n1_;have HB:=n2_;have BK379:=n3_;have GW379:=n4_;have GE379:=n5_;have NB377_379:=n6_;have NB379_377:=n7_;have NB378_379:=n8_;have NB379_378:=n9_;clear n0_ n1_ n2_ n3_ n4_ n5_ n6_ n7_ n8_ n9_;clear hb hbox hg;have hnb26:=NB377_378.out;have hnc26:=NB378_377.out;have hnb27:=NB377_379.out;have hnc27:=NB379_377.out;have hcz28_0:w25.cell? ⟨gb377,0,none⟩ = some (.int .i64 a0_0):=(blk_cell BK377.out 0).trans rfl;have hcz28_1:w25.cell? ⟨gb377,1,none⟩ = some (.int .i64 a0_1):=(blk_cell BK377.out 1).trans rfl;have hcz28_2:w25.cell? ⟨gb377,2,none⟩ = some (.slice A0_2 l0_2.length c0_2):=(blk_cell BK377.out 2).trans rfl;have hfz28_0:=blk_frozen BK377.out 0;have hfz28_1:=blk_frozen BK377.out 1;have hfz28_2:=blk_frozen BK377.out 2)|((with_reducible refine gate_callee (f:=53) rfl ?_);refine goesL_ (some 8) rfl rfl Try.func53 (by kernel_rfl) rfl #[.agg #[.int .i64 a0_0,.int .i64 a0_1,.slice A0_2 l0_2.length c0_2]] rfl (by (try simp only [List.map_toArray,List.map_cons,List.map_nil]);first|done|rfl|(simp only [List.length_drop,List.length_take];rfl)) ?_;(with_reducible refine (spec_l16Good.calls k a0_0 a0_1 _ _ l0_2 true _ ?side1 ?side2 A4.out).mono ?_);(case side1=>repeat (first|exact (zO HR0_2.out HB.out)|(with_reducible first|refine zG ?_ _|refine zH ?_ _|refine zI ?_)));(case side2=>exact HC0_2.out);rintro e w29 ⟨rfl,hb⟩;refine ⟨_,rfl,?_⟩;have n0_:=zM (blk_below (g:=gb377) (o := .cells #[.int .i64 a0_0,.int .i64 a0_1,.slice A0_2 l0_2.length c0_2] 29 (0,0)) (by (with_reducible repeat (first|refine zJ ?_ _|refine zK ?_|refine zL ?_ _));exact BK377.out) hb);have n1_:=zM (blk_below (g:=gb378) (o := .cells #[.int .i64 a1_0,.int .i64 a1_1] 48 (0,0)) (by (with_reducible repeat (first|refine zJ ?_ _|refine zK ?_|refine zL ?_ _));exact BK378.out) hb);have n2_:=zM (blk_below (g:=gb379) (o := .cells #[.int .i64 a2_0,.int .i64 a2_1] 48 (0,0)) (by (with_reducible repeat (first|refine zJ ?_ _|refine zK ?_|refine zL ?_ _));exact BK379.out) hb);have n3_:=zM (zQ (by repeat (first|(with_reducible first|exact HB.out|apply zD|apply zE|apply zF|refine below_set ?_ GE377.out|refine below_set ?_ GE378.out|refine below_set ?_ GE379.out)|exact HB.out)) hb);clear BK377;clear BK378;clear BK379;clear HB;have BK377:=n0_;have BK378:=n1_;have BK379:=n2_;have HB:=n3_;clear n0_ n1_ n2_ n3_;(try clear hb);(try clear hb2);(try clear hk);(try clear hi);have hcz30_0:w29.cell? ⟨gb377,0,none⟩ = some (.int .i64 a0_0):=(blk_cell BK377.out 0).trans rfl;have hcz30_1:w29.cell? ⟨gb377,1,none⟩ = some (.int .i64 a0_1):=(blk_cell BK377.out 1).trans rfl;have hcz30_2:w29.cell? ⟨gb377,2,none⟩ = some (.slice A0_2 l0_2.length c0_2):=(blk_cell BK377.out 2).trans rfl;have hfz30_0:=blk_frozen BK377.out 0;have hfz30_1:=blk_frozen BK377.out 1;have hfz30_2:=blk_frozen BK377.out 2;have hnb31:=NB378_379.out;have hnc31:=NB379_378.out;have hcz32_0:w29.cell? ⟨gb378,0,none⟩ = some (.int .i64 a1_0):=(blk_cell BK378.out 0).trans rfl;have hcz32_1:w29.cell? ⟨gb378,1,none⟩ = some (.int .i64 a1_1):=(blk_cell BK378.out 1).trans rfl;have hfz32_0:=blk_frozen BK378.out 0;have hfz32_1:=blk_frozen BK378.out 1)|(go_at_call 82;(with_reducible refine (spec_l16Free.calls k a0_0 a0_1 _ _ l0_2 a1_0 a1_1 false _ ?side1 ?side2 A6.out).mono ?_);(case side1=>repeat (first|exact (zO HR0_2.out HB.out)|(with_reducible first|refine zG ?_ _|refine zH ?_ _|refine zI ?_)));(case side2=>exact HC0_2.out);rintro e w33 ⟨rfl,hb⟩;have n0_:=zM (blk_below (g:=gb377) (o := .cells #[.int .i64 a0_0,.int .i64 a0_1,.slice A0_2 l0_2.length c0_2] 29 (0,0)) (by (with_reducible repeat (first|refine zJ ?_ _|refine zK ?_|refine zL ?_ _));exact BK377.out) hb);have n1_:=zM (blk_below (g:=gb378) (o := .cells #[.int .i64 a1_0,.int .i64 a1_1] 48 (0,0)) (by (with_reducible repeat (first|refine zJ ?_ _|refine zK ?_|refine zL ?_ _));exact BK378.out) hb);have n2_:=zM (blk_below (g:=gb379) (o := .cells #[.int .i64 a2_0,.int .i64 a2_1] 48 (0,0)) (by (with_reducible repeat (first|refine zJ ?_ _|refine zK ?_|refine zL ?_ _));exact BK379.out) hb);have n3_:=zM (zQ (by repeat (first|(with_reducible first|exact HB.out|apply zD|apply zE|apply zF|refine below_set ?_ GE377.out|refine below_set ?_ GE378.out|refine below_set ?_ GE379.out)|exact HB.out)) hb);clear BK377;clear BK378;clear BK379;clear HB;have BK377:=n0_;have BK378:=n1_;have BK379:=n2_;have HB:=n3_;clear n0_ n1_ n2_ n3_;(try clear hb);(try clear hb2);(try clear hk);(try clear hi)))
   go_ret
   exact ⟨by first|rfl|(simp [errW_none,errW_some] <;> rfl)|(simp [*,errW_none,errW_some] <;> rfl),by repeat (first|(with_reducible first|exact HB.out|apply zD|apply zE|apply zF|refine below_set ?_ GE377.out|refine below_set ?_ GE378.out|refine below_set ?_ GE379.out)|exact HB.out)⟩
 ·replace c5:=Bool.eq_false_iff.mpr c5
  subst c5;have H1:(some false) = some r:=by rw [if_neg (show ¬ (false = true) by decide)] at H;exact H
  clear H;have H:=H1;clear H1;obtain rfl:=Option.some.inj H;go_enter Try.func63,Try.ntmps63
  go_wp2_with (first|((with_reducible refine gate_dst (N:=3) rfl ?_);refine box_event ?hg (N:=3) ?hd (cs := #[.int .i64 a0_0,.int .i64 a0_1,.slice A0_2 l0_2.length c0_2]) (t:=29) ?hr ?_;(case hd=>rfl);(case hg=>rfl);(case hr=>first|(go_simp;done)|(go_simp;rfl));intro gb377 hg w34 hbox hb;have n0_:=zM (zQ (by repeat (first|(with_reducible first|exact HB.out|apply zD|apply zE|apply zF)|exact HB.out)) hb);have n1_:=zM (hbox);have n2_:=zM ((by rw [hg];exact (zR (by repeat (first|(with_reducible first|exact HB.out|apply zD|apply zE|apply zF)|exact HB.out))):w.heap.size ≤ gb377));have n3_:=zM ((by rw [hg];exact (zR (by repeat (first|(with_reducible first|exact HB.out|apply zD|apply zE|apply zF)|exact HB.out))):w.heap.size ≤ gb377));clear HB;have HB:=n0_;have BK377:=n1_;have GW377:=n2_;have GE377:=n3_;clear n0_ n1_ n2_ n3_;clear hb hbox hg)|((with_reducible refine gate_dst (N:=4) rfl ?_);refine box_event ?hg (N:=4) ?hd (cs := #[.int .i64 a1_0,.int .i64 a1_1]) (t:=48) ?hr ?_;(case hd=>rfl);(case hg=>rfl);(case hr=>first|(go_simp;done)|(go_simp;rfl));intro gb378 hg w35 hbox hb;have n0_:=zM (blk_below (g:=gb377) (o := .cells #[.int .i64 a0_0,.int .i64 a0_1,.slice A0_2 l0_2.length c0_2] 29 (0,0)) (by (with_reducible repeat (first|refine zJ ?_ _|refine zK ?_|refine zL ?_ _));exact BK377.out) hb);have n1_:=zM (zQ (by repeat (first|(with_reducible first|exact HB.out|apply zD|apply zE|apply zF|refine below_set ?_ GE377.out)|exact HB.out)) hb);have n2_:=zM (hbox);have n3_:=zM ((by rw [hg];exact (zR (by repeat (first|(with_reducible first|exact HB.out|apply zD|apply zE|apply zF|refine below_set ?_ GE377.out)|exact HB.out))):w.heap.size ≤ gb378));have n4_:=zM ((by rw [hg];exact (zR (by repeat (first|(with_reducible first|exact HB.out|apply zD|apply zE|apply zF|refine below_set ?_ GE377.out)|exact HB.out))):w.heap.size ≤ gb378));have n5_:=zM ((by rw [hg];exact Nat.ne_of_lt (blk_lt (g:=gb377) (o := .cells #[.int .i64 a0_0,.int .i64 a0_1,.slice A0_2 l0_2.length c0_2] 29 (0,0)) (by (with_reducible repeat (first|refine zJ ?_ _|refine zK ?_|refine zL ?_ _));exact BK377.out)):gb377 ≠ gb378));have n6_:=zM ((by rw [hg];exact Nat.ne_of_gt (blk_lt (g:=gb377) (o := .cells #[.int .i64 a0_0,.int .i64 a0_1,.slice A0_2 l0_2.length c0_2] 29 (0,0)) (by (with_reducible repeat (first|refine zJ ?_ _|refine zK ?_|refine zL ?_ _));exact BK377.out)):gb378 ≠ gb377));clear BK377;clear HB;have BK377:=n0_;have HB:=n1_;have BK378:=n2_;have GW378:=n3_;have GE378:=n4_;have NB377_378:=n5_;have NB378_377:=n6_;clear n0_ n1_ n2_ n3_ n4_ n5_ n6_;clear hb hbox hg)|((with_reducible refine gate_dst (N:=5) rfl ?_);refine box_event ?hg (N:=5) ?hd (cs := #[.int .i64 a2_0,.int .i64 a2_1]) (t:=48) ?hr ?_;(case hd=>rfl);(case hg=>rfl);(case hr=>first|(go_simp;done)|(go_simp;rfl));intro gb379 hg w36 hbox hb;have n0_:=zM (blk_below (g:=gb377) (o := .cells #[.int .i64 a0_0,.int .i64 a0_1,.slice A0_2 l0_2.length c0_2] 29 (0,0)) (by (with_reducible repeat (first|refine zJ ?_ _|refine zK ?_|refine zL ?_ _));exact BK377.out) hb);have n1_:=zM (blk_below (g:=gb378) (o := .cells #[.int .i64 a1_0,.int .i64 a1_1] 48 (0,0)) (by (with_reducible repeat (first|refine zJ ?_ _|refine zK ?_|refine zL ?_ _));exact BK378.out) hb);have n2_:=zM (zQ (by repeat (first|(with_reducible first|exact HB.out|apply zD|apply zE|apply zF|refine below_set ?_ GE377.out|refine below_set ?_ GE378.out)|exact HB.out)) hb);have n3_:=zM (hbox);have n4_:=zM ((by rw [hg];exact (zR (by repeat (first|(with_reducible first|exact HB.out|apply zD|apply zE|apply zF|refine below_set ?_ GE377.out|refine below_set ?_ GE378.out)|exact HB.out))):w.heap.size ≤ gb379));have n5_:=zM ((by rw [hg];exact (zR (by repeat (first|(with_reducible first|exact HB.out|apply zD|apply zE|apply zF|refine below_set ?_ GE377.out|refine below_set ?_ GE378.out)|exact HB.out))):w.heap.size ≤ gb379));have n6_:=zM ((by rw [hg];exact Nat.ne_of_lt (blk_lt (g:=gb377) (o := .cells #[.int .i64 a0_0,.int .i64 a0_1,.slice A0_2 l0_2.length c0_2] 29 (0,0)) (by (with_reducible repeat (first|refine zJ ?_ _|refine zK ?_|refine zL ?_ _));exact BK377.out)):gb377 ≠ gb379));have n7_:=zM ((by rw [hg];exact Nat.ne_of_gt (blk_lt (g:=gb377) (o := .cells #[.int .i64 a0_0,.int .i64 a0_1,.slice A0_2 l0_2.length c0_2] 29 (0,0)) (by (with_reducible repeat (first|refine zJ ?_ _|refine zK ?_|refine zL ?_ _));exact BK377.out)):gb379 ≠ gb377));have n8_:=zM ((by rw [hg];exact Nat.ne_of_lt (blk_lt (g:=gb378) (o := .cells #[.int .i64 a1_0,.int .i64 a1_1] 48 (0,0)) (by (with_reducible repeat (first|refine zJ ?_ _|refine zK ?_|refine zL ?_ _));exact BK378.out)):gb378 ≠ gb379));have n9_:=zM ((by rw [hg];exact Nat.ne_of_gt (blk_lt (g:=gb378) (o := .cells #[.int .i64 a1_0,.int .i64 a1_1] 48 (0,0)) (by (with_reducible repeat (first|refine zJ ?_ _|refine zK ?_|refine zL ?_ _));exact BK378.out)):gb379 ≠ gb378));clear BK377;clear BK378;clear HB;have BK377:=n0_;have BK378:=n1_;have HB:=n2_;have BK379:=n3_;have GW379:=n4_;have GE379:=n5_;have NB377_379:=n6_;have NB379_377:=n7_;have NB378_379:=n8_;have NB379_378:=n9_;clear n0_ n1_ n2_ n3_ n4_ n5_ n6_ n7_ n8_ n9_;clear hb hbox hg;have hnb37:=NB377_378.out;have hnc37:=NB378_377.out;have hnb38:=NB377_379.out;have hnc38:=NB379_377.out;have hcz39_0:w36.cell? ⟨gb377,0,none⟩ = some (.int .i64 a0_0):=(blk_cell BK377.out 0).trans rfl;have hcz39_1:w36.cell? ⟨gb377,1,none⟩ = some (.int .i64 a0_1):=(blk_cell BK377.out 1).trans rfl;have hcz39_2:w36.cell? ⟨gb377,2,none⟩ = some (.slice A0_2 l0_2.length c0_2):=(blk_cell BK377.out 2).trans rfl;have hfz39_0:=blk_frozen BK377.out 0;have hfz39_1:=blk_frozen BK377.out 1;have hfz39_2:=blk_frozen BK377.out 2)|((with_reducible refine gate_callee (f:=53) rfl ?_);refine goesL_ (some 8) rfl rfl Try.func53 (by kernel_rfl) rfl #[.agg #[.int .i64 a0_0,.int .i64 a0_1,.slice A0_2 l0_2.length c0_2]] rfl (by (try simp only [List.map_toArray,List.map_cons,List.map_nil]);first|done|rfl|(simp only [List.length_drop,List.length_take];rfl)) ?_;(with_reducible refine (spec_l16Good.calls k a0_0 a0_1 _ _ l0_2 false _ ?side1 ?side2 A4.out).mono ?_);(case side1=>repeat (first|exact (zO HR0_2.out HB.out)|(with_reducible first|refine zG ?_ _|refine zH ?_ _|refine zI ?_)));(case side2=>exact HC0_2.out);rintro e w40 ⟨rfl,hb⟩;refine ⟨_,rfl,?_⟩;have n0_:=zM (blk_below (g:=gb377) (o := .cells #[.int .i64 a0_0,.int .i64 a0_1,.slice A0_2 l0_2.length c0_2] 29 (0,0)) (by (with_reducible repeat (first|refine zJ ?_ _|refine zK ?_|refine zL ?_ _));exact BK377.out) hb);have n1_:=zM (blk_below (g:=gb378) (o := .cells #[.int .i64 a1_0,.int .i64 a1_1] 48 (0,0)) (by (with_reducible repeat (first|refine zJ ?_ _|refine zK ?_|refine zL ?_ _));exact BK378.out) hb);have n2_:=zM (blk_below (g:=gb379) (o := .cells #[.int .i64 a2_0,.int .i64 a2_1] 48 (0,0)) (by (with_reducible repeat (first|refine zJ ?_ _|refine zK ?_|refine zL ?_ _));exact BK379.out) hb);have n3_:=zM (zQ (by repeat (first|(with_reducible first|exact HB.out|apply zD|apply zE|apply zF|refine below_set ?_ GE377.out|refine below_set ?_ GE378.out|refine below_set ?_ GE379.out)|exact HB.out)) hb);clear BK377;clear BK378;clear BK379;clear HB;have BK377:=n0_;have BK378:=n1_;have BK379:=n2_;have HB:=n3_;clear n0_ n1_ n2_ n3_;(try clear hb);(try clear hb2);(try clear hk);(try clear hi)))
  go_ret
  exact ⟨by first|rfl|(simp [errW_none,errW_some] <;> rfl)|(simp [*,errW_none,errW_some] <;> rfl),by repeat (first|(with_reducible first|exact HB.out|apply zD|apply zE|apply zF|refine below_set ?_ GE377.out|refine below_set ?_ GE378.out|refine below_set ?_ GE379.out)|exact HB.out)⟩



/-! ### spec_l16Next: function 64 -/
def spec_l16Next.l0:Nat → List (S48) → List (S48) → Int → Int → Int → List (S48) → Option ((List (S48)))
 | 0,_,_,_,_,_,_=>none
 | k + 1,x5,x6,x7,x384000,x384001,x384002=>if x7 < (x5.length:Int) then (if 0 ≤ x7 then ((spec_l16Free.f k x384000 x384001 x384002 ((rd_T48 x5 x7).f0) ((rd_T48 x5 x7).f1)).bind fun t392=>(if t392 = true then (if x6.length < 8796093022208 then (spec_l16Next.l0 k x5 (x6 ++ [(⟨(rd_T48 x5 x7).f0,(rd_T48 x5 x7).f1⟩ : S48)]) (wrap64 (x7 + 1)) x384000 x384001 x384002) else (none)) else (spec_l16Next.l0 k x5 x6 (wrap64 (x7 + 1)) x384000 x384001 x384002))) else (none)) else (some x6)
def spec_l16Next.f (k:Nat) (a0_0:Int) (a0_1:Int) (l0_2:List (S48)) (a1_0:Int) (a1_1:Int):Option ((List (S48))):=spec_l16Next.l0 k (([(⟨a1_0,wrap64 (a1_1 - 1)⟩ : S48),(⟨wrap64 (a1_0 - 1),a1_1⟩ : S48),(⟨a1_0,a1_1⟩ : S48),(⟨wrap64 (a1_0 + 1),a1_1⟩ : S48),(⟨a1_0,wrap64 (a1_1 + 1)⟩ : S48)]:List (S48))) (([]:List (S48))) 0 a0_0 a0_1 l0_2
end Go.Proofs.Ytbpccdbkaiigcaa.G

/- The walks of spec.PathLengthTo. -/
namespace Go.Proofs.Ytbpccdbkaiigcaa.G
open Go.RowKit Go.Proofs.YtbpccdbkaiigcaaW.PrintWords Go.Proofs.YtbpccdbkaiigcaaW.PrintLast Go.Proofs.YtbpccdbkaiigcaaW.PrintMore
set_option linter.unusedVariables false
set_option linter.unusedSimpArgs false
/-- The reference's neighbours among the cells G. -/
structure Nbs' (a0_0 a0_1 : Int) (l0_2 : List S48) (G : S48 → Prop) (nb : S48 → List S48) : Prop where
 inn : ∀ d,G d → (0 ≤ d.f0 ∧ d.f0 < a0_0) ∧ (0 ≤ d.f1 ∧ d.f1 < a0_1)
 len : ∀ d,G d → (nb d).length ≤ 5
 cl : ∀ d,G d → ∀ e ∈ nb d,G e
 run : ∀ d,G d → ∃ k,spec_l16Next.f k a0_0 a0_1 l0_2 d.f0 d.f1 = some (nb d)
end Go.Proofs.Ytbpccdbkaiigcaa.G

/- The neighbours of a free cell, and that the search by breadth comes to its end. -/
namespace Go.Proofs.Ytbpccdbkaiigcaa.G
open Go.RowKit Go.Proofs.YtbpccdbkaiigcaaW.PrintWords Go.Proofs.YtbpccdbkaiigcaaW.PrintLast
set_option linter.unusedVariables false
set_option linter.unusedSimpArgs false
noncomputable def sel (w h : Int) (bl : List S48) (d : S48) : List S48:=chk (Free w h bl d) [d] []
noncomputable def nbOf (w h : Int) (bl : List S48) (c : S48) : List S48:=((((([] ++ sel w h bl ⟨c.f0,c.f1 - 1⟩) ++ sel w h bl ⟨c.f0 - 1,c.f1⟩) ++ sel w h bl ⟨c.f0,c.f1⟩) ++ sel w h bl ⟨c.f0 + 1,c.f1⟩) ++ sel w h bl ⟨c.f0,c.f1 + 1⟩)
theorem sel_len (w h : Int) (bl : List S48) (d : S48) : (sel w h bl d).length ≤ 1:=by
 unfold sel
 by_cases hf : Free w h bl d
 ·rw [chk_pos hf];simp
 ·rw [chk_neg hf];simp
theorem sel_mem {w h : Int} {bl : List S48} {d e : S48} : e ∈ sel w h bl d ↔ e = d ∧ Free w h bl d:=by
 unfold sel
 by_cases hf : Free w h bl d
 ·rw [chk_pos hf];simp [hf]
 ·rw [chk_neg hf];simp [hf]
theorem nb_len (w h : Int) (bl : List S48) (c : S48) : (nbOf w h bl c).length ≤ 5:=by
 unfold nbOf
 simp only [List.length_append,List.length_nil]
 have h1:=sel_len w h bl ⟨c.f0,c.f1 - 1⟩
 have h2:=sel_len w h bl ⟨c.f0 - 1,c.f1⟩
 have h3:=sel_len w h bl ⟨c.f0,c.f1⟩
 have h4:=sel_len w h bl ⟨c.f0 + 1,c.f1⟩
 have h5:=sel_len w h bl ⟨c.f0,c.f1 + 1⟩
 omega
theorem nb_mem {w h : Int} {bl : List S48} {c e : S48} : e ∈ nbOf w h bl c ↔ Free w h bl e ∧ (e = ⟨c.f0,c.f1 - 1⟩ ∨ e = ⟨c.f0 - 1,c.f1⟩ ∨ e = ⟨c.f0,c.f1⟩ ∨ e = ⟨c.f0 + 1,c.f1⟩ ∨ e = ⟨c.f0,c.f1 + 1⟩):=by
 unfold nbOf
 simp only [List.mem_append,List.not_mem_nil,false_or,sel_mem]
 constructor
 ·rintro ((((⟨rfl,h⟩|⟨rfl,h⟩)|⟨rfl,h⟩)|⟨rfl,h⟩)|⟨rfl,h⟩) <;> simp [h]
 ·rintro ⟨h,(rfl|rfl|rfl|rfl|rfl)⟩ <;> simp [h]
theorem free_in {w h : Int} {bl : List S48} {c : S48} (hf : FloorOk w h bl) (hc : Free w h bl c) : (0 ≤ c.f0 ∧ c.f0 ≤ 5) ∧ (0 ≤ c.f1 ∧ c.f1 ≤ 5):=by
 have:=hf.1
 have:=hf.2.1
 have:=hc.1
 unfold In at this
 omega
theorem impl_nb {w h : Int} {bl : List S48} (hf : FloorOk w h bl) (hb : (bl.length : Int) ≤ 1099511627776) {c : S48} (hc : Free w h bl c) : Ev (fun k=>impl_around.f k w h bl c.f0 c.f1) (nbOf w h bl c):=by
 have hin:=free_in hf hc
 unfold impl_around.f
 simp only [Option.bind_some]
 obtain ⟨L,hL⟩ : ∃ L : List S48,[(⟨0,(-1)⟩ : S48),(⟨(-1),0⟩ : S48),(⟨0,0⟩ : S48),(⟨1,0⟩ : S48),(⟨0,1⟩ : S48)] = L:=⟨_,rfl⟩
 have hl : L.length = 5:=by rw [← hL];rfl
 rw [hL,hl]
 have step : ∀ (i : Int) (acc : List S48) (d : S48) (r : List S48),0 ≤ i → i < 5 → acc.length ≤ 10 → wrap64 (c.f0 + (rd_T48 L i).f0) = d.f0 → wrap64 (c.f1 + (rd_T48 L i).f1) = d.f1 → Ev (fun k=>impl_around.l0 k (acc ++ sel w h bl d) L 5 (i + 1) w h bl c.f0 c.f1) r → Ev (fun k=>impl_around.l0 k acc L ((5 : Nat) : Int) i w h bl c.f0 c.f1) r:=by
  intro i acc d r i0 i1 ha e0 e1 hr
  refine Ev.step (fun k=>by rw [impl_around.l0]) ?_
  have q5 : i < ((5 : Nat) : Int):=i1
  have q6 : i < (L.length : Int):=by rw [hl];exact i1
  simp only [if_pos q5,if_pos q6,if_pos i0,e0,e1,wrap64_id (x:=i + 1) (by omega) (by omega)]
  refine Ev.bind (impl_free w h bl d hf.1 hf.2.1 hb) ?_
  unfold sel at hr
  by_cases hd : Free w h bl d
  ·rw [chk_pos hd] at hr ⊢
   simp only [if_true,if_pos (show acc.length < 8796093022208 by omega)]
   exact hr
  ·rw [chk_neg hd] at hr ⊢
   simp only [Bool.false_eq_true,if_false]
   rw [List.append_nil] at hr
   exact hr
 have s1:=sel_len w h bl ⟨c.f0,c.f1 - 1⟩
 have s2:=sel_len w h bl ⟨c.f0 - 1,c.f1⟩
 have s3:=sel_len w h bl ⟨c.f0,c.f1⟩
 have s4:=sel_len w h bl ⟨c.f0 + 1,c.f1⟩
 have s5:=sel_len w h bl ⟨c.f0,c.f1 + 1⟩
 refine step 0 [] ⟨c.f0,c.f1 - 1⟩ _ (by omega) (by omega) (by simp) (by rw [← hL];show wrap64 (c.f0 + 0) = c.f0;rw [wrap64_id (by omega) (by omega)];omega) (by rw [← hL];show wrap64 (c.f1 + (-1)) = c.f1 - 1;rw [wrap64_id (by omega) (by omega)];omega) ?_
 refine step 1 _ ⟨c.f0 - 1,c.f1⟩ _ (by omega) (by omega) (by simp;omega) (by rw [← hL];show wrap64 (c.f0 + (-1)) = c.f0 - 1;rw [wrap64_id (by omega) (by omega)];omega) (by rw [← hL];show wrap64 (c.f1 + 0) = c.f1;rw [wrap64_id (by omega) (by omega)];omega) ?_
 refine step 2 _ ⟨c.f0,c.f1⟩ _ (by omega) (by omega) (by simp;omega) (by rw [← hL];show wrap64 (c.f0 + 0) = c.f0;rw [wrap64_id (by omega) (by omega)];omega) (by rw [← hL];show wrap64 (c.f1 + 0) = c.f1;rw [wrap64_id (by omega) (by omega)];omega) ?_
 refine step 3 _ ⟨c.f0 + 1,c.f1⟩ _ (by omega) (by omega) (by simp;omega) (by rw [← hL];show wrap64 (c.f0 + 1) = c.f0 + 1;rw [wrap64_id (by omega) (by omega)]) (by rw [← hL];show wrap64 (c.f1 + 0) = c.f1;rw [wrap64_id (by omega) (by omega)];omega) ?_
 refine step 4 _ ⟨c.f0,c.f1 + 1⟩ _ (by omega) (by omega) (by simp;omega) (by rw [← hL];show wrap64 (c.f0 + 0) = c.f0;rw [wrap64_id (by omega) (by omega)];omega) (by rw [← hL];show wrap64 (c.f1 + 1) = c.f1 + 1;rw [wrap64_id (by omega) (by omega)]) ?_
 refine Ev.step (fun k=>by rw [impl_around.l0]) ?_
 simp only [if_neg (show ¬ ((4 : Int) + 1 < 5) by decide)]
 exact Ev.now _
theorem nbs_impl {w h : Int} {bl : List S48} (hf : FloorOk w h bl) (hb : (bl.length : Int) ≤ 1099511627776) : Nbs w h bl (Free w h bl) (nbOf w h bl) where
 wf:=fun d hd=>by have:=free_in hf hd;exact ⟨wf_small (by omega) (by omega),wf_small (by omega) (by omega)⟩
 len:=fun d _=>nb_len w h bl d
 cl:=fun d _ e he=>(nb_mem.1 he).1
 run:=fun d hd=>Ev.rounds (impl_nb hf hb hd)
/-! the end of the search -/
def unseen (m : Mp) : List S48 → Nat
 | []=>0
 | c :: cs=>(if (m c).isSome then 0 else 1) + unseen m cs
def grid : List S48:=(List.range 6).flatMap fun (y : Nat)=>(List.range 6).map fun (x : Nat)=>(⟨(x : Int),(y : Int)⟩ : S48)
theorem spec_asked (w h : Int) (bl : List S48) (hb : (bl.length : Int) ≤ 1099511627776) (a b : S48) : Ev (fun k=>spec_l16Asked.f k w h bl a.f0 a.f1 b.f0 b.f1) (chk (FloorOk w h bl ∧ Free w h bl a ∧ Free w h bl b) true false):=by
 unfold spec_l16Asked.f
 refine Ev.bind (spec_floor w h bl hb) ?_
 by_cases hf : FloorOk w h bl
 ·rw [chk_pos hf]
  simp only [if_true]
  refine Ev.bind (spec_free w h bl a hf.1 hf.2.1 hb) ?_
  by_cases ha : Free w h bl a
  ·rw [chk_pos ha]
   simp only [if_true]
   refine Ev.bind (spec_free w h bl b hf.1 hf.2.1 hb) ?_
   by_cases hb2 : Free w h bl b
   ·rw [chk_pos hb2,chk_pos ⟨hf,ha,hb2⟩];exact Ev.now _
   ·rw [chk_neg hb2,chk_neg (fun x=>hb2 x.2.2)];exact Ev.now _
  ·rw [chk_neg ha,chk_neg (fun x=>ha x.2.1)];exact Ev.now _
 ·rw [chk_neg hf,chk_neg (fun x=>hf x.1)];exact Ev.now _
end Go.Proofs.Ytbpccdbkaiigcaa.G

/- The search by breadth finds the least numbers of steps. -/
namespace Go.Proofs.Ytbpccdbkaiigcaa.G
open Go.RowKit Go.Proofs.YtbpccdbkaiigcaaW.PrintWords Go.Proofs.YtbpccdbkaiigcaaW.PrintLast
set_option linter.unusedVariables false
set_option linter.unusedSimpArgs false
/-- x is reached from c by n steps. -/
def Rch (nb : S48 → List S48) (c : S48) : Nat → S48 → Prop
 | 0,x=>x = c
 | n + 1,x => ∃ y,Rch nb c n y ∧ x ∈ nb y
/-- What a round of the search keeps: hd is the number of the line's head. -/
structure BI (nb : S48 → List S48) (c0 : S48) (D : S48 → Prop) (m : Mp) (q : List S48) (hd : Int) : Prop where
 st : m c0 = some 0
 snd : ∀ x v,m x = some v → 0 ≤ v ∧ Rch nb c0 v.toNat x
 cls : ∀ x v,m x = some v → x ∉ q → ¬ D x → ∀ y ∈ nb x,∃ u,m y = some u ∧ u ≤ v + 1
 seen : ∀ x ∈ q,∃ v,m x = some v ∧ hd ≤ v
 top : ∀ x v,m x = some v → v ≤ hd + 1
 srt : q.Pairwise (fun x y => ∀ u v,m x = some u → m y = some v → u ≤ v)
/-- The map that the search makes tells the least number of steps. -/
structure Dist (nb : S48 → List S48) (c : S48) (m : Mp) : Prop where
 snd : ∀ x v,m x = some v → 0 ≤ v ∧ Rch nb c v.toNat x
 least : ∀ n x,Rch nb c n x → ∃ v,m x = some v ∧ v ≤ (n : Int)
 near : ∀ x v,m x = some v → ∀ y ∈ nb x,∃ u,m y = some u ∧ u ≤ v + 1
end Go.Proofs.Ytbpccdbkaiigcaa.G

-- Written by wip/tools/gen.py out of the translation (the kit's printer, one namespace a seat). Lean checks it.
namespace Go.Proofs.Ytbpccdbkaiigcaa.G
open Go.RowKit Go.Proofs.YtbpccdbkaiigcaaW.PrintWords Go.Proofs.YtbpccdbkaiigcaaW.PrintLast Go.Proofs.YtbpccdbkaiigcaaW.PrintMore
attribute [local go_sem] max2_int min2_int max_two min_two max_three min_three max_four min_four   -- for this text's walks alone
set_option linter.unusedVariables false
set_option linter.unusedSimpArgs false

/-! ### impl_cellAt: function 62 -/
def impl_cellAt.f (l0:List (S48)) (a1:Int):Option (Int × Int):=if 0 ≤ (mn a1 (wrap64 ((l0.length:Int) - 1))) then (if (mn a1 (wrap64 ((l0.length:Int) - 1))) < (l0.length:Int) then (some ((rd_T48 l0 (mn a1 (wrap64 ((l0.length:Int) - 1)))).f0,(rd_T48 l0 (mn a1 (wrap64 ((l0.length:Int) - 1)))).f1)) else (none)) else (none)
set_option maxHeartbeats 8000000 in
set_option maxRecDepth 100000 in
theorem impl_cellAt.calls (A0:Option Addr) (c0:Nat) (l0:List (S48)) (a1:Int) (r1:Int) (r2:Int) (w:World) (hr0:Kd.C k48 w A0 l0.length l0) (hc0:l0.length ≤ c0) (h:impl_cellAt.f l0 a1 = some (r1,r2)) :
  Calls Try.prog 62 #[.slice A0 l0.length c0,.int .i64 a1] w fun e w'=>e = .returned (.agg #[.int .i64 r1,.int .i64 r2]) ∧ Below w.heap.size w w':=by
 have hu48:=Try.underlying48;have HR0:=zM hr0;have HC0:=zM hc0;clear hr0 hc0;have HB:=zM (Below.refl w.heap.size w);have H:(if 0 ≤ (mn a1 (wrap64 ((l0.length:Int) - 1))) then (if (mn a1 (wrap64 ((l0.length:Int) - 1))) < (l0.length:Int) then (some ((rd_T48 l0 (mn a1 (wrap64 ((l0.length:Int) - 1)))).f0,(rd_T48 l0 (mn a1 (wrap64 ((l0.length:Int) - 1)))).f1)) else (none)) else (none)) = some (r1,r2):=h
 clear h;obtain ⟨ji3,hji3⟩ : ∃ j_:Int,(mn a1 (wrap64 ((l0.length:Int) - 1))) = j_:=⟨_,rfl⟩
 replace H:(if 0 ≤ (ji3) then (if (ji3) < (l0.length:Int) then (some ((rd_T48 l0 (ji3)).f0,(rd_T48 l0 (ji3)).f1)) else (none)) else (none)) = some (r1,r2):=by first|(rw [hji3] at H;exact H)|(simp only [hji3] at H ⊢;exact H)
 have hji3_:(if (wrap64 ((l0.length:Int) - 1)) < a1 then (wrap64 ((l0.length:Int) - 1)) else a1) = ji3:=hji3
 by_cases c4:0 ≤ (ji3)
 ·rw [if_pos c4] at H
  have c4b0:decide (0 ≤ (ji3)) = true:=decide_eq_true c4
  clear c4;by_cases c5:(ji3) < (l0.length:Int)
  ·rw [if_pos c5] at H
   have c5b0:decide ((ji3) < (l0.length:Int)) = true:=decide_eq_true c5
   clear c5;simp only [Option.some.injEq,Prod.mk.injEq] at H
   obtain ⟨rfl,rfl⟩:=H;go_enter Try.func62,Try.ntmps62
   go_wp2_with (first|((with_reducible refine gate_dst (N:=4) rfl ?_);refine box_event ?hg (N:=4) ?hd (cs := #[.int .i64 0,.int .i64 0]) (t:=48) ?hr ?_;(case hd=>rfl);(case hg=>rfl);(case hr=>first|(go_simp;done)|(go_simp;rfl));intro gb272 hg w6 hbox hb;have n0_:=zM (zQ (by repeat (first|(with_reducible first|exact HB.out|apply zD|apply zE|apply zF)|exact HB.out)) hb);have n1_:=zM (hbox);have n2_:=zM ((by rw [hg];exact (zR (by repeat (first|(with_reducible first|exact HB.out|apply zD|apply zE|apply zF)|exact HB.out))):w.heap.size ≤ gb272));have n3_:=zM ((by rw [hg];exact (zR (by repeat (first|(with_reducible first|exact HB.out|apply zD|apply zE|apply zF)|exact HB.out))):w.heap.size ≤ gb272));clear HB;have HB:=n0_;have BK272:=n1_;have GW272:=n2_;have GE272:=n3_;clear n0_ n1_ n2_ n3_;clear hb hbox hg;have p273:0 ≤ ((ji3):Int):=of_decide_eq_true (by first|(with_reducible assumption)|assumption);have q273:(ji3) < (l0.length:Int):=of_decide_eq_true (by first|(with_reducible assumption)|assumption);obtain ⟨ad273,e273,hx273_0,hx273_1⟩:=at_T48 HR0.out (ji3) p273 q273;cases e273;replace hx273_0:=zS HB.out hx273_0;replace hx273_1:=zS HB.out hx273_1;replace p273:=eq_true p273;replace q273:=eq_true q273;have hcz7_0:w6.cell? ⟨gb272,0,none⟩ = some (.int .i64 0):=(blk_cell BK272.out 0).trans rfl;have hcz7_1:w6.cell? ⟨gb272,1,none⟩ = some (.int .i64 0):=(blk_cell BK272.out 1).trans rfl;have hfz7_0:=blk_frozen BK272.out 0;have hfz7_1:=blk_frozen BK272.out 1))
   refine bodyPost_ret (results_cell_row rfl _ _ gb272 48 #[.int .i64 ((rd_T48 l0 (ji3)).f0),.int .i64 ((rd_T48 l0 (ji3)).f1)] (0,0) _ rfl (by (with_reducible repeat (first|refine zJ ?_ _|refine zK ?_|refine zL ?_ _));refine blk_put (cs := #[.int .i64 ((rd_T48 l0 (ji3)).f0),.int .i64 0]) ?_ 1 _ rfl;(with_reducible repeat (first|refine zJ ?_ _|refine zK ?_|refine zL ?_ _));refine blk_put (cs := #[.int .i64 0,.int .i64 0]) ?_ 0 _ rfl;(with_reducible repeat (first|refine zJ ?_ _|refine zK ?_|refine zL ?_ _));exact BK272.out) Try.underlying48 rfl (by kernel_rfl)) rfl ?_
   exact ⟨by first|rfl|(simp [errW_none,errW_some] <;> rfl)|(simp only [← hji3];first|rfl|(simp [errW_none,errW_some] <;> rfl))|(simp [*,errW_none,errW_some] <;> rfl),by repeat (first|(with_reducible first|exact HB.out|apply zD|apply zE|apply zF|refine below_set ?_ GE272.out)|exact HB.out)⟩
  ·rw [if_neg c5] at H
   exact absurd H (by simp)
 ·rw [if_neg c4] at H
  exact absurd H (by simp)

end Go.Proofs.Ytbpccdbkaiigcaa.G
