/- Texts of the proof of FnExactPlanFleet, joined in build order. -/
import Derived.Test.YtbpccdbkaiigcaaMgFnExactPlanFleet1
import Derived.Test.YtbpccdbkaiigcaaMgFnExactPlanFleet2
import Derived.Test.YtbpccdbkaiigcaaMgFnExactPlanFleet3
import Derived.Deep.Slices
import Derived.ChangeArms
import Derived.WideShapes
import Derived.ChangeShapes
-- Written by wip/tools/gen.py out of the translation (the kit's printer, one namespace a seat). Lean checks it.
namespace Go.Proofs.Ytbpccdbkaiigcaa.G
open Go.RowKit Go.Proofs.YtbpccdbkaiigcaaW.PrintWords Go.Proofs.YtbpccdbkaiigcaaW.PrintLast Go.Proofs.YtbpccdbkaiigcaaW.PrintMore
attribute [local go_sem] max2_int min2_int max_two min_two max_three min_three max_four min_four   -- for this text's walks alone
set_option linter.unusedVariables false
set_option linter.unusedSimpArgs false

/-! ### spec_PlanFleet: function 44 -/
mutual
noncomputable def spec_PlanFleet.j0:Nat → List (S48) → List (S48) → List (List (S48)) → Bool → Int → Int → List (S48) → Option ((List (List (S48))) × Bool)
 | 0,_,_,_,_,_,_,_=>none
 | k + 1,x1,x2,x8,x28,x623000,x623001,x623002=>if x28 = true then (some (x8,false)) else (spec_PlanFleet.l0 k x1 x2 x8 0 x623000 x623001 x623002)
noncomputable def spec_PlanFleet.l0:Nat → List (S48) → List (S48) → List (List (S48)) → Int → Int → Int → List (S48) → Option ((List (List (S48))) × Bool)
 | 0,_,_,_,_,_,_,_=>none
 | k + 1,x1,x2,x8,x9,x623000,x623001,x623002=>if x9 < (x1.length:Int) then (if 0 ≤ x9 then (if x9 < (x2.length:Int) then ((spec_l16Asked.f k x623000 x623001 x623002 ((rd_T48 x1 x9).f0) ((rd_T48 x1 x9).f1) ((rd_T48 x2 x9).f0) ((rd_T48 x2 x9).f1)).bind fun t629=>(if t629 = true then (spec_PlanFleet.l0 k x1 x2 x8 (wrap64 (x9 + 1)) x623000 x623001 x623002) else (some ((([]:List (List (S48)))),false)))) else (none)) else (none)) else (spec_PlanFleet.l1 k x1 x2 x8 0 x623000 x623001 x623002)
noncomputable def spec_PlanFleet.l1:Nat → List (S48) → List (S48) → List (List (S48)) → Int → Int → Int → List (S48) → Option ((List (List (S48))) × Bool)
 | 0,_,_,_,_,_,_,_=>none
 | k + 1,x1,x2,x8,x10,x623000,x623001,x623002=>if x10 < (x1.length:Int) then (if 0 ≤ x10 then (if x10 < (x2.length:Int) then ((spec_l16Safe.f x623000 x623001 x623002 x8 ((rd_T48 x1 x10).f0) ((rd_T48 x1 x10).f1) ((rd_T48 x2 x10).f0) ((rd_T48 x2 x10).f1)).bind fun bt635=>(if bt635.2 = true then (if x8.length < 5864062014805 then (spec_PlanFleet.l1 k x1 x2 (x8 ++ [bt635.1]) (wrap64 (x10 + 1)) x623000 x623001 x623002) else (none)) else (some ((([]:List (List (S48)))),false)))) else (none)) else (none)) else (some (x8,true))
end
noncomputable def spec_PlanFleet.f (k:Nat) (a0_0:Int) (a0_1:Int) (l0_2:List (S48)) (l1:List (S48)) (l2:List (S48)):Option ((List (List (S48))) × Bool):=(some (([]:List (List (S48))):List (List (S48)))).bind fun y623=>((spec_l16Good.f k a0_0 a0_1 l0_2).bind fun t626=>(if t626 = true then (if (l1.length:Int) = (l2.length:Int) then (spec_PlanFleet.j0 k l1 l2 y623 (decide ((l1.length:Int) > 3)) a0_0 a0_1 l0_2) else (spec_PlanFleet.j0 k l1 l2 y623 true a0_0 a0_1 l0_2)) else (spec_PlanFleet.j0 k l1 l2 y623 true a0_0 a0_1 l0_2)))
def spec_PlanFleet.T7:Bool × List (List Nat × List Nat):=(true,[([],[]),([],[]),([],[]),([1,2],[1,2]),([3],[3]),([],[]),([],[]),([5,6],[5,6]),([7],[7]),([0,4,8],[0,4,8]),([9],[9])])
def spec_PlanFleet.B7:List Nat:=[0,0,0,6,14,0,0,96,224,511,1023]
theorem spec_PlanFleet.tab7:rtab .any (opsOf Try.f44 7) = spec_PlanFleet.T7:=by kernel_rfl
theorem spec_PlanFleet.bits7:waitsOk spec_PlanFleet.T7.2 spec_PlanFleet.B7 = true:=by kernel_rfl
def spec_PlanFleet.T12:Bool × List (List Nat × List Nat):=(true,[([],[]),([],[]),([],[]),([],[]),([2,3],[2,3]),([4],[4]),([],[]),([],[]),([6,7],[6,7]),([8],[8]),([0,1,5,9],[0,1,5,9]),([10],[10]),([11],[11]),([11],[11]),([12,10,0,1,2,3,4,5,6,7,8,9,10,11,12],[12]),([13,14,0,1,2,3,4,5,6,7,8,9,10,11,12,13,14],[13])])
def spec_PlanFleet.B12:List Nat:=[0,0,0,0,12,28,0,0,192,448,1023,2047,4095,4095,8191,32767]
theorem spec_PlanFleet.tab12:rtab .any (opsOf Try.f44 12) = spec_PlanFleet.T12:=by kernel_rfl
theorem spec_PlanFleet.bits12:waitsOk spec_PlanFleet.T12.2 spec_PlanFleet.B12 = true:=by kernel_rfl
set_option maxHeartbeats 8000000 in
set_option maxRecDepth 100000 in
theorem spec_PlanFleet.calls (k:Nat) (a0_0:Int) (a0_1:Int) (A0_2:Option Addr) (c0_2:Nat) (l0_2:List (S48)) (A1:Option Addr) (c1:Nat) (l1:List (S48)) (A2:Option Addr) (c2:Nat) (l2:List (S48)) (r1:List (List (S48))) (r2:Bool) (w:World) (hr0_2:Kd.C k48 w A0_2 l0_2.length l0_2) (hc0_2:l0_2.length ≤ c0_2) (hr1:Kd.C k48 w A1 l1.length l1) (hc1:l1.length ≤ c1) (hr2:Kd.C k48 w A2 l2.length l2) (hc2:l2.length ≤ c2) (h:spec_PlanFleet.f k a0_0 a0_1 l0_2 l1 l2 = some (r1,r2)) :
  Calls Try.prog 44 #[.agg #[.int .i64 a0_0,.int .i64 a0_1,.slice A0_2 l0_2.length c0_2],.slice A1 l1.length c1,.slice A2 l2.length c2] w fun e w' => ∃ v0_:Value,e = .returned (.tuple #[v0_,.bool r2]) ∧ Kd.S (Kd.slice 48 k48) 27 w' w.heap.size (fun _=>True) v0_ r1 ∧ Below w.heap.size w w':=by
 have hu29:=Try.underlying29;have hu48:=Try.underlying48;have HR0_2:=zM hr0_2;have HC0_2:=zM hc0_2;clear hr0_2 hc0_2;have HR1:=zM hr1;have HC1:=zM hc1;clear hr1 hc1;have HR2:=zM hr2;have HC2:=zM hc2;clear hr2 hc2;have HB:=zM (Below.refl w.heap.size w);have H:((some (([]:List (List (S48))):List (List (S48)))).bind fun y623=>((spec_l16Good.f k a0_0 a0_1 l0_2).bind fun t626=>(if t626 = true then (if (l1.length:Int) = (l2.length:Int) then (spec_PlanFleet.j0 k l1 l2 y623 (decide ((l1.length:Int) > 3)) a0_0 a0_1 l0_2) else (spec_PlanFleet.j0 k l1 l2 y623 true a0_0 a0_1 l0_2)) else (spec_PlanFleet.j0 k l1 l2 y623 true a0_0 a0_1 l0_2)))) = some (r1,r2):=h
 clear h;obtain ⟨y623,hy623⟩ : ∃ y_:List (List (S48)),y_ = (([]:List (List (S48)))):=⟨_,rfl⟩
 replace H:((spec_l16Good.f k a0_0 a0_1 l0_2).bind fun t626=>(if t626 = true then (if (l1.length:Int) = (l2.length:Int) then (spec_PlanFleet.j0 k l1 l2 y623 (decide ((l1.length:Int) > 3)) a0_0 a0_1 l0_2) else (spec_PlanFleet.j0 k l1 l2 y623 true a0_0 a0_1 l0_2)) else (spec_PlanFleet.j0 k l1 l2 y623 true a0_0 a0_1 l0_2))) = some (r1,r2):=by first|(rw [hy623];with_reducible exact H)|(have H2_:=(Option.bind_some _ _).symm.trans H;rw [hy623];with_reducible exact H2_)|(have H2_:=(Option.bind_some _ _).symm.trans H;with_reducible exact H2_)|with_reducible exact H|(rw [hy623];exact H)|exact H
 have Ny623:=zM hy623;clear hy623;have HC4:=zM H;clear H;go_enter Try.func44,Try.ntmps44
 go_upto_region 2 with (first|((with_reducible refine gate_dst (N:=3) rfl ?_);(try (refine gate_guard (by rfl) ?_;dsimp only));refine zzc 3 #[.int .i64 a0_0,.int .i64 a0_1,.slice A0_2 l0_2.length c0_2] 29 ?_;intro gb622 hg w5 hbox hb;have n0_:=zM (zQ zzh hb);have n1_:=zM (hbox);have n2_:=zM ((by rw [hg];exact (zR zzh):w.heap.size ≤ gb622));have n3_:=zM ((by rw [hg];exact (zR zzh):w.heap.size ≤ gb622));clear HB;have HB:=n0_;have BK622:=n1_;have GW622:=n2_;have GE622:=n3_;clear n0_ n1_ n2_ n3_;clear hb hbox hg)|((with_reducible refine gate_dst (N:=13) rfl ?_);(try (refine gate_guard (by rfl) ?_;dsimp only));refine Kd.S_lit (Kd.slice 48 k48) _ 27 ?hg (N:=13) ?hd (xs:=([]:List (List (S48)))) (inner:=[]) (ok:=fun _=>True) (okp:=fun _=>True) ?hr ?hp (fun _ hk=>hk) trivial (Below.refl _ _) (Nat.le_refl _) (by simp) ?_;(case hd=>rfl);(case hg=>rfl);(case hr=>first|(go_simp;done)|(go_simp;rfl));(case hp=>exact (Reps.none _ _));intro v624 w6 ho7 hb hg_ hnew_;clear hg_ hnew_;(first|rw [← Ny623.out] at ho7|(simp only [Int.reduceToNat] at ho7;rw [← Ny623.out] at ho7));have n0_:=zM (Kd.S_lower ho7 (zR zzh));have n1_:=zM (blk_below (g:=gb622) (o := .cells #[.int .i64 a0_0,.int .i64 a0_1,.slice A0_2 l0_2.length c0_2] 29 (0,0)) (zzi BK622) hb);have n2_:=zM (zQ zzh hb);clear BK622;clear HB;have HO625:=n0_;have BK622:=n1_;have HB:=n2_;clear n0_ n1_ n2_;clear hb ho7))
 (try simp only [Act.put,zT,zU,zV])
 go_cut [28] (fun v28 wc => ∃ (kq:Nat) (x28_3:Bool),v28 = .bool x28_3 ∧ Aside0 (spec_PlanFleet.j0 kq l1 l2 y623 x28_3 a0_0 a0_1 l0_2 = some (r1,r2)) ∧ Aside0 (kq ≤ k) ∧ Aside0 (Kd.S (Kd.slice 48 k48) 27 wc w.heap.size (fun _=>True) v624 y623) ∧ Aside0 (wc.heap[gb622]? = some (.cells #[.int .i64 a0_0,.int .i64 a0_1,(.slice A0_2 l0_2.length c0_2)] 29 (0,0))) ∧ Aside0 (Below w.heap.size w wc))
 case first =>
  have H:=HC4.out;clear HC4;replace H:=Option.bind_eq_some_iff.mp H;obtain ⟨t626,A80,H⟩:=H;replace H:(if t626 = true then (if (l1.length:Int) = (l2.length:Int) then (spec_PlanFleet.j0 k l1 l2 y623 (decide ((l1.length:Int) > 3)) a0_0 a0_1 l0_2) else (spec_PlanFleet.j0 k l1 l2 y623 true a0_0 a0_1 l0_2)) else (spec_PlanFleet.j0 k l1 l2 y623 true a0_0 a0_1 l0_2)) = some (r1,r2):=H
  have A8:=zM A80;clear A80;by_cases c9:t626 = true
  ·subst c9
   have H1:(if (l1.length:Int) = (l2.length:Int) then (spec_PlanFleet.j0 k l1 l2 y623 (decide ((l1.length:Int) > 3)) a0_0 a0_1 l0_2) else (spec_PlanFleet.j0 k l1 l2 y623 true a0_0 a0_1 l0_2)) = some (r1,r2):=by rw [if_pos rfl] at H;exact H
   clear H;have H:=H1;clear H1;by_cases c10:(l1.length:Int) = (l2.length:Int)
   ·rw [if_pos c10] at H
    have c10b0:((l1.length:Int) == (l2.length:Int)) = true:=beq_iff_eq.mpr c10
    have c10b1:((l1.length:Int) != (l2.length:Int)) = false:=bne_eq_false_iff_eq.mpr c10
    have c10b2:(l1.length == l2.length) = true:=by first|simpa using c10|(simp at c10 ⊢;omega)
    clear c10;(first|rw [c10b0]|(simp only [i64_w,i32_w];rw [c10b0])|skip)
    have H':=zM H;clear H;have hcz11_0:=zz0 BK622
    have hcz11_1:=zz1 BK622
    have hcz11_2:=zz2 BK622
    have hfz11_0:=blk_frozen BK622.out 0;have hfz11_1:=blk_frozen BK622.out 1;have hfz11_2:=blk_frozen BK622.out 2;go_wp2_with (first|((with_reducible refine gate_callee (f:=53) rfl ?_);refine goesL_ (some 15) rfl rfl Try.func53 (by kernel_rfl) rfl #[.agg #[.int .i64 a0_0,.int .i64 a0_1,.slice A0_2 l0_2.length c0_2]] rfl (by (try simp only [List.map_toArray,List.map_cons,List.map_nil]);first|done|rfl|(simp only [List.length_drop,List.length_take];rfl)) ?_;(with_reducible refine (spec_l16Good.calls k a0_0 a0_1 _ _ l0_2 true _ ?side1 ?side2 A8.out).mono ?_);(case side1=>repeat (first|exact (zO HR0_2.out HB.out)|(with_reducible first|refine zG ?_ _|refine zH ?_ _|refine zI ?_)));(case side2=>exact HC0_2.out);rintro e w12 ⟨rfl,hb⟩;refine ⟨_,rfl,?_⟩;have n0_:=zM (Kd.S_below (zzj HO625) hb);have n1_:=zM (blk_below (g:=gb622) (o := .cells #[.int .i64 a0_0,.int .i64 a0_1,.slice A0_2 l0_2.length c0_2] 29 (0,0)) (zzi BK622) hb);have n2_:=zM (zQ zzh hb);clear HO625;clear BK622;clear HB;have HO625:=n0_;have BK622:=n1_;have HB:=n2_;clear n0_ n1_ n2_;(try clear hb);(try clear hb2);(try clear hk);(try clear hi)))
    go_meet
    case rel=>exact ⟨_,(decide ((l1.length:Int) > 3)),(by first|rfl|(simp;done)|(simp [*];done)),H',⟨by first|omega|exact Nat.le_refl _⟩,⟨zzj HO625⟩,⟨zzi BK622⟩,⟨zzh⟩⟩
   ·rw [if_neg c10] at H
    have c10b0:((l1.length:Int) == (l2.length:Int)) = false:=beq_eq_false_iff_ne.mpr c10
    have c10b1:((l1.length:Int) != (l2.length:Int)) = true:=bne_iff_ne.mpr c10
    have c10b2:(l1.length == l2.length) = false:=by first|simpa using c10|(simp at c10 ⊢;omega)
    (first|rw [c10b0]|(simp only [i64_w,i32_w];rw [c10b0])|skip)
    have H':=zM H;clear H;have hcz13_0:=zz0 BK622
    have hcz13_1:=zz1 BK622
    have hcz13_2:=zz2 BK622
    have hfz13_0:=blk_frozen BK622.out 0;have hfz13_1:=blk_frozen BK622.out 1;have hfz13_2:=blk_frozen BK622.out 2;go_wp2_with (first|((with_reducible refine gate_callee (f:=53) rfl ?_);refine goesL_ (some 15) rfl rfl Try.func53 (by kernel_rfl) rfl #[.agg #[.int .i64 a0_0,.int .i64 a0_1,.slice A0_2 l0_2.length c0_2]] rfl (by (try simp only [List.map_toArray,List.map_cons,List.map_nil]);first|done|rfl|(simp only [List.length_drop,List.length_take];rfl)) ?_;(with_reducible refine (spec_l16Good.calls k a0_0 a0_1 _ _ l0_2 true _ ?side1 ?side2 A8.out).mono ?_);(case side1=>repeat (first|exact (zO HR0_2.out HB.out)|(with_reducible first|refine zG ?_ _|refine zH ?_ _|refine zI ?_)));(case side2=>exact HC0_2.out);rintro e w14 ⟨rfl,hb⟩;refine ⟨_,rfl,?_⟩;have n0_:=zM (Kd.S_below (zzj HO625) hb);have n1_:=zM (blk_below (g:=gb622) (o := .cells #[.int .i64 a0_0,.int .i64 a0_1,.slice A0_2 l0_2.length c0_2] 29 (0,0)) (zzi BK622) hb);have n2_:=zM (zQ zzh hb);clear HO625;clear BK622;clear HB;have HO625:=n0_;have BK622:=n1_;have HB:=n2_;clear n0_ n1_ n2_;(try clear hb);(try clear hb2);(try clear hk);(try clear hi)))
    go_meet
    case rel=>exact ⟨_,(true),(by first|rfl|(simp;done)|(simp [*];done)),H',⟨by first|omega|exact Nat.le_refl _⟩,⟨zzj HO625⟩,⟨zzi BK622⟩,⟨zzh⟩⟩
  ·replace c9:=Bool.eq_false_iff.mpr c9
   subst c9;have H1:(spec_PlanFleet.j0 k l1 l2 y623 true a0_0 a0_1 l0_2) = some (r1,r2):=by rw [if_neg (show ¬ (false = true) by decide)] at H;exact H
   clear H;have H:=H1;clear H1;have H':=zM H;clear H;have hcz15_0:=zz0 BK622
   have hcz15_1:=zz1 BK622
   have hcz15_2:=zz2 BK622
   have hfz15_0:=blk_frozen BK622.out 0;have hfz15_1:=blk_frozen BK622.out 1;have hfz15_2:=blk_frozen BK622.out 2;go_wp2_with (first|((with_reducible refine gate_callee (f:=53) rfl ?_);refine goesL_ (some 15) rfl rfl Try.func53 (by kernel_rfl) rfl #[.agg #[.int .i64 a0_0,.int .i64 a0_1,.slice A0_2 l0_2.length c0_2]] rfl (by (try simp only [List.map_toArray,List.map_cons,List.map_nil]);first|done|rfl|(simp only [List.length_drop,List.length_take];rfl)) ?_;(with_reducible refine (spec_l16Good.calls k a0_0 a0_1 _ _ l0_2 false _ ?side1 ?side2 A8.out).mono ?_);(case side1=>repeat (first|exact (zO HR0_2.out HB.out)|(with_reducible first|refine zG ?_ _|refine zH ?_ _|refine zI ?_)));(case side2=>exact HC0_2.out);rintro e w16 ⟨rfl,hb⟩;refine ⟨_,rfl,?_⟩;have n0_:=zM (Kd.S_below (zzj HO625) hb);have n1_:=zM (blk_below (g:=gb622) (o := .cells #[.int .i64 a0_0,.int .i64 a0_1,.slice A0_2 l0_2.length c0_2] 29 (0,0)) (zzi BK622) hb);have n2_:=zM (zQ zzh hb);clear HO625;clear BK622;clear HB;have HO625:=n0_;have BK622:=n1_;have HB:=n2_;clear n0_ n1_ n2_;(try clear hb);(try clear hb2);(try clear hk);(try clear hi)))
   go_meet
   case rel=>exact ⟨_,(true),(by first|rfl|(simp;done)|(simp [*];done)),H',⟨by first|omega|exact Nat.le_refl _⟩,⟨zzj HO625⟩,⟨zzi BK622⟩,⟨zzh⟩⟩
 case rest =>
  clear HC4;(try clear c1);(try clear c2);(try clear p2);(try clear c4);(try clear c5);(try clear c9);(try clear c10);(try clear c10b0);(try clear c10b1);(try clear c10b2);(try clear hcz11_0);(try clear hcz11_1);(try clear hcz11_2);(try clear hcz13_0);(try clear hcz13_1);(try clear hcz13_2);(try clear hcz15_0);(try clear hcz15_1);(try clear hcz15_2);(try clear hfz11_0);(try clear hfz11_1);(try clear hfz11_2);(try clear hfz13_0);(try clear hfz13_1);(try clear hfz13_2);(try clear hfz15_0);(try clear hfz15_1);(try clear hfz15_2);obtain ⟨kq,x28_3,rfl,HA,HJ3,HO_8,BK622,HB⟩:=hcut;cases kq with
  | zero=>exact absurd HA.out (by simp [spec_PlanFleet.j0])
  | succ kj3 =>
   have H:=HA.out;clear HA;simp only [spec_PlanFleet.j0] at H
   by_cases c17:x28_3 = true
   ·subst c17
    have H1:(some (y623,false)) = some (r1,r2):=by rw [if_pos rfl] at H;exact H
    clear H;have H:=H1;clear H1;simp only [Option.some.injEq,Prod.mk.injEq] at H
    obtain ⟨rfl,rfl⟩:=H;go_wp2
    go_ret2
    exact ⟨_,by first|rfl|(simp [errW_none,errW_some] <;> rfl)|(simp [*,errW_none,errW_some] <;> rfl),zzj HO_8,zzh⟩
   ·replace c17:=Bool.eq_false_iff.mpr c17
    subst c17;have H1:(spec_PlanFleet.l0 kj3 l1 l2 y623 0 a0_0 a0_1 l0_2) = some (r1,r2):=by rw [if_neg (show ¬ (false = true) by decide)] at H;exact H
    clear H;have H:=H1;clear H1;have H':=zM H;clear H;go_wp2
    go_loopg [9] kj3 (fun kq v9 w' => ∃ (x9_2:Int),v9 = .int .i64 x9_2 ∧ Aside0 (spec_PlanFleet.l0 kq l1 l2 y623 x9_2 a0_0 a0_1 l0_2 = some (r1,r2)) ∧ Aside0 (kq ≤ kj3) ∧ Aside0 (Kd.S (Kd.slice 48 k48) 27 w' w.heap.size (fun _=>True) v624 y623) ∧ Aside0 (w'.heap[gb622]? = some (.cells #[.int .i64 a0_0,.int .i64 a0_1,(.slice A0_2 l0_2.length c0_2)] 29 (0,0))) ∧ Aside0 (Below w.heap.size w w'))
    case atStart=>exact ⟨(0),(by first|rfl|(simp;done)|(simp [*];done)),H',⟨Nat.le_refl _⟩,⟨zzj HO_8⟩,⟨zzi BK622⟩,⟨zzh⟩⟩
    case round =>
     clear H';(try clear c1);(try clear c2);(try clear p2);(try clear c4);(try clear c5);(try clear c9);(try clear c10);(try clear c10b0);(try clear c10b1);(try clear c10b2);(try clear c17);(try clear hcz11_0);(try clear hcz11_1);(try clear hcz11_2);(try clear hcz13_0);(try clear hcz13_1);(try clear hcz13_2);(try clear hcz15_0);(try clear hcz15_1);(try clear hcz15_2);(try clear hfz11_0);(try clear hfz11_1);(try clear hfz11_2);(try clear hfz13_0);(try clear hfz13_1);(try clear hfz13_2);(try clear hfz15_0);(try clear hfz15_1);(try clear hfz15_2);(try clear p2);obtain ⟨x9_2,rfl,HA,HK2,HO_8,BK622,HB⟩:=hrel;cases gk with
     | zero=>exact absurd HA.out (by simp [spec_PlanFleet.l0])
     | succ k2 =>
      have H:=HA.out;clear HA;simp only [spec_PlanFleet.l0] at H
      by_cases c18:x9_2 < (l1.length:Int)
      ·rw [if_pos c18] at H
       have c18b0:decide (x9_2 < (l1.length:Int)) = true:=decide_eq_true c18
       clear c18;by_cases c19:0 ≤ x9_2
       ·rw [if_pos c19] at H
        have c19b0:decide (0 ≤ x9_2) = true:=decide_eq_true c19
        clear c19;by_cases c20:x9_2 < (l2.length:Int)
        ·rw [if_pos c20] at H
         have c20b0:decide (x9_2 < (l2.length:Int)) = true:=decide_eq_true c20
         clear c20;replace H:=Option.bind_eq_some_iff.mp H;obtain ⟨t629,A210,H⟩:=H;replace H:(if t629 = true then (spec_PlanFleet.l0 k2 l1 l2 y623 (wrap64 (x9_2 + 1)) a0_0 a0_1 l0_2) else (some ((([]:List (List (S48)))),false))) = some (r1,r2):=H
         have A21:=zM A210;clear A210;by_cases c22:t629 = true
         ·subst c22
          have H1:(spec_PlanFleet.l0 k2 l1 l2 y623 (wrap64 (x9_2 + 1)) a0_0 a0_1 l0_2) = some (r1,r2):=by rw [if_pos rfl] at H;exact H
          clear H;have H:=H1;clear H1;have H':=zM H;clear H;try go_wp2
          have n0_:=zM (Kd.S_drew HO_8.out);have n1_:=zM (zK BK622.out);have n2_:=zM (zF HB.out);clear HO_8;clear BK622;clear HB;have HO_8:=n0_;have BK622:=n1_;have HB:=n2_;clear n0_ n1_ n2_;have p627:0 ≤ (x9_2:Int):=zzd
          have q627:x9_2 < (l1.length:Int):=zzd
          obtain ⟨ad627,e627,hx627_0,hx627_1⟩:=at_T48 HR1.out x9_2 p627 q627;have hw627_1:=hx627_1;have hw627_0:=hx627_0;cases e627
          replace hx627_0:=zS HB.out hx627_0;replace hx627_1:=zS HB.out hx627_1;replace p627:=eq_true p627;replace q627:=eq_true q627;have p628:0 ≤ (x9_2:Int):=zzd
          have q628:x9_2 < (l2.length:Int):=zzd
          obtain ⟨ad628,e628,hx628_0,hx628_1⟩:=at_T48 HR2.out x9_2 p628 q628;have hw628_1:=hx628_1;have hw628_0:=hx628_0;cases e628
          replace hx628_0:=zS HB.out hx628_0;replace hx628_1:=zS HB.out hx628_1;replace p628:=eq_true p628;replace q628:=eq_true q628;refine start_ (n:=11) (S:=fun w'=>w'.cell? ⟨gb622,0,none⟩ = some (.int .i64 a0_0) ∧ w'.cell? ⟨gb622,1,none⟩ = some (.int .i64 a0_1) ∧ w'.cell? ⟨gb622,2,none⟩ = some (.slice A0_2 l0_2.length c0_2) ∧ w'.cell? (ad627.add ((x9_2).toNat * 2)) = some (.int .i64 ((rd_T48 l1 x9_2).f0)) ∧ w'.cell? ⟨(ad627.add ((x9_2).toNat * 2)).block,(ad627.add ((x9_2).toNat * 2)).off + 1,none⟩ = some (.int .i64 ((rd_T48 l1 x9_2).f1)) ∧ w'.cell? (ad628.add ((x9_2).toNat * 2)) = some (.int .i64 ((rd_T48 l2 x9_2).f0)) ∧ w'.cell? ⟨(ad628.add ((x9_2).toNat * 2)).block,(ad628.add ((x9_2).toNat * 2)).off + 1,none⟩ = some (.int .i64 ((rd_T48 l2 x9_2).f1))) (ds:=[]) #[false,false,false,false,false,false,false,false,false,false,false] (by kernel_rfl) rfl rfl ⟨zz0 BK622,zz1 BK622,zz2 BK622,(zS HB.out hw627_0 :),(zS HB.out hw627_1 :),(zS HB.out hw628_0 :),(zS HB.out hw628_1 :)⟩ (fun hHeld=>?_);refine with_tabW spec_PlanFleet.tab7 spec_PlanFleet.bits7 (fun HT_ HW_=>?_)
          generalize wr.drew = w23 at HO_8 BK622 HB hx627_0 hx627_1 hx628_0 hx628_1 hHeld ⊢
          refine zzp 1 37 (zzb 11 2) ?_ (hc:=zzx HT_);refine zzp 2 38 (zzb 11 6) ?_ (hc:=zzx HT_);refine zzp 3 39 (zzb 11 14) ?_ (hc:=zzx HT_);refine zzp 5 41 (zzb 11 46) ?_ (hc:=zzx HT_);refine zzp 6 42 (zzb 11 110) ?_ (hc:=zzx HT_);refine zzp 7 43 (zzb 11 238) ?_ (hc:=zzx HT_)
          refine zzt 0 36 (zzb 11 239) hHeld ?_ (hc:=zzy HT_ HW_) (hy:=by rintro w' ⟨s0,s1,s2,s3,s4,s5,s6⟩;go_simp;with_reducible rfl)
          refine zzt 4 40 (zzb 11 255) hHeld ?_ (hc:=zzy HT_ HW_) (hy:=by rintro w' ⟨s0,s1,s2,s3,s4,s5,s6⟩;go_simp;with_reducible rfl)
          refine zzt 8 44 (zzb 11 511) hHeld ?_ (hc:=zzy HT_ HW_) (hy:=by rintro w' ⟨s0,s1,s2,s3,s4,s5,s6⟩;go_simp;with_reducible rfl)
          refine zzo 9 45 (zzb 11 1023) (hc:=zzw HT_) (fun K hK=>?_)
          refine zzf Try.func63 #[.agg #[.int .i64 a0_0,.int .i64 a0_1,.slice A0_2 l0_2.length c0_2],.agg #[.int .i64 ((rd_T48 l1 x9_2).f0),.int .i64 ((rd_T48 l1 x9_2).f1)],.agg #[.int .i64 ((rd_T48 l2 x9_2).f0),.int .i64 ((rd_T48 l2 x9_2).f1)]] ?_
          with_reducible refine (spec_l16Asked.calls k2 a0_0 a0_1 _ _ l0_2 ((rd_T48 l1 x9_2).f0) ((rd_T48 l1 x9_2).f1) ((rd_T48 l2 x9_2).f0) ((rd_T48 l2 x9_2).f1) true _ ?side1 ?side2 A21.out).mono ?_
          (case side1=>repeat (first|exact (zO HR0_2.out HB.out)|(with_reducible first|refine zG ?_ _|refine zH ?_ _|refine zI ?_)))
          (case side2=>exact HC0_2.out)
          rintro e w24 ⟨rfl,hb⟩
          refine ⟨_,rfl,?_⟩
          have n0_:=zM (Kd.S_below (zzj HO_8) hb)
          have n1_:=zM (blk_below (g:=gb622) (o := .cells #[.int .i64 a0_0,.int .i64 a0_1,.slice A0_2 l0_2.length c0_2] 29 (0,0)) (zzi BK622) hb)
          have n2_:=zM (zQ zzh hb)
          clear HO_8;clear BK622;clear HB;have HO_8:=n0_;have BK622:=n1_;have HB:=n2_;clear n0_ n1_ n2_;(try clear hb)
          (try clear hb2)
          (try clear hk)
          (try clear hi)
          refine hK.out _ _ ⟨zz0 BK622,zz1 BK622,zz2 BK622,(zS HB.out hw627_0 :),(zS HB.out hw627_1 :),(zS HB.out hw628_0 :),(zS HB.out hw628_1 :)⟩ (fun hHeld=>?_)
          clear hK K;refine zzn 45 ?_;refine zzp 10 46 (zzb 11 2047) ?_ (hc:=zzx HT_)
          refine done_ (done_of HT_.out (by kernel_rfl)) ?_
          try go_wp2
          go_roundg k2
          case measure=>have:=HJ3.out;have:=HK2.out;omega
          case rel=>exact ⟨(wrap64 (x9_2 + 1)),(by first|rfl|(simp;done)|(simp [*];done)),H',⟨by have:=HJ3.out;have:=HK2.out;omega⟩,⟨zzj HO_8⟩,⟨zzi BK622⟩,⟨zzh⟩⟩
         ·replace c22:=Bool.eq_false_iff.mpr c22
          subst c22;have H1:(some ((([]:List (List (S48)))),false)) = some (r1,r2):=by rw [if_neg (show ¬ (false = true) by decide)] at H;exact H
          clear H;have H:=H1;clear H1;obtain ⟨y630,hy630⟩ : ∃ y_:List (List (S48)),y_ = (([]:List (List (S48)))):=⟨_,rfl⟩
          replace H:(some (y630,false)) = some (r1,r2):=by first|(rw [hy630];with_reducible exact H)|(have H2_:=(Option.bind_some _ _).symm.trans H;rw [hy630];with_reducible exact H2_)|(have H2_:=(Option.bind_some _ _).symm.trans H;with_reducible exact H2_)|with_reducible exact H|(rw [hy630];exact H)|exact H
          have Ny630:=zM hy630;clear hy630;simp only [Option.some.injEq,Prod.mk.injEq] at H
          obtain ⟨rfl,rfl⟩:=H;try go_wp2
          have n0_:=zM (Kd.S_drew HO_8.out);have n1_:=zM (zK BK622.out);have n2_:=zM (zF HB.out);clear HO_8;clear BK622;clear HB;have HO_8:=n0_;have BK622:=n1_;have HB:=n2_;clear n0_ n1_ n2_;have p627:0 ≤ (x9_2:Int):=zzd
          have q627:x9_2 < (l1.length:Int):=zzd
          obtain ⟨ad627,e627,hx627_0,hx627_1⟩:=at_T48 HR1.out x9_2 p627 q627;have hw627_1:=hx627_1;have hw627_0:=hx627_0;cases e627
          replace hx627_0:=zS HB.out hx627_0;replace hx627_1:=zS HB.out hx627_1;replace p627:=eq_true p627;replace q627:=eq_true q627;have p628:0 ≤ (x9_2:Int):=zzd
          have q628:x9_2 < (l2.length:Int):=zzd
          obtain ⟨ad628,e628,hx628_0,hx628_1⟩:=at_T48 HR2.out x9_2 p628 q628;have hw628_1:=hx628_1;have hw628_0:=hx628_0;cases e628
          replace hx628_0:=zS HB.out hx628_0;replace hx628_1:=zS HB.out hx628_1;replace p628:=eq_true p628;replace q628:=eq_true q628;refine start_ (n:=11) (S:=fun w'=>w'.cell? ⟨gb622,0,none⟩ = some (.int .i64 a0_0) ∧ w'.cell? ⟨gb622,1,none⟩ = some (.int .i64 a0_1) ∧ w'.cell? ⟨gb622,2,none⟩ = some (.slice A0_2 l0_2.length c0_2) ∧ w'.cell? (ad627.add ((x9_2).toNat * 2)) = some (.int .i64 ((rd_T48 l1 x9_2).f0)) ∧ w'.cell? ⟨(ad627.add ((x9_2).toNat * 2)).block,(ad627.add ((x9_2).toNat * 2)).off + 1,none⟩ = some (.int .i64 ((rd_T48 l1 x9_2).f1)) ∧ w'.cell? (ad628.add ((x9_2).toNat * 2)) = some (.int .i64 ((rd_T48 l2 x9_2).f0)) ∧ w'.cell? ⟨(ad628.add ((x9_2).toNat * 2)).block,(ad628.add ((x9_2).toNat * 2)).off + 1,none⟩ = some (.int .i64 ((rd_T48 l2 x9_2).f1))) (ds:=[]) #[false,false,false,false,false,false,false,false,false,false,false] (by kernel_rfl) rfl rfl ⟨zz0 BK622,zz1 BK622,zz2 BK622,(zS HB.out hw627_0 :),(zS HB.out hw627_1 :),(zS HB.out hw628_0 :),(zS HB.out hw628_1 :)⟩ (fun hHeld=>?_);refine with_tabW spec_PlanFleet.tab7 spec_PlanFleet.bits7 (fun HT_ HW_=>?_)
          generalize wr.drew = w25 at HO_8 BK622 HB hx627_0 hx627_1 hx628_0 hx628_1 hHeld ⊢
          refine zzp 1 37 (zzb 11 2) ?_ (hc:=zzx HT_);refine zzp 2 38 (zzb 11 6) ?_ (hc:=zzx HT_);refine zzp 3 39 (zzb 11 14) ?_ (hc:=zzx HT_);refine zzp 5 41 (zzb 11 46) ?_ (hc:=zzx HT_);refine zzp 6 42 (zzb 11 110) ?_ (hc:=zzx HT_);refine zzp 7 43 (zzb 11 238) ?_ (hc:=zzx HT_)
          refine zzt 0 36 (zzb 11 239) hHeld ?_ (hc:=zzy HT_ HW_) (hy:=by rintro w' ⟨s0,s1,s2,s3,s4,s5,s6⟩;go_simp;with_reducible rfl)
          refine zzt 4 40 (zzb 11 255) hHeld ?_ (hc:=zzy HT_ HW_) (hy:=by rintro w' ⟨s0,s1,s2,s3,s4,s5,s6⟩;go_simp;with_reducible rfl)
          refine zzt 8 44 (zzb 11 511) hHeld ?_ (hc:=zzy HT_ HW_) (hy:=by rintro w' ⟨s0,s1,s2,s3,s4,s5,s6⟩;go_simp;with_reducible rfl)
          refine zzo 9 45 (zzb 11 1023) (hc:=zzw HT_) (fun K hK=>?_)
          refine zzf Try.func63 #[.agg #[.int .i64 a0_0,.int .i64 a0_1,.slice A0_2 l0_2.length c0_2],.agg #[.int .i64 ((rd_T48 l1 x9_2).f0),.int .i64 ((rd_T48 l1 x9_2).f1)],.agg #[.int .i64 ((rd_T48 l2 x9_2).f0),.int .i64 ((rd_T48 l2 x9_2).f1)]] ?_
          with_reducible refine (spec_l16Asked.calls k2 a0_0 a0_1 _ _ l0_2 ((rd_T48 l1 x9_2).f0) ((rd_T48 l1 x9_2).f1) ((rd_T48 l2 x9_2).f0) ((rd_T48 l2 x9_2).f1) false _ ?side1 ?side2 A21.out).mono ?_
          (case side1=>repeat (first|exact (zO HR0_2.out HB.out)|(with_reducible first|refine zG ?_ _|refine zH ?_ _|refine zI ?_)))
          (case side2=>exact HC0_2.out)
          rintro e w26 ⟨rfl,hb⟩
          refine ⟨_,rfl,?_⟩
          have n0_:=zM (Kd.S_below (zzj HO_8) hb)
          have n1_:=zM (blk_below (g:=gb622) (o := .cells #[.int .i64 a0_0,.int .i64 a0_1,.slice A0_2 l0_2.length c0_2] 29 (0,0)) (zzi BK622) hb)
          have n2_:=zM (zQ zzh hb)
          clear HO_8;clear BK622;clear HB;have HO_8:=n0_;have BK622:=n1_;have HB:=n2_;clear n0_ n1_ n2_;(try clear hb)
          (try clear hb2)
          (try clear hk)
          (try clear hi)
          refine hK.out _ _ ⟨zz0 BK622,zz1 BK622,zz2 BK622,(zS HB.out hw627_0 :),(zS HB.out hw627_1 :),(zS HB.out hw628_0 :),(zS HB.out hw628_1 :)⟩ (fun hHeld=>?_)
          clear hK K;refine zzn 45 ?_;refine zzp 10 46 (zzb 11 2047) ?_ (hc:=zzx HT_)
          refine done_ (done_of HT_.out (by kernel_rfl)) ?_
          try go_wp2_with (first|((with_reducible refine gate_dst (N:=47) rfl ?_);(try (refine gate_guard (by rfl) ?_;dsimp only));refine Kd.S_lit (Kd.slice 48 k48) _ 27 ?hg (N:=47) ?hd (xs:=([]:List (List (S48)))) (inner:=[]) (ok:=fun _=>True) (okp:=fun _=>True) ?hr ?hp (fun _ hk=>hk) trivial (Below.refl _ _) (Nat.le_refl _) (by simp) ?_;(case hd=>rfl);(case hg=>rfl);(case hr=>first|(go_simp;done)|(go_simp;rfl));(case hp=>exact (Reps.none _ _));intro v631 w27 ho28 hb hg_ hnew_;clear hg_ hnew_;(first|rw [← Ny630.out] at ho28|(simp only [Int.reduceToNat] at ho28;rw [← Ny630.out] at ho28));have n0_:=zM (Kd.S_elder' (zzj HO_8) (Kd.S_base ho28) hb);have n1_:=zM (Kd.S_lower (Kd.S_new' ho28 (Kd.S_lt (zzj HO_8))) (zR zzh));have n2_:=zM (blk_below (g:=gb622) (o := .cells #[.int .i64 a0_0,.int .i64 a0_1,.slice A0_2 l0_2.length c0_2] 29 (0,0)) (zzi BK622) hb);have n3_:=zM (zQ zzh hb);clear HO_8;clear BK622;clear HB;have HO_8:=n0_;have HO632:=n1_;have BK622:=n2_;have HB:=n3_;clear n0_ n1_ n2_ n3_;clear hb ho28))
          go_ret2
          exact ⟨_,by first|rfl|(simp [errW_none,errW_some] <;> rfl)|(simp [*,errW_none,errW_some] <;> rfl),by (with_reducible repeat (first|apply Kd.S_alloc|apply Kd.S_drewN|apply Kd.S_drew));exact Kd.S_mono HO632.out (fun _ hk=>trivial),zzh⟩
        ·rw [if_neg c20] at H
         exact absurd H (by simp)
       ·rw [if_neg c19] at H
        exact absurd H (by simp)
      ·rw [if_neg c18] at H
       have c18b0:decide (x9_2 < (l1.length:Int)) = false:=decide_eq_false c18
       clear c18;have H':=zM H;clear H;go_wp2
       go_loopg [8,10] k2 (fun kq v8 v10 w' => ∃ (x8_3:List (List (S48))) (x10_3:Int),v10 = .int .i64 x10_3 ∧ Aside0 (spec_PlanFleet.l1 kq l1 l2 x8_3 x10_3 a0_0 a0_1 l0_2 = some (r1,r2)) ∧ Aside0 (kq ≤ k2) ∧ Aside0 (Kd.S (Kd.slice 48 k48) 27 w' w.heap.size (fun _=>True) v8 x8_3) ∧ Aside0 (w'.heap[gb622]? = some (.cells #[.int .i64 a0_0,.int .i64 a0_1,(.slice A0_2 l0_2.length c0_2)] 29 (0,0))) ∧ Aside0 (Below w.heap.size w w'))
       case atStart=>exact ⟨(y623),(0),(by first|rfl|(simp;done)|(simp [*];done)),H',⟨Nat.le_refl _⟩,⟨zzj HO_8⟩,⟨zzi BK622⟩,⟨zzh⟩⟩
       case round =>
        clear H';(try clear c1);(try clear c2);(try clear p2);(try clear c4);(try clear c5);(try clear c6);(try clear p6);(try clear q6);(try clear hx6);(try clear c9);(try clear c10);(try clear c10b0);(try clear c10b1);(try clear c10b2);(try clear c17);(try clear c18);(try clear c18b0);(try clear c19);(try clear c19b0);(try clear c20);(try clear c20b0);(try clear c22);(try clear hcz11_0);(try clear hcz11_1);(try clear hcz11_2);(try clear hcz13_0);(try clear hcz13_1);(try clear hcz13_2);(try clear hcz15_0);(try clear hcz15_1);(try clear hcz15_2);(try clear hfz11_0);(try clear hfz11_1);(try clear hfz11_2);(try clear hfz13_0);(try clear hfz13_1);(try clear hfz13_2);(try clear hfz15_0);(try clear hfz15_1);(try clear hfz15_2);(try clear hx627_0);(try clear hx627_1);(try clear hx628_0);(try clear hx628_1);(try clear p2);(try clear p627);(try clear p628);(try clear q627);(try clear q628);obtain ⟨x8_3,x10_3,rfl,HA,HK3,HO_8,BK622,HB⟩:=hrel;cases gk with
        | zero=>exact absurd HA.out (by simp [spec_PlanFleet.l1])
        | succ k3 =>
         have H:=HA.out;clear HA;simp only [spec_PlanFleet.l1] at H
         by_cases c29:x10_3 < (l1.length:Int)
         ·rw [if_pos c29] at H
          have c29b0:decide (x10_3 < (l1.length:Int)) = true:=decide_eq_true c29
          clear c29;by_cases c30:0 ≤ x10_3
          ·rw [if_pos c30] at H
           have c30b0:decide (0 ≤ x10_3) = true:=decide_eq_true c30
           clear c30;by_cases c31:x10_3 < (l2.length:Int)
           ·rw [if_pos c31] at H
            have c31b0:decide (x10_3 < (l2.length:Int)) = true:=decide_eq_true c31
            clear c31;replace H:=Option.bind_eq_some_iff.mp H;obtain ⟨⟨t635,t638⟩,A320,H⟩:=H;replace H:(if t638 = true then (if x8_3.length < 5864062014805 then (spec_PlanFleet.l1 k3 l1 l2 (x8_3 ++ [t635]) (wrap64 (x10_3 + 1)) a0_0 a0_1 l0_2) else (none)) else (some ((([]:List (List (S48)))),false))) = some (r1,r2):=H
            have A32:=zM A320;clear A320;by_cases c33:t638 = true
            ·subst c33
             have H1:(if x8_3.length < 5864062014805 then (spec_PlanFleet.l1 k3 l1 l2 (x8_3 ++ [t635]) (wrap64 (x10_3 + 1)) a0_0 a0_1 l0_2) else (none)) = some (r1,r2):=by rw [if_pos rfl] at H;exact H
             clear H;have H:=H1;clear H1;by_cases c34:x8_3.length < 5864062014805
             ·rw [if_pos c34] at H
              have LMc34:=zM c34;clear c34;obtain ⟨y639,hy639⟩ : ∃ y_:List (List (S48)),y_ = (x8_3 ++ [t635]):=⟨_,rfl⟩
              replace H:(spec_PlanFleet.l1 k3 l1 l2 y639 (wrap64 (x10_3 + 1)) a0_0 a0_1 l0_2) = some (r1,r2):=by first|(rw [hy639];with_reducible exact H)|(have H2_:=(Option.bind_some _ _).symm.trans H;rw [hy639];with_reducible exact H2_)|(have H2_:=(Option.bind_some _ _).symm.trans H;with_reducible exact H2_)|with_reducible exact H|(rw [hy639];exact H)|exact H
              have Ny639:=zM hy639;clear hy639;have H':=zM H;clear H;try go_wp2
              have n0_:=zM (Kd.S_drew HO_8.out);have n1_:=zM (zK BK622.out);have n2_:=zM (zF HB.out);clear HO_8;clear BK622;clear HB;have HO_8:=n0_;have BK622:=n1_;have HB:=n2_;clear n0_ n1_ n2_;have p633:0 ≤ (x10_3:Int):=zzd
              have q633:x10_3 < (l1.length:Int):=zzd
              obtain ⟨ad633,e633,hx633_0,hx633_1⟩:=at_T48 HR1.out x10_3 p633 q633;have hw633_1:=hx633_1;have hw633_0:=hx633_0;cases e633
              replace hx633_0:=zS HB.out hx633_0;replace hx633_1:=zS HB.out hx633_1;replace p633:=eq_true p633;replace q633:=eq_true q633;have p634:0 ≤ (x10_3:Int):=zzd
              have q634:x10_3 < (l2.length:Int):=zzd
              obtain ⟨ad634,e634,hx634_0,hx634_1⟩:=at_T48 HR2.out x10_3 p634 q634;have hw634_1:=hx634_1;have hw634_0:=hx634_0;cases e634
              replace hx634_0:=zS HB.out hx634_0;replace hx634_1:=zS HB.out hx634_1;replace p634:=eq_true p634;replace q634:=eq_true q634;obtain ⟨Ao36,co36,eo36⟩:=Kd.S_slice HO_8.out;(first|subst eo36|(injection eo36 with f1_ f2_ f3_;have f4_:=f1_.symm;have f5_:=f3_.symm;clear f1_ f2_ f3_;subst f4_;subst f5_))
              refine start_ (n:=16) (S:=fun w'=>w'.cell? ⟨gb622,0,none⟩ = some (.int .i64 a0_0) ∧ w'.cell? ⟨gb622,1,none⟩ = some (.int .i64 a0_1) ∧ w'.cell? ⟨gb622,2,none⟩ = some (.slice A0_2 l0_2.length c0_2) ∧ w'.cell? (ad633.add ((x10_3).toNat * 2)) = some (.int .i64 ((rd_T48 l1 x10_3).f0)) ∧ w'.cell? ⟨(ad633.add ((x10_3).toNat * 2)).block,(ad633.add ((x10_3).toNat * 2)).off + 1,none⟩ = some (.int .i64 ((rd_T48 l1 x10_3).f1)) ∧ w'.cell? (ad634.add ((x10_3).toNat * 2)) = some (.int .i64 ((rd_T48 l2 x10_3).f0)) ∧ w'.cell? ⟨(ad634.add ((x10_3).toNat * 2)).block,(ad634.add ((x10_3).toNat * 2)).off + 1,none⟩ = some (.int .i64 ((rd_T48 l2 x10_3).f1))) (ds:=[]) #[false,false,false,false,false,false,false,false,false,false,false,false,false,false,false,false] (by kernel_rfl) rfl rfl ⟨zz0 BK622,zz1 BK622,zz2 BK622,(zS HB.out hw633_0 :),(zS HB.out hw633_1 :),(zS HB.out hw634_0 :),(zS HB.out hw634_1 :)⟩ (fun hHeld=>?_);refine with_tabW spec_PlanFleet.tab12 spec_PlanFleet.bits12 (fun HT_ HW_=>?_)
              generalize wr.drew = w35 at HO_8 BK622 HB hx633_0 hx633_1 hx634_0 hx634_1 hHeld ⊢
              refine zzp 1 56 (zzb 16 2) ?_ (hc:=zzx HT_);refine zzp 2 57 (zzb 16 6) ?_ (hc:=zzx HT_);refine zzp 3 58 (zzb 16 14) ?_ (hc:=zzx HT_);refine zzp 4 59 (zzb 16 30) ?_ (hc:=zzx HT_);refine zzp 6 61 (zzb 16 94) ?_ (hc:=zzx HT_);refine zzp 7 62 (zzb 16 222) ?_ (hc:=zzx HT_);refine zzp 8 63 (zzb 16 478) ?_ (hc:=zzx HT_)
              refine zzt 0 55 (zzb 16 479) hHeld ?_ (hc:=zzy HT_ HW_) (hy:=by rintro w' ⟨s0,s1,s2,s3,s4,s5,s6⟩;go_simp;with_reducible rfl)
              refine zzt 5 60 (zzb 16 511) hHeld ?_ (hc:=zzy HT_ HW_) (hy:=by rintro w' ⟨s0,s1,s2,s3,s4,s5,s6⟩;go_simp;with_reducible rfl)
              refine zzt 9 64 (zzb 16 1023) hHeld ?_ (hc:=zzy HT_ HW_) (hy:=by rintro w' ⟨s0,s1,s2,s3,s4,s5,s6⟩;go_simp;with_reducible rfl)
              refine zzo 10 65 (zzb 16 2047) (hc:=zzw HT_) (fun K hK=>?_)
              refine zzf Try.func69 #[.agg #[.int .i64 a0_0,.int .i64 a0_1,.slice A0_2 l0_2.length c0_2],.slice Ao36 x8_3.length co36,.agg #[.int .i64 ((rd_T48 l1 x10_3).f0),.int .i64 ((rd_T48 l1 x10_3).f1)],.agg #[.int .i64 ((rd_T48 l2 x10_3).f0),.int .i64 ((rd_T48 l2 x10_3).f1)]] ?_
              with_reducible refine (spec_l16Safe.calls a0_0 a0_1 _ _ l0_2 _ _ x8_3 ((rd_T48 l1 x10_3).f0) ((rd_T48 l1 x10_3).f1) ((rd_T48 l2 x10_3).f0) ((rd_T48 l2 x10_3).f1) t635 true _ ?side1 ?side2 ?side3 ?side4 A32.out).mono ?_
              (case side1=>repeat (first|exact (zO HR0_2.out HB.out)|(with_reducible first|refine zG ?_ _|refine zH ?_ _|refine zI ?_)))
              (case side2=>exact HC0_2.out)
              (case side3=>repeat (first|exact (Kd.S_reads' HO_8.out).2.2|(with_reducible first|refine zG ?_ _|refine zH ?_ _|refine zI ?_)))
              (case side4=>exact (Kd.S_reads' HO_8.out).2.1)
              rintro e w37 ⟨v636,rfl,ho0,hb⟩
              refine ⟨_,rfl,?_⟩
              have n0_:=zM (Kd.S_elder' (zzj HO_8) (Kd.R_base ho0) hb)
              have n1_:=zM (Kd.R_lower ho0 (zR zzh))
              have n2_:=zM (blk_below (g:=gb622) (o := .cells #[.int .i64 a0_0,.int .i64 a0_1,.slice A0_2 l0_2.length c0_2] 29 (0,0)) (zzi BK622) hb)
              have n3_:=zM (zQ zzh hb)
              clear HO_8;clear BK622;clear HB;have HO_8:=n0_;have HO637:=n1_;have BK622:=n2_;have HB:=n3_;clear n0_ n1_ n2_ n3_;(try clear hb)
              (try clear hb2)
              (try clear hk)
              (try clear hi)
              (try clear ho0)
              refine hK.out _ _ ⟨zz0 BK622,zz1 BK622,zz2 BK622,(zS HB.out hw633_0 :),(zS HB.out hw633_1 :),(zS HB.out hw634_0 :),(zS HB.out hw634_1 :)⟩ (fun hHeld=>?_)
              clear hK K;refine zzn 65 ?_;refine zzp 11 54 (zzb 16 4095) ?_ (hc:=zzx HT_);refine zzp 12 66 (zzb 16 8191) ?_ (hc:=zzx HT_);refine zzp 13 67 (zzb 16 16383) ?_ (hc:=zzx HT_);refine zzp 14 11 (zzb 16 32767) ?_ (hc:=zzx HT_);refine zzp 15 12 (zzb 16 65535) ?_ (hc:=zzx HT_)
              refine done_ (done_of HT_.out (by kernel_rfl)) ?_
              obtain ⟨Ao39,co39,eo39⟩:=Kd.R_slice HO637.out;subst eo39;try go_wp2_with (first|((with_reducible refine gate_builtin (b := .append) (xs := #[.tmp 71,.tmp 73]) rfl ?_);(try (refine gate_guard (by rfl) ?_;dsimp only));at_builtin;refine Kd.S_append (Kd.slice 48 k48) (w0:=w) w.heap.size rfl (.tmp 71) (.tmp 73) 61 27 (.slice none 0 0) 24 rfl Try.underlying61 info27 rfl (by decide) (by omega) (.slice Ao36 x8_3.length co36) x8_3 t635 [.slice Ao39 t635.length co39] (fun _=>True) (fun k_=>some k_ = (.slice Ao39 t635.length co39:Value).ownBlock) rfl rfl ?aP (fun k_ hk_=>((Kd.R_mono (ok':=fun k_=>((fun _=>True)) k_ ∧ some k_ ≠ (.slice Ao36 x8_3.length co36:Value).ownBlock) (Kd.R_apart' (HO637.out) (Kd.S_typed HO_8.out) (by decide)) (fun k_ hk=>⟨trivial,hk.2⟩))).1 k_ hk_.symm) ?aF ?aO ?aB ?aS ?aL ?_;(case aP=>exact Kd.M_row (Kd.R_mono (Kd.R_tight rfl (Kd.R_mono (ok':=fun k_=>((fun _=>True)) k_ ∧ some k_ ≠ (.slice Ao36 x8_3.length co36:Value).ownBlock) (Kd.R_apart' (HO637.out) (Kd.S_typed HO_8.out) (by decide)) (fun k_ hk=>⟨trivial,hk.2⟩))) (fun _ h_=>h_)));(case aB=>exact zzh);(case aF=>exact (fun _ _=>trivial));(case aO=>exact (by (with_reducible repeat (first|apply Kd.S_alloc|apply Kd.S_drewN|apply Kd.S_drew));exact Kd.S_mono HO_8.out (fun k_ hk=>⟨trivial,fun e_=>hk.2 e_⟩)));(case aS=>exact (zR zzh));(case aL=>have:=LMc34.out;omega);intro v640 w38 ho hb hg hat;rw [← Ny639.out] at ho;have n0_:=zM (blk_grown (g:=gb622) (o := .cells #[.int .i64 a0_0,.int .i64 a0_1,.slice A0_2 l0_2.length c0_2] 29 (0,0)) (zzi BK622) hg (Kd.S_ne HO_8.out BK622.out (by decide)));have n1_:=zM (hb);have n2_:=zM (ho);clear BK622;clear HB;clear HO_8;clear HO637;have BK622:=n0_;have HB:=n1_;have HO641:=n2_;clear n0_ n1_ n2_;clear ho hb hg hat))
              go_roundg k3
              case measure=>have:=HJ3.out;have:=HK2.out;have:=HK3.out;omega
              case rel=>exact ⟨(y639),(wrap64 (x10_3 + 1)),(by first|rfl|(simp;done)|(simp [*];done)),H',⟨by have:=HJ3.out;have:=HK2.out;have:=HK3.out;omega⟩,⟨zzj HO641⟩,⟨zzi BK622⟩,⟨zzh⟩⟩
             ·rw [if_neg c34] at H
              exact absurd H (by simp)
            ·replace c33:=Bool.eq_false_iff.mpr c33
             subst c33;have H1:(some ((([]:List (List (S48)))),false)) = some (r1,r2):=by rw [if_neg (show ¬ (false = true) by decide)] at H;exact H
             clear H;have H:=H1;clear H1;obtain ⟨y642,hy642⟩ : ∃ y_:List (List (S48)),y_ = (([]:List (List (S48)))):=⟨_,rfl⟩
             replace H:(some (y642,false)) = some (r1,r2):=by first|(rw [hy642];with_reducible exact H)|(have H2_:=(Option.bind_some _ _).symm.trans H;rw [hy642];with_reducible exact H2_)|(have H2_:=(Option.bind_some _ _).symm.trans H;with_reducible exact H2_)|with_reducible exact H|(rw [hy642];exact H)|exact H
             have Ny642:=zM hy642;clear hy642;simp only [Option.some.injEq,Prod.mk.injEq] at H
             obtain ⟨rfl,rfl⟩:=H;try go_wp2
             have n0_:=zM (Kd.S_drew HO_8.out);have n1_:=zM (zK BK622.out);have n2_:=zM (zF HB.out);clear HO_8;clear BK622;clear HB;have HO_8:=n0_;have BK622:=n1_;have HB:=n2_;clear n0_ n1_ n2_;have p633:0 ≤ (x10_3:Int):=zzd
             have q633:x10_3 < (l1.length:Int):=zzd
             obtain ⟨ad633,e633,hx633_0,hx633_1⟩:=at_T48 HR1.out x10_3 p633 q633;have hw633_1:=hx633_1;have hw633_0:=hx633_0;cases e633
             replace hx633_0:=zS HB.out hx633_0;replace hx633_1:=zS HB.out hx633_1;replace p633:=eq_true p633;replace q633:=eq_true q633;have p634:0 ≤ (x10_3:Int):=zzd
             have q634:x10_3 < (l2.length:Int):=zzd
             obtain ⟨ad634,e634,hx634_0,hx634_1⟩:=at_T48 HR2.out x10_3 p634 q634;have hw634_1:=hx634_1;have hw634_0:=hx634_0;cases e634
             replace hx634_0:=zS HB.out hx634_0;replace hx634_1:=zS HB.out hx634_1;replace p634:=eq_true p634;replace q634:=eq_true q634;obtain ⟨Ao41,co41,eo41⟩:=Kd.S_slice HO_8.out;(first|subst eo41|(injection eo41 with f1_ f2_ f3_;have f4_:=f1_.symm;have f5_:=f3_.symm;clear f1_ f2_ f3_;subst f4_;subst f5_))
             refine start_ (n:=16) (S:=fun w'=>w'.cell? ⟨gb622,0,none⟩ = some (.int .i64 a0_0) ∧ w'.cell? ⟨gb622,1,none⟩ = some (.int .i64 a0_1) ∧ w'.cell? ⟨gb622,2,none⟩ = some (.slice A0_2 l0_2.length c0_2) ∧ w'.cell? (ad633.add ((x10_3).toNat * 2)) = some (.int .i64 ((rd_T48 l1 x10_3).f0)) ∧ w'.cell? ⟨(ad633.add ((x10_3).toNat * 2)).block,(ad633.add ((x10_3).toNat * 2)).off + 1,none⟩ = some (.int .i64 ((rd_T48 l1 x10_3).f1)) ∧ w'.cell? (ad634.add ((x10_3).toNat * 2)) = some (.int .i64 ((rd_T48 l2 x10_3).f0)) ∧ w'.cell? ⟨(ad634.add ((x10_3).toNat * 2)).block,(ad634.add ((x10_3).toNat * 2)).off + 1,none⟩ = some (.int .i64 ((rd_T48 l2 x10_3).f1))) (ds:=[]) #[false,false,false,false,false,false,false,false,false,false,false,false,false,false,false,false] (by kernel_rfl) rfl rfl ⟨zz0 BK622,zz1 BK622,zz2 BK622,(zS HB.out hw633_0 :),(zS HB.out hw633_1 :),(zS HB.out hw634_0 :),(zS HB.out hw634_1 :)⟩ (fun hHeld=>?_);refine with_tabW spec_PlanFleet.tab12 spec_PlanFleet.bits12 (fun HT_ HW_=>?_)
             generalize wr.drew = w40 at HO_8 BK622 HB hx633_0 hx633_1 hx634_0 hx634_1 hHeld ⊢
             refine zzp 1 56 (zzb 16 2) ?_ (hc:=zzx HT_);refine zzp 2 57 (zzb 16 6) ?_ (hc:=zzx HT_);refine zzp 3 58 (zzb 16 14) ?_ (hc:=zzx HT_);refine zzp 4 59 (zzb 16 30) ?_ (hc:=zzx HT_);refine zzp 6 61 (zzb 16 94) ?_ (hc:=zzx HT_);refine zzp 7 62 (zzb 16 222) ?_ (hc:=zzx HT_);refine zzp 8 63 (zzb 16 478) ?_ (hc:=zzx HT_)
             refine zzt 0 55 (zzb 16 479) hHeld ?_ (hc:=zzy HT_ HW_) (hy:=by rintro w' ⟨s0,s1,s2,s3,s4,s5,s6⟩;go_simp;with_reducible rfl)
             refine zzt 5 60 (zzb 16 511) hHeld ?_ (hc:=zzy HT_ HW_) (hy:=by rintro w' ⟨s0,s1,s2,s3,s4,s5,s6⟩;go_simp;with_reducible rfl)
             refine zzt 9 64 (zzb 16 1023) hHeld ?_ (hc:=zzy HT_ HW_) (hy:=by rintro w' ⟨s0,s1,s2,s3,s4,s5,s6⟩;go_simp;with_reducible rfl)
             refine zzo 10 65 (zzb 16 2047) (hc:=zzw HT_) (fun K hK=>?_)
             refine zzf Try.func69 #[.agg #[.int .i64 a0_0,.int .i64 a0_1,.slice A0_2 l0_2.length c0_2],.slice Ao41 x8_3.length co41,.agg #[.int .i64 ((rd_T48 l1 x10_3).f0),.int .i64 ((rd_T48 l1 x10_3).f1)],.agg #[.int .i64 ((rd_T48 l2 x10_3).f0),.int .i64 ((rd_T48 l2 x10_3).f1)]] ?_
             with_reducible refine (spec_l16Safe.calls a0_0 a0_1 _ _ l0_2 _ _ x8_3 ((rd_T48 l1 x10_3).f0) ((rd_T48 l1 x10_3).f1) ((rd_T48 l2 x10_3).f0) ((rd_T48 l2 x10_3).f1) t635 false _ ?side1 ?side2 ?side3 ?side4 A32.out).mono ?_
             (case side1=>repeat (first|exact (zO HR0_2.out HB.out)|(with_reducible first|refine zG ?_ _|refine zH ?_ _|refine zI ?_)))
             (case side2=>exact HC0_2.out)
             (case side3=>repeat (first|exact (Kd.S_reads' HO_8.out).2.2|(with_reducible first|refine zG ?_ _|refine zH ?_ _|refine zI ?_)))
             (case side4=>exact (Kd.S_reads' HO_8.out).2.1)
             rintro e w42 ⟨v636,rfl,ho0,hb⟩
             refine ⟨_,rfl,?_⟩
             have n0_:=zM (Kd.S_elder' (zzj HO_8) (Kd.R_base ho0) hb)
             have n1_:=zM (Kd.R_lower ho0 (zR zzh))
             have n2_:=zM (blk_below (g:=gb622) (o := .cells #[.int .i64 a0_0,.int .i64 a0_1,.slice A0_2 l0_2.length c0_2] 29 (0,0)) (zzi BK622) hb)
             have n3_:=zM (zQ zzh hb)
             clear HO_8;clear BK622;clear HB;have HO_8:=n0_;have HO637:=n1_;have BK622:=n2_;have HB:=n3_;clear n0_ n1_ n2_ n3_;(try clear hb)
             (try clear hb2)
             (try clear hk)
             (try clear hi)
             (try clear ho0)
             refine hK.out _ _ ⟨zz0 BK622,zz1 BK622,zz2 BK622,(zS HB.out hw633_0 :),(zS HB.out hw633_1 :),(zS HB.out hw634_0 :),(zS HB.out hw634_1 :)⟩ (fun hHeld=>?_)
             clear hK K;refine zzn 65 ?_;refine zzp 11 54 (zzb 16 4095) ?_ (hc:=zzx HT_);refine zzp 12 66 (zzb 16 8191) ?_ (hc:=zzx HT_);refine zzp 13 67 (zzb 16 16383) ?_ (hc:=zzx HT_);refine zzp 14 11 (zzb 16 32767) ?_ (hc:=zzx HT_);refine zzp 15 12 (zzb 16 65535) ?_ (hc:=zzx HT_)
             refine done_ (done_of HT_.out (by kernel_rfl)) ?_
             try go_wp2_with (first|((with_reducible refine gate_dst (N:=70) rfl ?_);(try (refine gate_guard (by rfl) ?_;dsimp only));refine Kd.S_lit (Kd.slice 48 k48) _ 27 ?hg (N:=70) ?hd (xs:=([]:List (List (S48)))) (inner:=[]) (ok:=fun _=>True) (okp:=fun _=>True) ?hr ?hp (fun _ hk=>hk) trivial (Below.refl _ _) (Nat.le_refl _) (by simp) ?_;(case hd=>rfl);(case hg=>rfl);(case hr=>first|(go_simp;done)|(go_simp;rfl));(case hp=>exact (Reps.none _ _));intro v643 w43 ho44 hb hg_ hnew_;clear hg_ hnew_;(first|rw [← Ny642.out] at ho44|(simp only [Int.reduceToNat] at ho44;rw [← Ny642.out] at ho44));have n0_:=zM (Kd.S_elder' (zzj HO_8) (Kd.S_base ho44) hb);have n1_:=zM (zP (zzl HO637) hb);have n2_:=zM (Kd.S_lower (Kd.S_new' (Kd.S_new' ho44 (Kd.S_lt (zzj HO_8))) (Kd.R_lt (zzl HO637))) (zR zzh));have n3_:=zM (blk_below (g:=gb622) (o := .cells #[.int .i64 a0_0,.int .i64 a0_1,.slice A0_2 l0_2.length c0_2] 29 (0,0)) (zzi BK622) hb);have n4_:=zM (zQ zzh hb);clear HO_8;clear HO637;clear BK622;clear HB;have HO_8:=n0_;have HO637:=n1_;have HO644:=n2_;have BK622:=n3_;have HB:=n4_;clear n0_ n1_ n2_ n3_ n4_;clear hb ho44))
             go_ret2
             exact ⟨_,by first|rfl|(simp [errW_none,errW_some] <;> rfl)|(simp [*,errW_none,errW_some] <;> rfl),by (with_reducible repeat (first|apply Kd.S_alloc|apply Kd.S_drewN|apply Kd.S_drew));exact Kd.S_mono HO644.out (fun _ hk=>trivial),zzh⟩
           ·rw [if_neg c31] at H
            exact absurd H (by simp)
          ·rw [if_neg c30] at H
           exact absurd H (by simp)
         ·rw [if_neg c29] at H
          have c29b0:decide (x10_3 < (l1.length:Int)) = false:=decide_eq_false c29
          clear c29;simp only [Option.some.injEq,Prod.mk.injEq] at H
          obtain ⟨rfl,rfl⟩:=H;go_wp2
          go_ret2
          exact ⟨_,by first|rfl|(simp [errW_none,errW_some] <;> rfl)|(simp [*,errW_none,errW_some] <;> rfl),zzj HO_8,zzh⟩



/-! ### impl_PlanFleet: function 45 -/
mutual
noncomputable def impl_PlanFleet.j0:Nat → List (S48) → List (S48) → Bool → Int → Int → List (S48) → Option ((List (List (S48))) × Bool)
 | 0,_,_,_,_,_,_=>none
 | k + 1,x1,x2,x26,x646000,x646001,x646002=>if x26 = true then (some (([]:List (List (S48))),false)) else (impl_PlanFleet.l0 k x1 x2 (([]:List (List (S48)))) (x1.length:Int) 0 x646000 x646001 x646002)
noncomputable def impl_PlanFleet.l0:Nat → List (S48) → List (S48) → List (List (S48)) → Int → Int → Int → Int → List (S48) → Option ((List (List (S48))) × Bool)
 | 0,_,_,_,_,_,_,_,_=>none
 | k + 1,x1,x2,x8,x29,x30,x646000,x646001,x646002=>if x30 < x29 then (if 0 ≤ x30 then (if x30 < (x1.length:Int) then (if x30 < (x2.length:Int) then ((impl_SafePath.f x646000 x646001 x646002 x8 ((rd_T48 x1 x30).f0) ((rd_T48 x1 x30).f1) ((rd_T48 x2 x30).f0) ((rd_T48 x2 x30).f1)).bind fun bt652=>(if bt652.2 = true then (if x8.length < 5864062014805 then (impl_PlanFleet.l0 k x1 x2 (x8 ++ [bt652.1]) x29 (wrap64 (x30 + 1)) x646000 x646001 x646002) else (none)) else (some (([]:List (List (S48))),false)))) else (none)) else (none)) else (none)) else (some (x8,true))
end
noncomputable def impl_PlanFleet.f (k:Nat) (a0_0:Int) (a0_1:Int) (l0_2:List (S48)) (l1:List (S48)) (l2:List (S48)):Option ((List (List (S48))) × Bool):=(impl_IsValidFloor.f k a0_0 a0_1 l0_2).bind fun t646=>(if t646 = true then (if (l1.length:Int) = (l2.length:Int) then (impl_PlanFleet.j0 k l1 l2 (decide ((l1.length:Int) > 3)) a0_0 a0_1 l0_2) else (impl_PlanFleet.j0 k l1 l2 true a0_0 a0_1 l0_2)) else (impl_PlanFleet.j0 k l1 l2 true a0_0 a0_1 l0_2))
def impl_PlanFleet.T7:Bool × List (List Nat × List Nat):=(true,[([],[]),([],[]),([],[]),([],[]),([2,3],[2,3]),([4],[4]),([],[]),([],[]),([6,7],[6,7]),([8],[8]),([0,1,5,9],[0,1,5,9]),([10],[10]),([11],[11]),([11],[11]),([12,10,0,1,2,3,4,5,6,7,8,9,10,11,12],[12]),([13,14,0,1,2,3,4,5,6,7,8,9,10,11,12,13,14],[13])])
def impl_PlanFleet.B7:List Nat:=[0,0,0,0,12,28,0,0,192,448,1023,2047,4095,4095,8191,32767]
theorem impl_PlanFleet.tab7:rtab .any (opsOf Try.f45 7) = impl_PlanFleet.T7:=by kernel_rfl
theorem impl_PlanFleet.bits7:waitsOk impl_PlanFleet.T7.2 impl_PlanFleet.B7 = true:=by kernel_rfl
set_option maxHeartbeats 8000000 in
set_option maxRecDepth 100000 in
theorem impl_PlanFleet.calls (k:Nat) (a0_0:Int) (a0_1:Int) (A0_2:Option Addr) (c0_2:Nat) (l0_2:List (S48)) (A1:Option Addr) (c1:Nat) (l1:List (S48)) (A2:Option Addr) (c2:Nat) (l2:List (S48)) (r1:List (List (S48))) (r2:Bool) (w:World) (hr0_2:Kd.C k48 w A0_2 l0_2.length l0_2) (hc0_2:l0_2.length ≤ c0_2) (hr1:Kd.C k48 w A1 l1.length l1) (hc1:l1.length ≤ c1) (hr2:Kd.C k48 w A2 l2.length l2) (hc2:l2.length ≤ c2) (h:impl_PlanFleet.f k a0_0 a0_1 l0_2 l1 l2 = some (r1,r2)) :
  Calls Try.prog 45 #[.agg #[.int .i64 a0_0,.int .i64 a0_1,.slice A0_2 l0_2.length c0_2],.slice A1 l1.length c1,.slice A2 l2.length c2] w fun e w' => ∃ v0_:Value,e = .returned (.tuple #[v0_,.bool r2]) ∧ Kd.S (Kd.slice 48 k48) 27 w' w.heap.size (fun _=>True) v0_ r1 ∧ Below w.heap.size w w':=by
 have hu29:=Try.underlying29;have hu48:=Try.underlying48;have HR0_2:=zM hr0_2;have HC0_2:=zM hc0_2;clear hr0_2 hc0_2;have HR1:=zM hr1;have HC1:=zM hc1;clear hr1 hc1;have HR2:=zM hr2;have HC2:=zM hc2;clear hr2 hc2;have HB:=zM (Below.refl w.heap.size w);have H:((impl_IsValidFloor.f k a0_0 a0_1 l0_2).bind fun t646=>(if t646 = true then (if (l1.length:Int) = (l2.length:Int) then (impl_PlanFleet.j0 k l1 l2 (decide ((l1.length:Int) > 3)) a0_0 a0_1 l0_2) else (impl_PlanFleet.j0 k l1 l2 true a0_0 a0_1 l0_2)) else (impl_PlanFleet.j0 k l1 l2 true a0_0 a0_1 l0_2))) = some (r1,r2):=h
 clear h;have HC4:=zM H;clear H;go_enter Try.func45,Try.ntmps45
 go_upto_region 1 with (first|((with_reducible refine gate_dst (N:=3) rfl ?_);(try (refine gate_guard (by rfl) ?_;dsimp only));refine zzc 3 #[.int .i64 a0_0,.int .i64 a0_1,.slice A0_2 l0_2.length c0_2] 29 ?_;intro gb645 hg w5 hbox hb;have n0_:=zM (zQ zzh hb);have n1_:=zM (hbox);have n2_:=zM ((by rw [hg];exact (zR zzh):w.heap.size ≤ gb645));have n3_:=zM ((by rw [hg];exact (zR zzh):w.heap.size ≤ gb645));clear HB;have HB:=n0_;have BK645:=n1_;have GW645:=n2_;have GE645:=n3_;clear n0_ n1_ n2_ n3_;clear hb hbox hg))
 (try simp only [Act.put,zT,zU,zV])
 go_cut [26] (fun v26 wc => ∃ (kq:Nat) (x26_3:Bool),v26 = .bool x26_3 ∧ Aside0 (impl_PlanFleet.j0 kq l1 l2 x26_3 a0_0 a0_1 l0_2 = some (r1,r2)) ∧ Aside0 (kq ≤ k) ∧ Aside0 (wc.heap[gb645]? = some (.cells #[.int .i64 a0_0,.int .i64 a0_1,(.slice A0_2 l0_2.length c0_2)] 29 (0,0))) ∧ Aside0 (Below w.heap.size w wc))
 case first =>
  have H:=HC4.out;clear HC4;replace H:=Option.bind_eq_some_iff.mp H;obtain ⟨t646,A60,H⟩:=H;replace H:(if t646 = true then (if (l1.length:Int) = (l2.length:Int) then (impl_PlanFleet.j0 k l1 l2 (decide ((l1.length:Int) > 3)) a0_0 a0_1 l0_2) else (impl_PlanFleet.j0 k l1 l2 true a0_0 a0_1 l0_2)) else (impl_PlanFleet.j0 k l1 l2 true a0_0 a0_1 l0_2)) = some (r1,r2):=H
  have A6:=zM A60;clear A60;by_cases c7:t646 = true
  ·subst c7
   have H1:(if (l1.length:Int) = (l2.length:Int) then (impl_PlanFleet.j0 k l1 l2 (decide ((l1.length:Int) > 3)) a0_0 a0_1 l0_2) else (impl_PlanFleet.j0 k l1 l2 true a0_0 a0_1 l0_2)) = some (r1,r2):=by rw [if_pos rfl] at H;exact H
   clear H;have H:=H1;clear H1;by_cases c8:(l1.length:Int) = (l2.length:Int)
   ·rw [if_pos c8] at H
    have c8b0:((l1.length:Int) == (l2.length:Int)) = true:=beq_iff_eq.mpr c8
    have c8b1:((l1.length:Int) != (l2.length:Int)) = false:=bne_eq_false_iff_eq.mpr c8
    have c8b2:(l1.length == l2.length) = true:=by first|simpa using c8|(simp at c8 ⊢;omega)
    clear c8;(first|rw [c8b0]|(simp only [i64_w,i32_w];rw [c8b0])|skip)
    have H':=zM H;clear H;have hcz9_0:=zz0 BK645
    have hcz9_1:=zz1 BK645
    have hcz9_2:=zz2 BK645
    have hfz9_0:=blk_frozen BK645.out 0;have hfz9_1:=blk_frozen BK645.out 1;have hfz9_2:=blk_frozen BK645.out 2;go_wp2_with (first|((with_reducible refine gate_callee (f:=16) rfl ?_);refine goesL_ (some 13) rfl rfl Try.func16 (by kernel_rfl) rfl #[.agg #[.int .i64 a0_0,.int .i64 a0_1,.slice A0_2 l0_2.length c0_2]] rfl (by (try simp only [List.map_toArray,List.map_cons,List.map_nil]);first|done|rfl|(simp only [List.length_drop,List.length_take];rfl)) ?_;(with_reducible refine (impl_IsValidFloor.calls k a0_0 a0_1 _ _ l0_2 true _ ?side1 ?side2 A6.out).mono ?_);(case side1=>repeat (first|exact (zO HR0_2.out HB.out)|(with_reducible first|refine zG ?_ _|refine zH ?_ _|refine zI ?_)));(case side2=>exact HC0_2.out);rintro e w10 ⟨rfl,hb⟩;refine ⟨_,rfl,?_⟩;have n0_:=zM (blk_below (g:=gb645) (o := .cells #[.int .i64 a0_0,.int .i64 a0_1,.slice A0_2 l0_2.length c0_2] 29 (0,0)) (zzi BK645) hb);have n1_:=zM (zQ zzh hb);clear BK645;clear HB;have BK645:=n0_;have HB:=n1_;clear n0_ n1_;(try clear hb);(try clear hb2);(try clear hk);(try clear hi)))
    go_meet
    case rel=>exact ⟨_,(decide ((l1.length:Int) > 3)),(by first|rfl|(simp;done)|(simp [*];done)),H',⟨by first|omega|exact Nat.le_refl _⟩,⟨zzi BK645⟩,⟨zzh⟩⟩
   ·rw [if_neg c8] at H
    have c8b0:((l1.length:Int) == (l2.length:Int)) = false:=beq_eq_false_iff_ne.mpr c8
    have c8b1:((l1.length:Int) != (l2.length:Int)) = true:=bne_iff_ne.mpr c8
    have c8b2:(l1.length == l2.length) = false:=by first|simpa using c8|(simp at c8 ⊢;omega)
    (first|rw [c8b0]|(simp only [i64_w,i32_w];rw [c8b0])|skip)
    have H':=zM H;clear H;have hcz11_0:=zz0 BK645
    have hcz11_1:=zz1 BK645
    have hcz11_2:=zz2 BK645
    have hfz11_0:=blk_frozen BK645.out 0;have hfz11_1:=blk_frozen BK645.out 1;have hfz11_2:=blk_frozen BK645.out 2;go_wp2_with (first|((with_reducible refine gate_callee (f:=16) rfl ?_);refine goesL_ (some 13) rfl rfl Try.func16 (by kernel_rfl) rfl #[.agg #[.int .i64 a0_0,.int .i64 a0_1,.slice A0_2 l0_2.length c0_2]] rfl (by (try simp only [List.map_toArray,List.map_cons,List.map_nil]);first|done|rfl|(simp only [List.length_drop,List.length_take];rfl)) ?_;(with_reducible refine (impl_IsValidFloor.calls k a0_0 a0_1 _ _ l0_2 true _ ?side1 ?side2 A6.out).mono ?_);(case side1=>repeat (first|exact (zO HR0_2.out HB.out)|(with_reducible first|refine zG ?_ _|refine zH ?_ _|refine zI ?_)));(case side2=>exact HC0_2.out);rintro e w12 ⟨rfl,hb⟩;refine ⟨_,rfl,?_⟩;have n0_:=zM (blk_below (g:=gb645) (o := .cells #[.int .i64 a0_0,.int .i64 a0_1,.slice A0_2 l0_2.length c0_2] 29 (0,0)) (zzi BK645) hb);have n1_:=zM (zQ zzh hb);clear BK645;clear HB;have BK645:=n0_;have HB:=n1_;clear n0_ n1_;(try clear hb);(try clear hb2);(try clear hk);(try clear hi)))
    go_meet
    case rel=>exact ⟨_,(true),(by first|rfl|(simp;done)|(simp [*];done)),H',⟨by first|omega|exact Nat.le_refl _⟩,⟨zzi BK645⟩,⟨zzh⟩⟩
  ·replace c7:=Bool.eq_false_iff.mpr c7
   subst c7;have H1:(impl_PlanFleet.j0 k l1 l2 true a0_0 a0_1 l0_2) = some (r1,r2):=by rw [if_neg (show ¬ (false = true) by decide)] at H;exact H
   clear H;have H:=H1;clear H1;have H':=zM H;clear H;have hcz13_0:=zz0 BK645
   have hcz13_1:=zz1 BK645
   have hcz13_2:=zz2 BK645
   have hfz13_0:=blk_frozen BK645.out 0;have hfz13_1:=blk_frozen BK645.out 1;have hfz13_2:=blk_frozen BK645.out 2;go_wp2_with (first|((with_reducible refine gate_callee (f:=16) rfl ?_);refine goesL_ (some 13) rfl rfl Try.func16 (by kernel_rfl) rfl #[.agg #[.int .i64 a0_0,.int .i64 a0_1,.slice A0_2 l0_2.length c0_2]] rfl (by (try simp only [List.map_toArray,List.map_cons,List.map_nil]);first|done|rfl|(simp only [List.length_drop,List.length_take];rfl)) ?_;(with_reducible refine (impl_IsValidFloor.calls k a0_0 a0_1 _ _ l0_2 false _ ?side1 ?side2 A6.out).mono ?_);(case side1=>repeat (first|exact (zO HR0_2.out HB.out)|(with_reducible first|refine zG ?_ _|refine zH ?_ _|refine zI ?_)));(case side2=>exact HC0_2.out);rintro e w14 ⟨rfl,hb⟩;refine ⟨_,rfl,?_⟩;have n0_:=zM (blk_below (g:=gb645) (o := .cells #[.int .i64 a0_0,.int .i64 a0_1,.slice A0_2 l0_2.length c0_2] 29 (0,0)) (zzi BK645) hb);have n1_:=zM (zQ zzh hb);clear BK645;clear HB;have BK645:=n0_;have HB:=n1_;clear n0_ n1_;(try clear hb);(try clear hb2);(try clear hk);(try clear hi)))
   go_meet
   case rel=>exact ⟨_,(true),(by first|rfl|(simp;done)|(simp [*];done)),H',⟨by first|omega|exact Nat.le_refl _⟩,⟨zzi BK645⟩,⟨zzh⟩⟩
 case rest =>
  clear HC4;(try clear c1);(try clear c2);(try clear p2);(try clear c4);(try clear c7);(try clear c8);(try clear c8b0);(try clear c8b1);(try clear c8b2);(try clear hcz11_0);(try clear hcz11_1);(try clear hcz11_2);(try clear hcz13_0);(try clear hcz13_1);(try clear hcz13_2);(try clear hcz9_0);(try clear hcz9_1);(try clear hcz9_2);(try clear hfz11_0);(try clear hfz11_1);(try clear hfz11_2);(try clear hfz13_0);(try clear hfz13_1);(try clear hfz13_2);(try clear hfz9_0);(try clear hfz9_1);(try clear hfz9_2);obtain ⟨kq,x26_3,rfl,HA,HJ3,BK645,HB⟩:=hcut;cases kq with
  | zero=>exact absurd HA.out (by simp [impl_PlanFleet.j0])
  | succ kj3 =>
   have H:=HA.out;clear HA;simp only [impl_PlanFleet.j0] at H
   by_cases c15:x26_3 = true
   ·subst c15
    have H1:(some (([]:List (List (S48))),false)) = some (r1,r2):=by rw [if_pos rfl] at H;exact H
    clear H;have H:=H1;clear H1;simp only [Option.some.injEq,Prod.mk.injEq] at H
    obtain ⟨rfl,rfl⟩:=H;go_wp2
    go_ret2
    exact ⟨_,by first|rfl|(simp [errW_none,errW_some] <;> rfl)|(simp [*,errW_none,errW_some] <;> rfl),by first|exact Kd.S_nil _ _ _ _ _|exact Kd.N_nil _ _ _ _ _|exact Kd.V_nil _ _ _ _ _|exact Kd.Q_nil _ _ _ _ _|exact Kd.R_nil _ _ _ _ _,zzh⟩
   ·replace c15:=Bool.eq_false_iff.mpr c15
    subst c15;have H1:(impl_PlanFleet.l0 kj3 l1 l2 (([]:List (List (S48)))) (l1.length:Int) 0 a0_0 a0_1 l0_2) = some (r1,r2):=by rw [if_neg (show ¬ (false = true) by decide)] at H;exact H
    clear H;have H:=H1;clear H1;obtain ⟨y647,hy647⟩ : ∃ y_:List (List (S48)),y_ = (([]:List (List (S48)))):=⟨_,rfl⟩
    replace H:(impl_PlanFleet.l0 kj3 l1 l2 y647 (l1.length:Int) 0 a0_0 a0_1 l0_2) = some (r1,r2):=by first|(rw [hy647];with_reducible exact H)|(have H2_:=(Option.bind_some _ _).symm.trans H;rw [hy647];with_reducible exact H2_)|(have H2_:=(Option.bind_some _ _).symm.trans H;with_reducible exact H2_)|with_reducible exact H|(rw [hy647];exact H)|exact H
    have Ny647:=zM hy647;clear hy647;have H':=zM H;clear H;go_wp2_with (first|((with_reducible refine gate_dst (N:=27) rfl ?_);(try (refine gate_guard (by rfl) ?_;dsimp only));refine Kd.S_lit (Kd.slice 48 k48) _ 27 ?hg (N:=27) ?hd (xs:=([]:List (List (S48)))) (inner:=[]) (ok:=fun _=>True) (okp:=fun _=>True) ?hr ?hp (fun _ hk=>hk) trivial (Below.refl _ _) (Nat.le_refl _) (by simp) ?_;(case hd=>rfl);(case hg=>rfl);(case hr=>first|(go_simp;done)|(go_simp;rfl));(case hp=>exact (Reps.none _ _));intro v648 w16 ho17 hb hg_ hnew_;clear hg_ hnew_;(first|rw [← Ny647.out] at ho17|(simp only [Int.reduceToNat] at ho17;rw [← Ny647.out] at ho17));have n0_:=zM (Kd.S_lower ho17 (zR zzh));have n1_:=zM (blk_below (g:=gb645) (o := .cells #[.int .i64 a0_0,.int .i64 a0_1,.slice A0_2 l0_2.length c0_2] 29 (0,0)) (zzi BK645) hb);have n2_:=zM (zQ zzh hb);clear BK645;clear HB;have HO649:=n0_;have BK645:=n1_;have HB:=n2_;clear n0_ n1_ n2_;clear hb ho17))
    go_loopg [8,30] kj3 (fun kq v8 v30 w' => ∃ (x8_2:List (List (S48))) (x30_2:Int),v30 = .int .i64 x30_2 ∧ Aside0 (impl_PlanFleet.l0 kq l1 l2 x8_2 (l1.length:Int) x30_2 a0_0 a0_1 l0_2 = some (r1,r2)) ∧ Aside0 (kq ≤ kj3) ∧ Aside0 (Kd.S (Kd.slice 48 k48) 27 w' w.heap.size (fun _=>True) v8 x8_2) ∧ Aside0 (w'.heap[gb645]? = some (.cells #[.int .i64 a0_0,.int .i64 a0_1,(.slice A0_2 l0_2.length c0_2)] 29 (0,0))) ∧ Aside0 (Below w.heap.size w w'))
    case atStart=>exact ⟨(y647),(0),(by first|rfl|(simp;done)|(simp [*];done)),H',⟨Nat.le_refl _⟩,⟨zzj HO649⟩,⟨zzi BK645⟩,⟨zzh⟩⟩
    case round =>
     clear H';(try clear c1);(try clear c2);(try clear p2);(try clear c4);(try clear c7);(try clear c8);(try clear c8b0);(try clear c8b1);(try clear c8b2);(try clear c15);(try clear c16);(try clear hcz11_0);(try clear hcz11_1);(try clear hcz11_2);(try clear hcz13_0);(try clear hcz13_1);(try clear hcz13_2);(try clear hcz9_0);(try clear hcz9_1);(try clear hcz9_2);(try clear hfz11_0);(try clear hfz11_1);(try clear hfz11_2);(try clear hfz13_0);(try clear hfz13_1);(try clear hfz13_2);(try clear hfz9_0);(try clear hfz9_1);(try clear hfz9_2);(try clear p2);obtain ⟨x8_2,x30_2,rfl,HA,HK2,HO_8,BK645,HB⟩:=hrel;cases gk with
     | zero=>exact absurd HA.out (by simp [impl_PlanFleet.l0])
     | succ k2 =>
      have H:=HA.out;clear HA;simp only [impl_PlanFleet.l0] at H
      by_cases c18:x30_2 < (l1.length:Int)
      ·rw [if_pos c18] at H
       have c18b0:decide (x30_2 < (l1.length:Int)) = true:=decide_eq_true c18
       clear c18;by_cases c19:0 ≤ x30_2
       ·rw [if_pos c19] at H
        have c19b0:decide (0 ≤ x30_2) = true:=decide_eq_true c19
        clear c19;by_cases c20:x30_2 < (l1.length:Int)
        ·rw [if_pos c20] at H
         have c20b0:decide (x30_2 < (l1.length:Int)) = true:=decide_eq_true c20
         clear c20;by_cases c21:x30_2 < (l2.length:Int)
         ·rw [if_pos c21] at H
          have c21b0:decide (x30_2 < (l2.length:Int)) = true:=decide_eq_true c21
          clear c21;replace H:=Option.bind_eq_some_iff.mp H;obtain ⟨⟨t652,t655⟩,A220,H⟩:=H;replace H:(if t655 = true then (if x8_2.length < 5864062014805 then (impl_PlanFleet.l0 k2 l1 l2 (x8_2 ++ [t652]) (l1.length:Int) (wrap64 (x30_2 + 1)) a0_0 a0_1 l0_2) else (none)) else (some (([]:List (List (S48))),false))) = some (r1,r2):=H
          have A22:=zM A220;clear A220;by_cases c23:t655 = true
          ·subst c23
           have H1:(if x8_2.length < 5864062014805 then (impl_PlanFleet.l0 k2 l1 l2 (x8_2 ++ [t652]) (l1.length:Int) (wrap64 (x30_2 + 1)) a0_0 a0_1 l0_2) else (none)) = some (r1,r2):=by rw [if_pos rfl] at H;exact H
           clear H;have H:=H1;clear H1;by_cases c24:x8_2.length < 5864062014805
           ·rw [if_pos c24] at H
            have LMc24:=zM c24;clear c24;obtain ⟨y656,hy656⟩ : ∃ y_:List (List (S48)),y_ = (x8_2 ++ [t652]):=⟨_,rfl⟩
            replace H:(impl_PlanFleet.l0 k2 l1 l2 y656 (l1.length:Int) (wrap64 (x30_2 + 1)) a0_0 a0_1 l0_2) = some (r1,r2):=by first|(rw [hy656];with_reducible exact H)|(have H2_:=(Option.bind_some _ _).symm.trans H;rw [hy656];with_reducible exact H2_)|(have H2_:=(Option.bind_some _ _).symm.trans H;with_reducible exact H2_)|with_reducible exact H|(rw [hy656];exact H)|exact H
            have Ny656:=zM hy656;clear hy656;have H':=zM H;clear H;try go_wp2
            have n0_:=zM (Kd.S_drew HO_8.out);have n1_:=zM (zK BK645.out);have n2_:=zM (zF HB.out);clear HO_8;clear BK645;clear HB;have HO_8:=n0_;have BK645:=n1_;have HB:=n2_;clear n0_ n1_ n2_;have p650:0 ≤ (x30_2:Int):=zzd
            have q650:x30_2 < (l1.length:Int):=zzd
            obtain ⟨ad650,e650,hx650_0,hx650_1⟩:=at_T48 HR1.out x30_2 p650 q650;have hw650_1:=hx650_1;have hw650_0:=hx650_0;cases e650
            replace hx650_0:=zS HB.out hx650_0;replace hx650_1:=zS HB.out hx650_1;replace p650:=eq_true p650;replace q650:=eq_true q650;have p651:0 ≤ (x30_2:Int):=zzd
            have q651:x30_2 < (l2.length:Int):=zzd
            obtain ⟨ad651,e651,hx651_0,hx651_1⟩:=at_T48 HR2.out x30_2 p651 q651;have hw651_1:=hx651_1;have hw651_0:=hx651_0;cases e651
            replace hx651_0:=zS HB.out hx651_0;replace hx651_1:=zS HB.out hx651_1;replace p651:=eq_true p651;replace q651:=eq_true q651;obtain ⟨Ao26,co26,eo26⟩:=Kd.S_slice HO_8.out;(first|subst eo26|(injection eo26 with f1_ f2_ f3_;have f4_:=f1_.symm;have f5_:=f3_.symm;clear f1_ f2_ f3_;subst f4_;subst f5_))
            refine start_ (n:=16) (S:=fun w'=>w'.cell? ⟨gb645,0,none⟩ = some (.int .i64 a0_0) ∧ w'.cell? ⟨gb645,1,none⟩ = some (.int .i64 a0_1) ∧ w'.cell? ⟨gb645,2,none⟩ = some (.slice A0_2 l0_2.length c0_2) ∧ w'.cell? (ad650.add ((x30_2).toNat * 2)) = some (.int .i64 ((rd_T48 l1 x30_2).f0)) ∧ w'.cell? ⟨(ad650.add ((x30_2).toNat * 2)).block,(ad650.add ((x30_2).toNat * 2)).off + 1,none⟩ = some (.int .i64 ((rd_T48 l1 x30_2).f1)) ∧ w'.cell? (ad651.add ((x30_2).toNat * 2)) = some (.int .i64 ((rd_T48 l2 x30_2).f0)) ∧ w'.cell? ⟨(ad651.add ((x30_2).toNat * 2)).block,(ad651.add ((x30_2).toNat * 2)).off + 1,none⟩ = some (.int .i64 ((rd_T48 l2 x30_2).f1))) (ds:=[]) #[false,false,false,false,false,false,false,false,false,false,false,false,false,false,false,false] (by kernel_rfl) rfl rfl ⟨zz0 BK645,zz1 BK645,zz2 BK645,(zS HB.out hw650_0 :),(zS HB.out hw650_1 :),(zS HB.out hw651_0 :),(zS HB.out hw651_1 :)⟩ (fun hHeld=>?_);refine with_tabW impl_PlanFleet.tab7 impl_PlanFleet.bits7 (fun HT_ HW_=>?_)
            generalize wr.drew = w25 at HO_8 BK645 HB hx650_0 hx650_1 hx651_0 hx651_1 hHeld ⊢
            refine zzp 1 35 (zzb 16 2) ?_ (hc:=zzx HT_);refine zzp 2 36 (zzb 16 6) ?_ (hc:=zzx HT_);refine zzp 3 37 (zzb 16 14) ?_ (hc:=zzx HT_);refine zzp 4 38 (zzb 16 30) ?_ (hc:=zzx HT_);refine zzp 6 40 (zzb 16 94) ?_ (hc:=zzx HT_);refine zzp 7 41 (zzb 16 222) ?_ (hc:=zzx HT_);refine zzp 8 42 (zzb 16 478) ?_ (hc:=zzx HT_)
            refine zzt 0 34 (zzb 16 479) hHeld ?_ (hc:=zzy HT_ HW_) (hy:=by rintro w' ⟨s0,s1,s2,s3,s4,s5,s6⟩;go_simp;with_reducible rfl)
            refine zzt 5 39 (zzb 16 511) hHeld ?_ (hc:=zzy HT_ HW_) (hy:=by rintro w' ⟨s0,s1,s2,s3,s4,s5,s6⟩;go_simp;with_reducible rfl)
            refine zzt 9 43 (zzb 16 1023) hHeld ?_ (hc:=zzy HT_ HW_) (hy:=by rintro w' ⟨s0,s1,s2,s3,s4,s5,s6⟩;go_simp;with_reducible rfl)
            refine zzo 10 44 (zzb 16 2047) (hc:=zzw HT_) (fun K hK=>?_)
            refine zzf Try.func41 #[.agg #[.int .i64 a0_0,.int .i64 a0_1,.slice A0_2 l0_2.length c0_2],.slice Ao26 x8_2.length co26,.agg #[.int .i64 ((rd_T48 l1 x30_2).f0),.int .i64 ((rd_T48 l1 x30_2).f1)],.agg #[.int .i64 ((rd_T48 l2 x30_2).f0),.int .i64 ((rd_T48 l2 x30_2).f1)]] ?_
            with_reducible refine (impl_SafePath.calls a0_0 a0_1 _ _ l0_2 _ _ x8_2 ((rd_T48 l1 x30_2).f0) ((rd_T48 l1 x30_2).f1) ((rd_T48 l2 x30_2).f0) ((rd_T48 l2 x30_2).f1) t652 true _ ?side1 ?side2 ?side3 ?side4 A22.out).mono ?_
            (case side1=>repeat (first|exact (zO HR0_2.out HB.out)|(with_reducible first|refine zG ?_ _|refine zH ?_ _|refine zI ?_)))
            (case side2=>exact HC0_2.out)
            (case side3=>repeat (first|exact (Kd.S_reads' HO_8.out).2.2|(with_reducible first|refine zG ?_ _|refine zH ?_ _|refine zI ?_)))
            (case side4=>exact (Kd.S_reads' HO_8.out).2.1)
            rintro e w27 ⟨v653,rfl,ho0,hb⟩
            refine ⟨_,rfl,?_⟩
            have n0_:=zM (Kd.S_elder' (zzj HO_8) (Kd.R_base ho0) hb)
            have n1_:=zM (Kd.R_lower ho0 (zR zzh))
            have n2_:=zM (blk_below (g:=gb645) (o := .cells #[.int .i64 a0_0,.int .i64 a0_1,.slice A0_2 l0_2.length c0_2] 29 (0,0)) (zzi BK645) hb)
            have n3_:=zM (zQ zzh hb)
            clear HO_8;clear BK645;clear HB;have HO_8:=n0_;have HO654:=n1_;have BK645:=n2_;have HB:=n3_;clear n0_ n1_ n2_ n3_;(try clear hb)
            (try clear hb2)
            (try clear hk)
            (try clear hi)
            (try clear ho0)
            refine hK.out _ _ ⟨zz0 BK645,zz1 BK645,zz2 BK645,(zS HB.out hw650_0 :),(zS HB.out hw650_1 :),(zS HB.out hw651_0 :),(zS HB.out hw651_1 :)⟩ (fun hHeld=>?_)
            clear hK K;refine zzn 44 ?_;refine zzp 11 33 (zzb 16 4095) ?_ (hc:=zzx HT_);refine zzp 12 45 (zzb 16 8191) ?_ (hc:=zzx HT_);refine zzp 13 46 (zzb 16 16383) ?_ (hc:=zzx HT_);refine zzp 14 10 (zzb 16 32767) ?_ (hc:=zzx HT_);refine zzp 15 11 (zzb 16 65535) ?_ (hc:=zzx HT_)
            refine done_ (done_of HT_.out (by kernel_rfl)) ?_
            obtain ⟨Ao29,co29,eo29⟩:=Kd.R_slice HO654.out;subst eo29;try go_wp2_with (first|((with_reducible refine gate_builtin (b := .append) (xs := #[.tmp 49,.tmp 51]) rfl ?_);(try (refine gate_guard (by rfl) ?_;dsimp only));at_builtin;refine Kd.S_append (Kd.slice 48 k48) (w0:=w) w.heap.size rfl (.tmp 49) (.tmp 51) 61 27 (.slice none 0 0) 24 rfl Try.underlying61 info27 rfl (by decide) (by omega) (.slice Ao26 x8_2.length co26) x8_2 t652 [.slice Ao29 t652.length co29] (fun _=>True) (fun k_=>some k_ = (.slice Ao29 t652.length co29:Value).ownBlock) rfl rfl ?aP (fun k_ hk_=>((Kd.R_mono (ok':=fun k_=>((fun _=>True)) k_ ∧ some k_ ≠ (.slice Ao26 x8_2.length co26:Value).ownBlock) (Kd.R_apart' (HO654.out) (Kd.S_typed HO_8.out) (by decide)) (fun k_ hk=>⟨trivial,hk.2⟩))).1 k_ hk_.symm) ?aF ?aO ?aB ?aS ?aL ?_;(case aP=>exact Kd.M_row (Kd.R_mono (Kd.R_tight rfl (Kd.R_mono (ok':=fun k_=>((fun _=>True)) k_ ∧ some k_ ≠ (.slice Ao26 x8_2.length co26:Value).ownBlock) (Kd.R_apart' (HO654.out) (Kd.S_typed HO_8.out) (by decide)) (fun k_ hk=>⟨trivial,hk.2⟩))) (fun _ h_=>h_)));(case aB=>exact zzh);(case aF=>exact (fun _ _=>trivial));(case aO=>exact (by (with_reducible repeat (first|apply Kd.S_alloc|apply Kd.S_drewN|apply Kd.S_drew));exact Kd.S_mono HO_8.out (fun k_ hk=>⟨trivial,fun e_=>hk.2 e_⟩)));(case aS=>exact (zR zzh));(case aL=>have:=LMc24.out;omega);intro v657 w28 ho hb hg hat;rw [← Ny656.out] at ho;have n0_:=zM (blk_grown (g:=gb645) (o := .cells #[.int .i64 a0_0,.int .i64 a0_1,.slice A0_2 l0_2.length c0_2] 29 (0,0)) (zzi BK645) hg (Kd.S_ne HO_8.out BK645.out (by decide)));have n1_:=zM (hb);have n2_:=zM (ho);clear BK645;clear HB;clear HO_8;clear HO654;have BK645:=n0_;have HB:=n1_;have HO658:=n2_;clear n0_ n1_ n2_;clear ho hb hg hat))
            go_roundg k2
            case measure=>have:=HJ3.out;have:=HK2.out;omega
            case rel=>exact ⟨(y656),(wrap64 (x30_2 + 1)),(by first|rfl|(simp;done)|(simp [*];done)),H',⟨by have:=HJ3.out;have:=HK2.out;omega⟩,⟨zzj HO658⟩,⟨zzi BK645⟩,⟨zzh⟩⟩
           ·rw [if_neg c24] at H
            exact absurd H (by simp)
          ·replace c23:=Bool.eq_false_iff.mpr c23
           subst c23;have H1:(some (([]:List (List (S48))),false)) = some (r1,r2):=by rw [if_neg (show ¬ (false = true) by decide)] at H;exact H
           clear H;have H:=H1;clear H1;simp only [Option.some.injEq,Prod.mk.injEq] at H
           obtain ⟨rfl,rfl⟩:=H;try go_wp2
           have n0_:=zM (Kd.S_drew HO_8.out);have n1_:=zM (zK BK645.out);have n2_:=zM (zF HB.out);clear HO_8;clear BK645;clear HB;have HO_8:=n0_;have BK645:=n1_;have HB:=n2_;clear n0_ n1_ n2_;have p650:0 ≤ (x30_2:Int):=zzd
           have q650:x30_2 < (l1.length:Int):=zzd
           obtain ⟨ad650,e650,hx650_0,hx650_1⟩:=at_T48 HR1.out x30_2 p650 q650;have hw650_1:=hx650_1;have hw650_0:=hx650_0;cases e650
           replace hx650_0:=zS HB.out hx650_0;replace hx650_1:=zS HB.out hx650_1;replace p650:=eq_true p650;replace q650:=eq_true q650;have p651:0 ≤ (x30_2:Int):=zzd
           have q651:x30_2 < (l2.length:Int):=zzd
           obtain ⟨ad651,e651,hx651_0,hx651_1⟩:=at_T48 HR2.out x30_2 p651 q651;have hw651_1:=hx651_1;have hw651_0:=hx651_0;cases e651
           replace hx651_0:=zS HB.out hx651_0;replace hx651_1:=zS HB.out hx651_1;replace p651:=eq_true p651;replace q651:=eq_true q651;obtain ⟨Ao31,co31,eo31⟩:=Kd.S_slice HO_8.out;(first|subst eo31|(injection eo31 with f1_ f2_ f3_;have f4_:=f1_.symm;have f5_:=f3_.symm;clear f1_ f2_ f3_;subst f4_;subst f5_))
           refine start_ (n:=16) (S:=fun w'=>w'.cell? ⟨gb645,0,none⟩ = some (.int .i64 a0_0) ∧ w'.cell? ⟨gb645,1,none⟩ = some (.int .i64 a0_1) ∧ w'.cell? ⟨gb645,2,none⟩ = some (.slice A0_2 l0_2.length c0_2) ∧ w'.cell? (ad650.add ((x30_2).toNat * 2)) = some (.int .i64 ((rd_T48 l1 x30_2).f0)) ∧ w'.cell? ⟨(ad650.add ((x30_2).toNat * 2)).block,(ad650.add ((x30_2).toNat * 2)).off + 1,none⟩ = some (.int .i64 ((rd_T48 l1 x30_2).f1)) ∧ w'.cell? (ad651.add ((x30_2).toNat * 2)) = some (.int .i64 ((rd_T48 l2 x30_2).f0)) ∧ w'.cell? ⟨(ad651.add ((x30_2).toNat * 2)).block,(ad651.add ((x30_2).toNat * 2)).off + 1,none⟩ = some (.int .i64 ((rd_T48 l2 x30_2).f1))) (ds:=[]) #[false,false,false,false,false,false,false,false,false,false,false,false,false,false,false,false] (by kernel_rfl) rfl rfl ⟨zz0 BK645,zz1 BK645,zz2 BK645,(zS HB.out hw650_0 :),(zS HB.out hw650_1 :),(zS HB.out hw651_0 :),(zS HB.out hw651_1 :)⟩ (fun hHeld=>?_);refine with_tabW impl_PlanFleet.tab7 impl_PlanFleet.bits7 (fun HT_ HW_=>?_)
           generalize wr.drew = w30 at HO_8 BK645 HB hx650_0 hx650_1 hx651_0 hx651_1 hHeld ⊢
           refine zzp 1 35 (zzb 16 2) ?_ (hc:=zzx HT_);refine zzp 2 36 (zzb 16 6) ?_ (hc:=zzx HT_);refine zzp 3 37 (zzb 16 14) ?_ (hc:=zzx HT_);refine zzp 4 38 (zzb 16 30) ?_ (hc:=zzx HT_);refine zzp 6 40 (zzb 16 94) ?_ (hc:=zzx HT_);refine zzp 7 41 (zzb 16 222) ?_ (hc:=zzx HT_);refine zzp 8 42 (zzb 16 478) ?_ (hc:=zzx HT_)
           refine zzt 0 34 (zzb 16 479) hHeld ?_ (hc:=zzy HT_ HW_) (hy:=by rintro w' ⟨s0,s1,s2,s3,s4,s5,s6⟩;go_simp;with_reducible rfl)
           refine zzt 5 39 (zzb 16 511) hHeld ?_ (hc:=zzy HT_ HW_) (hy:=by rintro w' ⟨s0,s1,s2,s3,s4,s5,s6⟩;go_simp;with_reducible rfl)
           refine zzt 9 43 (zzb 16 1023) hHeld ?_ (hc:=zzy HT_ HW_) (hy:=by rintro w' ⟨s0,s1,s2,s3,s4,s5,s6⟩;go_simp;with_reducible rfl)
           refine zzo 10 44 (zzb 16 2047) (hc:=zzw HT_) (fun K hK=>?_)
           refine zzf Try.func41 #[.agg #[.int .i64 a0_0,.int .i64 a0_1,.slice A0_2 l0_2.length c0_2],.slice Ao31 x8_2.length co31,.agg #[.int .i64 ((rd_T48 l1 x30_2).f0),.int .i64 ((rd_T48 l1 x30_2).f1)],.agg #[.int .i64 ((rd_T48 l2 x30_2).f0),.int .i64 ((rd_T48 l2 x30_2).f1)]] ?_
           with_reducible refine (impl_SafePath.calls a0_0 a0_1 _ _ l0_2 _ _ x8_2 ((rd_T48 l1 x30_2).f0) ((rd_T48 l1 x30_2).f1) ((rd_T48 l2 x30_2).f0) ((rd_T48 l2 x30_2).f1) t652 false _ ?side1 ?side2 ?side3 ?side4 A22.out).mono ?_
           (case side1=>repeat (first|exact (zO HR0_2.out HB.out)|(with_reducible first|refine zG ?_ _|refine zH ?_ _|refine zI ?_)))
           (case side2=>exact HC0_2.out)
           (case side3=>repeat (first|exact (Kd.S_reads' HO_8.out).2.2|(with_reducible first|refine zG ?_ _|refine zH ?_ _|refine zI ?_)))
           (case side4=>exact (Kd.S_reads' HO_8.out).2.1)
           rintro e w32 ⟨v653,rfl,ho0,hb⟩
           refine ⟨_,rfl,?_⟩
           have n0_:=zM (Kd.S_elder' (zzj HO_8) (Kd.R_base ho0) hb)
           have n1_:=zM (Kd.R_lower ho0 (zR zzh))
           have n2_:=zM (blk_below (g:=gb645) (o := .cells #[.int .i64 a0_0,.int .i64 a0_1,.slice A0_2 l0_2.length c0_2] 29 (0,0)) (zzi BK645) hb)
           have n3_:=zM (zQ zzh hb)
           clear HO_8;clear BK645;clear HB;have HO_8:=n0_;have HO654:=n1_;have BK645:=n2_;have HB:=n3_;clear n0_ n1_ n2_ n3_;(try clear hb)
           (try clear hb2)
           (try clear hk)
           (try clear hi)
           (try clear ho0)
           refine hK.out _ _ ⟨zz0 BK645,zz1 BK645,zz2 BK645,(zS HB.out hw650_0 :),(zS HB.out hw650_1 :),(zS HB.out hw651_0 :),(zS HB.out hw651_1 :)⟩ (fun hHeld=>?_)
           clear hK K;refine zzn 44 ?_;refine zzp 11 33 (zzb 16 4095) ?_ (hc:=zzx HT_);refine zzp 12 45 (zzb 16 8191) ?_ (hc:=zzx HT_);refine zzp 13 46 (zzb 16 16383) ?_ (hc:=zzx HT_);refine zzp 14 10 (zzb 16 32767) ?_ (hc:=zzx HT_);refine zzp 15 11 (zzb 16 65535) ?_ (hc:=zzx HT_)
           refine done_ (done_of HT_.out (by kernel_rfl)) ?_
           try go_wp2
           go_ret2
           exact ⟨_,by first|rfl|(simp [errW_none,errW_some] <;> rfl)|(simp [*,errW_none,errW_some] <;> rfl),by first|exact Kd.S_nil _ _ _ _ _|exact Kd.N_nil _ _ _ _ _|exact Kd.V_nil _ _ _ _ _|exact Kd.Q_nil _ _ _ _ _|exact Kd.R_nil _ _ _ _ _,zzh⟩
         ·rw [if_neg c21] at H
          exact absurd H (by simp)
        ·rw [if_neg c20] at H
         exact absurd H (by simp)
       ·rw [if_neg c19] at H
        exact absurd H (by simp)
      ·rw [if_neg c18] at H
       have c18b0:decide (x30_2 < (l1.length:Int)) = false:=decide_eq_false c18
       clear c18;simp only [Option.some.injEq,Prod.mk.injEq] at H
       obtain ⟨rfl,rfl⟩:=H;go_wp2
       go_ret2
       exact ⟨_,by first|rfl|(simp [errW_none,errW_some] <;> rfl)|(simp [*,errW_none,errW_some] <;> rfl),zzj HO_8,zzh⟩

end Go.Proofs.Ytbpccdbkaiigcaa.G

/- What spec.PlanFleet and impl.PlanFleet answer: the same. -/
namespace Go.Proofs.Ytbpccdbkaiigcaa.G
open Go.RowKit Go.Proofs.YtbpccdbkaiigcaaW.PrintWords Go.Proofs.YtbpccdbkaiigcaaW.PrintLast
set_option linter.unusedVariables false
set_option linter.unusedSimpArgs false
section
variable {w h : Int} {bl a b : List S48}
theorem planTo_none {i : Nat} (hn : planTo w h bl a b i = none) : ∀ d : Nat,planTo w h bl a b (i + d) = none
 | 0=>hn
 | d + 1=>by rw [show i + (d + 1) = (i + d) + 1 from rfl,planTo_succ,planTo_none hn d];rfl
theorem planTo_yes {i : Nat} {os : List (List S48)} (e : planTo w h bl a b i = some os) (hr : (askR w h bl os (rd_T48 a (i : Int)) (rd_T48 b (i : Int))).2 = true) : planTo w h bl a b (i + 1) = some (os ++ [(askR w h bl os (rd_T48 a (i : Int)) (rd_T48 b (i : Int))).1]):=by
 rw [planTo_succ,e]
 exact if_pos hr
theorem planTo_no {i : Nat} {os : List (List S48)} (e : planTo w h bl a b i = some os) (hr : ¬ (askR w h bl os (rd_T48 a (i : Int)) (rd_T48 b (i : Int))).2 = true) : planTo w h bl a b (i + 1) = none:=by
 rw [planTo_succ,e]
 exact if_neg hr
theorem fleet_pos (hc : FloorOk w h bl ∧ (a.length : Int) = (b.length : Int) ∧ (a.length : Int) ≤ 3) {os : List (List S48)} (e : planTo w h bl a b a.length = some os) : fleetR w h bl a b = (os,true):=by
 unfold fleetR
 rw [chk_pos hc,e]
theorem fleet_none (e : planTo w h bl a b a.length = none) : fleetR w h bl a b = ([],false):=by
 unfold fleetR
 rw [e]
 unfold chk
 split <;> rfl
theorem fleet_neg (hc : ¬ (FloorOk w h bl ∧ (a.length : Int) = (b.length : Int) ∧ (a.length : Int) ≤ 3)) : fleetR w h bl a b = ([],false):=by
 unfold fleetR
 rw [chk_neg hc]
end
theorem impl_plan (w h : Int) (bl : List S48) (hb : (bl.length : Int) ≤ 1099511627776) (a b : List S48) : Ev (fun k=>impl_PlanFleet.f k w h bl a b) (fleetR w h bl a b):=by
 have no : ¬ (FloorOk w h bl ∧ (a.length : Int) = (b.length : Int) ∧ (a.length : Int) ≤ 3) → Ev (fun k=>impl_PlanFleet.j0 k a b true w h bl) (fleetR w h bl a b):=by
  intro hn
  rw [fleet_neg hn]
  refine Ev.step (fun k=>by rw [impl_PlanFleet.j0]) ?_
  simp only [if_true]
  exact Ev.now _
 unfold impl_PlanFleet.f
 refine Ev.bind (impl_floor w h bl hb) ?_
 by_cases hf : FloorOk w h bl
 ·rw [chk_pos hf]
  simp only [if_true]
  by_cases he : (a.length : Int) = (b.length : Int)
  ·simp only [if_pos he]
   by_cases h3 : (a.length : Int) > 3
   ·rw [decide_eq_true h3]
    exact no (fun x=>by have:=x.2.2;omega)
   ·rw [decide_eq_false h3]
    refine Ev.step (fun k=>by rw [impl_PlanFleet.j0]) ?_
    simp only [Bool.false_eq_true,if_false]
    refine Ev.up (fun k (os : List (List S48)) i=>impl_PlanFleet.l0 k a b os (a.length : Int) i w h bl) (fun _ _=>fleetR w h bl a b) (fun os i=>0 ≤ i ∧ planTo w h bl a b i.toNat = some os) (a.length : Int) ?_ ?_ [] 0 ⟨Int.le_refl _,rfl⟩ (by omega)
    ·rintro os ⟨_,hp⟩
     rw [Int.toNat_natCast] at hp
     refine Ev.step (fun k=>by rw [impl_PlanFleet.l0]) ?_
     simp only [Int.lt_irrefl,if_false]
     rw [fleet_pos ⟨hf,he,by omega⟩ hp]
     exact Ev.now _
    ·rintro os i ⟨h0,hp⟩ hlt ih
     have hpo:=plan_ok hp
     have e9 : wrap64 (i + 1) = i + 1:=wrap64_id (by omega) (by omega)
     have hi : ((i.toNat : Nat) : Int) = i:=by omega
     have hi1 : (i + 1).toNat = i.toNat + 1:=by omega
     refine Ev.step (fun k=>by rw [impl_PlanFleet.l0]) ?_
     simp only [if_pos hlt,if_pos h0,if_pos (show i < (b.length : Int) by omega),e9,impl_safe w h bl os hb,Option.bind_some]
     refine Ev.ite (fun g=>?_) (fun g=>?_)
     ·simp only [if_pos (show os.length < 5864062014805 by have:=hpo.1;omega)]
      refine ih _ ⟨by omega,?_⟩
      rw [hi1]
      have:=planTo_yes hp (by rw [hi];exact g)
      rw [hi] at this
      exact this
     ·have:=planTo_no hp (by rw [hi];exact g)
      have:=planTo_none this (a.length - (i.toNat + 1))
      rw [show i.toNat + 1 + (a.length - (i.toNat + 1)) = a.length from by omega] at this
      rw [fleet_none this]
      exact Ev.now _
  ·simp only [if_neg he]
   exact no (fun x=>he x.2.1)
 ·rw [chk_neg hf]
  simp only [Bool.false_eq_true,if_false]
  exact no (fun x=>hf x.1)
theorem spec_plan (w h : Int) (bl : List S48) (hb : (bl.length : Int) ≤ 1099511627776) (a b : List S48) : Ev (fun k=>spec_PlanFleet.f k w h bl a b) (fleetR w h bl a b):=by
 have no : ¬ (FloorOk w h bl ∧ (a.length : Int) = (b.length : Int) ∧ (a.length : Int) ≤ 3) → Ev (fun k=>spec_PlanFleet.j0 k a b [] true w h bl) (fleetR w h bl a b):=by
  intro hn
  rw [fleet_neg hn]
  refine Ev.step (fun k=>by rw [spec_PlanFleet.j0]) ?_
  simp only [if_true]
  exact Ev.now _
 unfold spec_PlanFleet.f
 simp only [Option.bind_some]
 refine Ev.bind (spec_floor w h bl hb) ?_
 by_cases hf : FloorOk w h bl
 ·rw [chk_pos hf]
  simp only [if_true]
  by_cases he : (a.length : Int) = (b.length : Int)
  ·simp only [if_pos he]
   by_cases h3 : (a.length : Int) > 3
   ·rw [decide_eq_true h3]
    exact no (fun x=>by have:=x.2.2;omega)
   ·rw [decide_eq_false h3]
    refine Ev.step (fun k=>by rw [spec_PlanFleet.j0]) ?_
    simp only [Bool.false_eq_true,if_false]
    refine Ev.up (fun k (_ : Unit) i=>spec_PlanFleet.l0 k a b [] i w h bl) (fun _ _=>fleetR w h bl a b) (fun _ i=>0 ≤ i ∧ ∀ j : Int,0 ≤ j → j < i → Free w h bl (rd_T48 a j) ∧ Free w h bl (rd_T48 b j)) (a.length : Int) ?_ ?_ () 0 ⟨Int.le_refl _,fun j h0 h1=>by omega⟩ (by omega)
    ·rintro _ ⟨_,hfree⟩
     refine Ev.step (fun k=>by rw [spec_PlanFleet.l0]) ?_
     simp only [Int.lt_irrefl,if_false]
     refine Ev.up (fun k (os : List (List S48)) i=>spec_PlanFleet.l1 k a b os i w h bl) (fun _ _=>fleetR w h bl a b) (fun os i=>0 ≤ i ∧ planTo w h bl a b i.toNat = some os) (a.length : Int) ?_ ?_ [] 0 ⟨Int.le_refl _,rfl⟩ (by omega)
     ·rintro os ⟨_,hp⟩
      rw [Int.toNat_natCast] at hp
      refine Ev.step (fun k=>by rw [spec_PlanFleet.l1]) ?_
      simp only [Int.lt_irrefl,if_false]
      rw [fleet_pos ⟨hf,he,by omega⟩ hp]
      exact Ev.now _
     ·rintro os i ⟨h0,hp⟩ hlt ih
      have hpo:=plan_ok hp
      have e9 : wrap64 (i + 1) = i + 1:=wrap64_id (by omega) (by omega)
      have hi : ((i.toNat : Nat) : Int) = i:=by omega
      have hi1 : (i + 1).toNat = i.toNat + 1:=by omega
      have hfr:=hfree i h0 hlt
      have hok : AskOk w h bl os (rd_T48 a i) (rd_T48 b i):=⟨hf,by have:=hpo.1;omega,hfr.1,hfr.2,fun p hp'=>(hpo.2.1 p hp').1⟩
      have hsf : spec_l16Safe.f w h bl os (rd_T48 a i).f0 (rd_T48 a i).f1 (rd_T48 b i).f0 (rd_T48 b i).f1 = some (askR w h bl os (rd_T48 a i) (rd_T48 b i)):=by
       unfold spec_l16Safe.f askR
       rw [chk_pos (show SafeOk w h bl os ⟨(rd_T48 a i).f0,(rd_T48 a i).f1⟩ ⟨(rd_T48 b i).f0,(rd_T48 b i).f1⟩ from ⟨hf,hb,hfr.1,hfr.2,hok.len⟩),chk_pos hok]
      refine Ev.step (fun k=>by rw [spec_PlanFleet.l1]) ?_
      simp only [if_pos hlt,if_pos h0,if_pos (show i < (b.length : Int) by omega),e9,hsf,Option.bind_some]
      refine Ev.ite (fun g=>?_) (fun g=>?_)
      ·simp only [if_pos (show os.length < 5864062014805 by have:=hpo.1;omega)]
       refine ih _ ⟨by omega,?_⟩
       rw [hi1]
       have:=planTo_yes hp (by rw [hi];exact g)
       rw [hi] at this
       exact this
      ·have:=planTo_no hp (by rw [hi];exact g)
       have:=planTo_none this (a.length - (i.toNat + 1))
       rw [show i.toNat + 1 + (a.length - (i.toNat + 1)) = a.length from by omega] at this
       rw [fleet_none this]
       exact Ev.now _
    ·rintro _ i ⟨h0,hfree⟩ hlt ih
     have e9 : wrap64 (i + 1) = i + 1:=wrap64_id (by omega) (by omega)
     refine Ev.step (fun k=>by rw [spec_PlanFleet.l0]) ?_
     simp only [if_pos hlt,if_pos h0,if_pos (show i < (b.length : Int) by omega),e9]
     refine Ev.bind (spec_asked w h bl hb (rd_T48 a i) (rd_T48 b i)) ?_
     by_cases hc : FloorOk w h bl ∧ Free w h bl (rd_T48 a i) ∧ Free w h bl (rd_T48 b i)
     ·rw [chk_pos hc]
      simp only [if_true]
      refine ih () ⟨by omega,fun j j0 j1=>?_⟩
      by_cases e : j = i
      ·rw [e];exact hc.2
      ·exact hfree j j0 (by omega)
     ·rw [chk_neg hc]
      simp only [Bool.false_eq_true,if_false]
      have hn : planTo w h bl a b a.length = none:=by
       cases hp : planTo w h bl a b a.length with
       | none=>rfl
       | some os =>
        have:=(plan_ok hp).2.2.2 i.toNat (by omega)
        rw [show ((i.toNat : Nat) : Int) = i from by omega] at this
        exact absurd ⟨hf,this⟩ hc
      rw [fleet_none hn]
      exact Ev.now _
  ·simp only [if_neg he]
   exact no (fun x=>he x.2.1)
 ·rw [chk_neg hf]
  simp only [Bool.false_eq_true,if_false]
  exact no (fun x=>hf x.1)
end Go.Proofs.Ytbpccdbkaiigcaa.G

-- Written by wip/tools/gen.py out of the translation (the kit's printer, one namespace a seat). Lean checks it.
namespace Go.Proofs.Ytbpccdbkaiigcaa.G
open Go.RowKit Go.Proofs.YtbpccdbkaiigcaaW.PrintWords Go.Proofs.YtbpccdbkaiigcaaW.PrintLast Go.Proofs.YtbpccdbkaiigcaaW.PrintMore
attribute [local go_sem] max2_int min2_int max_two min_two max_three min_three max_four min_four   -- for this text's walks alone
set_option linter.unusedVariables false
set_option linter.unusedSimpArgs false

/-! ### laws_szCellS: function 18 -/
def laws_szCellS.f (l0:List (S44)) (a1:Int):Option (Int):=if (wrap64 (a1 - (l0.length:Int))) < 0 then (some (-1)) else (some (wrap64 (a1 - (l0.length:Int))))
set_option maxHeartbeats 8000000 in
set_option maxRecDepth 100000 in
theorem laws_szCellS.calls (A0:Option Addr) (c0:Nat) (l0:List (S44)) (a1:Int) (r:Int) (w:World) (hr0:Kd.C k44 w A0 l0.length l0) (hc0:l0.length ≤ c0) (h:laws_szCellS.f l0 a1 = some r) :
  Calls Try.prog 18 #[.slice A0 l0.length c0,.int .i64 a1] w fun e w'=>e = .returned (.int .i64 r) ∧ Drawn0 w w':=by
 have HR0:=zM hr0;have HC0:=zM hc0;clear hr0 hc0;have H:(if (wrap64 (a1 - (l0.length:Int))) < 0 then (some (-1)) else (some (wrap64 (a1 - (l0.length:Int))))) = some r:=h
 clear h;by_cases c3:(wrap64 (a1 - (l0.length:Int))) < 0
 ·rw [if_pos c3] at H
  have c3b0:decide ((wrap64 (a1 - (l0.length:Int))) < 0) = true:=decide_eq_true c3
  clear c3;obtain rfl:=Option.some.inj H;go_enter Try.func18,Try.ntmps18
  go_wp2
  go_ret
  exact ⟨by first|rfl|(simp;done)|(simp [*];done),by repeat (first|exact Drawn0.refl _|apply Drawn0.step)⟩
 ·rw [if_neg c3] at H
  have c3b0:decide ((wrap64 (a1 - (l0.length:Int))) < 0) = false:=decide_eq_false c3
  clear c3;obtain rfl:=Option.some.inj H;go_enter Try.func18,Try.ntmps18
  go_wp2
  go_ret
  exact ⟨by first|rfl|(simp;done)|(simp [*];done),by repeat (first|exact Drawn0.refl _|apply Drawn0.step)⟩



/-! ### laws_toCellS: function 20 -/
def laws_toCellS.l0:Nat → List (S44) → List (S48) → Int → Option ((List (S48)))
 | 0,_,_,_=>none
 | k + 1,x0,x3,x4=>if x4 < (x0.length:Int) then (if 0 ≤ x4 then ((laws_toCell.f ((rd_T44 x0 x4).f0) ((rd_T44 x0 x4).f1)).bind fun bt125=>(if x4 < (x3.length:Int) then (laws_toCellS.l0 k x0 (x3.set (x4:Int).toNat (⟨bt125.1,bt125.2⟩ : S48)) (wrap64 (x4 + 1))) else (none))) else (none)) else (some x3)
def laws_toCellS.f (k:Nat) (l0:List (S44)):Option ((List (S48))):=if 0 ≤ (l0.length:Int) then (if ((l0.length:Int):Int).toNat ≤ 17592186044416 then (laws_toCellS.l0 k l0 (List.replicate ((l0.length:Int):Int).toNat z48) 0) else (none)) else (none)
set_option maxHeartbeats 8000000 in
set_option maxRecDepth 100000 in
theorem laws_toCellS.calls (k:Nat) (A0:Option Addr) (c0:Nat) (l0:List (S44)) (r:List (S48)) (w:World) (hr0:Kd.C k44 w A0 l0.length l0) (hc0:l0.length ≤ c0) (h:laws_toCellS.f k l0 = some r) :
  Calls Try.prog 20 #[.slice A0 l0.length c0] w fun e w' => ∃ v0_:Value,e = .returned (v0_) ∧ Kd.R k48 48 w' w.heap.size (fun _=>True) v0_ r ∧ Below w.heap.size w w':=by
 have hu44:=Try.underlying44;have hu48:=Try.underlying48;have HR0:=zM hr0;have HC0:=zM hc0;clear hr0 hc0;have HB:=zM (Below.refl w.heap.size w);have H:(if 0 ≤ (l0.length:Int) then (if ((l0.length:Int):Int).toNat ≤ 17592186044416 then (laws_toCellS.l0 k l0 (List.replicate ((l0.length:Int):Int).toNat z48) 0) else (none)) else (none)) = some r:=h
 clear h;by_cases c2:0 ≤ (l0.length:Int)
 ·rw [if_pos c2] at H
  have c2b0:=eq_true c2;have c2b1:decide (0 ≤ (l0.length:Int)) = true:=decide_eq_true c2
  clear c2;by_cases c3:((l0.length:Int):Int).toNat ≤ 17592186044416
  ·rw [if_pos c3] at H
   have c3b0:=eq_true c3;have c3b1:decide (((l0.length:Int):Int).toNat ≤ 17592186044416) = true:=decide_eq_true c3
   clear c3;obtain ⟨y121,hy121⟩ : ∃ y_:List (S48),y_ = (List.replicate ((l0.length:Int):Int).toNat z48):=⟨_,rfl⟩
   replace H:(laws_toCellS.l0 k l0 y121 0) = some r:=by first|(rw [hy121];with_reducible exact H)|(have H2_:=(Option.bind_some _ _).symm.trans H;rw [hy121];with_reducible exact H2_)|(have H2_:=(Option.bind_some _ _).symm.trans H;with_reducible exact H2_)|with_reducible exact H|(rw [hy121];exact H)|exact H
   have Ny121:=zM hy121;clear hy121;have H':=zM H;clear H;go_enter Try.func20,Try.ntmps20
   go_wp2_with (first|((with_reducible refine gate_dst (N:=7) rfl ?_);refine Kd.R_make k48 _ 48 rfl (N:=7) rfl 27 _ _ rfl (l0.length:Int) rfl rfl Try.underlying27 (.agg #[(.int .i64 0),(.int .i64 0)]) 16 info48 rfl (by decide) (by omega) z48 (ok:=fun _=>True) (okp:=fun _=>True) (k48_mkM _ _ _ z48 ) (fun _ hk=>hk) trivial (zzd) (Nat.le_trans (Nat.mul_le_mul_right _ (zzd:(l0.length:Int).toNat ≤ 17592186044416)) (by omega)) (Below.refl _ _) (Nat.le_refl _) ?_;intro v122 w4 ho5 hb hg_ hnew_;clear hg_ hnew_;(first|rw [← Ny121.out] at ho5|(simp only [Int.reduceToNat] at ho5;rw [← Ny121.out] at ho5));have n0_:=zM (Kd.R_lower ho5 (zR zzh));have n1_:=zM (zQ zzh hb);clear HB;have HO123:=n0_;have HB:=n1_;clear n0_ n1_;clear hb ho5))
   go_loopg [4] k (fun kq v4 w' => ∃ (x3_1:List (S48)) (x4_1:Int),v4 = .int .i64 x4_1 ∧ Aside0 (laws_toCellS.l0 kq l0 x3_1 x4_1 = some r) ∧ Aside0 (kq ≤ k) ∧ Aside0 (Kd.R k48 48 w' w.heap.size (fun _=>True) v122 x3_1) ∧ Aside0 (Below w.heap.size w w'))
   case atStart=>exact ⟨(y121),(0),(by first|rfl|(simp;done)|(simp [*];done)),H',⟨Nat.le_refl _⟩,⟨zzl HO123⟩,⟨zzh⟩⟩
   case round =>
    clear H';(try clear c2);(try clear c2b0);(try clear c2b1);(try clear p2);(try clear c3);(try clear c3b0);(try clear c3b1);obtain ⟨x3_1,x4_1,rfl,HA,HK1,HO_3,HB⟩:=hrel;cases gk with
    | zero=>exact absurd HA.out (by simp [laws_toCellS.l0])
    | succ k1 =>
     have H:=HA.out;clear HA;simp only [laws_toCellS.l0] at H
     by_cases c6:x4_1 < (l0.length:Int)
     ·rw [if_pos c6] at H
      have c6b0:decide (x4_1 < (l0.length:Int)) = true:=decide_eq_true c6
      clear c6;by_cases c7:0 ≤ x4_1
      ·rw [if_pos c7] at H
       have c7b0:decide (0 ≤ x4_1) = true:=decide_eq_true c7
       clear c7;replace H:=Option.bind_eq_some_iff.mp H;obtain ⟨⟨t125,t126⟩,A80,H⟩:=H;replace H:(if x4_1 < (x3_1.length:Int) then (laws_toCellS.l0 k1 l0 (x3_1.set (x4_1:Int).toNat (⟨t125,t126⟩ : S48)) (wrap64 (x4_1 + 1))) else (none)) = some r:=H
       have A8:=zM A80;clear A80;by_cases c9:x4_1 < (x3_1.length:Int)
       ·rw [if_pos c9] at H
        have c9b0:decide (x4_1 < (x3_1.length:Int)) = true:=decide_eq_true c9
        clear c9;obtain ⟨y127,hy127⟩ : ∃ y_:List (S48),y_ = (x3_1.set (x4_1:Int).toNat (⟨t125,t126⟩ : S48)):=⟨_,rfl⟩
        replace H:(laws_toCellS.l0 k1 l0 y127 (wrap64 (x4_1 + 1))) = some r:=by first|(rw [hy127];with_reducible exact H)|(have H2_:=(Option.bind_some _ _).symm.trans H;rw [hy127];with_reducible exact H2_)|(have H2_:=(Option.bind_some _ _).symm.trans H;with_reducible exact H2_)|with_reducible exact H|(rw [hy127];exact H)|exact H
        have Ny127:=zM hy127;clear hy127;have H':=zM H;clear H;have p124:0 ≤ (x4_1:Int):=zzd
        have q124:x4_1 < (l0.length:Int):=zzd
        obtain ⟨ad124,e124,hx124_0,hx124_1⟩:=at_T44 HR0.out x4_1 p124 q124;cases e124
        replace hx124_0:=zS HB.out hx124_0;replace hx124_1:=zS HB.out hx124_1;replace p124:=eq_true p124;replace q124:=eq_true q124;go_wp2_with (first|((with_reducible refine gate_callee (f:=28) rfl ?_);refine goesL_ (some 20) rfl rfl Try.func28 (by kernel_rfl) rfl #[.agg #[.int .i64 ((rd_T44 l0 x4_1).f0),.int .i64 ((rd_T44 l0 x4_1).f1)]] rfl (by (try simp only [List.map_toArray,List.map_cons,List.map_nil]);first|done|rfl|(simp only [List.length_drop,List.length_take];rfl)) ?_;(with_reducible refine (laws_toCell.calls ((rd_T44 l0 x4_1).f0) ((rd_T44 l0 x4_1).f1) t125 t126 _ A8.out).mono ?_);rintro e w11 ⟨rfl,hb⟩;refine ⟨_,rfl,?_⟩;have n0_:=zM (zP (zzl HO_3) hb);have n1_:=zM (zQ zzh hb);clear HO_3;clear HB;have HO_3:=n0_;have HB:=n1_;clear n0_ n1_;(try clear hb);(try clear hb2);(try clear hk);(try clear hi);have p10:0 ≤ (x4_1:Int):=zzd;have q10:(x4_1:Int) < ((x3_1.length:Int):Int):=zzd;obtain ⟨go10,co10,eo10,gb10,gl10,cl10,HG10⟩:=Kd.R_form HO_3.out (by omega);(first|cases eo10|(injection eo10 with ea_ en_ ec_;(first|subst ea_|(injection ea_ with ea_;subst ea_));subst ec_;clear en_));have GB10:=zM gb10;have GG10:=zM HG10;clear gb10 gl10 HG10;obtain ⟨ce10,hcl10,hM10,hcc10,hfr10⟩:=Kd.R_elem HO_3.out z48 (x4_1:Int) p10 q10;obtain rfl:=k48_openM hM10;have hx10_0:w11.cell? ⟨go10,(x4_1:Int).toNat * 2,none⟩ = some (.int .i64 ((rd_T48 x3_1 x4_1).f0)):=hcc10 0 _ rfl;have hx10_1:w11.cell? ⟨go10,(x4_1:Int).toNat * 2 + 1,none⟩ = some (.int .i64 ((rd_T48 x3_1 x4_1).f1)):=hcc10 1 _ rfl;have hf10_0:w11.frozen? ⟨go10,(x4_1:Int).toNat * 2,none⟩ = false:=hfr10 0;have hf10_1:w11.frozen? ⟨go10,(x4_1:Int).toNat * 2 + 1,none⟩ = false:=hfr10 1;clear hcl10 hcc10 hfr10;(try clear hM10);replace p10:=eq_true p10;replace q10:=eq_true q10;have HX12:=zM (show Kd.R k48 48 w11 w.heap.size (fun _=>True) (.slice (some ⟨go10,0,none⟩) x3_1.length co10) x3_1 from (zzl HO_3));obtain ⟨ce12,hcl12,hM12,hcc12,hfr12⟩:=Kd.R_elem HX12.out z48 (x4_1:Int) (zzd) (by have h_:(x4_1:Int) < ((x3_1.length:Int):Int):=zzd;first|exact h_|(have e_:=(zN HO_3.out).1;omega)|simpa using h_);obtain rfl:=k48_openM hM12;have HP12:=Kd.R_seg HX12.out (x4_1:Int) (zzd) (by have h_:(x4_1:Int) < ((x3_1.length:Int):Int):=zzd;first|exact h_|(have e_:=(zN HO_3.out).1;omega)|simpa using h_) (seg:=[.int .i64 t125,.int .i64 t126]) (j:=0) hcl12 hcc12 (show 2 ≤ 2 from by decide) (x':=(⟨t125,t126⟩ : S48)) (k48_mkM _ _ _ (⟨t125,t126⟩ : S48) ) (fun _ hk=>hk);have hx12_0:=hcc12 0 _ rfl;(try simp only [show (k48).sz = 2 from rfl,Nat.mul_one,Nat.add_zero] at hx12_0);have hf12_0:=hfr12 0;(try simp only [show (k48).sz = 2 from rfl,Nat.mul_one,Nat.add_zero] at hf12_0);have hx12_1:=hcc12 1 _ rfl;(try simp only [show (k48).sz = 2 from rfl,Nat.mul_one,Nat.add_zero] at hx12_1);have hf12_1:=hfr12 1;(try simp only [show (k48).sz = 2 from rfl,Nat.mul_one,Nat.add_zero] at hf12_1);clear hcl12 hcc12 hfr12;(try clear hM12))|((with_reducible refine gate_store (t:=48) (p:=21) rfl ?_);refine store_event (t:=48) (p:=21) (v:=?vo_w13) (w1:=((w11.setCell ⟨go10,(x4_1:Int).toNat * 2,none⟩ (.int .i64 t125)).setCell ⟨go10,(x4_1:Int).toNat * 2 + 1,none⟩ (.int .i64 t126))) ?hg ?ho ?hn ?hr ?_;(case ho=>rfl);(case hg=>rfl);(case hn=>rfl);(case hr=>first|(go_simp;done)|(go_simp;rfl));intro w13 hw;have hg:w11.grownBy w13 (some go10):=(by rw [hw];exact HP12.2);have hp_:Kd.R k48 48 w13 w.heap.size (fun _=>True) (.slice (some ⟨go10,0,none⟩) x3_1.length co10) y127:=(by rw [hw,Ny127.out];exact HP12.1);clear HP12;have n0_:=zM (hp_);have n1_:=zM ((by rw [hw];exact below_set (below_set (HB.out) GB10.out) GB10.out:Below w.heap.size w w13));clear HO_3;clear HB;have HO_3:=n0_;have HB:=n1_;clear n0_ n1_;clear hg hw hp_))
        go_roundg k1
        case measure=>have:=HK1.out;omega
        case rel=>exact ⟨(y127),(wrap64 (x4_1 + 1)),(by first|rfl|(simp;done)|(simp [*];done)),H',⟨by have:=HK1.out;omega⟩,⟨zzl HO_3⟩,⟨zzh⟩⟩
       ·rw [if_neg c9] at H
        exact absurd H (by simp)
      ·rw [if_neg c7] at H
       exact absurd H (by simp)
     ·rw [if_neg c6] at H
      have c6b0:decide (x4_1 < (l0.length:Int)) = false:=decide_eq_false c6
      clear c6;obtain rfl:=Option.some.inj H;go_wp2
      go_ret
      exact ⟨_,by first|rfl|(simp [errW_none,errW_some] <;> rfl)|(simp [*,errW_none,errW_some] <;> rfl),zzl HO_3,zzh⟩
  ·rw [if_neg c3] at H
   exact absurd H (by simp)
 ·rw [if_neg c2] at H
  exact absurd H (by simp)



/-! ### laws_eqCell: function 60 -/
def laws_eqCell.f (a0_0:Int) (a0_1:Int) (a1_0:Int) (a1_1:Int):Option (Bool):=if a0_0 = a1_0 then (if a0_1 = a1_1 then (some true) else (some false)) else (some false)
set_option maxHeartbeats 8000000 in
set_option maxRecDepth 100000 in
theorem laws_eqCell.calls (a0_0:Int) (a0_1:Int) (a1_0:Int) (a1_1:Int) (r:Bool) (w:World) (h:laws_eqCell.f a0_0 a0_1 a1_0 a1_1 = some r) :
  Calls Try.prog 60 #[.agg #[.int .i64 a0_0,.int .i64 a0_1],.agg #[.int .i64 a1_0,.int .i64 a1_1]] w fun e w'=>e = .returned (.bool r) ∧ Below w.heap.size w w':=by
 have hu48:=Try.underlying48;have HB:=zM (Below.refl w.heap.size w);have H:(if a0_0 = a1_0 then (if a0_1 = a1_1 then (some true) else (some false)) else (some false)) = some r:=h
 clear h;by_cases c3:a0_0 = a1_0
 ·rw [if_pos c3] at H
  have c3b0:(a0_0 == a1_0) = true:=beq_iff_eq.mpr c3
  have c3b1:(a0_0 != a1_0) = false:=bne_eq_false_iff_eq.mpr c3
  clear c3;by_cases c4:a0_1 = a1_1
  ·rw [if_pos c4] at H
   have c4b0:(a0_1 == a1_1) = true:=beq_iff_eq.mpr c4
   have c4b1:(a0_1 != a1_1) = false:=bne_eq_false_iff_eq.mpr c4
   clear c4;obtain rfl:=Option.some.inj H;go_enter Try.func60,Try.ntmps60
   go_wp2_with (first|((with_reducible refine gate_dst (N:=2) rfl ?_);refine zzc 2 #[.int .i64 a0_0,.int .i64 a0_1] 48 ?_;intro gb148 hg w5 hbox hb;have n0_:=zM (zQ zzh hb);have n1_:=zM (hbox);have n2_:=zM ((by rw [hg];exact (zR zzh):w.heap.size ≤ gb148));have n3_:=zM ((by rw [hg];exact (zR zzh):w.heap.size ≤ gb148));clear HB;have HB:=n0_;have BK148:=n1_;have GW148:=n2_;have GE148:=n3_;clear n0_ n1_ n2_ n3_;clear hb hbox hg)|((with_reducible refine gate_dst (N:=3) rfl ?_);refine zzc 3 #[.int .i64 a1_0,.int .i64 a1_1] 48 ?_;intro gb149 hg w6 hbox hb;have n0_:=zM (blk_below (g:=gb148) (o := .cells #[.int .i64 a0_0,.int .i64 a0_1] 48 (0,0)) (zzi BK148) hb);have n1_:=zM (zQ zzh hb);have n2_:=zM (hbox);have n3_:=zM ((by rw [hg];exact (zR zzh):w.heap.size ≤ gb149));have n4_:=zM ((by rw [hg];exact (zR zzh):w.heap.size ≤ gb149));have n5_:=zM ((by rw [hg];exact Nat.ne_of_lt (blk_lt (g:=gb148) (o := .cells #[.int .i64 a0_0,.int .i64 a0_1] 48 (0,0)) (zzi BK148)):gb148 ≠ gb149));have n6_:=zM ((by rw [hg];exact Nat.ne_of_gt (blk_lt (g:=gb148) (o := .cells #[.int .i64 a0_0,.int .i64 a0_1] 48 (0,0)) (zzi BK148)):gb149 ≠ gb148));clear BK148;clear HB;have BK148:=n0_;have HB:=n1_;have BK149:=n2_;have GW149:=n3_;have GE149:=n4_;have NB148_149:=n5_;have NB149_148:=n6_;clear n0_ n1_ n2_ n3_ n4_ n5_ n6_;clear hb hbox hg;have hnb7:=NB148_149.out;have hnc7:=NB149_148.out;have hcz8_0:=zz0 BK148;have hcz8_1:=zz1 BK148;have hfz8_0:=blk_frozen BK148.out 0;have hfz8_1:=blk_frozen BK148.out 1;have hcz9_0:=zz0 BK149;have hcz9_1:=zz1 BK149;have hfz9_0:=blk_frozen BK149.out 0;have hfz9_1:=blk_frozen BK149.out 1))
   go_ret
   exact ⟨by first|rfl|(simp [errW_none,errW_some] <;> rfl)|(simp [*,errW_none,errW_some] <;> rfl),zzh⟩
  ·rw [if_neg c4] at H
   have c4b0:(a0_1 == a1_1) = false:=beq_eq_false_iff_ne.mpr c4
   have c4b1:(a0_1 != a1_1) = true:=bne_iff_ne.mpr c4
   obtain rfl:=Option.some.inj H;go_enter Try.func60,Try.ntmps60
   go_wp2_with (first|((with_reducible refine gate_dst (N:=2) rfl ?_);refine zzc 2 #[.int .i64 a0_0,.int .i64 a0_1] 48 ?_;intro gb148 hg w10 hbox hb;have n0_:=zM (zQ zzh hb);have n1_:=zM (hbox);have n2_:=zM ((by rw [hg];exact (zR zzh):w.heap.size ≤ gb148));have n3_:=zM ((by rw [hg];exact (zR zzh):w.heap.size ≤ gb148));clear HB;have HB:=n0_;have BK148:=n1_;have GW148:=n2_;have GE148:=n3_;clear n0_ n1_ n2_ n3_;clear hb hbox hg)|((with_reducible refine gate_dst (N:=3) rfl ?_);refine zzc 3 #[.int .i64 a1_0,.int .i64 a1_1] 48 ?_;intro gb149 hg w11 hbox hb;have n0_:=zM (blk_below (g:=gb148) (o := .cells #[.int .i64 a0_0,.int .i64 a0_1] 48 (0,0)) (zzi BK148) hb);have n1_:=zM (zQ zzh hb);have n2_:=zM (hbox);have n3_:=zM ((by rw [hg];exact (zR zzh):w.heap.size ≤ gb149));have n4_:=zM ((by rw [hg];exact (zR zzh):w.heap.size ≤ gb149));have n5_:=zM ((by rw [hg];exact Nat.ne_of_lt (blk_lt (g:=gb148) (o := .cells #[.int .i64 a0_0,.int .i64 a0_1] 48 (0,0)) (zzi BK148)):gb148 ≠ gb149));have n6_:=zM ((by rw [hg];exact Nat.ne_of_gt (blk_lt (g:=gb148) (o := .cells #[.int .i64 a0_0,.int .i64 a0_1] 48 (0,0)) (zzi BK148)):gb149 ≠ gb148));clear BK148;clear HB;have BK148:=n0_;have HB:=n1_;have BK149:=n2_;have GW149:=n3_;have GE149:=n4_;have NB148_149:=n5_;have NB149_148:=n6_;clear n0_ n1_ n2_ n3_ n4_ n5_ n6_;clear hb hbox hg;have hnb12:=NB148_149.out;have hnc12:=NB149_148.out;have hcz13_0:=zz0 BK148;have hcz13_1:=zz1 BK148;have hfz13_0:=blk_frozen BK148.out 0;have hfz13_1:=blk_frozen BK148.out 1;have hcz14_0:=zz0 BK149;have hcz14_1:=zz1 BK149;have hfz14_0:=blk_frozen BK149.out 0;have hfz14_1:=blk_frozen BK149.out 1))
   go_ret
   exact ⟨by first|rfl|(simp [errW_none,errW_some] <;> rfl)|(simp [*,errW_none,errW_some] <;> rfl),zzh⟩
 ·rw [if_neg c3] at H
  have c3b0:(a0_0 == a1_0) = false:=beq_eq_false_iff_ne.mpr c3
  have c3b1:(a0_0 != a1_0) = true:=bne_iff_ne.mpr c3
  obtain rfl:=Option.some.inj H;go_enter Try.func60,Try.ntmps60
  go_wp2_with (first|((with_reducible refine gate_dst (N:=2) rfl ?_);refine zzc 2 #[.int .i64 a0_0,.int .i64 a0_1] 48 ?_;intro gb148 hg w15 hbox hb;have n0_:=zM (zQ zzh hb);have n1_:=zM (hbox);have n2_:=zM ((by rw [hg];exact (zR zzh):w.heap.size ≤ gb148));have n3_:=zM ((by rw [hg];exact (zR zzh):w.heap.size ≤ gb148));clear HB;have HB:=n0_;have BK148:=n1_;have GW148:=n2_;have GE148:=n3_;clear n0_ n1_ n2_ n3_;clear hb hbox hg)|((with_reducible refine gate_dst (N:=3) rfl ?_);refine zzc 3 #[.int .i64 a1_0,.int .i64 a1_1] 48 ?_;intro gb149 hg w16 hbox hb;have n0_:=zM (blk_below (g:=gb148) (o := .cells #[.int .i64 a0_0,.int .i64 a0_1] 48 (0,0)) (zzi BK148) hb);have n1_:=zM (zQ zzh hb);have n2_:=zM (hbox);have n3_:=zM ((by rw [hg];exact (zR zzh):w.heap.size ≤ gb149));have n4_:=zM ((by rw [hg];exact (zR zzh):w.heap.size ≤ gb149));have n5_:=zM ((by rw [hg];exact Nat.ne_of_lt (blk_lt (g:=gb148) (o := .cells #[.int .i64 a0_0,.int .i64 a0_1] 48 (0,0)) (zzi BK148)):gb148 ≠ gb149));have n6_:=zM ((by rw [hg];exact Nat.ne_of_gt (blk_lt (g:=gb148) (o := .cells #[.int .i64 a0_0,.int .i64 a0_1] 48 (0,0)) (zzi BK148)):gb149 ≠ gb148));clear BK148;clear HB;have BK148:=n0_;have HB:=n1_;have BK149:=n2_;have GW149:=n3_;have GE149:=n4_;have NB148_149:=n5_;have NB149_148:=n6_;clear n0_ n1_ n2_ n3_ n4_ n5_ n6_;clear hb hbox hg;have hnb17:=NB148_149.out;have hnc17:=NB149_148.out;have hcz18_0:=zz0 BK148;have hcz18_1:=zz1 BK148;have hfz18_0:=blk_frozen BK148.out 0;have hfz18_1:=blk_frozen BK148.out 1;have hcz19_0:=zz0 BK149;have hcz19_1:=zz1 BK149;have hfz19_0:=blk_frozen BK149.out 0;have hfz19_1:=blk_frozen BK149.out 1))
  go_ret
  exact ⟨by first|rfl|(simp [errW_none,errW_some] <;> rfl)|(simp [*,errW_none,errW_some] <;> rfl),zzh⟩



/-! ### laws_eqCellS: function 22 -/
def laws_eqCellS.l0:Nat → List (S48) → List (S48) → Int → Option (Bool)
 | 0,_,_,_=>none
 | k + 1,x0,x1,x5=>if x5 < (x0.length:Int) then (if 0 ≤ x5 then (if x5 < (x1.length:Int) then ((laws_eqCell.f ((rd_T48 x0 x5).f0) ((rd_T48 x0 x5).f1) ((rd_T48 x1 x5).f0) ((rd_T48 x1 x5).f1)).bind fun t152=>(if t152 = true then (laws_eqCellS.l0 k x0 x1 (wrap64 (x5 + 1))) else (some false))) else (none)) else (none)) else (some true)
def laws_eqCellS.f (k:Nat) (l0:List (S48)) (l1:List (S48)):Option (Bool):=if (l0.length:Int) = (l1.length:Int) then (laws_eqCellS.l0 k l0 l1 0) else (some false)
def laws_eqCellS.T6:Bool × List (List Nat × List Nat):=(true,[([],[]),([],[]),([0,1],[0,1]),([2],[2]),([],[]),([],[]),([4,5],[4,5]),([6],[6]),([3,7],[3,7]),([8],[8])])
def laws_eqCellS.B6:List Nat:=[0,0,3,7,0,0,48,112,255,511]
theorem laws_eqCellS.tab6:rtab .any (opsOf Try.f22 6) = laws_eqCellS.T6:=by kernel_rfl
theorem laws_eqCellS.bits6:waitsOk laws_eqCellS.T6.2 laws_eqCellS.B6 = true:=by kernel_rfl
set_option maxHeartbeats 8000000 in
set_option maxRecDepth 100000 in
theorem laws_eqCellS.calls (k:Nat) (A0:Option Addr) (c0:Nat) (l0:List (S48)) (A1:Option Addr) (c1:Nat) (l1:List (S48)) (r:Bool) (w:World) (hr0:Kd.C k48 w A0 l0.length l0) (hc0:l0.length ≤ c0) (hr1:Kd.C k48 w A1 l1.length l1) (hc1:l1.length ≤ c1) (h:laws_eqCellS.f k l0 l1 = some r) :
  Calls Try.prog 22 #[.slice A0 l0.length c0,.slice A1 l1.length c1] w fun e w'=>e = .returned (.bool r) ∧ Below w.heap.size w w':=by
 have hu48:=Try.underlying48;have HR0:=zM hr0;have HC0:=zM hc0;clear hr0 hc0;have HR1:=zM hr1;have HC1:=zM hc1;clear hr1 hc1;have HB:=zM (Below.refl w.heap.size w);have H:(if (l0.length:Int) = (l1.length:Int) then (laws_eqCellS.l0 k l0 l1 0) else (some false)) = some r:=h
 clear h;by_cases c3:(l0.length:Int) = (l1.length:Int)
 ·rw [if_pos c3] at H
  have c3b0:((l0.length:Int) == (l1.length:Int)) = true:=beq_iff_eq.mpr c3
  have c3b1:((l0.length:Int) != (l1.length:Int)) = false:=bne_eq_false_iff_eq.mpr c3
  have c3b2:(l0.length == l1.length) = true:=by first|simpa using c3|(simp at c3 ⊢;omega)
  clear c3;have H':=zM H;clear H;go_enter Try.func22,Try.ntmps22
  go_wp2
  go_loopg [5] k (fun kq v5 w' => ∃ (x5_1:Int),v5 = .int .i64 x5_1 ∧ Aside0 (laws_eqCellS.l0 kq l0 l1 x5_1 = some r) ∧ Aside0 (kq ≤ k) ∧ Aside0 (Below w.heap.size w w'))
  case atStart=>exact ⟨(0),(by first|rfl|(simp;done)|(simp [*];done)),H',⟨Nat.le_refl _⟩,⟨zzh⟩⟩
  case round =>
   clear H';(try clear c1);(try clear c2);(try clear p2);(try clear c3);(try clear c3b0);(try clear c3b1);(try clear c3b2);obtain ⟨x5_1,rfl,HA,HK1,HB⟩:=hrel;cases gk with
   | zero=>exact absurd HA.out (by simp [laws_eqCellS.l0])
   | succ k1 =>
    have H:=HA.out;clear HA;simp only [laws_eqCellS.l0] at H
    by_cases c4:x5_1 < (l0.length:Int)
    ·rw [if_pos c4] at H
     have c4b0:decide (x5_1 < (l0.length:Int)) = true:=decide_eq_true c4
     clear c4;by_cases c5:0 ≤ x5_1
     ·rw [if_pos c5] at H
      have c5b0:decide (0 ≤ x5_1) = true:=decide_eq_true c5
      clear c5;by_cases c6:x5_1 < (l1.length:Int)
      ·rw [if_pos c6] at H
       have c6b0:decide (x5_1 < (l1.length:Int)) = true:=decide_eq_true c6
       clear c6;replace H:=Option.bind_eq_some_iff.mp H;obtain ⟨t152,A70,H⟩:=H;replace H:(if t152 = true then (laws_eqCellS.l0 k1 l0 l1 (wrap64 (x5_1 + 1))) else (some false)) = some r:=H
       have A7:=zM A70;clear A70;by_cases c8:t152 = true
       ·subst c8
        have H1:(laws_eqCellS.l0 k1 l0 l1 (wrap64 (x5_1 + 1))) = some r:=by rw [if_pos rfl] at H;exact H
        clear H;have H:=H1;clear H1;have H':=zM H;clear H;try go_wp2
        have n0_:=zM (zF HB.out);clear HB;have HB:=n0_;clear n0_;have p150:0 ≤ (x5_1:Int):=zzd
        have q150:x5_1 < (l0.length:Int):=zzd
        obtain ⟨ad150,e150,hx150_0,hx150_1⟩:=at_T48 HR0.out x5_1 p150 q150;have hw150_1:=hx150_1;have hw150_0:=hx150_0;cases e150
        replace hx150_0:=zS HB.out hx150_0;replace hx150_1:=zS HB.out hx150_1;replace p150:=eq_true p150;replace q150:=eq_true q150;have p151:0 ≤ (x5_1:Int):=zzd
        have q151:x5_1 < (l1.length:Int):=zzd
        obtain ⟨ad151,e151,hx151_0,hx151_1⟩:=at_T48 HR1.out x5_1 p151 q151;have hw151_1:=hx151_1;have hw151_0:=hx151_0;cases e151
        replace hx151_0:=zS HB.out hx151_0;replace hx151_1:=zS HB.out hx151_1;replace p151:=eq_true p151;replace q151:=eq_true q151;refine start_ (n:=10) (S:=fun w'=>w'.cell? (ad150.add ((x5_1).toNat * 2)) = some (.int .i64 ((rd_T48 l0 x5_1).f0)) ∧ w'.cell? ⟨(ad150.add ((x5_1).toNat * 2)).block,(ad150.add ((x5_1).toNat * 2)).off + 1,none⟩ = some (.int .i64 ((rd_T48 l0 x5_1).f1)) ∧ w'.cell? (ad151.add ((x5_1).toNat * 2)) = some (.int .i64 ((rd_T48 l1 x5_1).f0)) ∧ w'.cell? ⟨(ad151.add ((x5_1).toNat * 2)).block,(ad151.add ((x5_1).toNat * 2)).off + 1,none⟩ = some (.int .i64 ((rd_T48 l1 x5_1).f1))) (ds:=[]) #[false,false,false,false,false,false,false,false,false,false] (by kernel_rfl) rfl rfl ⟨(zS HB.out hw150_0 :),(zS HB.out hw150_1 :),(zS HB.out hw151_0 :),(zS HB.out hw151_1 :)⟩ (fun hHeld=>?_);refine with_tabW laws_eqCellS.tab6 laws_eqCellS.bits6 (fun HT_ HW_=>?_)
        generalize wr.drew = w9 at HB hx150_0 hx150_1 hx151_0 hx151_1 hHeld ⊢
        refine zzp 0 17 (zzb 10 1) ?_ (hc:=zzx HT_);refine zzp 1 18 (zzb 10 3) ?_ (hc:=zzx HT_);refine zzp 2 19 (zzb 10 7) ?_ (hc:=zzx HT_);refine zzp 4 21 (zzb 10 23) ?_ (hc:=zzx HT_);refine zzp 5 22 (zzb 10 55) ?_ (hc:=zzx HT_);refine zzp 6 23 (zzb 10 119) ?_ (hc:=zzx HT_)
        refine zzt 3 20 (zzb 10 127) hHeld ?_ (hc:=zzy HT_ HW_) (hy:=by rintro w' ⟨s0,s1,s2,s3⟩;go_simp;with_reducible rfl)
        refine zzt 7 24 (zzb 10 255) hHeld ?_ (hc:=zzy HT_ HW_) (hy:=by rintro w' ⟨s0,s1,s2,s3⟩;go_simp;with_reducible rfl)
        refine zzo 8 25 (zzb 10 511) (hc:=zzw HT_) (fun K hK=>?_)
        refine zzf Try.func60 #[.agg #[.int .i64 ((rd_T48 l0 x5_1).f0),.int .i64 ((rd_T48 l0 x5_1).f1)],.agg #[.int .i64 ((rd_T48 l1 x5_1).f0),.int .i64 ((rd_T48 l1 x5_1).f1)]] ?_
        with_reducible refine (laws_eqCell.calls ((rd_T48 l0 x5_1).f0) ((rd_T48 l0 x5_1).f1) ((rd_T48 l1 x5_1).f0) ((rd_T48 l1 x5_1).f1) true _ A7.out).mono ?_
        rintro e w10 ⟨rfl,hb⟩
        refine ⟨_,rfl,?_⟩
        have n0_:=zM (zQ zzh hb)
        clear HB;have HB:=n0_;clear n0_;(try clear hb)
        (try clear hb2)
        (try clear hk)
        (try clear hi)
        refine hK.out _ _ ⟨(zS HB.out hw150_0 :),(zS HB.out hw150_1 :),(zS HB.out hw151_0 :),(zS HB.out hw151_1 :)⟩ (fun hHeld=>?_)
        clear hK K;refine zzn 25 ?_;refine zzp 9 26 (zzb 10 1023) ?_ (hc:=zzx HT_)
        refine done_ (done_of HT_.out (by kernel_rfl)) ?_
        try go_wp2
        go_roundg k1
        case measure=>have:=HK1.out;omega
        case rel=>exact ⟨(wrap64 (x5_1 + 1)),(by first|rfl|(simp;done)|(simp [*];done)),H',⟨by have:=HK1.out;omega⟩,⟨zzh⟩⟩
       ·replace c8:=Bool.eq_false_iff.mpr c8
        subst c8;have H1:(some false) = some r:=by rw [if_neg (show ¬ (false = true) by decide)] at H;exact H
        clear H;have H:=H1;clear H1;obtain rfl:=Option.some.inj H;try go_wp2
        have n0_:=zM (zF HB.out);clear HB;have HB:=n0_;clear n0_;have p150:0 ≤ (x5_1:Int):=zzd
        have q150:x5_1 < (l0.length:Int):=zzd
        obtain ⟨ad150,e150,hx150_0,hx150_1⟩:=at_T48 HR0.out x5_1 p150 q150;have hw150_1:=hx150_1;have hw150_0:=hx150_0;cases e150
        replace hx150_0:=zS HB.out hx150_0;replace hx150_1:=zS HB.out hx150_1;replace p150:=eq_true p150;replace q150:=eq_true q150;have p151:0 ≤ (x5_1:Int):=zzd
        have q151:x5_1 < (l1.length:Int):=zzd
        obtain ⟨ad151,e151,hx151_0,hx151_1⟩:=at_T48 HR1.out x5_1 p151 q151;have hw151_1:=hx151_1;have hw151_0:=hx151_0;cases e151
        replace hx151_0:=zS HB.out hx151_0;replace hx151_1:=zS HB.out hx151_1;replace p151:=eq_true p151;replace q151:=eq_true q151;refine start_ (n:=10) (S:=fun w'=>w'.cell? (ad150.add ((x5_1).toNat * 2)) = some (.int .i64 ((rd_T48 l0 x5_1).f0)) ∧ w'.cell? ⟨(ad150.add ((x5_1).toNat * 2)).block,(ad150.add ((x5_1).toNat * 2)).off + 1,none⟩ = some (.int .i64 ((rd_T48 l0 x5_1).f1)) ∧ w'.cell? (ad151.add ((x5_1).toNat * 2)) = some (.int .i64 ((rd_T48 l1 x5_1).f0)) ∧ w'.cell? ⟨(ad151.add ((x5_1).toNat * 2)).block,(ad151.add ((x5_1).toNat * 2)).off + 1,none⟩ = some (.int .i64 ((rd_T48 l1 x5_1).f1))) (ds:=[]) #[false,false,false,false,false,false,false,false,false,false] (by kernel_rfl) rfl rfl ⟨(zS HB.out hw150_0 :),(zS HB.out hw150_1 :),(zS HB.out hw151_0 :),(zS HB.out hw151_1 :)⟩ (fun hHeld=>?_);refine with_tabW laws_eqCellS.tab6 laws_eqCellS.bits6 (fun HT_ HW_=>?_)
        generalize wr.drew = w11 at HB hx150_0 hx150_1 hx151_0 hx151_1 hHeld ⊢
        refine zzp 0 17 (zzb 10 1) ?_ (hc:=zzx HT_);refine zzp 1 18 (zzb 10 3) ?_ (hc:=zzx HT_);refine zzp 2 19 (zzb 10 7) ?_ (hc:=zzx HT_);refine zzp 4 21 (zzb 10 23) ?_ (hc:=zzx HT_);refine zzp 5 22 (zzb 10 55) ?_ (hc:=zzx HT_);refine zzp 6 23 (zzb 10 119) ?_ (hc:=zzx HT_)
        refine zzt 3 20 (zzb 10 127) hHeld ?_ (hc:=zzy HT_ HW_) (hy:=by rintro w' ⟨s0,s1,s2,s3⟩;go_simp;with_reducible rfl)
        refine zzt 7 24 (zzb 10 255) hHeld ?_ (hc:=zzy HT_ HW_) (hy:=by rintro w' ⟨s0,s1,s2,s3⟩;go_simp;with_reducible rfl)
        refine zzo 8 25 (zzb 10 511) (hc:=zzw HT_) (fun K hK=>?_)
        refine zzf Try.func60 #[.agg #[.int .i64 ((rd_T48 l0 x5_1).f0),.int .i64 ((rd_T48 l0 x5_1).f1)],.agg #[.int .i64 ((rd_T48 l1 x5_1).f0),.int .i64 ((rd_T48 l1 x5_1).f1)]] ?_
        with_reducible refine (laws_eqCell.calls ((rd_T48 l0 x5_1).f0) ((rd_T48 l0 x5_1).f1) ((rd_T48 l1 x5_1).f0) ((rd_T48 l1 x5_1).f1) false _ A7.out).mono ?_
        rintro e w12 ⟨rfl,hb⟩
        refine ⟨_,rfl,?_⟩
        have n0_:=zM (zQ zzh hb)
        clear HB;have HB:=n0_;clear n0_;(try clear hb)
        (try clear hb2)
        (try clear hk)
        (try clear hi)
        refine hK.out _ _ ⟨(zS HB.out hw150_0 :),(zS HB.out hw150_1 :),(zS HB.out hw151_0 :),(zS HB.out hw151_1 :)⟩ (fun hHeld=>?_)
        clear hK K;refine zzn 25 ?_;refine zzp 9 26 (zzb 10 1023) ?_ (hc:=zzx HT_)
        refine done_ (done_of HT_.out (by kernel_rfl)) ?_
        try go_wp2
        go_ret
        exact ⟨by first|rfl|(simp [errW_none,errW_some] <;> rfl)|(simp [*,errW_none,errW_some] <;> rfl),zzh⟩
      ·rw [if_neg c6] at H
       exact absurd H (by simp)
     ·rw [if_neg c5] at H
      exact absurd H (by simp)
    ·rw [if_neg c4] at H
     have c4b0:decide (x5_1 < (l0.length:Int)) = false:=decide_eq_false c4
     clear c4;obtain rfl:=Option.some.inj H;go_wp2
     go_ret
     exact ⟨by first|rfl|(simp [errW_none,errW_some] <;> rfl)|(simp [*,errW_none,errW_some] <;> rfl),zzh⟩
 ·rw [if_neg c3] at H
  have c3b0:((l0.length:Int) == (l1.length:Int)) = false:=beq_eq_false_iff_ne.mpr c3
  have c3b1:((l0.length:Int) != (l1.length:Int)) = true:=bne_iff_ne.mpr c3
  have c3b2:(l0.length == l1.length) = false:=by first|simpa using c3|(simp at c3 ⊢;omega)
  obtain rfl:=Option.some.inj H;go_enter Try.func22,Try.ntmps22
  go_wp2
  go_ret
  exact ⟨by first|rfl|(simp [errW_none,errW_some] <;> rfl)|(simp [*,errW_none,errW_some] <;> rfl),zzh⟩



/-! ### laws_toFloor: function 15 -/
def laws_toFloor.f (k:Nat) (a0_0:Int) (a0_1:Int) (l0_2:List (S44)):Option (Int × Int × (List (S48))):=(laws_toCellS.f k l0_2).bind fun t131=>(some (a0_0,a0_1,t131))
set_option maxHeartbeats 8000000 in
set_option maxRecDepth 100000 in
theorem laws_toFloor.calls (k:Nat) (a0_0:Int) (a0_1:Int) (A0_2:Option Addr) (c0_2:Nat) (l0_2:List (S44)) (r1:Int) (r2:Int) (r3:List (S48)) (w:World) (hr0_2:Kd.C k44 w A0_2 l0_2.length l0_2) (hc0_2:l0_2.length ≤ c0_2) (h:laws_toFloor.f k a0_0 a0_1 l0_2 = some (r1,r2,r3)) :
  Calls Try.prog 15 #[.agg #[.int .i64 a0_0,.int .i64 a0_1,.slice A0_2 l0_2.length c0_2]] w fun e w' => ∃ v2_:Value,e = .returned (.agg #[.int .i64 r1,.int .i64 r2,v2_]) ∧ Kd.R k48 48 w' w.heap.size (fun _=>True) v2_ r3 ∧ Below w.heap.size w w':=by
 have hu24:=Try.underlying24;have hu29:=Try.underlying29;have HR0_2:=zM hr0_2;have HC0_2:=zM hc0_2;clear hr0_2 hc0_2;have HB:=zM (Below.refl w.heap.size w);have H:((laws_toCellS.f k l0_2).bind fun t131=>(some (a0_0,a0_1,t131))) = some (r1,r2,r3):=h
 clear h;replace H:=Option.bind_eq_some_iff.mp H;obtain ⟨t131,A20,H⟩:=H;replace H:(some (a0_0,a0_1,t131)) = some (r1,r2,r3):=H
 have A2:=zM A20;clear A20;simp only [Option.some.injEq,Prod.mk.injEq] at H
 obtain ⟨rfl,rfl,rfl⟩:=H;go_enter Try.func15,Try.ntmps15
 go_wp2_with (first|((with_reducible refine gate_dst (N:=1) rfl ?_);refine zzc 1 #[.int .i64 a0_0,.int .i64 a0_1,.slice A0_2 l0_2.length c0_2] 24 ?_;intro gb128 hg w3 hbox hb;have n0_:=zM (zQ zzh hb);have n1_:=zM (hbox);have n2_:=zM ((by rw [hg];exact (zR zzh):w.heap.size ≤ gb128));have n3_:=zM ((by rw [hg];exact (zR zzh):w.heap.size ≤ gb128));clear HB;have HB:=n0_;have BK128:=n1_;have GW128:=n2_;have GE128:=n3_;clear n0_ n1_ n2_ n3_;clear hb hbox hg)|((with_reducible refine gate_dst (N:=2) rfl ?_);refine zzc 2 #[.int .i64 0,.int .i64 0,.slice none 0 0] 29 ?_;intro gb129 hg w4 hbox hb;have n0_:=zM (blk_below (g:=gb128) (o := .cells #[.int .i64 a0_0,.int .i64 a0_1,.slice A0_2 l0_2.length c0_2] 24 (0,0)) (zzi BK128) hb);have n1_:=zM (zQ zzh hb);have n2_:=zM (hbox);have n3_:=zM ((by rw [hg];exact (zR zzh):w.heap.size ≤ gb129));have n4_:=zM ((by rw [hg];exact (zR zzh):w.heap.size ≤ gb129));have n5_:=zM ((by rw [hg];exact Nat.ne_of_lt (blk_lt (g:=gb128) (o := .cells #[.int .i64 a0_0,.int .i64 a0_1,.slice A0_2 l0_2.length c0_2] 24 (0,0)) (zzi BK128)):gb128 ≠ gb129));have n6_:=zM ((by rw [hg];exact Nat.ne_of_gt (blk_lt (g:=gb128) (o := .cells #[.int .i64 a0_0,.int .i64 a0_1,.slice A0_2 l0_2.length c0_2] 24 (0,0)) (zzi BK128)):gb129 ≠ gb128));clear BK128;clear HB;have BK128:=n0_;have HB:=n1_;have BK129:=n2_;have GW129:=n3_;have GE129:=n4_;have NB128_129:=n5_;have NB129_128:=n6_;clear n0_ n1_ n2_ n3_ n4_ n5_ n6_;clear hb hbox hg)|((with_reducible refine gate_dst (N:=3) rfl ?_);refine zzc 3 #[.int .i64 0,.int .i64 0,.slice none 0 0] 29 ?_;intro gb130 hg w5 hbox hb;have n0_:=zM (blk_below (g:=gb128) (o := .cells #[.int .i64 a0_0,.int .i64 a0_1,.slice A0_2 l0_2.length c0_2] 24 (0,0)) (zzi BK128) hb);have n1_:=zM (blk_below (g:=gb129) (o := .cells #[.int .i64 0,.int .i64 0,.slice none 0 0] 29 (0,0)) (zzi BK129) hb);have n2_:=zM (zQ zzh hb);have n3_:=zM (hbox);have n4_:=zM ((by rw [hg];exact (zR zzh):w.heap.size ≤ gb130));have n5_:=zM ((by rw [hg];exact (zR zzh):w.heap.size ≤ gb130));have n6_:=zM ((by rw [hg];exact Nat.ne_of_lt (blk_lt (g:=gb128) (o := .cells #[.int .i64 a0_0,.int .i64 a0_1,.slice A0_2 l0_2.length c0_2] 24 (0,0)) (zzi BK128)):gb128 ≠ gb130));have n7_:=zM ((by rw [hg];exact Nat.ne_of_gt (blk_lt (g:=gb128) (o := .cells #[.int .i64 a0_0,.int .i64 a0_1,.slice A0_2 l0_2.length c0_2] 24 (0,0)) (zzi BK128)):gb130 ≠ gb128));have n8_:=zM ((by rw [hg];exact Nat.ne_of_lt (blk_lt (g:=gb129) (o := .cells #[.int .i64 0,.int .i64 0,.slice none 0 0] 29 (0,0)) (zzi BK129)):gb129 ≠ gb130));have n9_:=zM ((by rw [hg];exact Nat.ne_of_gt (blk_lt (g:=gb129) (o := .cells #[.int .i64 0,.int .i64 0,.slice none 0 0] 29 (0,0)) (zzi BK129)):gb130 ≠ gb129));clear BK128;clear BK129;clear HB;have BK128:=n0_;have BK129:=n1_;have HB:=n2_;have BK130:=n3_;have GW130:=n4_;have GE130:=n5_;have NB128_130:=n6_;have NB130_128:=n7_;have NB129_130:=n8_;have NB130_129:=n9_;clear n0_ n1_ n2_ n3_ n4_ n5_ n6_ n7_ n8_ n9_;clear hb hbox hg;have hnb6:=NB128_129.out;have hnc6:=NB129_128.out;have hnb7:=NB128_130.out;have hnc7:=NB130_128.out;have hcz8_0:=zz0 BK128;have hcz8_1:=zz1 BK128;have hcz8_2:=zz2 BK128;have hfz8_0:=blk_frozen BK128.out 0;have hfz8_1:=blk_frozen BK128.out 1;have hfz8_2:=blk_frozen BK128.out 2;have hnb9:=NB130_129.out;have hnc9:=NB129_130.out;have hcz10_0:=zz0 BK130;have hcz10_1:=zz1 BK130;have hcz10_2:=zz2 BK130;have hfz10_0:=blk_frozen BK130.out 0;have hfz10_1:=blk_frozen BK130.out 1;have hfz10_2:=blk_frozen BK130.out 2)|((with_reducible refine gate_callee (f:=20) rfl ?_);refine goesL_ (some 12) rfl rfl Try.func20 (by kernel_rfl) rfl #[.slice A0_2 l0_2.length c0_2] rfl (by (try simp only [List.map_toArray,List.map_cons,List.map_nil]);first|done|rfl|(simp only [List.length_drop,List.length_take];rfl)) ?_;(with_reducible refine (laws_toCellS.calls k _ _ l0_2 t131 _ ?side1 ?side2 A2.out).mono ?_);(case side1=>exact zO HR0_2.out zzh);(case side2=>exact HC0_2.out);rintro e w11 ⟨v132,rfl,ho0,hb⟩;refine ⟨_,rfl,?_⟩;have n0_:=zM (Kd.R_lower ho0 (zR zzh));have n1_:=zM (blk_below (g:=gb128) (o := .cells #[.int .i64 a0_0,.int .i64 a0_1,.slice A0_2 l0_2.length c0_2] 24 (0,0)) (by (with_reducible repeat (first|refine zJ ?_ _|refine zK ?_|refine zL ?_ _));refine blk_far ?_ NB128_130.out _;(with_reducible repeat (first|refine zJ ?_ _|refine zK ?_|refine zL ?_ _));refine blk_far ?_ NB128_130.out _;(with_reducible repeat (first|refine zJ ?_ _|refine zK ?_|refine zL ?_ _));exact BK128.out) hb);have n2_:=zM (blk_below (g:=gb129) (o := .cells #[.int .i64 0,.int .i64 0,.slice none 0 0] 29 (0,0)) (by (with_reducible repeat (first|refine zJ ?_ _|refine zK ?_|refine zL ?_ _));refine blk_far ?_ NB129_130.out _;(with_reducible repeat (first|refine zJ ?_ _|refine zK ?_|refine zL ?_ _));refine blk_far ?_ NB129_130.out _;(with_reducible repeat (first|refine zJ ?_ _|refine zK ?_|refine zL ?_ _));exact BK129.out) hb);have n3_:=zM (blk_below (g:=gb130) (o := .cells #[.int .i64 a0_0,.int .i64 a0_1,.slice none 0 0] 29 (0,0)) (by (with_reducible repeat (first|refine zJ ?_ _|refine zK ?_|refine zL ?_ _));refine blk_put (cs := #[.int .i64 a0_0,.int .i64 0,.slice none 0 0]) ?_ 1 _ rfl;(with_reducible repeat (first|refine zJ ?_ _|refine zK ?_|refine zL ?_ _));refine blk_put (cs := #[.int .i64 0,.int .i64 0,.slice none 0 0]) ?_ 0 _ rfl;(with_reducible repeat (first|refine zJ ?_ _|refine zK ?_|refine zL ?_ _));exact BK130.out) hb);have n4_:=zM (zQ zzh hb);clear BK128;clear BK129;clear BK130;clear HB;have HO133:=n0_;have BK128:=n1_;have BK129:=n2_;have BK130:=n3_;have HB:=n4_;clear n0_ n1_ n2_ n3_ n4_;(try clear hb);(try clear hb2);(try clear hk);(try clear hi);(try clear ho0);obtain ⟨Ao12,co12,eo12⟩:=Kd.R_slice HO133.out;subst eo12;have hcz13_0:=zz0 BK130;have hcz13_1:=zz1 BK130;have hcz13_2:=zz2 BK130;have hfz13_0:=blk_frozen BK130.out 0;have hfz13_1:=blk_frozen BK130.out 1;have hfz13_2:=blk_frozen BK130.out 2;have hcz14_0:=zz0 BK129;have hcz14_1:=zz1 BK129;have hcz14_2:=zz2 BK129;have hfz14_0:=blk_frozen BK129.out 0;have hfz14_1:=blk_frozen BK129.out 1;have hfz14_2:=blk_frozen BK129.out 2))
 refine bodyPost_ret (results_cell_row rfl _ _ gb129 29 #[.int .i64 a0_0,.int .i64 a0_1,.slice Ao12 t131.length co12] (0,0) _ rfl (by (with_reducible repeat (first|refine zJ ?_ _|refine zK ?_|refine zL ?_ _));refine blk_put (cs := #[.int .i64 a0_0,.int .i64 a0_1,.slice none 0 0]) ?_ 2 _ rfl;(with_reducible repeat (first|refine zJ ?_ _|refine zK ?_|refine zL ?_ _));refine blk_put (cs := #[.int .i64 a0_0,.int .i64 0,.slice none 0 0]) ?_ 1 _ rfl;(with_reducible repeat (first|refine zJ ?_ _|refine zK ?_|refine zL ?_ _));refine blk_put (cs := #[.int .i64 0,.int .i64 0,.slice none 0 0]) ?_ 0 _ rfl;(with_reducible repeat (first|refine zJ ?_ _|refine zK ?_|refine zL ?_ _));refine blk_far ?_ NB129_130.out _;(with_reducible repeat (first|refine zJ ?_ _|refine zK ?_|refine zL ?_ _));exact BK129.out) Try.underlying29 rfl (by kernel_rfl)) rfl ?_
 exact ⟨_,by first|rfl|(simp [errW_none,errW_some] <;> rfl)|(simp [*,errW_none,errW_some] <;> rfl),by (with_reducible repeat (first|apply zA|apply zB|apply zC));exact Kd.R_mono (Kd.R_far (p:=⟨gb129,2,none⟩) (Kd.R_far (p:=⟨gb129,1,none⟩) (Kd.R_far (p:=⟨gb129,0,none⟩) (Kd.R_far (p:=⟨gb130,2,none⟩) (Kd.R_types (Kd.R_types HO133.out BK130.out (by decide)) BK129.out (by decide)) (fun _ hk=>hk.1.2) (.slice Ao12 t131.length co12)) (fun _ hk=>hk.2) (.int .i64 a0_0)) (fun _ hk=>hk.2) (.int .i64 a0_1)) (fun _ hk=>hk.2) (.slice Ao12 t131.length co12)) (fun _ hk=>trivial),zzh⟩



/-! ### laws_eqFloor: function 17 -/
def laws_eqFloor.f (k:Nat) (a0_0:Int) (a0_1:Int) (l0_2:List (S48)) (a1_0:Int) (a1_1:Int) (l1_2:List (S48)):Option (Bool):=if a0_0 = a1_0 then (if a0_1 = a1_1 then ((laws_eqCellS.f k l0_2 l1_2).bind fun t155=>(if t155 = true then (some true) else (some false))) else (some false)) else (some false)
set_option maxHeartbeats 8000000 in
set_option maxRecDepth 100000 in
theorem laws_eqFloor.calls (k:Nat) (a0_0:Int) (a0_1:Int) (A0_2:Option Addr) (c0_2:Nat) (l0_2:List (S48)) (a1_0:Int) (a1_1:Int) (A1_2:Option Addr) (c1_2:Nat) (l1_2:List (S48)) (r:Bool) (w:World) (hr0_2:Kd.C k48 w A0_2 l0_2.length l0_2) (hc0_2:l0_2.length ≤ c0_2) (hr1_2:Kd.C k48 w A1_2 l1_2.length l1_2) (hc1_2:l1_2.length ≤ c1_2) (h:laws_eqFloor.f k a0_0 a0_1 l0_2 a1_0 a1_1 l1_2 = some r) :
  Calls Try.prog 17 #[.agg #[.int .i64 a0_0,.int .i64 a0_1,.slice A0_2 l0_2.length c0_2],.agg #[.int .i64 a1_0,.int .i64 a1_1,.slice A1_2 l1_2.length c1_2]] w fun e w'=>e = .returned (.bool r) ∧ Below w.heap.size w w':=by
 have hu29:=Try.underlying29;have HR0_2:=zM hr0_2;have HC0_2:=zM hc0_2;clear hr0_2 hc0_2;have HR1_2:=zM hr1_2;have HC1_2:=zM hc1_2;clear hr1_2 hc1_2;have HB:=zM (Below.refl w.heap.size w);have H:(if a0_0 = a1_0 then (if a0_1 = a1_1 then ((laws_eqCellS.f k l0_2 l1_2).bind fun t155=>(if t155 = true then (some true) else (some false))) else (some false)) else (some false)) = some r:=h
 clear h;by_cases c3:a0_0 = a1_0
 ·rw [if_pos c3] at H
  have c3b0:(a0_0 == a1_0) = true:=beq_iff_eq.mpr c3
  have c3b1:(a0_0 != a1_0) = false:=bne_eq_false_iff_eq.mpr c3
  clear c3;by_cases c4:a0_1 = a1_1
  ·rw [if_pos c4] at H
   have c4b0:(a0_1 == a1_1) = true:=beq_iff_eq.mpr c4
   have c4b1:(a0_1 != a1_1) = false:=bne_eq_false_iff_eq.mpr c4
   clear c4;replace H:=Option.bind_eq_some_iff.mp H;obtain ⟨t155,A50,H⟩:=H;replace H:(if t155 = true then (some true) else (some false)) = some r:=H
   have A5:=zM A50;clear A50;by_cases c6:t155 = true
   ·subst c6
    have H1:(some true) = some r:=by rw [if_pos rfl] at H;exact H
    clear H;have H:=H1;clear H1;obtain rfl:=Option.some.inj H;go_enter Try.func17,Try.ntmps17
    go_wp2_with (first|((with_reducible refine gate_dst (N:=2) rfl ?_);refine zzc 2 #[.int .i64 a0_0,.int .i64 a0_1,.slice A0_2 l0_2.length c0_2] 29 ?_;intro gb153 hg w7 hbox hb;have n0_:=zM (zQ zzh hb);have n1_:=zM (hbox);have n2_:=zM ((by rw [hg];exact (zR zzh):w.heap.size ≤ gb153));have n3_:=zM ((by rw [hg];exact (zR zzh):w.heap.size ≤ gb153));clear HB;have HB:=n0_;have BK153:=n1_;have GW153:=n2_;have GE153:=n3_;clear n0_ n1_ n2_ n3_;clear hb hbox hg)|((with_reducible refine gate_dst (N:=3) rfl ?_);refine zzc 3 #[.int .i64 a1_0,.int .i64 a1_1,.slice A1_2 l1_2.length c1_2] 29 ?_;intro gb154 hg w8 hbox hb;have n0_:=zM (blk_below (g:=gb153) (o := .cells #[.int .i64 a0_0,.int .i64 a0_1,.slice A0_2 l0_2.length c0_2] 29 (0,0)) (zzi BK153) hb);have n1_:=zM (zQ zzh hb);have n2_:=zM (hbox);have n3_:=zM ((by rw [hg];exact (zR zzh):w.heap.size ≤ gb154));have n4_:=zM ((by rw [hg];exact (zR zzh):w.heap.size ≤ gb154));have n5_:=zM ((by rw [hg];exact Nat.ne_of_lt (blk_lt (g:=gb153) (o := .cells #[.int .i64 a0_0,.int .i64 a0_1,.slice A0_2 l0_2.length c0_2] 29 (0,0)) (zzi BK153)):gb153 ≠ gb154));have n6_:=zM ((by rw [hg];exact Nat.ne_of_gt (blk_lt (g:=gb153) (o := .cells #[.int .i64 a0_0,.int .i64 a0_1,.slice A0_2 l0_2.length c0_2] 29 (0,0)) (zzi BK153)):gb154 ≠ gb153));clear BK153;clear HB;have BK153:=n0_;have HB:=n1_;have BK154:=n2_;have GW154:=n3_;have GE154:=n4_;have NB153_154:=n5_;have NB154_153:=n6_;clear n0_ n1_ n2_ n3_ n4_ n5_ n6_;clear hb hbox hg;have hnb9:=NB153_154.out;have hnc9:=NB154_153.out;have hcz10_0:=zz0 BK153;have hcz10_1:=zz1 BK153;have hcz10_2:=zz2 BK153;have hfz10_0:=blk_frozen BK153.out 0;have hfz10_1:=blk_frozen BK153.out 1;have hfz10_2:=blk_frozen BK153.out 2;have hcz11_0:=zz0 BK154;have hcz11_1:=zz1 BK154;have hcz11_2:=zz2 BK154;have hfz11_0:=blk_frozen BK154.out 0;have hfz11_1:=blk_frozen BK154.out 1;have hfz11_2:=blk_frozen BK154.out 2)|((with_reducible refine gate_callee (f:=22) rfl ?_);refine goesL_ (some 19) rfl rfl Try.func22 (by kernel_rfl) rfl #[.slice A0_2 l0_2.length c0_2,.slice A1_2 l1_2.length c1_2] rfl (by (try simp only [List.map_toArray,List.map_cons,List.map_nil]);first|done|rfl|(simp only [List.length_drop,List.length_take];rfl)) ?_;(with_reducible refine (laws_eqCellS.calls k _ _ l0_2 _ _ l1_2 true _ ?side1 ?side2 ?side3 ?side4 A5.out).mono ?_);(case side1=>repeat (first|exact (zO HR0_2.out HB.out)|(with_reducible first|refine zG ?_ _|refine zH ?_ _|refine zI ?_)));(case side2=>exact HC0_2.out);(case side3=>repeat (first|exact (zO HR1_2.out HB.out)|(with_reducible first|refine zG ?_ _|refine zH ?_ _|refine zI ?_)));(case side4=>exact HC1_2.out);rintro e w12 ⟨rfl,hb⟩;refine ⟨_,rfl,?_⟩;have n0_:=zM (blk_below (g:=gb153) (o := .cells #[.int .i64 a0_0,.int .i64 a0_1,.slice A0_2 l0_2.length c0_2] 29 (0,0)) (zzi BK153) hb);have n1_:=zM (blk_below (g:=gb154) (o := .cells #[.int .i64 a1_0,.int .i64 a1_1,.slice A1_2 l1_2.length c1_2] 29 (0,0)) (zzi BK154) hb);have n2_:=zM (zQ zzh hb);clear BK153;clear BK154;clear HB;have BK153:=n0_;have BK154:=n1_;have HB:=n2_;clear n0_ n1_ n2_;(try clear hb);(try clear hb2);(try clear hk);(try clear hi)))
    go_ret
    exact ⟨by first|rfl|(simp [errW_none,errW_some] <;> rfl)|(simp [*,errW_none,errW_some] <;> rfl),zzh⟩
   ·replace c6:=Bool.eq_false_iff.mpr c6
    subst c6;have H1:(some false) = some r:=by rw [if_neg (show ¬ (false = true) by decide)] at H;exact H
    clear H;have H:=H1;clear H1;obtain rfl:=Option.some.inj H;go_enter Try.func17,Try.ntmps17
    go_wp2_with (first|((with_reducible refine gate_dst (N:=2) rfl ?_);refine zzc 2 #[.int .i64 a0_0,.int .i64 a0_1,.slice A0_2 l0_2.length c0_2] 29 ?_;intro gb153 hg w13 hbox hb;have n0_:=zM (zQ zzh hb);have n1_:=zM (hbox);have n2_:=zM ((by rw [hg];exact (zR zzh):w.heap.size ≤ gb153));have n3_:=zM ((by rw [hg];exact (zR zzh):w.heap.size ≤ gb153));clear HB;have HB:=n0_;have BK153:=n1_;have GW153:=n2_;have GE153:=n3_;clear n0_ n1_ n2_ n3_;clear hb hbox hg)|((with_reducible refine gate_dst (N:=3) rfl ?_);refine zzc 3 #[.int .i64 a1_0,.int .i64 a1_1,.slice A1_2 l1_2.length c1_2] 29 ?_;intro gb154 hg w14 hbox hb;have n0_:=zM (blk_below (g:=gb153) (o := .cells #[.int .i64 a0_0,.int .i64 a0_1,.slice A0_2 l0_2.length c0_2] 29 (0,0)) (zzi BK153) hb);have n1_:=zM (zQ zzh hb);have n2_:=zM (hbox);have n3_:=zM ((by rw [hg];exact (zR zzh):w.heap.size ≤ gb154));have n4_:=zM ((by rw [hg];exact (zR zzh):w.heap.size ≤ gb154));have n5_:=zM ((by rw [hg];exact Nat.ne_of_lt (blk_lt (g:=gb153) (o := .cells #[.int .i64 a0_0,.int .i64 a0_1,.slice A0_2 l0_2.length c0_2] 29 (0,0)) (zzi BK153)):gb153 ≠ gb154));have n6_:=zM ((by rw [hg];exact Nat.ne_of_gt (blk_lt (g:=gb153) (o := .cells #[.int .i64 a0_0,.int .i64 a0_1,.slice A0_2 l0_2.length c0_2] 29 (0,0)) (zzi BK153)):gb154 ≠ gb153));clear BK153;clear HB;have BK153:=n0_;have HB:=n1_;have BK154:=n2_;have GW154:=n3_;have GE154:=n4_;have NB153_154:=n5_;have NB154_153:=n6_;clear n0_ n1_ n2_ n3_ n4_ n5_ n6_;clear hb hbox hg;have hnb15:=NB153_154.out;have hnc15:=NB154_153.out;have hcz16_0:=zz0 BK153;have hcz16_1:=zz1 BK153;have hcz16_2:=zz2 BK153;have hfz16_0:=blk_frozen BK153.out 0;have hfz16_1:=blk_frozen BK153.out 1;have hfz16_2:=blk_frozen BK153.out 2;have hcz17_0:=zz0 BK154;have hcz17_1:=zz1 BK154;have hcz17_2:=zz2 BK154;have hfz17_0:=blk_frozen BK154.out 0;have hfz17_1:=blk_frozen BK154.out 1;have hfz17_2:=blk_frozen BK154.out 2)|((with_reducible refine gate_callee (f:=22) rfl ?_);refine goesL_ (some 19) rfl rfl Try.func22 (by kernel_rfl) rfl #[.slice A0_2 l0_2.length c0_2,.slice A1_2 l1_2.length c1_2] rfl (by (try simp only [List.map_toArray,List.map_cons,List.map_nil]);first|done|rfl|(simp only [List.length_drop,List.length_take];rfl)) ?_;(with_reducible refine (laws_eqCellS.calls k _ _ l0_2 _ _ l1_2 false _ ?side1 ?side2 ?side3 ?side4 A5.out).mono ?_);(case side1=>repeat (first|exact (zO HR0_2.out HB.out)|(with_reducible first|refine zG ?_ _|refine zH ?_ _|refine zI ?_)));(case side2=>exact HC0_2.out);(case side3=>repeat (first|exact (zO HR1_2.out HB.out)|(with_reducible first|refine zG ?_ _|refine zH ?_ _|refine zI ?_)));(case side4=>exact HC1_2.out);rintro e w18 ⟨rfl,hb⟩;refine ⟨_,rfl,?_⟩;have n0_:=zM (blk_below (g:=gb153) (o := .cells #[.int .i64 a0_0,.int .i64 a0_1,.slice A0_2 l0_2.length c0_2] 29 (0,0)) (zzi BK153) hb);have n1_:=zM (blk_below (g:=gb154) (o := .cells #[.int .i64 a1_0,.int .i64 a1_1,.slice A1_2 l1_2.length c1_2] 29 (0,0)) (zzi BK154) hb);have n2_:=zM (zQ zzh hb);clear BK153;clear BK154;clear HB;have BK153:=n0_;have BK154:=n1_;have HB:=n2_;clear n0_ n1_ n2_;(try clear hb);(try clear hb2);(try clear hk);(try clear hi)))
    go_ret
    exact ⟨by first|rfl|(simp [errW_none,errW_some] <;> rfl)|(simp [*,errW_none,errW_some] <;> rfl),zzh⟩
  ·rw [if_neg c4] at H
   have c4b0:(a0_1 == a1_1) = false:=beq_eq_false_iff_ne.mpr c4
   have c4b1:(a0_1 != a1_1) = true:=bne_iff_ne.mpr c4
   obtain rfl:=Option.some.inj H;go_enter Try.func17,Try.ntmps17
   go_wp2_with (first|((with_reducible refine gate_dst (N:=2) rfl ?_);refine zzc 2 #[.int .i64 a0_0,.int .i64 a0_1,.slice A0_2 l0_2.length c0_2] 29 ?_;intro gb153 hg w19 hbox hb;have n0_:=zM (zQ zzh hb);have n1_:=zM (hbox);have n2_:=zM ((by rw [hg];exact (zR zzh):w.heap.size ≤ gb153));have n3_:=zM ((by rw [hg];exact (zR zzh):w.heap.size ≤ gb153));clear HB;have HB:=n0_;have BK153:=n1_;have GW153:=n2_;have GE153:=n3_;clear n0_ n1_ n2_ n3_;clear hb hbox hg)|((with_reducible refine gate_dst (N:=3) rfl ?_);refine zzc 3 #[.int .i64 a1_0,.int .i64 a1_1,.slice A1_2 l1_2.length c1_2] 29 ?_;intro gb154 hg w20 hbox hb;have n0_:=zM (blk_below (g:=gb153) (o := .cells #[.int .i64 a0_0,.int .i64 a0_1,.slice A0_2 l0_2.length c0_2] 29 (0,0)) (zzi BK153) hb);have n1_:=zM (zQ zzh hb);have n2_:=zM (hbox);have n3_:=zM ((by rw [hg];exact (zR zzh):w.heap.size ≤ gb154));have n4_:=zM ((by rw [hg];exact (zR zzh):w.heap.size ≤ gb154));have n5_:=zM ((by rw [hg];exact Nat.ne_of_lt (blk_lt (g:=gb153) (o := .cells #[.int .i64 a0_0,.int .i64 a0_1,.slice A0_2 l0_2.length c0_2] 29 (0,0)) (zzi BK153)):gb153 ≠ gb154));have n6_:=zM ((by rw [hg];exact Nat.ne_of_gt (blk_lt (g:=gb153) (o := .cells #[.int .i64 a0_0,.int .i64 a0_1,.slice A0_2 l0_2.length c0_2] 29 (0,0)) (zzi BK153)):gb154 ≠ gb153));clear BK153;clear HB;have BK153:=n0_;have HB:=n1_;have BK154:=n2_;have GW154:=n3_;have GE154:=n4_;have NB153_154:=n5_;have NB154_153:=n6_;clear n0_ n1_ n2_ n3_ n4_ n5_ n6_;clear hb hbox hg;have hnb21:=NB153_154.out;have hnc21:=NB154_153.out;have hcz22_0:=zz0 BK153;have hcz22_1:=zz1 BK153;have hcz22_2:=zz2 BK153;have hfz22_0:=blk_frozen BK153.out 0;have hfz22_1:=blk_frozen BK153.out 1;have hfz22_2:=blk_frozen BK153.out 2;have hcz23_0:=zz0 BK154;have hcz23_1:=zz1 BK154;have hcz23_2:=zz2 BK154;have hfz23_0:=blk_frozen BK154.out 0;have hfz23_1:=blk_frozen BK154.out 1;have hfz23_2:=blk_frozen BK154.out 2))
   go_ret
   exact ⟨by first|rfl|(simp [errW_none,errW_some] <;> rfl)|(simp [*,errW_none,errW_some] <;> rfl),zzh⟩
 ·rw [if_neg c3] at H
  have c3b0:(a0_0 == a1_0) = false:=beq_eq_false_iff_ne.mpr c3
  have c3b1:(a0_0 != a1_0) = true:=bne_iff_ne.mpr c3
  obtain rfl:=Option.some.inj H;go_enter Try.func17,Try.ntmps17
  go_wp2_with (first|((with_reducible refine gate_dst (N:=2) rfl ?_);refine zzc 2 #[.int .i64 a0_0,.int .i64 a0_1,.slice A0_2 l0_2.length c0_2] 29 ?_;intro gb153 hg w24 hbox hb;have n0_:=zM (zQ zzh hb);have n1_:=zM (hbox);have n2_:=zM ((by rw [hg];exact (zR zzh):w.heap.size ≤ gb153));have n3_:=zM ((by rw [hg];exact (zR zzh):w.heap.size ≤ gb153));clear HB;have HB:=n0_;have BK153:=n1_;have GW153:=n2_;have GE153:=n3_;clear n0_ n1_ n2_ n3_;clear hb hbox hg)|((with_reducible refine gate_dst (N:=3) rfl ?_);refine zzc 3 #[.int .i64 a1_0,.int .i64 a1_1,.slice A1_2 l1_2.length c1_2] 29 ?_;intro gb154 hg w25 hbox hb;have n0_:=zM (blk_below (g:=gb153) (o := .cells #[.int .i64 a0_0,.int .i64 a0_1,.slice A0_2 l0_2.length c0_2] 29 (0,0)) (zzi BK153) hb);have n1_:=zM (zQ zzh hb);have n2_:=zM (hbox);have n3_:=zM ((by rw [hg];exact (zR zzh):w.heap.size ≤ gb154));have n4_:=zM ((by rw [hg];exact (zR zzh):w.heap.size ≤ gb154));have n5_:=zM ((by rw [hg];exact Nat.ne_of_lt (blk_lt (g:=gb153) (o := .cells #[.int .i64 a0_0,.int .i64 a0_1,.slice A0_2 l0_2.length c0_2] 29 (0,0)) (zzi BK153)):gb153 ≠ gb154));have n6_:=zM ((by rw [hg];exact Nat.ne_of_gt (blk_lt (g:=gb153) (o := .cells #[.int .i64 a0_0,.int .i64 a0_1,.slice A0_2 l0_2.length c0_2] 29 (0,0)) (zzi BK153)):gb154 ≠ gb153));clear BK153;clear HB;have BK153:=n0_;have HB:=n1_;have BK154:=n2_;have GW154:=n3_;have GE154:=n4_;have NB153_154:=n5_;have NB154_153:=n6_;clear n0_ n1_ n2_ n3_ n4_ n5_ n6_;clear hb hbox hg;have hnb26:=NB153_154.out;have hnc26:=NB154_153.out;have hcz27_0:=zz0 BK153;have hcz27_1:=zz1 BK153;have hcz27_2:=zz2 BK153;have hfz27_0:=blk_frozen BK153.out 0;have hfz27_1:=blk_frozen BK153.out 1;have hfz27_2:=blk_frozen BK153.out 2;have hcz28_0:=zz0 BK154;have hcz28_1:=zz1 BK154;have hcz28_2:=zz2 BK154;have hfz28_0:=blk_frozen BK154.out 0;have hfz28_1:=blk_frozen BK154.out 1;have hfz28_2:=blk_frozen BK154.out 2))
  go_ret
  exact ⟨by first|rfl|(simp [errW_none,errW_some] <;> rfl)|(simp [*,errW_none,errW_some] <;> rfl),zzh⟩



/-! ### laws_szFloor: function 13 -/
def laws_szFloor.f (a0_0:Int) (a0_1:Int) (l0_2:List (S44)) (a1:Int):Option (Int):=(laws_szCellS.f l0_2 a1).bind fun t102=>(if t102 < 0 then (some (-1)) else (some t102))
set_option maxHeartbeats 8000000 in
set_option maxRecDepth 100000 in
theorem laws_szFloor.calls (a0_0:Int) (a0_1:Int) (A0_2:Option Addr) (c0_2:Nat) (l0_2:List (S44)) (a1:Int) (r:Int) (w:World) (hr0_2:Kd.C k44 w A0_2 l0_2.length l0_2) (hc0_2:l0_2.length ≤ c0_2) (h:laws_szFloor.f a0_0 a0_1 l0_2 a1 = some r) :
  Calls Try.prog 13 #[.agg #[.int .i64 a0_0,.int .i64 a0_1,.slice A0_2 l0_2.length c0_2],.int .i64 a1] w fun e w'=>e = .returned (.int .i64 r) ∧ Below w.heap.size w w':=by
 have hu24:=Try.underlying24;have HR0_2:=zM hr0_2;have HC0_2:=zM hc0_2;clear hr0_2 hc0_2;have HB:=zM (Below.refl w.heap.size w);have H:((laws_szCellS.f l0_2 a1).bind fun t102=>(if t102 < 0 then (some (-1)) else (some t102))) = some r:=h
 clear h;replace H:=Option.bind_eq_some_iff.mp H;obtain ⟨t102,A30,H⟩:=H;replace H:(if t102 < 0 then (some (-1)) else (some t102)) = some r:=H
 have A3:=zM A30;clear A30;by_cases c4:t102 < 0
 ·rw [if_pos c4] at H
  have c4b0:decide (t102 < 0) = true:=decide_eq_true c4
  clear c4;obtain rfl:=Option.some.inj H;go_enter Try.func13,Try.ntmps13
  go_wp2_with (first|((with_reducible refine gate_dst (N:=2) rfl ?_);refine zzc 2 #[.int .i64 a0_0,.int .i64 a0_1,.slice A0_2 l0_2.length c0_2] 24 ?_;intro gb101 hg w5 hbox hb;have n0_:=zM (zQ zzh hb);have n1_:=zM (hbox);have n2_:=zM ((by rw [hg];exact (zR zzh):w.heap.size ≤ gb101));have n3_:=zM ((by rw [hg];exact (zR zzh):w.heap.size ≤ gb101));clear HB;have HB:=n0_;have BK101:=n1_;have GW101:=n2_;have GE101:=n3_;clear n0_ n1_ n2_ n3_;clear hb hbox hg;have hcz6_0:=zz0 BK101;have hcz6_1:=zz1 BK101;have hcz6_2:=zz2 BK101;have hfz6_0:=blk_frozen BK101.out 0;have hfz6_1:=blk_frozen BK101.out 1;have hfz6_2:=blk_frozen BK101.out 2)|((with_reducible refine gate_callee (f:=18) rfl ?_);refine goesL_ (some 8) rfl rfl Try.func18 (by kernel_rfl) rfl #[.slice A0_2 l0_2.length c0_2,.int .i64 a1] rfl (by (try simp only [List.map_toArray,List.map_cons,List.map_nil]);first|done|rfl|(simp only [List.length_drop,List.length_take];rfl)) ?_;(with_reducible refine (laws_szCellS.calls _ _ l0_2 a1 t102 _ ?side1 ?side2 A3.out).mono ?_);(case side1=>repeat (first|exact (zO HR0_2.out HB.out)|(with_reducible first|refine zG ?_ _|refine zH ?_ _|refine zI ?_)));(case side2=>exact HC0_2.out);rintro e w' ⟨rfl,⟨nd,rfl⟩⟩;refine ⟨_,rfl,?_⟩))
  go_ret
  exact ⟨by first|rfl|(simp [errW_none,errW_some] <;> rfl)|(simp [*,errW_none,errW_some] <;> rfl),zzh⟩
 ·rw [if_neg c4] at H
  have c4b0:decide (t102 < 0) = false:=decide_eq_false c4
  clear c4;obtain rfl:=Option.some.inj H;go_enter Try.func13,Try.ntmps13
  go_wp2_with (first|((with_reducible refine gate_dst (N:=2) rfl ?_);refine zzc 2 #[.int .i64 a0_0,.int .i64 a0_1,.slice A0_2 l0_2.length c0_2] 24 ?_;intro gb101 hg w7 hbox hb;have n0_:=zM (zQ zzh hb);have n1_:=zM (hbox);have n2_:=zM ((by rw [hg];exact (zR zzh):w.heap.size ≤ gb101));have n3_:=zM ((by rw [hg];exact (zR zzh):w.heap.size ≤ gb101));clear HB;have HB:=n0_;have BK101:=n1_;have GW101:=n2_;have GE101:=n3_;clear n0_ n1_ n2_ n3_;clear hb hbox hg;have hcz8_0:=zz0 BK101;have hcz8_1:=zz1 BK101;have hcz8_2:=zz2 BK101;have hfz8_0:=blk_frozen BK101.out 0;have hfz8_1:=blk_frozen BK101.out 1;have hfz8_2:=blk_frozen BK101.out 2)|((with_reducible refine gate_callee (f:=18) rfl ?_);refine goesL_ (some 8) rfl rfl Try.func18 (by kernel_rfl) rfl #[.slice A0_2 l0_2.length c0_2,.int .i64 a1] rfl (by (try simp only [List.map_toArray,List.map_cons,List.map_nil]);first|done|rfl|(simp only [List.length_drop,List.length_take];rfl)) ?_;(with_reducible refine (laws_szCellS.calls _ _ l0_2 a1 t102 _ ?side1 ?side2 A3.out).mono ?_);(case side1=>repeat (first|exact (zO HR0_2.out HB.out)|(with_reducible first|refine zG ?_ _|refine zH ?_ _|refine zI ?_)));(case side2=>exact HC0_2.out);rintro e w' ⟨rfl,⟨nd,rfl⟩⟩;refine ⟨_,rfl,?_⟩))
  go_ret
  exact ⟨by first|rfl|(simp [errW_none,errW_some] <;> rfl)|(simp [*,errW_none,errW_some] <;> rfl),zzh⟩

end Go.Proofs.Ytbpccdbkaiigcaa.G

namespace Go.Proofs.Ytbpccdbkaiigcaa.G
open Go.RowKit Go.Proofs.YtbpccdbkaiigcaaW.PrintWords Go.Proofs.YtbpccdbkaiigcaaW.PrintLast
set_option linter.unusedVariables false
set_option linter.unusedSimpArgs false
def cv_C (x : S44) : S48:=⟨x.f0,x.f1⟩
theorem to_C (xs : List S44) (h : (xs.length : Int) ≤ 1048576) : Ev (fun k=>laws_toCellS.f k xs) (xs.map cv_C):=by
 unfold laws_toCellS.f
 simp (disch:=omega) only [if_pos]
 simp only [Int.toNat_natCast]
 refine Ev.fill (fun k out i=>laws_toCellS.l0 k xs out i) xs cv_C z44 z48 ?_ ?_
 ·intro out
  refine Ev.step (fun k=>by rw [laws_toCellS.l0]) ?_
  simp only [Int.lt_irrefl,if_false]
  exact Ev.now _
 ·intro out i hl h0 hlt r hr
  refine Ev.step (fun k=>by rw [laws_toCellS.l0]) ?_
  simp (disch:=omega) only [wrap64_id,if_pos,laws_toCell.f,Option.bind_some,hl]
  exact hr
theorem eq_C (xs : List S48) (h : (xs.length : Int) ≤ 1048576) : Ev (fun k=>laws_eqCellS.f k xs xs) true:=by
 unfold laws_eqCellS.f
 simp only [if_true]
 refine Ev.upc (fun k i=>laws_eqCellS.l0 k xs xs i) true (xs.length : Int) 0 ?_ ?_ 0 (by omega) (by omega)
 ·refine Ev.step (fun k=>by rw [laws_eqCellS.l0]) ?_
  simp only [Int.lt_irrefl,if_false]
  exact Ev.now _
 ·intro i h0 hlt hr
  refine Ev.step (fun k=>by rw [laws_eqCellS.l0]) ?_
  simp (disch:=omega) only [wrap64_id,if_pos,laws_eqCell.f,Option.bind_some,if_true]
  exact hr

theorem szc (xs : List S44) (h : xs.length ≤ maxLen) (a : Int) (a0 : 0 ≤ a) (a1 : a ≤ 1048576) : laws_szCellS.f xs a = some (if a - (xs.length : Int) < 0 then -1 else a - (xs.length : Int)):=by
 unfold maxLen at h
 unfold laws_szCellS.f
 rw [wrap64_id (by omega) (by omega)]
 split <;> rfl
theorem szf (w h : Int) (xs : List S44) (hl : xs.length ≤ maxLen) (a : Int) (a0 : 0 ≤ a) (a1 : a ≤ 1048576) : laws_szFloor.f w h xs a = some (if a - (xs.length : Int) < 0 then -1 else a - (xs.length : Int)):=by
 unfold laws_szFloor.f
 rw [szc xs hl a a0 a1]
 simp only [Option.bind_some]
 by_cases h1 : a - (xs.length : Int) < 0
 ·rw [if_pos h1,if_pos (by decide)]
 ·rw [if_neg h1,if_neg h1]
theorem to_F (w h : Int) (xs : List S44) (hl : (xs.length : Int) ≤ 1048576) : Ev (fun k=>laws_toFloor.f k w h xs) (w,h,xs.map cv_C):=by
 unfold laws_toFloor.f
 exact Ev.bind (to_C xs hl) (Ev.now _)
theorem eq_F (w h : Int) (xs : List S48) (hl : (xs.length : Int) ≤ 1048576) : Ev (fun k=>laws_eqFloor.f k w h xs w h xs) true:=by
 unfold laws_eqFloor.f
 simp only [if_true]
 refine Ev.bind (eq_C xs hl) ?_
 simp only [if_true]
 exact Ev.now _
end Go.Proofs.Ytbpccdbkaiigcaa.G

-- Written by wip/tools/gen.py out of the translation (the kit's printer, one namespace a seat). Lean checks it.
namespace Go.Proofs.Ytbpccdbkaiigcaa.G
open Go.RowKit Go.Proofs.YtbpccdbkaiigcaaW.PrintWords Go.Proofs.YtbpccdbkaiigcaaW.PrintLast Go.Proofs.YtbpccdbkaiigcaaW.PrintMore
attribute [local go_sem] max2_int min2_int max_two min_two max_three min_three max_four min_four   -- for this text's walks alone
set_option linter.unusedVariables false
set_option linter.unusedSimpArgs false

/-! ### laws_szCellSS: function 38 -/
def laws_szCellSS.l0:Nat → List (List (S44)) → Int → Int → Option (Int)
 | 0,_,_,_=>none
 | k + 1,x0,x1,x5=>if x5 < (x0.length:Int) then (if 0 ≤ x5 then ((laws_szCellS.f (rd_L3 x0 x5) x1).bind fun t588=>(if t588 < 0 then (some (-1)) else (laws_szCellSS.l0 k x0 t588 (wrap64 (x5 + 1))))) else (none)) else (some x1)
def laws_szCellSS.f (k:Nat) (l0:List (List (S44))) (a1:Int):Option (Int):=if (wrap64 (a1 - (l0.length:Int))) < 0 then (some (-1)) else (laws_szCellSS.l0 k l0 (wrap64 (a1 - (l0.length:Int))) 0)


/-! ### laws_toCellSS: function 40 -/
def laws_toCellSS.l0:Nat → List (List (S44)) → List (List (S48)) → Int → Option ((List (List (S48))))
 | 0,_,_,_=>none
 | k + 1,x0,x3,x4=>if x4 < (x0.length:Int) then (if 0 ≤ x4 then ((laws_toCellS.f k (rd_L3 x0 x4)).bind fun t609=>(if x4 < (x3.length:Int) then (laws_toCellSS.l0 k x0 (x3.set (x4:Int).toNat t609) (wrap64 (x4 + 1))) else (none))) else (none)) else (some x3)
def laws_toCellSS.f (k:Nat) (l0:List (List (S44))):Option ((List (List (S48)))):=if 0 ≤ (l0.length:Int) then (if ((l0.length:Int):Int).toNat ≤ 11728124029610 then (laws_toCellSS.l0 k l0 (List.replicate ((l0.length:Int):Int).toNat []) 0) else (none)) else (none)


/-! ### laws_eqCellSS: function 42 -/
def laws_eqCellSS.l0:Nat → List (List (S48)) → List (List (S48)) → Int → Option (Bool)
 | 0,_,_,_=>none
 | k + 1,x0,x1,x5=>if x5 < (x0.length:Int) then (if 0 ≤ x5 then (if x5 < (x1.length:Int) then ((laws_eqCellS.f k (rd_L6 x0 x5) (rd_L6 x1 x5)).bind fun t620=>(if t620 = true then (laws_eqCellSS.l0 k x0 x1 (wrap64 (x5 + 1))) else (some false))) else (none)) else (none)) else (some true)
def laws_eqCellSS.f (k:Nat) (l0:List (List (S48))) (l1:List (List (S48))):Option (Bool):=if (l0.length:Int) = (l1.length:Int) then (laws_eqCellSS.l0 k l0 l1 0) else (some false)
def laws_eqCellSS.T6:Bool × List (List Nat × List Nat):=(true,[([],[]),([],[]),([0,1],[0,1]),([2],[2]),([],[]),([],[]),([4,5],[4,5]),([6],[6]),([3,7],[3,7]),([8],[8])])
def laws_eqCellSS.B6:List Nat:=[0,0,3,7,0,0,48,112,255,511]
theorem laws_eqCellSS.tab6:rtab .any (opsOf Try.f42 6) = laws_eqCellSS.T6:=by kernel_rfl
theorem laws_eqCellSS.bits6:waitsOk laws_eqCellSS.T6.2 laws_eqCellSS.B6 = true:=by kernel_rfl
set_option maxHeartbeats 8000000 in
set_option maxRecDepth 100000 in
theorem laws_eqCellSS.calls (k:Nat) (A0:Option Addr) (c0:Nat) (l0:List (List (S48))) (A1:Option Addr) (c1:Nat) (l1:List (List (S48))) (r:Bool) (w:World) (hr0:Kd.C (Kd.slice 48 k48) w A0 l0.length l0) (hc0:l0.length ≤ c0) (hr1:Kd.C (Kd.slice 48 k48) w A1 l1.length l1) (hc1:l1.length ≤ c1) (h:laws_eqCellSS.f k l0 l1 = some r) :
  Calls Try.prog 42 #[.slice A0 l0.length c0,.slice A1 l1.length c1] w fun e w'=>e = .returned (.bool r) ∧ Below w.heap.size w w':=by
 have HR0:=zM hr0;have HC0:=zM hc0;clear hr0 hc0;have HR1:=zM hr1;have HC1:=zM hc1;clear hr1 hc1;have HB:=zM (Below.refl w.heap.size w);have H:(if (l0.length:Int) = (l1.length:Int) then (laws_eqCellSS.l0 k l0 l1 0) else (some false)) = some r:=h
 clear h;by_cases c3:(l0.length:Int) = (l1.length:Int)
 ·rw [if_pos c3] at H
  have c3b0:((l0.length:Int) == (l1.length:Int)) = true:=beq_iff_eq.mpr c3
  have c3b1:((l0.length:Int) != (l1.length:Int)) = false:=bne_eq_false_iff_eq.mpr c3
  have c3b2:(l0.length == l1.length) = true:=by first|simpa using c3|(simp at c3 ⊢;omega)
  clear c3;have H':=zM H;clear H;go_enter Try.func42,Try.ntmps42
  go_wp2
  go_loopg [5] k (fun kq v5 w' => ∃ (x5_1:Int),v5 = .int .i64 x5_1 ∧ Aside0 (laws_eqCellSS.l0 kq l0 l1 x5_1 = some r) ∧ Aside0 (kq ≤ k) ∧ Aside0 (Below w.heap.size w w'))
  case atStart=>exact ⟨(0),(by first|rfl|(simp;done)|(simp [*];done)),H',⟨Nat.le_refl _⟩,⟨zzh⟩⟩
  case round =>
   clear H';(try clear c1);(try clear p2);(try clear c3);(try clear c3b0);(try clear c3b1);(try clear c3b2);obtain ⟨x5_1,rfl,HA,HK1,HB⟩:=hrel;cases gk with
   | zero=>exact absurd HA.out (by simp [laws_eqCellSS.l0])
   | succ k1 =>
    have H:=HA.out;clear HA;simp only [laws_eqCellSS.l0] at H
    by_cases c4:x5_1 < (l0.length:Int)
    ·rw [if_pos c4] at H
     have c4b0:decide (x5_1 < (l0.length:Int)) = true:=decide_eq_true c4
     clear c4;by_cases c5:0 ≤ x5_1
     ·rw [if_pos c5] at H
      have c5b0:decide (0 ≤ x5_1) = true:=decide_eq_true c5
      clear c5;by_cases c6:x5_1 < (l1.length:Int)
      ·rw [if_pos c6] at H
       have c6b0:decide (x5_1 < (l1.length:Int)) = true:=decide_eq_true c6
       clear c6;replace H:=Option.bind_eq_some_iff.mp H;obtain ⟨t620,A70,H⟩:=H;replace H:(if t620 = true then (laws_eqCellSS.l0 k1 l0 l1 (wrap64 (x5_1 + 1))) else (some false)) = some r:=H
       have A7:=zM A70;clear A70;by_cases c8:t620 = true
       ·subst c8
        have H1:(laws_eqCellSS.l0 k1 l0 l1 (wrap64 (x5_1 + 1))) = some r:=by rw [if_pos rfl] at H;exact H
        clear H;have H:=H1;clear H1;have H':=zM H;clear H;try go_wp2
        have n0_:=zM (zF HB.out);clear HB;have HB:=n0_;clear n0_;have p618:0 ≤ (x5_1:Int):=zzd
        have q618:x5_1 < (l0.length:Int):=zzd
        obtain ⟨ad618,A618_0,c618_0,e618,hx618_0,hl618_0,hi618_0⟩:=at_L6 HR0.out x5_1 p618 q618;have hw618_0:=hx618_0;cases e618
        replace hx618_0:=zS HB.out hx618_0;have HR618_0:=zM hi618_0;have HC618_0:=zM hl618_0;clear hi618_0 hl618_0;replace p618:=eq_true p618;replace q618:=eq_true q618;have p619:0 ≤ (x5_1:Int):=zzd
        have q619:x5_1 < (l1.length:Int):=zzd
        obtain ⟨ad619,A619_0,c619_0,e619,hx619_0,hl619_0,hi619_0⟩:=at_L6 HR1.out x5_1 p619 q619;have hw619_0:=hx619_0;cases e619
        replace hx619_0:=zS HB.out hx619_0;have HR619_0:=zM hi619_0;have HC619_0:=zM hl619_0;clear hi619_0 hl619_0;replace p619:=eq_true p619;replace q619:=eq_true q619;refine start_ (n:=10) (S:=fun w'=>w'.cell? (ad618.add (x5_1).toNat) = some (.slice A618_0 (rd_L6 l0 x5_1).length c618_0) ∧ w'.cell? (ad619.add (x5_1).toNat) = some (.slice A619_0 (rd_L6 l1 x5_1).length c619_0)) (ds:=[]) #[false,false,false,false,false,false,false,false,false,false] (by kernel_rfl) rfl rfl ⟨(zS HB.out hw618_0 :),(zS HB.out hw619_0 :)⟩ (fun hHeld=>?_);refine with_tabW laws_eqCellSS.tab6 laws_eqCellSS.bits6 (fun HT_ HW_=>?_)
        generalize wr.drew = w9 at HB HR618_0 HR619_0 hx618_0 hx619_0 hHeld ⊢
        refine zzp 0 17 (zzb 10 1) ?_ (hc:=zzx HT_);refine zzp 1 18 (zzb 10 3) ?_ (hc:=zzx HT_);refine zzp 2 19 (zzb 10 7) ?_ (hc:=zzx HT_);refine zzp 4 21 (zzb 10 23) ?_ (hc:=zzx HT_);refine zzp 5 22 (zzb 10 55) ?_ (hc:=zzx HT_);refine zzp 6 23 (zzb 10 119) ?_ (hc:=zzx HT_)
        refine zzt 3 20 (zzb 10 127) hHeld ?_ (hc:=zzy HT_ HW_) (hy:=by rintro w' ⟨s0,s1⟩;go_simp;with_reducible rfl)
        refine zzt 7 24 (zzb 10 255) hHeld ?_ (hc:=zzy HT_ HW_) (hy:=by rintro w' ⟨s0,s1⟩;go_simp;with_reducible rfl)
        refine zzo 8 25 (zzb 10 511) (hc:=zzw HT_) (fun K hK=>?_)
        refine zzf Try.func22 #[.slice A618_0 (rd_L6 l0 x5_1).length c618_0,.slice A619_0 (rd_L6 l1 x5_1).length c619_0] ?_
        with_reducible refine (laws_eqCellS.calls k1 _ _ (rd_L6 l0 x5_1) _ _ (rd_L6 l1 x5_1) true _ ?side1 ?side2 ?side3 ?side4 A7.out).mono ?_
        (case side1=>repeat (first|exact (zO HR618_0.out HB.out)|(with_reducible first|refine zG ?_ _|refine zH ?_ _|refine zI ?_)))
        (case side2=>exact HC618_0.out)
        (case side3=>repeat (first|exact (zO HR619_0.out HB.out)|(with_reducible first|refine zG ?_ _|refine zH ?_ _|refine zI ?_)))
        (case side4=>exact HC619_0.out)
        rintro e w10 ⟨rfl,hb⟩
        refine ⟨_,rfl,?_⟩
        have n0_:=zM (zQ zzh hb)
        clear HB;have HB:=n0_;clear n0_;(try clear hb)
        (try clear hb2)
        (try clear hk)
        (try clear hi)
        refine hK.out _ _ ⟨(zS HB.out hw618_0 :),(zS HB.out hw619_0 :)⟩ (fun hHeld=>?_)
        clear hK K;refine zzn 25 ?_;refine zzp 9 26 (zzb 10 1023) ?_ (hc:=zzx HT_)
        refine done_ (done_of HT_.out (by kernel_rfl)) ?_
        try go_wp2
        go_roundg k1
        case measure=>have:=HK1.out;omega
        case rel=>exact ⟨(wrap64 (x5_1 + 1)),(by first|rfl|(simp;done)|(simp [*];done)),H',⟨by have:=HK1.out;omega⟩,⟨zzh⟩⟩
       ·replace c8:=Bool.eq_false_iff.mpr c8
        subst c8;have H1:(some false) = some r:=by rw [if_neg (show ¬ (false = true) by decide)] at H;exact H
        clear H;have H:=H1;clear H1;obtain rfl:=Option.some.inj H;try go_wp2
        have n0_:=zM (zF HB.out);clear HB;have HB:=n0_;clear n0_;have p618:0 ≤ (x5_1:Int):=zzd
        have q618:x5_1 < (l0.length:Int):=zzd
        obtain ⟨ad618,A618_0,c618_0,e618,hx618_0,hl618_0,hi618_0⟩:=at_L6 HR0.out x5_1 p618 q618;have hw618_0:=hx618_0;cases e618
        replace hx618_0:=zS HB.out hx618_0;have HR618_0:=zM hi618_0;have HC618_0:=zM hl618_0;clear hi618_0 hl618_0;replace p618:=eq_true p618;replace q618:=eq_true q618;have p619:0 ≤ (x5_1:Int):=zzd
        have q619:x5_1 < (l1.length:Int):=zzd
        obtain ⟨ad619,A619_0,c619_0,e619,hx619_0,hl619_0,hi619_0⟩:=at_L6 HR1.out x5_1 p619 q619;have hw619_0:=hx619_0;cases e619
        replace hx619_0:=zS HB.out hx619_0;have HR619_0:=zM hi619_0;have HC619_0:=zM hl619_0;clear hi619_0 hl619_0;replace p619:=eq_true p619;replace q619:=eq_true q619;refine start_ (n:=10) (S:=fun w'=>w'.cell? (ad618.add (x5_1).toNat) = some (.slice A618_0 (rd_L6 l0 x5_1).length c618_0) ∧ w'.cell? (ad619.add (x5_1).toNat) = some (.slice A619_0 (rd_L6 l1 x5_1).length c619_0)) (ds:=[]) #[false,false,false,false,false,false,false,false,false,false] (by kernel_rfl) rfl rfl ⟨(zS HB.out hw618_0 :),(zS HB.out hw619_0 :)⟩ (fun hHeld=>?_);refine with_tabW laws_eqCellSS.tab6 laws_eqCellSS.bits6 (fun HT_ HW_=>?_)
        generalize wr.drew = w11 at HB HR618_0 HR619_0 hx618_0 hx619_0 hHeld ⊢
        refine zzp 0 17 (zzb 10 1) ?_ (hc:=zzx HT_);refine zzp 1 18 (zzb 10 3) ?_ (hc:=zzx HT_);refine zzp 2 19 (zzb 10 7) ?_ (hc:=zzx HT_);refine zzp 4 21 (zzb 10 23) ?_ (hc:=zzx HT_);refine zzp 5 22 (zzb 10 55) ?_ (hc:=zzx HT_);refine zzp 6 23 (zzb 10 119) ?_ (hc:=zzx HT_)
        refine zzt 3 20 (zzb 10 127) hHeld ?_ (hc:=zzy HT_ HW_) (hy:=by rintro w' ⟨s0,s1⟩;go_simp;with_reducible rfl)
        refine zzt 7 24 (zzb 10 255) hHeld ?_ (hc:=zzy HT_ HW_) (hy:=by rintro w' ⟨s0,s1⟩;go_simp;with_reducible rfl)
        refine zzo 8 25 (zzb 10 511) (hc:=zzw HT_) (fun K hK=>?_)
        refine zzf Try.func22 #[.slice A618_0 (rd_L6 l0 x5_1).length c618_0,.slice A619_0 (rd_L6 l1 x5_1).length c619_0] ?_
        with_reducible refine (laws_eqCellS.calls k1 _ _ (rd_L6 l0 x5_1) _ _ (rd_L6 l1 x5_1) false _ ?side1 ?side2 ?side3 ?side4 A7.out).mono ?_
        (case side1=>repeat (first|exact (zO HR618_0.out HB.out)|(with_reducible first|refine zG ?_ _|refine zH ?_ _|refine zI ?_)))
        (case side2=>exact HC618_0.out)
        (case side3=>repeat (first|exact (zO HR619_0.out HB.out)|(with_reducible first|refine zG ?_ _|refine zH ?_ _|refine zI ?_)))
        (case side4=>exact HC619_0.out)
        rintro e w12 ⟨rfl,hb⟩
        refine ⟨_,rfl,?_⟩
        have n0_:=zM (zQ zzh hb)
        clear HB;have HB:=n0_;clear n0_;(try clear hb)
        (try clear hb2)
        (try clear hk)
        (try clear hi)
        refine hK.out _ _ ⟨(zS HB.out hw618_0 :),(zS HB.out hw619_0 :)⟩ (fun hHeld=>?_)
        clear hK K;refine zzn 25 ?_;refine zzp 9 26 (zzb 10 1023) ?_ (hc:=zzx HT_)
        refine done_ (done_of HT_.out (by kernel_rfl)) ?_
        try go_wp2
        go_ret
        exact ⟨by first|rfl|(simp [errW_none,errW_some] <;> rfl)|(simp [*,errW_none,errW_some] <;> rfl),zzh⟩
      ·rw [if_neg c6] at H
       exact absurd H (by simp)
     ·rw [if_neg c5] at H
      exact absurd H (by simp)
    ·rw [if_neg c4] at H
     have c4b0:decide (x5_1 < (l0.length:Int)) = false:=decide_eq_false c4
     clear c4;obtain rfl:=Option.some.inj H;go_wp2
     go_ret
     exact ⟨by first|rfl|(simp [errW_none,errW_some] <;> rfl)|(simp [*,errW_none,errW_some] <;> rfl),zzh⟩
 ·rw [if_neg c3] at H
  have c3b0:((l0.length:Int) == (l1.length:Int)) = false:=beq_eq_false_iff_ne.mpr c3
  have c3b1:((l0.length:Int) != (l1.length:Int)) = true:=bne_iff_ne.mpr c3
  have c3b2:(l0.length == l1.length) = false:=by first|simpa using c3|(simp at c3 ⊢;omega)
  obtain rfl:=Option.some.inj H;go_enter Try.func42,Try.ntmps42
  go_wp2
  go_ret
  exact ⟨by first|rfl|(simp [errW_none,errW_some] <;> rfl)|(simp [*,errW_none,errW_some] <;> rfl),zzh⟩

end Go.Proofs.Ytbpccdbkaiigcaa.G

/- The laws' helpers over lists of lists of cells. -/
namespace Go.Proofs.Ytbpccdbkaiigcaa.G
open Go.RowKit Go.Proofs.YtbpccdbkaiigcaaW.PrintWords Go.Proofs.YtbpccdbkaiigcaaW.PrintLast
set_option linter.unusedVariables false
set_option linter.unusedSimpArgs false
/-- All lists are small. -/
def SmallR (xs : List (List S44)) : Prop:=(xs.length : Int) ≤ 1048576 ∧ All (fun i=>((rd_L3 xs i).length : Int) ≤ 1048576) 0 (xs.length : Int)
def SmallC (xs : List (List S48)) : Prop:=(xs.length : Int) ≤ 1048576 ∧ All (fun i=>((rd_L6 xs i).length : Int) ≤ 1048576) 0 (xs.length : Int)
theorem rd6_map (xs : List (List S44)) (i : Int) (h0 : 0 ≤ i) (h1 : i < (xs.length : Int)) : rd_L6 (xs.map (fun r=>r.map cv_C)) i = (rd_L3 xs i).map cv_C:=by
 unfold rd_L6 rd_L3
 rw [List.getD_eq_getElem?_getD,List.getD_eq_getElem?_getD,List.getElem?_map,List.getElem?_eq_getElem (show i.toNat < xs.length by omega)]
 rfl
theorem SmallR.map {xs : List (List S44)} (h : SmallR xs) : SmallC (xs.map (fun r=>r.map cv_C)):=⟨by rw [List.length_map];exact h.1,fun i h0 h1=>by
 rw [List.length_map] at h1
 show ((rd_L6 _ i).length : Int) ≤ 1048576
 rw [rd6_map xs i h0 h1,List.length_map]
 exact h.2 i h0 h1⟩
theorem eq_CSS (xs : List (List S48)) (h : SmallC xs) : Ev (fun k=>laws_eqCellSS.f k xs xs) true:=by
 have hl:=h.1
 unfold laws_eqCellSS.f
 simp only [if_true]
 refine Ev.upc (fun k i=>laws_eqCellSS.l0 k xs xs i) true (xs.length : Int) 0 ?_ ?_ 0 (by omega) (by omega)
 ·refine Ev.step (fun k=>by rw [laws_eqCellSS.l0]) ?_
  simp only [Int.lt_irrefl,if_false]
  exact Ev.now _
 ·intro i h0 hlt hr
  refine Ev.step (fun k=>by rw [laws_eqCellSS.l0]) ?_
  simp (disch:=omega) only [wrap64_id,if_pos]
  refine Ev.bind (eq_C _ (h.2 i h0 hlt)) ?_
  simp only [if_true]
  exact hr
end Go.Proofs.Ytbpccdbkaiigcaa.G

-- Written by wip/tools/gen.py out of the translation (the kit's printer, one namespace a seat). Lean checks it.
namespace Go.Proofs.Ytbpccdbkaiigcaa.G
open Go.RowKit Go.Proofs.YtbpccdbkaiigcaaW.PrintWords Go.Proofs.YtbpccdbkaiigcaaW.PrintLast Go.Proofs.YtbpccdbkaiigcaaW.PrintMore
attribute [local go_sem] max2_int min2_int max_two min_two max_three min_three max_four min_four   -- for this text's walks alone
set_option linter.unusedVariables false
set_option linter.unusedSimpArgs false

/-! ### laws_markCellS: function 36 -/
def laws_markCellS.l0:Nat → List (S48) → Int → Int → Option (Int × (List (S48)))
 | 0,_,_,_=>none
 | k + 1,x0,x1,x5=>if x5 < (x0.length:Int) then (if 0 ≤ x5 then ((some (x0.set (x5:Int).toNat (⟨x1,(rd_T48 x0 x5).f1⟩ : S48):List (S48))).bind fun y460=>(laws_markCellS.l0 k (y460.set (x5:Int).toNat (⟨(rd_T48 y460 x5).f0,wrap64 (x1 + 1)⟩ : S48)) (wrap64 ((wrap64 (x1 + 1)) + 1)) (wrap64 (x5 + 1)))) else (none)) else (some (x1,x0))
def laws_markCellS.f (k:Nat) (l0:List (S48)) (a1:Int):Option (Int × (List (S48))):=laws_markCellS.l0 k l0 a1 0
theorem laws_markCellS.mono_l:∀ k,(∀ y0 y1 y2,LeO (laws_markCellS.l0 k y0 y1 y2) (laws_markCellS.l0 (k + 1) y0 y1 y2))
 | 0=>fun _ _ _ r h=>by simp [laws_markCellS.l0] at h
 | k + 1=>by
  have ih0:=laws_markCellS.mono_l k
  ·intro y0 y1 y2
   unfold laws_markCellS.l0
   repeat' first
   | (with_reducible exact ih0 _ _ _)
   | (with_reducible exact LeO.refl _)
   | (with_reducible exact LeO.none _)
   | (with_reducible refine LeO.ite ?_ ?_)
   | (with_reducible refine LeO.bind ?_ (fun _=>?_))
   | exact ih0 _ _ _
   | exact LeO.none _
   | refine LeO.ite ?_ ?_
   | refine LeO.bind ?_ (fun _=>?_)
theorem laws_markCellS.mono:∀ a0 a1 k,LeO (laws_markCellS.f k a0 a1) (laws_markCellS.f (k + 1) a0 a1):=by
 intro a0 a1 k;have ih0:=laws_markCellS.mono_l k;unfold laws_markCellS.f
 repeat' first
   | (with_reducible exact ih0 _ _ _)
   | (with_reducible exact LeO.refl _)
   | (with_reducible exact LeO.none _)
   | (with_reducible refine LeO.ite ?_ ?_)
   | (with_reducible refine LeO.bind ?_ (fun _=>?_))
   | exact ih0 _ _ _
   | exact LeO.none _
   | refine LeO.ite ?_ ?_
   | refine LeO.bind ?_ (fun _=>?_)
set_option maxHeartbeats 8000000 in
set_option maxRecDepth 100000 in
theorem laws_markCellS.calls (k:Nat) (P0_:Nat → Prop) (u9000_:Value) (l0:List (S48)) (a1:Int) (r1:Int) (r2:List (S48)) (w0 w:World) (hB:Below w0.heap.size w0 w) (ho0:Kd.R k48 48 w w0.heap.size P0_ u9000_ l0) (h:laws_markCellS.f k l0 a1 = some (r1,r2)) :
  Calls Try.prog 36 #[u9000_,.int .i64 a1] w fun e w'=>e = .returned (.int .i64 r1) ∧ Kd.R k48 48 w' w0.heap.size (fun k_=>(P0_ k_ ∨ w.heap.size ≤ k_)) u9000_ r2 ∧ Below w0.heap.size w0 w' ∧ Kept w w' (fun k_=>P0_ k_):=by
 have HO0:=zM (show Kd.R k48 48 w w0.heap.size (fun k_=>(P0_ k_ ∨ w.heap.size ≤ k_)) u9000_ l0 from Kd.R_mono ho0 (fun k_ hk=>(.inl hk)))
 have HK:=zM (Kept.refl w (fun k_=>P0_ k_))
 have HW0:=zM hB.size;have HB:=zM hB;clear hB;have H:(laws_markCellS.l0 k l0 a1 0) = some (r1,r2):=h
 clear h;have H':=zM H;clear H;go_enter Try.func36,Try.ntmps36
 go_wp2
 go_loopg [1,5] k (fun kq v1 v5 w' => ∃ (x0_1:List (S48)) (x1_1:Int) (x5_1:Int),v1 = .int .i64 x1_1 ∧ v5 = .int .i64 x5_1 ∧ Aside0 (laws_markCellS.l0 kq x0_1 x1_1 x5_1 = some (r1,r2)) ∧ Aside0 (kq ≤ k) ∧ Aside0 (Kd.R k48 48 w' w0.heap.size (fun k_=>(P0_ k_ ∨ w.heap.size ≤ k_)) u9000_ x0_1) ∧ Aside0 (Kept w w' (fun k_=>P0_ k_)) ∧ Aside0 (Below w0.heap.size w0 w'))
 case atStart=>exact ⟨(l0),(a1),(0),(by first|rfl|(simp;done)|(simp [*];done)),(by first|rfl|(simp;done)|(simp [*];done)),H',⟨Nat.le_refl _⟩,⟨zzl HO0⟩,⟨by repeat (first|(with_reducible first|exact HK.out|apply Kept.alloc|apply Kept.drewN|apply Kept.drew)|exact HK.out)⟩,⟨zzh⟩⟩
 case round =>
  clear H';(try clear p2);obtain ⟨x0_1,x1_1,x5_1,rfl,rfl,HA,HK1,HO_0,HK,HB⟩:=hrel;cases gk with
  | zero=>exact absurd HA.out (by simp [laws_markCellS.l0])
  | succ k1 =>
   have H:=HA.out;clear HA;simp only [laws_markCellS.l0] at H
   by_cases c3:x5_1 < (x0_1.length:Int)
   ·rw [if_pos c3] at H
    have c3b0:decide (x5_1 < (x0_1.length:Int)) = true:=decide_eq_true c3
    clear c3;by_cases c4:0 ≤ x5_1
    ·rw [if_pos c4] at H
     have c4b0:decide (0 ≤ x5_1) = true:=decide_eq_true c4
     clear c4;obtain ⟨y460,hy460⟩ : ∃ y_:List (S48),y_ = (x0_1.set (x5_1:Int).toNat (⟨x1_1,(rd_T48 x0_1 x5_1).f1⟩ : S48)):=⟨_,rfl⟩
     replace H:(laws_markCellS.l0 k1 (y460.set (x5_1:Int).toNat (⟨(rd_T48 y460 x5_1).f0,wrap64 (x1_1 + 1)⟩ : S48)) (wrap64 ((wrap64 (x1_1 + 1)) + 1)) (wrap64 (x5_1 + 1))) = some (r1,r2):=by first|(rw [hy460];with_reducible exact H)|(have H2_:=(Option.bind_some _ _).symm.trans H;rw [hy460];with_reducible exact H2_)|(have H2_:=(Option.bind_some _ _).symm.trans H;with_reducible exact H2_)|with_reducible exact H|(rw [hy460];exact H)|exact H
     have Ny460:=zM hy460;clear hy460;obtain ⟨y461,hy461⟩ : ∃ y_:List (S48),y_ = (y460.set (x5_1:Int).toNat (⟨(rd_T48 y460 x5_1).f0,wrap64 (x1_1 + 1)⟩ : S48)):=⟨_,rfl⟩
     replace H:(laws_markCellS.l0 k1 y461 (wrap64 ((wrap64 (x1_1 + 1)) + 1)) (wrap64 (x5_1 + 1))) = some (r1,r2):=by first|(rw [hy461];with_reducible exact H)|(have H2_:=(Option.bind_some _ _).symm.trans H;rw [hy461];with_reducible exact H2_)|(have H2_:=(Option.bind_some _ _).symm.trans H;with_reducible exact H2_)|with_reducible exact H|(rw [hy461];exact H)|exact H
     have Ny461:=zM hy461;clear hy461;have H':=zM H;clear H;obtain ⟨Ao7,co7,eo7⟩:=Kd.R_slice HO_0.out;subst eo7;have p5:0 ≤ (x5_1:Int):=zzd
     have q5:(x5_1:Int) < ((x0_1.length:Int):Int):=zzd
     obtain ⟨go5,co5,eo5,gb5,gl5,cl5,HG5⟩:=Kd.R_form HO_0.out (by omega)
     (first|cases eo5|(injection eo5 with ea_ en_ ec_;(first|subst ea_|(injection ea_ with ea_;subst ea_));subst ec_;clear en_))
     have GB5:=zM gb5;have GG5:=zM HG5;clear gb5 gl5 HG5;have HMgo5:=zM (show (P0_ go5 ∨ w.heap.size ≤ go5) from (HO_0.out.1 _ rfl))
     obtain ⟨ce5,hcl5,hM5,hcc5,hfr5⟩:=Kd.R_elem HO_0.out z48 (x5_1:Int) p5 q5;obtain rfl:=k48_openM hM5;have hx5_0:wr.cell? ⟨go5,(x5_1:Int).toNat * 2,none⟩ = some (.int .i64 ((rd_T48 x0_1 x5_1).f0)):=hcc5 0 _ rfl
     have hx5_1:wr.cell? ⟨go5,(x5_1:Int).toNat * 2 + 1,none⟩ = some (.int .i64 ((rd_T48 x0_1 x5_1).f1)):=hcc5 1 _ rfl
     have hf5_0:wr.frozen? ⟨go5,(x5_1:Int).toNat * 2,none⟩ = false:=hfr5 0
     have hf5_1:wr.frozen? ⟨go5,(x5_1:Int).toNat * 2 + 1,none⟩ = false:=hfr5 1
     clear hcl5 hcc5 hfr5;(try clear hM5)
     replace p5:=eq_true p5;replace q5:=eq_true q5;have HX8:=zM (show Kd.R k48 48 wr w0.heap.size (fun k_=>(P0_ k_ ∨ w.heap.size ≤ k_)) (.slice (some ⟨go5,0,none⟩) x0_1.length co7) x0_1 from (zzl HO_0))
     obtain ⟨ce8,hcl8,hM8,hcc8,hfr8⟩:=Kd.R_elem HX8.out z48 (x5_1:Int) (zzd) (by have h_:(x5_1:Int) < ((x0_1.length:Int):Int):=zzd;first|exact h_|(have e_:=(zN HO_0.out).1;omega)|simpa using h_)
     obtain rfl:=k48_openM hM8;have HP8:=Kd.R_seg HX8.out (x5_1:Int) (zzd) (by have h_:(x5_1:Int) < ((x0_1.length:Int):Int):=zzd;first|exact h_|(have e_:=(zN HO_0.out).1;omega)|simpa using h_) (seg:=[.int .i64 x1_1]) (j:=0) hcl8 hcc8 (show 1 ≤ 2 from by decide) (x':=(⟨x1_1,(rd_T48 x0_1 x5_1).f1⟩ : S48)) (k48_mkM _ _ _ (⟨x1_1,(rd_T48 x0_1 x5_1).f1⟩ : S48) ) (fun _ hk=>hk)
     have hx8_0:=hcc8 0 _ rfl;(try simp only [show (k48).sz = 2 from rfl,Nat.mul_one,Nat.add_zero] at hx8_0)
     have hf8_0:=hfr8 0;(try simp only [show (k48).sz = 2 from rfl,Nat.mul_one,Nat.add_zero] at hf8_0)
     clear hcl8 hcc8 hfr8;(try clear hM8)
     go_wp2_with (first|((with_reducible refine gate_store (t:=3) (p:=16) rfl ?_);refine store_event (t:=3) (p:=16) (v:=?vo_w9) (w1:=(wr.setCell ⟨go5,(x5_1:Int).toNat * 2,none⟩ (.int .i64 x1_1))) ?hg ?ho ?hn ?hr ?_;(case ho=>rfl);(case hg=>rfl);(case hn=>rfl);(case hr=>first|(go_simp;done)|(go_simp;rfl));intro w9 hw;have hg:wr.grownBy w9 (some go5):=(by rw [hw];exact HP8.2);have hp_:Kd.R k48 48 w9 w0.heap.size (fun k_=>(P0_ k_ ∨ w.heap.size ≤ k_)) (.slice (some ⟨go5,0,none⟩) x0_1.length co7) y460:=(by rw [hw,Ny460.out];exact HP8.1);clear HP8;have n0_:=zM (hp_);have n1_:=zM ((by rw [hw];exact below_set (HB.out) GB5.out:Below w0.heap.size w0 w9));have n2_:=zM (Kept.of_grown (S:=(fun k_=>P0_ k_)) hg (by repeat (first|(with_reducible first|exact HK.out|apply Kept.alloc|apply Kept.drewN|apply Kept.drew)|exact HK.out)) (fun k_ e_=>(HO_0.out.1 k_ e_)));clear HO_0;clear HB;clear HK;have HO_0:=n0_;have HB:=n1_;have HK:=n2_;clear n0_ n1_ n2_;clear hg hw hp_;have p6:0 ≤ (x5_1:Int):=zzd;have q6:(x5_1:Int) < ((x0_1.length:Int):Int):=zzd;obtain ⟨ce6,hcl6,hM6,hcc6,hfr6⟩:=Kd.R_elem HO_0.out z48 (x5_1:Int) p6 q6;obtain rfl:=k48_openM hM6;have hx6_0:w9.cell? ⟨go5,(x5_1:Int).toNat * 2,none⟩ = some (.int .i64 ((rd_T48 y460 x5_1).f0)):=hcc6 0 _ rfl;have hx6_1:w9.cell? ⟨go5,(x5_1:Int).toNat * 2 + 1,none⟩ = some (.int .i64 ((rd_T48 y460 x5_1).f1)):=hcc6 1 _ rfl;have hf6_0:w9.frozen? ⟨go5,(x5_1:Int).toNat * 2,none⟩ = false:=hfr6 0;have hf6_1:w9.frozen? ⟨go5,(x5_1:Int).toNat * 2 + 1,none⟩ = false:=hfr6 1;clear hcl6 hcc6 hfr6;(try clear hM6);replace p6:=eq_true p6;replace q6:=eq_true q6;have HX10:=zM (show Kd.R k48 48 w9 w0.heap.size (fun k_=>(P0_ k_ ∨ w.heap.size ≤ k_)) (.slice (some ⟨go5,0,none⟩) x0_1.length co7) y460 from (zzl HO_0));obtain ⟨ce10,hcl10,hM10,hcc10,hfr10⟩:=Kd.R_elem HX10.out z48 (x5_1:Int) (zzd) (by have h_:(x5_1:Int) < ((x0_1.length:Int):Int):=zzd;first|exact h_|(have e_:=(zN HO_0.out).1;omega)|simpa using h_);obtain rfl:=k48_openM hM10;have HP10:=Kd.R_seg HX10.out (x5_1:Int) (zzd) (by have h_:(x5_1:Int) < ((x0_1.length:Int):Int):=zzd;first|exact h_|(have e_:=(zN HO_0.out).1;omega)|simpa using h_) (seg:=[.int .i64 (wrap64 (x1_1 + 1))]) (j:=1) hcl10 hcc10 (show 2 ≤ 2 from by decide) (x':=(⟨(rd_T48 y460 x5_1).f0,wrap64 (x1_1 + 1)⟩ : S48)) (k48_mkM _ _ _ (⟨(rd_T48 y460 x5_1).f0,wrap64 (x1_1 + 1)⟩ : S48) ) (fun _ hk=>hk);have hx10_1:=hcc10 1 _ rfl;(try simp only [show (k48).sz = 2 from rfl,Nat.mul_one,Nat.add_zero] at hx10_1);have hf10_1:=hfr10 1;(try simp only [show (k48).sz = 2 from rfl,Nat.mul_one,Nat.add_zero] at hf10_1);clear hcl10 hcc10 hfr10;(try clear hM10))|((with_reducible refine gate_store (t:=3) (p:=23) rfl ?_);refine store_event (t:=3) (p:=23) (v:=?vo_w11) (w1:=(w9.setCell ⟨go5,(x5_1:Int).toNat * 2 + 1,none⟩ (.int .i64 (wrap64 (x1_1 + 1))))) ?hg ?ho ?hn ?hr ?_;(case ho=>rfl);(case hg=>rfl);(case hn=>rfl);(case hr=>first|(go_simp;done)|(go_simp;rfl));intro w11 hw;have hg:w9.grownBy w11 (some go5):=(by rw [hw];exact HP10.2);have hp_:Kd.R k48 48 w11 w0.heap.size (fun k_=>(P0_ k_ ∨ w.heap.size ≤ k_)) (.slice (some ⟨go5,0,none⟩) x0_1.length co7) y461:=(by rw [hw,Ny461.out];exact HP10.1);clear HP10;have n0_:=zM (hp_);have n1_:=zM ((by rw [hw];exact below_set (HB.out) GB5.out:Below w0.heap.size w0 w11));have n2_:=zM (Kept.of_grown (S:=(fun k_=>P0_ k_)) hg (by repeat (first|(with_reducible first|exact HK.out|apply Kept.alloc|apply Kept.drewN|apply Kept.drew)|exact HK.out)) (fun k_ e_=>(HO_0.out.1 k_ e_)));clear HO_0;clear HB;clear HK;have HO_0:=n0_;have HB:=n1_;have HK:=n2_;clear n0_ n1_ n2_;clear hg hw hp_))
     go_roundg k1
     case measure=>have:=HK1.out;omega
     case rel=>exact ⟨(y461),(wrap64 ((wrap64 (x1_1 + 1)) + 1)),(wrap64 (x5_1 + 1)),(by first|rfl|(simp;done)|(simp [*];done)),(by first|rfl|(simp;done)|(simp [*];done)),H',⟨by have:=HK1.out;omega⟩,⟨zzl HO_0⟩,⟨by repeat (first|(with_reducible first|exact HK.out|apply Kept.alloc|apply Kept.drewN|apply Kept.drew)|exact HK.out)⟩,⟨zzh⟩⟩
    ·rw [if_neg c4] at H
     exact absurd H (by simp)
   ·rw [if_neg c3] at H
    have c3b0:decide (x5_1 < (x0_1.length:Int)) = false:=decide_eq_false c3
    clear c3;simp only [Option.some.injEq,Prod.mk.injEq] at H
    obtain ⟨rfl,rfl⟩:=H;obtain ⟨Ao12,co12,eo12⟩:=Kd.R_slice HO_0.out;subst eo12;go_wp2
    go_ret
    exact ⟨by first|rfl|(simp [errW_none,errW_some] <;> rfl)|(simp [*,errW_none,errW_some] <;> rfl),zzl HO_0,zzh,by repeat (first|(with_reducible first|exact HK.out|apply Kept.alloc|apply Kept.drewN|apply Kept.drew)|exact HK.out)⟩



/-! ### laws_heldCellS: function 37 -/
def laws_heldCellS.l0:Nat → List (S48) → Int → Int → Option (Int)
 | 0,_,_,_=>none
 | k + 1,x0,x1,x5=>if x5 < (x0.length:Int) then (if 0 ≤ x5 then (if ((rd_T48 x0 x5).f0) = x1 then (if ((rd_T48 x0 x5).f1) = (wrap64 (x1 + 1)) then (laws_heldCellS.l0 k x0 (wrap64 ((wrap64 (x1 + 1)) + 1)) (wrap64 (x5 + 1))) else (some (-1))) else (some (-1))) else (none)) else (some x1)
def laws_heldCellS.f (k:Nat) (l0:List (S48)) (a1:Int):Option (Int):=laws_heldCellS.l0 k l0 a1 0
set_option maxHeartbeats 8000000 in
set_option maxRecDepth 100000 in
theorem laws_heldCellS.calls (k:Nat) (A0:Option Addr) (c0:Nat) (l0:List (S48)) (a1:Int) (r:Int) (w:World) (hr0:Kd.C k48 w A0 l0.length l0) (hc0:l0.length ≤ c0) (h:laws_heldCellS.f k l0 a1 = some r) :
  Calls Try.prog 37 #[.slice A0 l0.length c0,.int .i64 a1] w fun e w'=>e = .returned (.int .i64 r) ∧ Drawn0 w w':=by
 have HR0:=zM hr0;have HC0:=zM hc0;clear hr0 hc0;have H:(laws_heldCellS.l0 k l0 a1 0) = some r:=h
 clear h;have H':=zM H;clear H;go_enter Try.func37,Try.ntmps37
 go_wp2
 go_loopg [1,5] k (fun kq v1 v5 w' => ∃ (x1_1:Int) (x5_1:Int),v1 = .int .i64 x1_1 ∧ v5 = .int .i64 x5_1 ∧ Aside0 (laws_heldCellS.l0 kq l0 x1_1 x5_1 = some r) ∧ Aside0 (kq ≤ k) ∧ Drawn0 w w')
 case atStart=>exact ⟨(a1),(0),(by first|rfl|(simp;done)|(simp [*];done)),(by first|rfl|(simp;done)|(simp [*];done)),H',⟨Nat.le_refl _⟩,by repeat (first|exact Drawn0.refl _|apply Drawn0.step)⟩
 case round =>
  clear H';(try clear p2);obtain ⟨x1_1,x5_1,rfl,rfl,HA,HK1,⟨m1,rfl⟩⟩:=hrel;cases gk with
  | zero=>exact absurd HA.out (by simp [laws_heldCellS.l0])
  | succ k1 =>
   have H:=HA.out;clear HA;simp only [laws_heldCellS.l0] at H
   by_cases c3:x5_1 < (l0.length:Int)
   ·rw [if_pos c3] at H
    have c3b0:decide (x5_1 < (l0.length:Int)) = true:=decide_eq_true c3
    clear c3;by_cases c4:0 ≤ x5_1
    ·rw [if_pos c4] at H
     have c4b0:decide (0 ≤ x5_1) = true:=decide_eq_true c4
     clear c4;by_cases c5:((rd_T48 l0 x5_1).f0) = x1_1
     ·rw [if_pos c5] at H
      have c5b0:(((rd_T48 l0 x5_1).f0) == x1_1) = true:=beq_iff_eq.mpr c5
      have c5b1:(((rd_T48 l0 x5_1).f0) != x1_1) = false:=bne_eq_false_iff_eq.mpr c5
      clear c5;by_cases c6:((rd_T48 l0 x5_1).f1) = (wrap64 (x1_1 + 1))
      ·rw [if_pos c6] at H
       have c6b0:(((rd_T48 l0 x5_1).f1) == (wrap64 (x1_1 + 1))) = true:=beq_iff_eq.mpr c6
       have c6b1:(((rd_T48 l0 x5_1).f1) != (wrap64 (x1_1 + 1))) = false:=bne_eq_false_iff_eq.mpr c6
       clear c6;have H':=zM H;clear H;have p526:0 ≤ (x5_1:Int):=zzd
       have q526:x5_1 < (l0.length:Int):=zzd
       obtain ⟨ad526,e526,hx526_0,hx526_1⟩:=at_T48 HR0.out x5_1 p526 q526;cases e526
       replace p526:=eq_true p526;replace q526:=eq_true q526;have p527:0 ≤ (x5_1:Int):=zzd
       have q527:x5_1 < (l0.length:Int):=zzd
       obtain ⟨ad527,e527,hx527_0,hx527_1⟩:=at_T48 HR0.out x5_1 p527 q527;obtain rfl:ad526 = ad527:=(by injection e527)
       replace p527:=eq_true p527;replace q527:=eq_true q527;go_wp2
       go_roundg k1
       case measure=>have:=HK1.out;omega
       case rel=>exact ⟨(wrap64 ((wrap64 (x1_1 + 1)) + 1)),(wrap64 (x5_1 + 1)),(by first|rfl|(simp;done)|(simp [*];done)),(by first|rfl|(simp;done)|(simp [*];done)),H',⟨by have:=HK1.out;omega⟩,by repeat (first|exact Drawn0.refl _|apply Drawn0.step)⟩
      ·rw [if_neg c6] at H
       have c6b0:(((rd_T48 l0 x5_1).f1) == (wrap64 (x1_1 + 1))) = false:=beq_eq_false_iff_ne.mpr c6
       have c6b1:(((rd_T48 l0 x5_1).f1) != (wrap64 (x1_1 + 1))) = true:=bne_iff_ne.mpr c6
       obtain rfl:=Option.some.inj H;have p526:0 ≤ (x5_1:Int):=zzd
       have q526:x5_1 < (l0.length:Int):=zzd
       obtain ⟨ad526,e526,hx526_0,hx526_1⟩:=at_T48 HR0.out x5_1 p526 q526;cases e526
       replace p526:=eq_true p526;replace q526:=eq_true q526;have p527:0 ≤ (x5_1:Int):=zzd
       have q527:x5_1 < (l0.length:Int):=zzd
       obtain ⟨ad527,e527,hx527_0,hx527_1⟩:=at_T48 HR0.out x5_1 p527 q527;obtain rfl:ad526 = ad527:=(by injection e527)
       replace p527:=eq_true p527;replace q527:=eq_true q527;go_wp2
       go_ret
       exact ⟨by first|rfl|(simp;done)|(simp [*];done),by repeat (first|exact Drawn0.refl _|apply Drawn0.step)⟩
     ·rw [if_neg c5] at H
      have c5b0:(((rd_T48 l0 x5_1).f0) == x1_1) = false:=beq_eq_false_iff_ne.mpr c5
      have c5b1:(((rd_T48 l0 x5_1).f0) != x1_1) = true:=bne_iff_ne.mpr c5
      obtain rfl:=Option.some.inj H;have p526:0 ≤ (x5_1:Int):=zzd
      have q526:x5_1 < (l0.length:Int):=zzd
      obtain ⟨ad526,e526,hx526_0,hx526_1⟩:=at_T48 HR0.out x5_1 p526 q526;cases e526
      replace p526:=eq_true p526;replace q526:=eq_true q526;go_wp2
      go_ret
      exact ⟨by first|rfl|(simp;done)|(simp [*];done),by repeat (first|exact Drawn0.refl _|apply Drawn0.step)⟩
    ·rw [if_neg c4] at H
     exact absurd H (by simp)
   ·rw [if_neg c3] at H
    have c3b0:decide (x5_1 < (l0.length:Int)) = false:=decide_eq_false c3
    clear c3;obtain rfl:=Option.some.inj H;go_wp2
    go_ret
    exact ⟨by first|rfl|(simp;done)|(simp [*];done),by repeat (first|exact Drawn0.refl _|apply Drawn0.step)⟩



/-! ### laws_markFloor: function 31 -/
def laws_markFloor.f (k:Nat) (a0_0:Int) (a0_1:Int) (l0_2:List (S48)) (a1:Int):Option (Int × (List (S48))):=(laws_markCellS.f k l0_2 a1).bind fun bt463=>(some (bt463.1,bt463.2))
set_option maxHeartbeats 8000000 in
set_option maxRecDepth 100000 in
theorem laws_markFloor.calls (k:Nat) (a0_0:Int) (a0_1:Int) (P0_2_:Nat → Prop) (u9000_:Value) (l0_2:List (S48)) (a1:Int) (r1:Int) (r2:List (S48)) (w0 w:World) (hB:Below w0.heap.size w0 w) (ho0_2:Kd.R k48 48 w w0.heap.size P0_2_ u9000_ l0_2) (h:laws_markFloor.f k a0_0 a0_1 l0_2 a1 = some (r1,r2)) :
  Calls Try.prog 31 #[.agg #[.int .i64 a0_0,.int .i64 a0_1,u9000_],.int .i64 a1] w fun e w'=>e = .returned (.int .i64 r1) ∧ Kd.R k48 48 w' w0.heap.size (fun k_=>(P0_2_ k_ ∨ w.heap.size ≤ k_)) u9000_ r2 ∧ Below w0.heap.size w0 w' ∧ Kept w w' (fun k_=>P0_2_ k_):=by
 have hu29:=Try.underlying29;have HO0_2:=zM (show Kd.R k48 48 w w0.heap.size (fun k_=>(P0_2_ k_ ∨ w.heap.size ≤ k_)) u9000_ l0_2 from Kd.R_mono ho0_2 (fun k_ hk=>(.inl hk)))
 have HK:=zM (Kept.refl w (fun k_=>P0_2_ k_))
 have HW0:=zM hB.size;have HB:=zM hB;clear hB;have H:((laws_markCellS.f k l0_2 a1).bind fun bt463=>(some (bt463.1,bt463.2))) = some (r1,r2):=h
 clear h;replace H:=Option.bind_eq_some_iff.mp H;obtain ⟨⟨t463,t464⟩,A30,H⟩:=H;replace H:(some (t463,t464)) = some (r1,r2):=H
 have A3:=zM A30;clear A30;simp only [Option.some.injEq,Prod.mk.injEq] at H
 obtain ⟨rfl,rfl⟩:=H;obtain ⟨Ao4,co4,eo4⟩:=Kd.R_slice HO0_2.out;subst eo4;go_enter Try.func31,Try.ntmps31
 go_wp2_with (first|((with_reducible refine gate_dst (N:=2) rfl ?_);refine zzc 2 #[.int .i64 a0_0,.int .i64 a0_1,.slice Ao4 l0_2.length co4] 29 ?_;intro gb462 hg w5 hbox hb;have n0_:=zM (zP (zzl HO0_2) hb);have n1_:=zM (Kept.below (S:=(fun k_=>P0_2_ k_)) (by repeat (first|(with_reducible first|exact HK.out|apply Kept.alloc|apply Kept.drewN|apply Kept.drew)|exact HK.out)) hb);have n2_:=zM (zQ zzh hb);have n3_:=zM (hbox);have n4_:=zM ((by rw [hg];exact (by first|exact HK.out.1|exact (show Kept w _ (fun k_=>P0_2_ k_) from by repeat (first|(with_reducible first|exact HK.out|apply Kept.alloc|apply Kept.drewN|apply Kept.drew)|exact HK.out)).1):w.heap.size ≤ gb462));have n5_:=zM ((by rw [hg];exact (zR zzh):w0.heap.size ≤ gb462));clear HO0_2;clear HK;clear HB;have HO0_2:=n0_;have HK:=n1_;have HB:=n2_;have BK462:=n3_;have GW462:=n4_;have GE462:=n5_;clear n0_ n1_ n2_ n3_ n4_ n5_;clear hb hbox hg;have hcz6_0:=zz0 BK462;have hcz6_1:=zz1 BK462;have hcz6_2:=zz2 BK462;have hfz6_0:=blk_frozen BK462.out 0;have hfz6_1:=blk_frozen BK462.out 1;have hfz6_2:=blk_frozen BK462.out 2)|((with_reducible refine gate_callee (f:=36) rfl ?_);refine goesL_ (some 8) rfl rfl Try.func36 (by kernel_rfl) rfl #[.slice Ao4 l0_2.length co4,.int .i64 a1] rfl (by (try simp only [List.map_toArray,List.map_cons,List.map_nil]);first|done|rfl|(simp only [List.length_drop,List.length_take];rfl)) ?_;(with_reducible refine (laws_markCellS.calls k (fun k_=>some k_ = (.slice Ao4 l0_2.length co4:Value).ownBlock) (.slice Ao4 l0_2.length co4) l0_2 a1 t463 t464 w0 _ ?side1 ?side2 A3.out).mono ?_);(case side1=>repeat (first|(with_reducible first|exact HB.out|apply zD|apply zE|apply zF|refine below_set ?_ GE462.out)|exact HB.out));(case side2=>exact Kd.R_tight rfl HO0_2.out);rintro e w7 ⟨rfl,hy0,hb,hkp⟩;refine ⟨_,rfl,?_⟩;have n0_:=zM (Kd.R_reok rfl hy0 (fun k_ e_=>HO0_2.out.1 k_ e_));have n1_:=zM (blk_kept (zzi BK462) hkp (fun hs_=>(fun e_=>(Kd.R_ne HO0_2.out BK462.out (by decide)) e_) hs_));have n2_:=zM (Kept.then_ (S:=(fun k_=>P0_2_ k_)) (by repeat (first|(with_reducible first|exact HK.out|apply Kept.alloc|apply Kept.drewN|apply Kept.drew|refine Kept.setCell ?_ (.inr GW462.out) _)|exact HK.out)) hkp (fun k_ hs_=>(fun e_=>(HO0_2.out.1 k_ e_.symm)) hs_));have n3_:=zM (hb);clear HO0_2;clear BK462;clear HK;clear HB;have HO0_2:=n0_;have BK462:=n1_;have HK:=n2_;have HB:=n3_;clear n0_ n1_ n2_ n3_;(try clear hb);(try clear hkp);(try clear hy0)))
 go_ret
 exact ⟨by first|rfl|(simp [errW_none,errW_some] <;> rfl)|(simp [*,errW_none,errW_some] <;> rfl),zzl HO0_2,zzh,by repeat (first|(with_reducible first|exact HK.out|apply Kept.alloc|apply Kept.drewN|apply Kept.drew|refine Kept.setCell ?_ (.inr GW462.out) _)|exact HK.out)⟩

end Go.Proofs.Ytbpccdbkaiigcaa.G

namespace Go.Proofs.Ytbpccdbkaiigcaa.G
open Go.RowKit Go.Proofs.YtbpccdbkaiigcaaW.PrintWords Go.Proofs.YtbpccdbkaiigcaaW.PrintLast
set_option linter.unusedVariables false
set_option linter.unusedSimpArgs false
theorem mark_C (xs : List S48) (h : (xs.length : Int) ≤ 1048576) : ∃ ys,Ev (fun k=>laws_markCellS.f k xs 1) (1 + 2 * (xs.length : Int),ys) ∧ Ev (fun k=>laws_heldCellS.f k ys 1) (1 + 2 * (xs.length : Int)):=by
 obtain ⟨ys,h1,h2,h3⟩:=Ev.mark (fun k xs c i=>laws_markCellS.l0 k xs c i) (xs.length : Int) 2 (fun i=>(⟨1 + 2 * i,1 + 2 * i + 1⟩ : S48)) z48 (by
   intro ys c hl
   refine Ev.step (fun k=>by rw [laws_markCellS.l0]) ?_
   simp only [hl,Int.lt_irrefl,if_false]
   exact Ev.now _) (by
   intro ys c i hl h0 hlt hc r hr
   refine Ev.step (fun k=>by rw [laws_markCellS.l0]) ?_
   have e1 : wrap64 (c + 1) = c + 1:=wrap64_id (by omega) (by omega)
   have e2 : wrap64 (c + 1 + 1) = c + 2:=by rw [wrap64_id (by omega) (by omega)];omega
   have e3 : wrap64 (i + 1) = i + 1:=wrap64_id (by omega) (by omega)
   simp only [hl,if_pos hlt,if_pos h0,Option.bind_some,e1,e2,e3,rd_T48,getD_set _ _ _ _ _ (show i.toNat < ys.length by omega),if_true,List.set_set]
   rw [hc] at hr ⊢
   exact hr) xs rfl
 refine ⟨ys,h1,?_⟩
 refine Ev.up (fun k (c : Int) i=>laws_heldCellS.l0 k ys c i) (fun _ _=>1 + 2 * (xs.length : Int)) (fun c i=>0 ≤ i ∧ c = 1 + 2 * i) (xs.length : Int) ?_ ?_ 1 0 ⟨by omega,by omega⟩ (by omega)
 ·rintro c ⟨_,rfl⟩
  refine Ev.step (fun k=>by rw [laws_heldCellS.l0]) ?_
  simp only [h2,Int.lt_irrefl,if_false]
  exact Ev.now _
 ·rintro c i ⟨h0,hc⟩ hlt ih
  refine Ev.step (fun k=>by rw [laws_heldCellS.l0]) ?_
  have e1 : wrap64 (c + 1) = c + 1:=wrap64_id (by omega) (by omega)
  have e2 : wrap64 (c + 1 + 1) = c + 2:=by rw [wrap64_id (by omega) (by omega)];omega
  have e3 : wrap64 (i + 1) = i + 1:=wrap64_id (by omega) (by omega)
  simp only [h2,if_pos hlt,if_pos h0,e1,e2,e3,rd_T48,h3 i h0 hlt,← hc,if_true]
  exact ih _ ⟨by omega,by omega⟩
theorem mark_F (w h : Int) (xs : List S48) (hl : (xs.length : Int) ≤ 1048576) : ∃ ys,Ev (fun k=>laws_markFloor.f k w h xs 1) (1 + 2 * (xs.length : Int),ys):=by
 obtain ⟨ys,h1,_⟩:=mark_C xs hl
 refine ⟨ys,?_⟩
 unfold laws_markFloor.f
 exact Ev.bind h1 (Ev.now _)
end Go.Proofs.Ytbpccdbkaiigcaa.G

-- Written by wip/tools/gen.py out of the translation (the kit's printer, one namespace a seat). Lean checks it.
namespace Go.Proofs.Ytbpccdbkaiigcaa.G
open Go.RowKit Go.Proofs.YtbpccdbkaiigcaaW.PrintWords Go.Proofs.YtbpccdbkaiigcaaW.PrintLast Go.Proofs.YtbpccdbkaiigcaaW.PrintMore
attribute [local go_sem] max2_int min2_int max_two min_two max_three min_three max_four min_four   -- for this text's walks alone
set_option linter.unusedVariables false
set_option linter.unusedSimpArgs false

/-! ### laws_heldCellSS: function 46 -/
def laws_heldCellSS.l0:Nat → List (List (S48)) → Int → Int → Option (Int)
 | 0,_,_,_=>none
 | k + 1,x0,x1,x5=>if x5 < (x0.length:Int) then (if 0 ≤ x5 then ((laws_heldCellS.f k (rd_L6 x0 x5) x1).bind fun t660=>(if t660 < 0 then (some (-1)) else (laws_heldCellSS.l0 k x0 t660 (wrap64 (x5 + 1))))) else (none)) else (some x1)
def laws_heldCellSS.f (k:Nat) (l0:List (List (S48))) (a1:Int):Option (Int):=laws_heldCellSS.l0 k l0 a1 0
set_option maxHeartbeats 8000000 in
set_option maxRecDepth 100000 in
theorem laws_heldCellSS.calls (k:Nat) (A0:Option Addr) (c0:Nat) (l0:List (List (S48))) (a1:Int) (r:Int) (w:World) (hr0:Kd.C (Kd.slice 48 k48) w A0 l0.length l0) (hc0:l0.length ≤ c0) (h:laws_heldCellSS.f k l0 a1 = some r) :
  Calls Try.prog 46 #[.slice A0 l0.length c0,.int .i64 a1] w fun e w'=>e = .returned (.int .i64 r) ∧ Drawn0 w w':=by
 have HR0:=zM hr0;have HC0:=zM hc0;clear hr0 hc0;have H:(laws_heldCellSS.l0 k l0 a1 0) = some r:=h
 clear h;have H':=zM H;clear H;go_enter Try.func46,Try.ntmps46
 go_wp2
 go_loopg [1,5] k (fun kq v1 v5 w' => ∃ (x1_1:Int) (x5_1:Int),v1 = .int .i64 x1_1 ∧ v5 = .int .i64 x5_1 ∧ Aside0 (laws_heldCellSS.l0 kq l0 x1_1 x5_1 = some r) ∧ Aside0 (kq ≤ k) ∧ Drawn0 w w')
 case atStart=>exact ⟨(a1),(0),(by first|rfl|(simp;done)|(simp [*];done)),(by first|rfl|(simp;done)|(simp [*];done)),H',⟨Nat.le_refl _⟩,by repeat (first|exact Drawn0.refl _|apply Drawn0.step)⟩
 case round =>
  clear H';(try clear p2);obtain ⟨x1_1,x5_1,rfl,rfl,HA,HK1,⟨m1,rfl⟩⟩:=hrel;cases gk with
  | zero=>exact absurd HA.out (by simp [laws_heldCellSS.l0])
  | succ k1 =>
   have H:=HA.out;clear HA;simp only [laws_heldCellSS.l0] at H
   by_cases c3:x5_1 < (l0.length:Int)
   ·rw [if_pos c3] at H
    have c3b0:decide (x5_1 < (l0.length:Int)) = true:=decide_eq_true c3
    clear c3;by_cases c4:0 ≤ x5_1
    ·rw [if_pos c4] at H
     have c4b0:decide (0 ≤ x5_1) = true:=decide_eq_true c4
     clear c4;replace H:=Option.bind_eq_some_iff.mp H;obtain ⟨t660,A50,H⟩:=H;replace H:(if t660 < 0 then (some (-1)) else (laws_heldCellSS.l0 k1 l0 t660 (wrap64 (x5_1 + 1)))) = some r:=H
     have A5:=zM A50;clear A50;by_cases c6:t660 < 0
     ·rw [if_pos c6] at H
      have c6b0:decide (t660 < 0) = true:=decide_eq_true c6
      clear c6;obtain rfl:=Option.some.inj H;have p659:0 ≤ (x5_1:Int):=zzd
      have q659:x5_1 < (l0.length:Int):=zzd
      obtain ⟨ad659,A659_0,c659_0,e659,hx659_0,hl659_0,hi659_0⟩:=at_L6 HR0.out x5_1 p659 q659;cases e659
      have HR659_0:=zM hi659_0;have HC659_0:=zM hl659_0;clear hi659_0 hl659_0;replace p659:=eq_true p659;replace q659:=eq_true q659;go_wp2_with (first|((with_reducible refine gate_callee (f:=37) rfl ?_);refine goesL_ (some 17) rfl rfl Try.func37 (by kernel_rfl) rfl #[.slice A659_0 (rd_L6 l0 x5_1).length c659_0,.int .i64 x1_1] rfl (by (try simp only [List.map_toArray,List.map_cons,List.map_nil]);first|done|rfl|(simp only [List.length_drop,List.length_take];rfl)) ?_;(with_reducible refine (laws_heldCellS.calls k1 _ _ (rd_L6 l0 x5_1) x1_1 t660 _ ?side1 ?side2 A5.out).mono ?_);(case side1=>repeat (first|exact HR659_0.out|(with_reducible first|refine zG ?_ _|refine zH ?_ _|refine zI ?_)));(case side2=>exact HC659_0.out);rintro e w' ⟨rfl,⟨nd,rfl⟩⟩;refine ⟨_,rfl,?_⟩))
      go_ret
      exact ⟨by first|rfl|(simp;done)|(simp [*];done),by repeat (first|exact Drawn0.refl _|apply Drawn0.step)⟩
     ·rw [if_neg c6] at H
      have c6b0:decide (t660 < 0) = false:=decide_eq_false c6
      clear c6;have H':=zM H;clear H;have p659:0 ≤ (x5_1:Int):=zzd
      have q659:x5_1 < (l0.length:Int):=zzd
      obtain ⟨ad659,A659_0,c659_0,e659,hx659_0,hl659_0,hi659_0⟩:=at_L6 HR0.out x5_1 p659 q659;cases e659
      have HR659_0:=zM hi659_0;have HC659_0:=zM hl659_0;clear hi659_0 hl659_0;replace p659:=eq_true p659;replace q659:=eq_true q659;go_wp2_with (first|((with_reducible refine gate_callee (f:=37) rfl ?_);refine goesL_ (some 17) rfl rfl Try.func37 (by kernel_rfl) rfl #[.slice A659_0 (rd_L6 l0 x5_1).length c659_0,.int .i64 x1_1] rfl (by (try simp only [List.map_toArray,List.map_cons,List.map_nil]);first|done|rfl|(simp only [List.length_drop,List.length_take];rfl)) ?_;(with_reducible refine (laws_heldCellS.calls k1 _ _ (rd_L6 l0 x5_1) x1_1 t660 _ ?side1 ?side2 A5.out).mono ?_);(case side1=>repeat (first|exact HR659_0.out|(with_reducible first|refine zG ?_ _|refine zH ?_ _|refine zI ?_)));(case side2=>exact HC659_0.out);rintro e w' ⟨rfl,⟨nd,rfl⟩⟩;refine ⟨_,rfl,?_⟩))
      go_roundg k1
      case measure=>have:=HK1.out;omega
      case rel=>exact ⟨(t660),(wrap64 (x5_1 + 1)),(by first|rfl|(simp;done)|(simp [*];done)),(by first|rfl|(simp;done)|(simp [*];done)),H',⟨by have:=HK1.out;omega⟩,by repeat (first|exact Drawn0.refl _|apply Drawn0.step)⟩
    ·rw [if_neg c4] at H
     exact absurd H (by simp)
   ·rw [if_neg c3] at H
    have c3b0:decide (x5_1 < (l0.length:Int)) = false:=decide_eq_false c3
    clear c3;obtain rfl:=Option.some.inj H;go_wp2
    go_ret
    exact ⟨by first|rfl|(simp;done)|(simp [*];done),by repeat (first|exact Drawn0.refl _|apply Drawn0.step)⟩

end Go.Proofs.Ytbpccdbkaiigcaa.G

/- markCellSS over a slice of slices of one's own whose rows lie apart: what stands in it afterwards. -/
namespace Go.Proofs.Ytbpccdbkaiigcaa.G
open Go.RowKit Go.Proofs.YtbpccdbkaiigcaaW.PrintWords Go.Proofs.YtbpccdbkaiigcaaW.PrintLast Go.Proofs.YtbpccdbkaiigcaaW.PrintMore
set_option linter.unusedVariables false
set_option linter.unusedSimpArgs false
theorem mark_CK (xs : List S48) (h : (xs.length : Int) ≤ 1048576) (s : Int) (s0 : 0 ≤ s) (s1 : s ≤ 8796093022208) : ∃ ys,Ev (fun k=>laws_markCellS.f k xs s) (s + 2 * (xs.length : Int),ys) ∧ Ev (fun k=>laws_heldCellS.f k ys s) (s + 2 * (xs.length : Int)) ∧ (ys.length : Int) = (xs.length : Int):=by
 obtain ⟨ys,h1,h2,h3⟩:=Ev.markFrom (fun k xs c i=>laws_markCellS.l0 k xs c i) (xs.length : Int) 2 s (fun i=>(⟨s + 2 * i,s + 2 * i + 1⟩ : S48)) z48 (by
   intro ys c hl
   refine Ev.step (fun k=>by rw [laws_markCellS.l0]) ?_
   simp only [hl,Int.lt_irrefl,if_false]
   exact Ev.now _) (by
   intro ys c i hl h0 hlt hc r hr
   refine Ev.step (fun k=>by rw [laws_markCellS.l0]) ?_
   have e1 : wrap64 (c + 1) = c + 1:=wrap64_id (by omega) (by omega)
   have e2 : wrap64 (c + 1 + 1) = c + 2:=by rw [wrap64_id (by omega) (by omega)];omega
   have e3 : wrap64 (i + 1) = i + 1:=wrap64_id (by omega) (by omega)
   simp only [hl,if_pos hlt,if_pos h0,Option.bind_some,e1,e2,e3,rd_T48,getD_set _ _ _ _ _ (show i.toNat < ys.length by omega),if_true,List.set_set]
   rw [hc] at hr ⊢
   exact hr) xs rfl
 refine ⟨ys,h1,?_,h2⟩
 refine Ev.up (fun k (c : Int) i=>laws_heldCellS.l0 k ys c i) (fun _ _=>s + 2 * (xs.length : Int)) (fun c i=>0 ≤ i ∧ c = s + 2 * i) (xs.length : Int) ?_ ?_ s 0 ⟨by omega,by omega⟩ (by omega)
 ·rintro c ⟨_,rfl⟩
  refine Ev.step (fun k=>by rw [laws_heldCellS.l0]) ?_
  simp only [h2,Int.lt_irrefl,if_false]
  exact Ev.now _
 ·rintro c i ⟨h0,hc⟩ hlt ih
  refine Ev.step (fun k=>by rw [laws_heldCellS.l0]) ?_
  have e1 : wrap64 (c + 1) = c + 1:=wrap64_id (by omega) (by omega)
  have e2 : wrap64 (c + 1 + 1) = c + 2:=by rw [wrap64_id (by omega) (by omega)];omega
  have e3 : wrap64 (i + 1) = i + 1:=wrap64_id (by omega) (by omega)
  simp only [h2,if_pos hlt,if_pos h0,e1,e2,e3,rd_T48,h3 i h0 hlt,← hc,if_true]
  exact ih _ ⟨by omega,by omega⟩
def tot2 (xs : List (List S48)) : Nat → Int
 | 0=>0
 | i + 1=>tot2 xs i + 2 * ((rd_L6 xs (i : Int)).length : Int)
theorem tot2_mono (xs : List (List S48)) : ∀ i : Nat,0 ≤ tot2 xs i
 | 0=>Int.le_refl _
 | i + 1=>by have:=tot2_mono xs i;unfold tot2;omega
theorem tot2_le (xs : List (List S48)) (i : Nat) : ∀ d : Nat,tot2 xs i ≤ tot2 xs (i + d)
 | 0=>Int.le_refl _
 | d + 1=>by have:=tot2_le xs i d;show tot2 xs i ≤ tot2 xs (i + d) + 2 * ((rd_L6 xs ((i + d : Nat) : Int)).length : Int);omega
theorem take_set_dropC {α : Type} (ys xs : List α) (z : α) (i : Nat) (hl : ys.length = xs.length) (hi : i < xs.length) : (ys.take i ++ xs.drop i).set i (ys.getD i z) = ys.take (i + 1) ++ xs.drop (i + 1):=by
 rw [List.set_append_right _ _ (by rw [List.length_take];omega),List.length_take,Nat.min_eq_left (by omega),Nat.sub_self]
 have e1 : xs.drop i = xs[i] :: xs.drop (i + 1):=List.drop_eq_getElem_cons hi
 have e2 : ys.take (i + 1) = ys.take i ++ [ys[i]'(by omega)]:=by rw [List.take_add_one,List.getElem?_eq_getElem (by omega)];rfl
 rw [e1,List.set_cons_zero,e2,List.getD_eq_getElem?_getD,List.getElem?_eq_getElem (by omega),List.append_assoc]
 rfl
theorem getD_take_dropC {α : Type} (ys xs : List α) (z : α) (i : Nat) (hl : ys.length = xs.length) (hi : i < xs.length) : (ys.take i ++ xs.drop i).getD i z = xs.getD i z:=by
 rw [List.getD_eq_getElem?_getD,List.getElem?_append_right (by rw [List.length_take];omega),List.length_take,Nat.min_eq_left (by omega),Nat.sub_self,List.getElem?_drop,Nat.add_zero,List.getD_eq_getElem?_getD]
set_option maxHeartbeats 4000000 in
set_option maxRecDepth 100000 in
theorem markCSS_rows {ok : Nat → Prop} (kf : Nat) (A : Option Addr) (c : Nat) (xs ys : List (List S48)) (k : Int) (w0 w : World) (hB : Below w0.heap.size w0 w) (h : Kd.S (Kd.slice 48 k48) 27 w w0.heap.size ok (.slice A xs.length c) xs) (hl : ys.length = xs.length)
  (hm : ∀ i : Nat,i < xs.length → laws_markCellS.f kf (rd_L6 xs (i : Int)) (k + tot2 xs i) = some (k + tot2 xs (i + 1),rd_L6 ys (i : Int))) :
  Calls Try.prog 43 #[.slice A xs.length c,.int .i64 k] w fun e w'=>e = .returned (.int .i64 (k + tot2 xs xs.length)) ∧ Kd.S (Kd.slice 48 k48) 27 w' w0.heap.size ok (.slice A xs.length c) ys ∧ Below w0.heap.size w0 w' ∧ Kept w w' ok:=by
 have hn : xs.length ≤ 9223372036854775807:=(Kd.S_reads' h).2.2.2.1
 have HS:=Aside0.mk h
 have HM:=Aside0.mk hm
 have HB0:=Aside0.mk hB
 clear h hm hB
 go_enter Try.func43,Try.ntmps43
 go_wp2
 go_loopw [1,5] (fun kv iv w' => ∃ i : Nat,i ≤ xs.length ∧ iv = .int .i64 i ∧ kv = .int .i64 (k + tot2 xs i) ∧ Aside0 (Kd.S (Kd.slice 48 k48) 27 w' w0.heap.size ok (.slice A xs.length c) (ys.take i ++ xs.drop i)) ∧ Aside0 (Below w0.heap.size w0 w' ∧ Kept w w' ok)) (fun _ i _=>xs.length - (intOf i).toNat)
 case atStart=>exact ⟨0,Nat.zero_le _,rfl,by simp [tot2],Aside0.mk (by simpa using HS.out),Aside0.mk ⟨HB0.out,Kept.refl _ _⟩⟩
 case round =>
  obtain ⟨i,hi,rfl,rfl,hS,hK⟩:=hrel
  by_cases hlt : i < xs.length
  ·have hll : (ys.take i ++ xs.drop i).length = xs.length:=by simp;omega
   obtain ⟨ad,_,hA,_⟩:=ReadsRow.get_ (Kd.S_reads' hS.out).2.2 ([] : List S48) (i : Int) (by omega) (by omega)
   subst hA
   obtain ⟨g,rfl⟩:=Kd.R_head (Kd.S_R hS.out)
   obtain ⟨oki,cl,hcl,hM,hcc,hoki,hH⟩:=Kd.S_lend hS.out ([] : List S48) (i : Int) (by omega) (by omega)
   obtain ⟨vr,rfl,hR⟩:=hM
   rw [Int.toNat_natCast,getD_take_dropC ys xs [] i hl hlt] at hR
   have hrow : xs.getD i ([] : List S48) = rd_L6 xs (i : Int):=rfl
   have hrowy : ys.getD i ([] : List S48) = rd_L6 ys (i : Int):=rfl
   rw [hrow] at hR
   have hcell : wr.cell? ⟨g,i,none⟩ = some vr:=by
    have:=hcc 0 _ rfl
    rw [Int.toNat_natCast,show (Kd.slice 48 k48).sz = 1 from rfl,Nat.mul_one,Nat.add_zero] at this
    exact this
   have HR:=Aside0.mk hR
   have HH:=Aside0.mk hH
   have HMi:=Aside0.mk (HM.out i hlt)
   clear hcl hcc hrow hR hH hll hoki
   go_wp2_with (go_at_call 36;refine (laws_markCellS.calls kf oki vr (rd_L6 xs (i : Int)) (k + tot2 xs i) _ (rd_L6 ys (i : Int)) w0 _ hK.out.1 HR.out HMi.out).mono ?_;rintro e w2 ⟨rfl,hR2,hB2,hk2⟩;have HR2:=Aside0.mk hR2;have HB2:=Aside0.mk hB2;have HK2:=Aside0.mk hk2;clear hR2 hB2 hk2)
   have hH2:=Kd.H_kept HH.out HK2.out (fun k _ hn=>hn)
   have hR3:=Kd.R_mono (ok':=oki) (Kd.R_tight rfl HR2.out) (fun k hk=>HR.out.1 k hk.symm)
   have hS2:=Kd.H_back hH2 (x':=rd_L6 ys (i : Int)) ⟨vr,rfl,hR3⟩ (fun _ h=>h)
   rw [Int.toNat_natCast,← hrowy,take_set_dropC ys xs [] i hl hlt] at hS2
   have HS2:=Aside0.mk hS2
   have HK3 : Aside0 (Kept w w2 ok):=Aside0.mk (Kept.then_ hK.out.2 HK2.out (fun k hk => .inl (HH.out.1 k hk)))
   clear hS2 hH2 hR3
   go_roundw
   case rel=>exact ⟨i + 1,by omega,by go_num,rfl,HS2,Aside0.mk ⟨HB2.out,HK3.out⟩⟩
   case measure=>simp [intOf];omega
  ·obtain rfl : i = xs.length:=by omega
   go_wp2
   go_ret
   have h2:=hS.out
   rw [List.take_of_length_le (by omega),List.drop_length,List.append_nil] at h2
   exact ⟨rfl,h2,hK.out⟩
/-- The marked rows. -/
theorem markC_rows (s : Int) (s0 : 0 ≤ s) (xs : List (List S48)) (hr : ∀ i : Nat,i < xs.length → ((rd_L6 xs (i : Int)).length : Int) ≤ 1048576) (ht : s + tot2 xs xs.length ≤ 8796093022208) :
  ∃ ys : List (List S48),ys.length = xs.length ∧ (∃ kf,∀ i : Nat,i < xs.length → laws_markCellS.f kf (rd_L6 xs (i : Int)) (s + tot2 xs i) = some (s + tot2 xs (i + 1),rd_L6 ys (i : Int))) ∧ (∀ i : Nat,i < xs.length → Ev (fun k=>laws_heldCellS.f k (rd_L6 ys (i : Int)) (s + tot2 xs i)) (s + tot2 xs (i + 1))):=by
 have one : ∀ i : Nat,i < xs.length → ∃ r,Ev (fun k=>laws_markCellS.f k (rd_L6 xs (i : Int)) (s + tot2 xs i)) (s + tot2 xs (i + 1),r) ∧ Ev (fun k=>laws_heldCellS.f k r (s + tot2 xs i)) (s + tot2 xs (i + 1)):=fun i hi=>by
  have h0:=tot2_mono xs i
  have h1:=tot2_le xs i (xs.length - i)
  rw [show i + (xs.length - i) = xs.length from by omega] at h1
  obtain ⟨r,m1,m2,_⟩:=mark_CK (rd_L6 xs (i : Int)) (by have:=hr i hi;omega) (s + tot2 xs i) (by omega) (by omega)
  have e : s + tot2 xs i + 2 * (((rd_L6 xs (i : Int)).length : Int) : Int) = s + tot2 xs (i + 1):=by rw [show tot2 xs (i + 1) = tot2 xs i + 2 * ((rd_L6 xs (i : Int)).length : Int) from rfl];omega
  rw [e] at m1 m2
  exact ⟨r,m1,m2⟩
 have all : ∀ n : Nat,n ≤ xs.length → ∃ (ys : List (List S48)) (kf : Nat),ys.length = n ∧ (∀ i : Nat,i < n → laws_markCellS.f kf (rd_L6 xs (i : Int)) (s + tot2 xs i) = some (s + tot2 xs (i + 1),rd_L6 ys (i : Int))) ∧ (∀ i : Nat,i < n → Ev (fun k=>laws_heldCellS.f k (rd_L6 ys (i : Int)) (s + tot2 xs i)) (s + tot2 xs (i + 1))):=by
  intro n
  induction n with
  | zero=>exact fun _=>⟨[],0,rfl,fun i hi=>absurd hi (by omega),fun i hi=>absurd hi (by omega)⟩
  | succ n ih =>
   intro hn
   obtain ⟨ys,kf,hl,h1,h2⟩:=ih (by omega)
   obtain ⟨r,m1,m2⟩:=one n (by omega)
   obtain ⟨kr,hkr⟩:=Ev.rounds m1
   have up : ∀ {k : Nat} {a : List S48} {s' : Int} {v : Int × List S48} (d : Nat),laws_markCellS.f k a s' = some v → laws_markCellS.f (k + d) a s' = some v:=fun d h=>by
    induction d with
    | zero=>exact h
    | succ d ih=>exact laws_markCellS.mono _ _ _ _ ih
   have lo : ∀ i : Nat,i < n → rd_L6 (ys ++ [r]) (i : Int) = rd_L6 ys (i : Int):=fun i hi=>by
    show (ys ++ [r]).getD i [] = ys.getD i []
    rw [List.getD_eq_getElem?_getD,List.getElem?_append_left (by omega),← List.getD_eq_getElem?_getD]
   have hi' : rd_L6 (ys ++ [r]) (n : Int) = r:=by
    show (ys ++ [r]).getD n [] = r
    rw [List.getD_eq_getElem?_getD,List.getElem?_append_right (by omega),hl,Nat.sub_self]
    rfl
   refine ⟨ys ++ [r],kf + kr,by simp [hl],fun i hi=>?_,fun i hi=>?_⟩
   ·by_cases h : i < n
    ·rw [lo i h]
     exact up kr (h1 i h)
    ·obtain rfl : i = n:=by omega
     rw [hi',Nat.add_comm]
     exact up kf hkr
   ·by_cases h : i < n
    ·rw [lo i h]
     exact h2 i h
    ·obtain rfl : i = n:=by omega
     rw [hi']
     exact m2
 obtain ⟨ys,kf,hl,h1,h2⟩:=all xs.length (Nat.le_refl _)
 exact ⟨ys,hl,⟨kf,h1⟩,h2⟩
theorem heldC_rows (s : Int) (s0 : 0 ≤ s) (xs ys : List (List S48)) (hn : xs.length ≤ 1048576) (hl : ys.length = xs.length) (ht : s + tot2 xs xs.length ≤ 8796093022208) (h : ∀ i : Nat,i < xs.length → Ev (fun k=>laws_heldCellS.f k (rd_L6 ys (i : Int)) (s + tot2 xs i)) (s + tot2 xs (i + 1))) :
  Ev (fun k=>laws_heldCellSS.f k ys s) (s + tot2 xs xs.length):=by
 refine Ev.up (fun k (c : Int) i=>laws_heldCellSS.l0 k ys c i) (fun _ _=>s + tot2 xs xs.length) (fun c i=>0 ≤ i ∧ c = s + tot2 xs i.toNat) (xs.length : Int) ?_ ?_ s 0 ⟨by omega,by simp [tot2]⟩ (by omega)
 ·rintro c ⟨_,rfl⟩
  refine Ev.step (fun k=>by rw [laws_heldCellSS.l0]) ?_
  simp only [if_neg (show ¬ ((xs.length : Int) < (ys.length : Int)) by omega),Int.toNat_natCast]
  exact Ev.now _
 ·rintro c i ⟨h0,rfl⟩ hlt ih
  refine Ev.step (fun k=>by rw [laws_heldCellSS.l0]) ?_
  have e9 : wrap64 (i + 1) = i + 1:=wrap64_id (by omega) (by omega)
  have e1 : ((i.toNat : Nat) : Int) = i:=by omega
  have h1:=h i.toNat (by omega)
  rw [e1] at h1
  have e2 : (i + 1).toNat = i.toNat + 1:=by omega
  have h3:=tot2_mono xs (i.toNat + 1)
  simp only [if_pos (show i < (ys.length : Int) by omega),if_pos h0,e9]
  refine Ev.bind h1 ?_
  simp only [if_neg (show ¬ (s + tot2 xs (i.toNat + 1) < 0) by omega)]
  exact ih _ ⟨by omega,by rw [e2]⟩
theorem tot2_cap {xs : List (List S48)} (h : ∀ i : Nat,i < xs.length → ((rd_L6 xs (i : Int)).length : Int) ≤ 1048576) : ∀ i : Nat,i ≤ xs.length → tot2 xs i ≤ (i : Int) * 2097152
 | 0,_=>by simp [tot2]
 | i + 1,hi=>by
  have h1:=tot2_cap h i (by omega)
  have h2:=h i (by omega)
  show tot2 xs i + 2 * ((rd_L6 xs (i : Int)).length : Int) ≤ ((i + 1 : Nat) : Int) * 2097152
  omega
end Go.Proofs.Ytbpccdbkaiigcaa.G

/- The walk of FnExactPlanFleet: on every argument the law answers true. -/
namespace Go.Proofs.Ytbpccdbkaiigcaa.G
open Go.RowKit Go.Proofs.YtbpccdbkaiigcaaW.PrintWords Go.Proofs.YtbpccdbkaiigcaaW.PrintLast Go.Proofs.YtbpccdbkaiigcaaW.PrintMore
set_option linter.unusedVariables false
set_option linter.unusedSimpArgs false
theorem heldRows_at (k : Nat) (A : Option Addr) (c : Nat) (l : List (List S48)) (n : Nat) (a r : Int) (w : World) (hn : l.length = n) (hC : Kd.C (Kd.slice 48 k48) w A l.length l) (hc : n ≤ c) (h : laws_heldCellSS.f k l a = some r) :
  Calls Try.prog 46 #[.slice A n c,.int .i64 a] w fun e w'=>e = .returned (.int .i64 r) ∧ Drawn0 w w':=by
 subst hn
 exact laws_heldCellSS.calls k A c l a r w hC hc h
set_option maxHeartbeats 8000000 in
set_option maxRecDepth 100000 in
theorem laws_FnExactPlanFleet.walk (a0_0 : Int) (a0_1 : Int) (A0_2 : Option Addr) (c0_2 : Nat) (l0_2 : List S44) (A1 : Option Addr) (c1 : Nat) (l1 : List S44) (A2 : Option Addr) (c2 : Nat) (l2 : List S44) (w : World) (hr0_2 : Kd.C k44 w A0_2 l0_2.length l0_2) (hc0_2 : l0_2.length ≤ c0_2) (hr1 : Kd.C k44 w A1 l1.length l1) (hc1 : l1.length ≤ c1) (hr2 : Kd.C k44 w A2 l2.length l2) (hc2 : l2.length ≤ c2) (hw0 : (Lit.int .i64 a0_0).wf = true) (hw1 : (Lit.int .i64 a0_1).wf = true) (hw2 : (l0_2.length ≤ maxLen ∧ ∀ y ∈ l0_2,W44 y)) (hw3 : (l1.length ≤ maxLen ∧ ∀ y ∈ l1,W44 y)) (hw4 : (l2.length ≤ maxLen ∧ ∀ y ∈ l2,W44 y)) :
  Calls Try.prog 10 #[.agg #[.int .i64 a0_0,.int .i64 a0_1,.slice A0_2 l0_2.length c0_2],.slice A1 l1.length c1,.slice A2 l2.length c2] w fun e w'=>e = .returned (.bool true) ∧ Below w.heap.size w w':=by
 have hu24:=Try.underlying24
 have hu29:=Try.underlying29
 have hu44:=Try.underlying44
 have hu48:=Try.underlying48
 have CC_0:=Aside0.mk hr0_2
 have C1_0:=Aside0.mk hr1
 have C2_0:=Aside0.mk hr2
 have HB_0:=Aside0.mk (Below.refl w.heap.size w)
 have hs:=szf a0_0 a0_1 l0_2 hw2.1 1048576 (by omega) (by omega)
 obtain ⟨sz,hsz⟩ : ∃ z,(if 1048576 - (l0_2.length : Int) < 0 then -1 else 1048576 - (l0_2.length : Int)) = z:=⟨_,rfl⟩
 rw [hsz] at hs
 have KS:=Aside0.mk hs
 have hm1:=hw3.1
 have hm2:=hw4.1
 clear hs hr0_2 hr1 hr2 hw0 hw1 hw2 hw3 hw4
 by_cases h0 : sz < 0
 ·have e1 : decide (sz < 0) = true:=decide_eq_true h0
  clear hsz h0 hm1 hm2
  go_enter Try.func10,Try.ntmps10
  go_wp2_with (first|((with_reducible refine gate_dst (N:=3) rfl ?_);refine zzc 3 #[.int .i64 a0_0,.int .i64 a0_1,.slice A0_2 l0_2.length c0_2] 24 ?_;intro g3 hgg3 w1 hbox hb;have HB_1:=Aside0.mk (below_step HB_0.out hb);have CC_1:=Aside0.mk (Kd.C_below CC_0.out hb);have C1_1:=Aside0.mk (Kd.C_below C1_0.out hb);have C2_1:=Aside0.mk (Kd.C_below C2_0.out hb);have Hg3_1:=Aside0.mk hbox;have Gg3 : Aside0 (g3 = _):=Aside0.mk hgg3;have fg30_1:=zz0 Hg3_1;have fg31_1:=zz1 Hg3_1;have fg32_1:=zz2 Hg3_1;clear hbox hb hgg3)|(go_at_call 13;(with_reducible refine (laws_szFloor.calls a0_0 a0_1 A0_2 c0_2 l0_2 1048576 sz _ CC_1.out hc0_2 KS.out).mono ?_);rintro e w2 ⟨rfl,hB⟩;have HB_2:=Aside0.mk (below_step HB_1.out hB);have CC_2:=Aside0.mk (Kd.C_below CC_1.out hB);have C1_2:=Aside0.mk (Kd.C_below C1_1.out hB);have C2_2:=Aside0.mk (Kd.C_below C2_1.out hB);have Hg3_2:=Aside0.mk (blk_below Hg3_1.out hB);have fg30_2:=zz0 Hg3_2;have fg31_2:=zz1 Hg3_2;have fg32_2:=zz2 Hg3_2;clear hB))
  go_ret
  exact ⟨rfl,HB_2.out⟩
 ·have e1 : decide (sz < 0) = false:=decide_eq_false h0
  have n0 : (l0_2.length : Int) ≤ 1048576:=by split at hsz <;> omega
  have s1 : sz ≤ 1048576:=by split at hsz <;> omega
  have hs1:=szc l1 hm1 sz (by omega) s1
  obtain ⟨sy,hsy⟩ : ∃ z,(if sz - (l1.length : Int) < 0 then -1 else sz - (l1.length : Int)) = z:=⟨_,rfl⟩
  rw [hsy] at hs1
  have K1:=Aside0.mk hs1
  clear hs1 hsz hm1
  by_cases h1 : sy < 0
  ·have e2 : decide (sy < 0) = true:=decide_eq_true h1
   clear h0 h1 hsy s1 hm2 n0
   go_enter Try.func10,Try.ntmps10
   go_wp2_with (first|((with_reducible refine gate_dst (N:=3) rfl ?_);refine zzc 3 #[.int .i64 a0_0,.int .i64 a0_1,.slice A0_2 l0_2.length c0_2] 24 ?_;intro g3 hgg3 w1 hbox hb;have HB_1:=Aside0.mk (below_step HB_0.out hb);have CC_1:=Aside0.mk (Kd.C_below CC_0.out hb);have C1_1:=Aside0.mk (Kd.C_below C1_0.out hb);have C2_1:=Aside0.mk (Kd.C_below C2_0.out hb);have Hg3_1:=Aside0.mk hbox;have Gg3 : Aside0 (g3 = _):=Aside0.mk hgg3;have fg30_1:=zz0 Hg3_1;have fg31_1:=zz1 Hg3_1;have fg32_1:=zz2 Hg3_1;clear hbox hb hgg3)|(go_at_call 13;(with_reducible refine (laws_szFloor.calls a0_0 a0_1 A0_2 c0_2 l0_2 1048576 sz _ CC_1.out hc0_2 KS.out).mono ?_);rintro e w2 ⟨rfl,hB⟩;have HB_2:=Aside0.mk (below_step HB_1.out hB);have CC_2:=Aside0.mk (Kd.C_below CC_1.out hB);have C1_2:=Aside0.mk (Kd.C_below C1_1.out hB);have C2_2:=Aside0.mk (Kd.C_below C2_1.out hB);have Hg3_2:=Aside0.mk (blk_below Hg3_1.out hB);have fg30_2:=zz0 Hg3_2;have fg31_2:=zz1 Hg3_2;have fg32_2:=zz2 Hg3_2;clear hB)|(go_at_call 18;(with_reducible refine (laws_szCellS.calls A1 c1 l1 sz sy _ C1_2.out hc1 K1.out).mono ?_);rintro e w3 ⟨rfl,hd⟩;have hB:=hd.below;clear hd;have HB_3:=Aside0.mk (below_step HB_2.out hB);have CC_3:=Aside0.mk (Kd.C_below CC_2.out hB);have C1_3:=Aside0.mk (Kd.C_below C1_2.out hB);have C2_3:=Aside0.mk (Kd.C_below C2_2.out hB);have Hg3_3:=Aside0.mk (blk_below Hg3_2.out hB);have fg30_3:=zz0 Hg3_3;have fg31_3:=zz1 Hg3_3;have fg32_3:=zz2 Hg3_3;clear hB))
   go_ret
   exact ⟨rfl,HB_3.out⟩
  ·have e2 : decide (sy < 0) = false:=decide_eq_false h1
   have n1 : (l1.length : Int) ≤ 1048576:=by split at hsy <;> omega
   have s2 : sy ≤ 1048576:=by split at hsy <;> omega
   have hs2:=szc l2 hm2 sy (by omega) s2
   obtain ⟨sx,hsx⟩ : ∃ z,(if sy - (l2.length : Int) < 0 then -1 else sy - (l2.length : Int)) = z:=⟨_,rfl⟩
   rw [hsx] at hs2
   have K2:=Aside0.mk hs2
   clear hs2 hsy hm2 s1 h0
   by_cases h2 : sx < 0
   ·have e3 : decide (sx < 0) = true:=decide_eq_true h2
    clear h1 h2 hsx s2 n0 n1
    go_enter Try.func10,Try.ntmps10
    go_wp2_with (first|((with_reducible refine gate_dst (N:=3) rfl ?_);refine zzc 3 #[.int .i64 a0_0,.int .i64 a0_1,.slice A0_2 l0_2.length c0_2] 24 ?_;intro g3 hgg3 w1 hbox hb;have HB_1:=Aside0.mk (below_step HB_0.out hb);have CC_1:=Aside0.mk (Kd.C_below CC_0.out hb);have C1_1:=Aside0.mk (Kd.C_below C1_0.out hb);have C2_1:=Aside0.mk (Kd.C_below C2_0.out hb);have Hg3_1:=Aside0.mk hbox;have Gg3 : Aside0 (g3 = _):=Aside0.mk hgg3;have fg30_1:=zz0 Hg3_1;have fg31_1:=zz1 Hg3_1;have fg32_1:=zz2 Hg3_1;clear hbox hb hgg3)|(go_at_call 13;(with_reducible refine (laws_szFloor.calls a0_0 a0_1 A0_2 c0_2 l0_2 1048576 sz _ CC_1.out hc0_2 KS.out).mono ?_);rintro e w2 ⟨rfl,hB⟩;have HB_2:=Aside0.mk (below_step HB_1.out hB);have CC_2:=Aside0.mk (Kd.C_below CC_1.out hB);have C1_2:=Aside0.mk (Kd.C_below C1_1.out hB);have C2_2:=Aside0.mk (Kd.C_below C2_1.out hB);have Hg3_2:=Aside0.mk (blk_below Hg3_1.out hB);have fg30_2:=zz0 Hg3_2;have fg31_2:=zz1 Hg3_2;have fg32_2:=zz2 Hg3_2;clear hB)|(go_at_call 18;(with_reducible refine (laws_szCellS.calls A1 c1 l1 sz sy _ C1_2.out hc1 K1.out).mono ?_);rintro e w3 ⟨rfl,hd⟩;have hB:=hd.below;clear hd;have HB_3:=Aside0.mk (below_step HB_2.out hB);have CC_3:=Aside0.mk (Kd.C_below CC_2.out hB);have C1_3:=Aside0.mk (Kd.C_below C1_2.out hB);have C2_3:=Aside0.mk (Kd.C_below C2_2.out hB);have Hg3_3:=Aside0.mk (blk_below Hg3_2.out hB);have fg30_3:=zz0 Hg3_3;have fg31_3:=zz1 Hg3_3;have fg32_3:=zz2 Hg3_3;clear hB)|(go_at_call 18;(with_reducible refine (laws_szCellS.calls A2 c2 l2 sy sx _ C2_3.out hc2 K2.out).mono ?_);rintro e w4 ⟨rfl,hd⟩;have hB:=hd.below;clear hd;have HB_4:=Aside0.mk (below_step HB_3.out hB);have CC_4:=Aside0.mk (Kd.C_below CC_3.out hB);have C1_4:=Aside0.mk (Kd.C_below C1_3.out hB);have C2_4:=Aside0.mk (Kd.C_below C2_3.out hB);have Hg3_4:=Aside0.mk (blk_below Hg3_3.out hB);have fg30_4:=zz0 Hg3_4;have fg31_4:=zz1 Hg3_4;have fg32_4:=zz2 Hg3_4;clear hB))
    go_ret
    exact ⟨rfl,HB_4.out⟩
   ·have e3 : decide (sx < 0) = false:=decide_eq_false h2
    have n2 : (l2.length : Int) ≤ 1048576:=by split at hsx <;> omega
    obtain ⟨bl,hbl⟩ : ∃ bl,l0_2.map cv_C = bl:=⟨_,rfl⟩
    have nb0 : (bl.length : Int) ≤ 1048576:=by rw [← hbl];simpa using n0
    obtain ⟨al,hal⟩ : ∃ al,l1.map cv_C = al:=⟨_,rfl⟩
    have nb1 : (al.length : Int) ≤ 1048576:=by rw [← hal];simpa using n1
    obtain ⟨tl,htl⟩ : ∃ tl,l2.map cv_C = tl:=⟨_,rfl⟩
    have nb2 : (tl.length : Int) ≤ 1048576:=by rw [← htl];simpa using n2
    obtain ⟨R,hR⟩ : ∃ R,fleetR a0_0 a0_1 bl al tl = R:=⟨_,rfl⟩
    have hfo:=fleet_ok a0_0 a0_1 bl al tl
    have htf:=to_F a0_0 a0_1 l0_2 n0
    rw [hbl] at htf
    have hta:=to_C l1 n1
    rw [hal] at hta
    have htb:=to_C l2 n2
    rw [htl] at htb
    have hsp:=spec_plan a0_0 a0_1 bl (by omega) al tl
    have him:=impl_plan a0_0 a0_1 bl (by omega) al tl
    rw [hR] at hsp him hfo
    have hsc : SmallC R.1:=⟨by have:=hfo.1;omega,fun i i0 i1=>by
     have:=(hfo.2.1 _ (rd6_in R.1 i i0 i1)).2
     show ((rd_L6 R.1 i).length : Int) ≤ 1048576
     omega⟩
    have hr3:=hfo.1
    obtain ⟨kt,hkt⟩:=Ev.rounds htf
    obtain ⟨ka,hka⟩:=Ev.rounds hta
    obtain ⟨kb,hkb⟩:=Ev.rounds htb
    obtain ⟨ks,hks⟩:=Ev.rounds hsp
    obtain ⟨ki,hki⟩:=Ev.rounds him
    obtain ⟨ke,hke⟩:=Ev.rounds (eq_F a0_0 a0_1 bl nb0)
    obtain ⟨kc,hkc⟩:=Ev.rounds (eq_C al nb1)
    obtain ⟨kd,hkd⟩:=Ev.rounds (eq_C tl nb2)
    obtain ⟨kr,hkr⟩:=Ev.rounds (eq_CSS R.1 hsc)
    obtain ⟨xs,hmx⟩:=mark_F a0_0 a0_1 bl nb0
    obtain ⟨km,hkm⟩:=Ev.rounds hmx
    obtain ⟨ps,hm1,_,_⟩:=mark_CK al nb1 (1 + 2 * (bl.length : Int)) (by omega) (by omega)
    obtain ⟨kn,hkn⟩:=Ev.rounds hm1
    obtain ⟨qs,hm2,_,_⟩:=mark_CK tl nb2 (1 + 2 * (bl.length : Int) + 2 * (al.length : Int)) (by omega) (by omega)
    obtain ⟨kq,hkq⟩:=Ev.rounds hm2
    have hri : ∀ i : Nat,i < R.1.length → ((rd_L6 R.1 (i : Int)).length : Int) ≤ 1048576:=fun i hi=>hsc.2 (i : Int) (by omega) (by omega)
    have htr:=tot2_cap hri R.1.length (Nat.le_refl _)
    have ht1:=tot2_mono R.1 R.1.length
    obtain ⟨gs,hgl,⟨kg,hkg⟩,hhe⟩:=markC_rows 1 (by omega) R.1 hri (by omega)
    obtain ⟨kh,hkh⟩:=Ev.rounds (heldC_rows 1 (by omega) R.1 gs (by omega) hgl (by omega) hhe)
    have KT:=Aside0.mk hkt
    have KA:=Aside0.mk hka
    have KB:=Aside0.mk hkb
    have KP:=Aside0.mk hks
    have KI:=Aside0.mk hki
    have KE:=Aside0.mk hke
    have KC:=Aside0.mk hkc
    have KD:=Aside0.mk hkd
    have KR:=Aside0.mk hkr
    have KM:=Aside0.mk hkm
    have KN:=Aside0.mk hkn
    have KQ:=Aside0.mk hkq
    have KG:=Aside0.mk hkg
    have KH:=Aside0.mk hkh
    have HGL:=Aside0.mk hgl
    have hk1 : decide (1 + 2 * (bl.length : Int) + 2 * (al.length : Int) + 2 * (tl.length : Int) < 0) = false:=decide_eq_false (by omega)
    have hk2 : decide (1 + tot2 R.1 R.1.length < 0) = false:=decide_eq_false (by omega)
    have hok : (R.2 != R.2) = false:=bne_self_eq_false R.2
    clear hsx h1 h2 hbl hal htl hR hfo htf hta htb hsp him hsc hr3 hkt hka hkb hks hki hke hkc hkd hkr hmx hkm hm1 hm2 hkn hkq hri htr ht1 hgl hkg hhe hkh n0 n1 n2 s2 nb0 nb1 nb2
    go_enter Try.func10,Try.ntmps10
    go_wp2_with (first|((with_reducible refine gate_dst (N:=3) rfl ?_);refine zzc 3 #[.int .i64 a0_0,.int .i64 a0_1,.slice A0_2 l0_2.length c0_2] 24 ?_;intro g3 hgg3 w1 hbox hb;have HB_1:=Aside0.mk (below_step HB_0.out hb);have CC_1:=Aside0.mk (Kd.C_below CC_0.out hb);have C1_1:=Aside0.mk (Kd.C_below C1_0.out hb);have C2_1:=Aside0.mk (Kd.C_below C2_0.out hb);have Hg3_1:=Aside0.mk hbox;have Gg3 : Aside0 (g3 = _):=Aside0.mk hgg3;have fg30_1:=zz0 Hg3_1;have fg31_1:=zz1 Hg3_1;have fg32_1:=zz2 Hg3_1;clear hbox hb hgg3)|(go_at_call 13;(with_reducible refine (laws_szFloor.calls a0_0 a0_1 A0_2 c0_2 l0_2 1048576 sz _ CC_1.out hc0_2 KS.out).mono ?_);rintro e w2 ⟨rfl,hB⟩;have HB_2:=Aside0.mk (below_step HB_1.out hB);have CC_2:=Aside0.mk (Kd.C_below CC_1.out hB);have C1_2:=Aside0.mk (Kd.C_below C1_1.out hB);have C2_2:=Aside0.mk (Kd.C_below C2_1.out hB);have Hg3_2:=Aside0.mk (blk_below Hg3_1.out hB);have fg30_2:=zz0 Hg3_2;have fg31_2:=zz1 Hg3_2;have fg32_2:=zz2 Hg3_2;clear hB)|(go_at_call 18;(with_reducible refine (laws_szCellS.calls A1 c1 l1 sz sy _ C1_2.out hc1 K1.out).mono ?_);rintro e w3 ⟨rfl,hd⟩;have hB:=hd.below;clear hd;have HB_3:=Aside0.mk (below_step HB_2.out hB);have CC_3:=Aside0.mk (Kd.C_below CC_2.out hB);have C1_3:=Aside0.mk (Kd.C_below C1_2.out hB);have C2_3:=Aside0.mk (Kd.C_below C2_2.out hB);have Hg3_3:=Aside0.mk (blk_below Hg3_2.out hB);have fg30_3:=zz0 Hg3_3;have fg31_3:=zz1 Hg3_3;have fg32_3:=zz2 Hg3_3;clear hB)|(go_at_call 18;(with_reducible refine (laws_szCellS.calls A2 c2 l2 sy sx _ C2_3.out hc2 K2.out).mono ?_);rintro e w4 ⟨rfl,hd⟩;have hB:=hd.below;clear hd;have HB_4:=Aside0.mk (below_step HB_3.out hB);have CC_4:=Aside0.mk (Kd.C_below CC_3.out hB);have C1_4:=Aside0.mk (Kd.C_below C1_3.out hB);have C2_4:=Aside0.mk (Kd.C_below C2_3.out hB);have Hg3_4:=Aside0.mk (blk_below Hg3_3.out hB);have fg30_4:=zz0 Hg3_4;have fg31_4:=zz1 Hg3_4;have fg32_4:=zz2 Hg3_4;clear hB)|(go_at_call 15;(with_reducible refine (laws_toFloor.calls kt a0_0 a0_1 A0_2 c0_2 l0_2 a0_0 a0_1 bl _ CC_4.out hc0_2 KT.out).mono ?_);rintro e w5 ⟨v5,rfl,hR,hB⟩;have HB_5:=Aside0.mk (below_step HB_4.out hB);have CC_5:=Aside0.mk (Kd.C_below CC_4.out hB);have C1_5:=Aside0.mk (Kd.C_below C1_4.out hB);have C2_5:=Aside0.mk (Kd.C_below C2_4.out hB);have Hg3_5:=Aside0.mk (blk_below Hg3_4.out hB);obtain ⟨A5,c5,rfl⟩:=Kd.R_slice hR;have CX5_5:=Aside0.mk (Kd.R_reads' hR).2.2;have LX5:=Aside0.mk (Kd.R_reads' hR).2.1;clear hR;have fg30_5:=zz0 Hg3_5;have fg31_5:=zz1 Hg3_5;have fg32_5:=zz2 Hg3_5;clear hB)|(go_at_call 20;(with_reducible refine (laws_toCellS.calls ka A1 c1 l1 al _ C1_5.out hc1 KA.out).mono ?_);rintro e w6 ⟨v6,rfl,hR,hB⟩;have HB_6:=Aside0.mk (below_step HB_5.out hB);have CC_6:=Aside0.mk (Kd.C_below CC_5.out hB);have C1_6:=Aside0.mk (Kd.C_below C1_5.out hB);have C2_6:=Aside0.mk (Kd.C_below C2_5.out hB);have Hg3_6:=Aside0.mk (blk_below Hg3_5.out hB);have CX5_6:=Aside0.mk (Kd.C_below CX5_5.out hB);obtain ⟨A6,c6,rfl⟩:=Kd.R_slice hR;have CX6_6:=Aside0.mk (Kd.R_reads' hR).2.2;have LX6:=Aside0.mk (Kd.R_reads' hR).2.1;clear hR;have fg30_6:=zz0 Hg3_6;have fg31_6:=zz1 Hg3_6;have fg32_6:=zz2 Hg3_6;clear hB)|(go_at_call 20;(with_reducible refine (laws_toCellS.calls kb A2 c2 l2 tl _ C2_6.out hc2 KB.out).mono ?_);rintro e w7 ⟨v7,rfl,hR,hB⟩;have HB_7:=Aside0.mk (below_step HB_6.out hB);have CC_7:=Aside0.mk (Kd.C_below CC_6.out hB);have C1_7:=Aside0.mk (Kd.C_below C1_6.out hB);have C2_7:=Aside0.mk (Kd.C_below C2_6.out hB);have Hg3_7:=Aside0.mk (blk_below Hg3_6.out hB);have CX5_7:=Aside0.mk (Kd.C_below CX5_6.out hB);have CX6_7:=Aside0.mk (Kd.C_below CX6_6.out hB);obtain ⟨A7,c7,rfl⟩:=Kd.R_slice hR;have CX7_7:=Aside0.mk (Kd.R_reads' hR).2.2;have LX7:=Aside0.mk (Kd.R_reads' hR).2.1;clear hR;have fg30_7:=zz0 Hg3_7;have fg31_7:=zz1 Hg3_7;have fg32_7:=zz2 Hg3_7;clear hB)|(go_at_call 44;(with_reducible refine (spec_PlanFleet.calls ks a0_0 a0_1 A5 c5 bl A6 c6 al A7 c7 tl R.1 R.2 _ CX5_7.out LX5.out CX6_7.out LX6.out CX7_7.out LX7.out KP.out).mono ?_);rintro e w8 ⟨v8,rfl,hS,hB⟩;have HB_8:=Aside0.mk (below_step HB_7.out hB);have CC_8:=Aside0.mk (Kd.C_below CC_7.out hB);have C1_8:=Aside0.mk (Kd.C_below C1_7.out hB);have C2_8:=Aside0.mk (Kd.C_below C2_7.out hB);have Hg3_8:=Aside0.mk (blk_below Hg3_7.out hB);have CX5_8:=Aside0.mk (Kd.C_below CX5_7.out hB);have CX6_8:=Aside0.mk (Kd.C_below CX6_7.out hB);have CX7_8:=Aside0.mk (Kd.C_below CX7_7.out hB);obtain ⟨A8,c8,rfl⟩:=Kd.S_slice hS;have SW_8:=Aside0.mk (Kd.S_mono (Kd.S_bound hS) (fun k hk=>(hk.2.2.1 : k < w8.heap.size)));clear hS;have Lg3 : Aside0 (g3 < w8.heap.size):=Aside0.mk (blk_lt Hg3_8.out);have fg30_8:=zz0 Hg3_8;have fg31_8:=zz1 Hg3_8;have fg32_8:=zz2 Hg3_8;clear hB)|(go_at_call 15;(with_reducible refine (laws_toFloor.calls kt a0_0 a0_1 A0_2 c0_2 l0_2 a0_0 a0_1 bl _ CC_8.out hc0_2 KT.out).mono ?_);rintro e w9 ⟨v9,rfl,hR,hB⟩;have HB_9:=Aside0.mk (below_step HB_8.out hB);have CC_9:=Aside0.mk (Kd.C_below CC_8.out hB);have C1_9:=Aside0.mk (Kd.C_below C1_8.out hB);have C2_9:=Aside0.mk (Kd.C_below C2_8.out hB);have Hg3_9:=Aside0.mk (blk_below Hg3_8.out hB);have SW_9:=Aside0.mk (Kd.S_below SW_8.out hB);obtain ⟨A9,c9,rfl⟩:=Kd.R_slice hR;have RX_9:=Aside0.mk (Kd.R_mono (Kd.R_bound hR) (fun k hk=>(⟨hk.2.1,hk.2.2.1⟩ : w8.heap.size ≤ k ∧ k < w9.heap.size)));have Z89 : Aside0 (w8.heap.size ≤ w9.heap.size):=Aside0.mk hB.size;clear hR;have fg30_9:=zz0 Hg3_9;have fg31_9:=zz1 Hg3_9;have fg32_9:=zz2 Hg3_9;clear hB)|((with_reducible refine gate_dst (N:=10) rfl ?_);refine zzc 10 #[.int .i64 0,.int .i64 0,.slice none 0 0] 29 ?_;intro g10 hgg10 w10 hbox hb;have HB_10:=Aside0.mk (below_step HB_9.out hb);have CC_10:=Aside0.mk (Kd.C_below CC_9.out hb);have C1_10:=Aside0.mk (Kd.C_below C1_9.out hb);have C2_10:=Aside0.mk (Kd.C_below C2_9.out hb);have Hg3_10:=Aside0.mk (blk_below Hg3_9.out hb);have SW_10:=Aside0.mk (Kd.S_below SW_9.out hb);have RX_10:=Aside0.mk (Kd.R_below RX_9.out hb);have Hg10_10:=Aside0.mk hbox;have Gg10 : Aside0 (g10 = _):=Aside0.mk hgg10;have hz80:=zz0 Hg10_10;have hy80:=blk_frozen Hg10_10.out 0;have hz81:=zz1 Hg10_10;have hy81:=blk_frozen Hg10_10.out 1;have hz82:=zz2 Hg10_10;have hy82:=blk_frozen Hg10_10.out 2;have B10:=Aside0.mk (below_set (j:=2) (v := .slice A9 bl.length c9) (below_set (j:=1) (v := .int .i64 a0_1) (below_set (j:=0) (v := .int .i64 a0_0) hb (Nat.le_of_eq Gg10.out.symm)) (Nat.le_of_eq Gg10.out.symm)) (Nat.le_of_eq Gg10.out.symm));clear hbox hb hgg10))
    have HB_11:=Aside0.mk (below_step HB_9.out B10.out)
    have CC_11:=Aside0.mk (Kd.C_below CC_9.out B10.out)
    have C1_11:=Aside0.mk (Kd.C_below C1_9.out B10.out)
    have C2_11:=Aside0.mk (Kd.C_below C2_9.out B10.out)
    have Hg3_11:=Aside0.mk (blk_below Hg3_9.out B10.out)
    have SW_11:=Aside0.mk (Kd.S_below SW_9.out B10.out)
    have RX_11:=Aside0.mk (Kd.R_below RX_9.out B10.out)
    have Hg10_11 : Aside0 ((((w10.setCell ⟨g10,0,none⟩ (.int .i64 a0_0)).setCell ⟨g10,1,none⟩ (.int .i64 a0_1)).setCell ⟨g10,2,none⟩ (.slice A9 bl.length c9)).heap[g10]? = some (.cells #[.int .i64 a0_0,.int .i64 a0_1,.slice A9 bl.length c9] 29 (0,0))):=Aside0.mk (blk_put (cs := #[.int .i64 a0_0,.int .i64 a0_1,.slice none 0 0]) (blk_put (cs := #[.int .i64 a0_0,.int .i64 0,.slice none 0 0]) (blk_put (cs := #[.int .i64 0,.int .i64 0,.slice none 0 0]) Hg10_10.out 0 _ rfl) 1 _ rfl) 2 _ rfl)
    have Z911 : Aside0 (w9.heap.size ≤ (((w10.setCell ⟨g10,0,none⟩ (.int .i64 a0_0)).setCell ⟨g10,1,none⟩ (.int .i64 a0_1)).setCell ⟨g10,2,none⟩ (.slice A9 bl.length c9)).heap.size):=Aside0.mk B10.out.size
    clear B10
    generalize (((w10.setCell ⟨g10,0,none⟩ (.int .i64 a0_0)).setCell ⟨g10,1,none⟩ (.int .i64 a0_1)).setCell ⟨g10,2,none⟩ (.slice A9 bl.length c9)) = w11 at Z911 HB_11 CC_11 C1_11 C2_11 Hg3_11 SW_11 RX_11 Hg10_11 ⊢
    have LG10 : Aside0 (g10 < w11.heap.size):=Aside0.mk (blk_lt Hg10_11.out)
    have fg30_11:=zz0 Hg3_11
    have fg31_11:=zz1 Hg3_11
    have fg32_11:=zz2 Hg3_11
    have fg100_11:=zz0 Hg10_11
    have fg101_11:=zz1 Hg10_11
    have fg102_11:=zz2 Hg10_11
    go_wp2_with (first|(go_at_call 20;(with_reducible refine (laws_toCellS.calls ka A1 c1 l1 al _ C1_11.out hc1 KA.out).mono ?_);rintro e w12 ⟨v12,rfl,hR,hB⟩;have HB_12:=Aside0.mk (below_step HB_11.out hB);have CC_12:=Aside0.mk (Kd.C_below CC_11.out hB);have C1_12:=Aside0.mk (Kd.C_below C1_11.out hB);have C2_12:=Aside0.mk (Kd.C_below C2_11.out hB);have Hg3_12:=Aside0.mk (blk_below Hg3_11.out hB);have SW_12:=Aside0.mk (Kd.S_below SW_11.out hB);have RX_12:=Aside0.mk (Kd.R_below RX_11.out hB);have Hg10_12:=Aside0.mk (blk_below Hg10_11.out hB);obtain ⟨A12,c12,rfl⟩:=Kd.R_slice hR;have R12_12:=Aside0.mk (Kd.R_mono (Kd.R_bound hR) (fun k hk=>(⟨hk.2.1,hk.2.2.1⟩ : w11.heap.size ≤ k ∧ k < w12.heap.size)));have Z12 : Aside0 (w11.heap.size ≤ w12.heap.size):=Aside0.mk hB.size;clear hR;have fg30_12:=zz0 Hg3_12;have fg31_12:=zz1 Hg3_12;have fg32_12:=zz2 Hg3_12;have fg100_12:=zz0 Hg10_12;have fg101_12:=zz1 Hg10_12;have fg102_12:=zz2 Hg10_12;clear hB)|(go_at_call 20;(with_reducible refine (laws_toCellS.calls kb A2 c2 l2 tl _ C2_12.out hc2 KB.out).mono ?_);rintro e w13 ⟨v13,rfl,hR,hB⟩;have HB_13:=Aside0.mk (below_step HB_12.out hB);have CC_13:=Aside0.mk (Kd.C_below CC_12.out hB);have C1_13:=Aside0.mk (Kd.C_below C1_12.out hB);have C2_13:=Aside0.mk (Kd.C_below C2_12.out hB);have Hg3_13:=Aside0.mk (blk_below Hg3_12.out hB);have SW_13:=Aside0.mk (Kd.S_below SW_12.out hB);have RX_13:=Aside0.mk (Kd.R_below RX_12.out hB);have Hg10_13:=Aside0.mk (blk_below Hg10_12.out hB);have R12_13:=Aside0.mk (Kd.R_below R12_12.out hB);obtain ⟨A13,c13,rfl⟩:=Kd.R_slice hR;have R13_13:=Aside0.mk (Kd.R_mono (Kd.R_bound hR) (fun k hk=>(⟨hk.2.1,hk.2.2.1⟩ : w12.heap.size ≤ k ∧ k < w13.heap.size)));have Z13 : Aside0 (w12.heap.size ≤ w13.heap.size):=Aside0.mk hB.size;clear hR;have fg30_13:=zz0 Hg3_13;have fg31_13:=zz1 Hg3_13;have fg32_13:=zz2 Hg3_13;have fg100_13:=zz0 Hg10_13;have fg101_13:=zz1 Hg10_13;have fg102_13:=zz2 Hg10_13;clear hB)|(go_at_call 45;(with_reducible refine (impl_PlanFleet.calls ki a0_0 a0_1 A9 c9 bl A12 c12 al A13 c13 tl R.1 R.2 _ (Kd.R_reads' RX_13.out).2.2 (Kd.R_reads' RX_13.out).2.1 (Kd.R_reads' R12_13.out).2.2 (Kd.R_reads' R12_13.out).2.1 (Kd.R_reads' R13_13.out).2.2 (Kd.R_reads' R13_13.out).2.1 KI.out).mono ?_);rintro e w14 ⟨v14,rfl,hS,hB⟩;have HB_14:=Aside0.mk (below_step HB_13.out hB);have CC_14:=Aside0.mk (Kd.C_below CC_13.out hB);have C1_14:=Aside0.mk (Kd.C_below C1_13.out hB);have C2_14:=Aside0.mk (Kd.C_below C2_13.out hB);have Hg3_14:=Aside0.mk (blk_below Hg3_13.out hB);have SW_14:=Aside0.mk (Kd.S_below SW_13.out hB);have RX_14:=Aside0.mk (Kd.R_below RX_13.out hB);have Hg10_14:=Aside0.mk (blk_below Hg10_13.out hB);have R12_14:=Aside0.mk (Kd.R_below R12_13.out hB);have R13_14:=Aside0.mk (Kd.R_below R13_13.out hB);obtain ⟨A14,c14,rfl⟩:=Kd.S_slice hS;have SG_14:=Aside0.mk (Kd.S_mono (Kd.S_bound hS) (fun k hk=>(hk.2.1 : w13.heap.size ≤ k)));clear hS;have fg30_14:=zz0 Hg3_14;have fg31_14:=zz1 Hg3_14;have fg32_14:=zz2 Hg3_14;have fg100_14:=zz0 Hg10_14;have fg101_14:=zz1 Hg10_14;have fg102_14:=zz2 Hg10_14;clear hB)|(go_at_call 42;(with_reducible refine (laws_eqCellSS.calls kr A14 c14 R.1 A8 c8 R.1 true _ (Kd.S_reads' SG_14.out).2.2 (Kd.S_reads' SG_14.out).2.1 (Kd.S_reads' SW_14.out).2.2 (Kd.S_reads' SW_14.out).2.1 KR.out).mono ?_);rintro e w15 ⟨rfl,hB⟩;have HB_15:=Aside0.mk (below_step HB_14.out hB);have CC_15:=Aside0.mk (Kd.C_below CC_14.out hB);have C1_15:=Aside0.mk (Kd.C_below C1_14.out hB);have C2_15:=Aside0.mk (Kd.C_below C2_14.out hB);have Hg3_15:=Aside0.mk (blk_below Hg3_14.out hB);have SW_15:=Aside0.mk (Kd.S_below SW_14.out hB);have RX_15:=Aside0.mk (Kd.R_below RX_14.out hB);have Hg10_15:=Aside0.mk (blk_below Hg10_14.out hB);have R12_15:=Aside0.mk (Kd.R_below R12_14.out hB);have R13_15:=Aside0.mk (Kd.R_below R13_14.out hB);have SG_15:=Aside0.mk (Kd.S_below SG_14.out hB);have fg30_15:=zz0 Hg3_15;have fg31_15:=zz1 Hg3_15;have fg32_15:=zz2 Hg3_15;have fg100_15:=zz0 Hg10_15;have fg101_15:=zz1 Hg10_15;have fg102_15:=zz2 Hg10_15;clear hB))
    have HB_16:=Aside0.mk (below_step HB_15.out (below_drew1 (Below.refl _ _)))
    have CC_16:=Aside0.mk (Kd.C_below CC_15.out (below_drew1 (Below.refl _ _)))
    have C1_16:=Aside0.mk (Kd.C_below C1_15.out (below_drew1 (Below.refl _ _)))
    have C2_16:=Aside0.mk (Kd.C_below C2_15.out (below_drew1 (Below.refl _ _)))
    have Hg3_16:=Aside0.mk (blk_below Hg3_15.out (below_drew1 (Below.refl _ _)))
    have SW_16:=Aside0.mk (Kd.S_below SW_15.out (below_drew1 (Below.refl _ _)))
    have RX_16:=Aside0.mk (Kd.R_below RX_15.out (below_drew1 (Below.refl _ _)))
    have Hg10_16:=Aside0.mk (blk_below Hg10_15.out (below_drew1 (Below.refl _ _)))
    have R12_16:=Aside0.mk (Kd.R_below R12_15.out (below_drew1 (Below.refl _ _)))
    have R13_16:=Aside0.mk (Kd.R_below R13_15.out (below_drew1 (Below.refl _ _)))
    have SG_16:=Aside0.mk (Kd.S_below SG_15.out (below_drew1 (Below.refl _ _)))
    have fg30_16 : w15.drew.cell? ⟨g3,0,none⟩ = some (.int .i64 a0_0):=zz0 Hg3_16
    have fg31_16 : w15.drew.cell? ⟨g3,1,none⟩ = some (.int .i64 a0_1):=zz1 Hg3_16
    have fg32_16 : w15.drew.cell? ⟨g3,2,none⟩ = some (.slice A0_2 l0_2.length c0_2):=zz2 Hg3_16
    have fg100_16 : w15.drew.cell? ⟨g10,0,none⟩ = some (.int .i64 a0_0):=zz0 Hg10_16
    have fg101_16 : w15.drew.cell? ⟨g10,1,none⟩ = some (.int .i64 a0_1):=zz1 Hg10_16
    have fg102_16 : w15.drew.cell? ⟨g10,2,none⟩ = some (.slice A9 bl.length c9):=zz2 Hg10_16
    refine start_ (n:=5) (S:=fun w'=>w'.cell? ⟨g10,0,none⟩ = some (.int .i64 a0_0) ∧ w'.cell? ⟨g10,1,none⟩ = some (.int .i64 a0_1) ∧ w'.cell? ⟨g10,2,none⟩ = some (.slice A9 bl.length c9) ∧ w'.cell? ⟨g3,0,none⟩ = some (.int .i64 a0_0) ∧ w'.cell? ⟨g3,1,none⟩ = some (.int .i64 a0_1) ∧ w'.cell? ⟨g3,2,none⟩ = some (.slice A0_2 l0_2.length c0_2)) (ds:=[3]) #[false,false,false,false,false] (by kernel_rfl) rfl rfl ⟨fg100_16,fg101_16,fg102_16,fg30_16,fg31_16,fg32_16⟩ (fun hHeld=>?_)
    generalize w15.drew = w16 at HB_16 CC_16 C1_16 C2_16 Hg3_16 SW_16 RX_16 Hg10_16 R12_16 R13_16 SG_16 fg30_16 fg31_16 fg32_16 fg100_16 fg101_16 fg102_16 hHeld ⊢
    refine zzt 0 67 (zzb 5 1) hHeld ?_ (hy:=by intro w' s0;obtain ⟨q0,q1,q2,q3,q4,q5⟩:=s0;go_simp;with_reducible rfl)
    refine zzt 1 68 (zzb 5 3) hHeld ?_ (hy:=by intro w' s0;obtain ⟨q0,q1,q2,q3,q4,q5⟩:=s0;go_simp;with_reducible rfl)
    refine zzo 2 69 (zzb 5 7) (fun K hK=>?_)
    refine call_ 15 #[.agg #[.int .i64 a0_0,.int .i64 a0_1,.slice A0_2 l0_2.length c0_2]] (by rfl) rfl ?hr69_2 ?_
    case hr69_2 =>
     unfold execOp
     simp [resolve,Deferred.ofValue,invoke,Act.eval,enters_ Try.func15 (by kernel_rfl) rfl]
    refine (laws_toFloor.calls kt a0_0 a0_1 A0_2 c0_2 l0_2 a0_0 a0_1 bl _ CC_16.out hc0_2 KT.out).mono ?_
    rintro e w17 ⟨v17,rfl,hR,hB⟩
    refine ⟨_,rfl,?_⟩
    have HB_17:=Aside0.mk (below_step HB_16.out hB)
    have CC_17:=Aside0.mk (Kd.C_below CC_16.out hB)
    have C1_17:=Aside0.mk (Kd.C_below C1_16.out hB)
    have C2_17:=Aside0.mk (Kd.C_below C2_16.out hB)
    have Hg3_17:=Aside0.mk (blk_below Hg3_16.out hB)
    have SW_17:=Aside0.mk (Kd.S_below SW_16.out hB)
    have RX_17:=Aside0.mk (Kd.R_below RX_16.out hB)
    have Hg10_17:=Aside0.mk (blk_below Hg10_16.out hB)
    have R12_17:=Aside0.mk (Kd.R_below R12_16.out hB)
    have R13_17:=Aside0.mk (Kd.R_below R13_16.out hB)
    have SG_17:=Aside0.mk (Kd.S_below SG_16.out hB)
    obtain ⟨A17,c17,rfl⟩:=Kd.R_slice hR
    have CX17_17:=Aside0.mk (Kd.R_reads' hR).2.2
    have LX17:=Aside0.mk (Kd.R_reads' hR).2.1
    clear hR
    have fg30_17:=zz0 Hg3_17
    have fg31_17:=zz1 Hg3_17
    have fg32_17:=zz2 Hg3_17
    have fg100_17:=zz0 Hg10_17
    have fg101_17:=zz1 Hg10_17
    have fg102_17:=zz2 Hg10_17
    clear hB
    refine hK.out _ _ ⟨fg100_17,fg101_17,fg102_17,fg30_17,fg31_17,fg32_17⟩ (fun hHeld=>?_)
    clear hK K
    refine zzn 69 ?_
    refine last_ (i:=3) (N:=(some 70)) #[true,true,true,true,false] rfl rfl (by kernel_rfl) (by decide) (fun K hK=>?_)
    refine call_ 17 #[.agg #[.int .i64 a0_0,.int .i64 a0_1,.slice A9 bl.length c9],.agg #[.int .i64 a0_0,.int .i64 a0_1,.slice A17 bl.length c17]] (by rfl) rfl ?hr70_3 ?_
    case hr70_3 =>
     unfold execOp
     simp [resolve,Deferred.ofValue,invoke,Act.eval,enters_ Try.func17 (by kernel_rfl) rfl]
    refine (laws_eqFloor.calls ke a0_0 a0_1 A9 c9 bl a0_0 a0_1 A17 c17 bl true _ (Kd.R_reads' RX_17.out).2.2 (Kd.R_reads' RX_17.out).2.1 CX17_17.out LX17.out KE.out).mono ?_
    rintro e w18 ⟨rfl,hB⟩
    refine ⟨_,rfl,?_⟩
    have HB_18:=Aside0.mk (below_step HB_17.out hB)
    have CC_18:=Aside0.mk (Kd.C_below CC_17.out hB)
    have C1_18:=Aside0.mk (Kd.C_below C1_17.out hB)
    have C2_18:=Aside0.mk (Kd.C_below C2_17.out hB)
    have Hg3_18:=Aside0.mk (blk_below Hg3_17.out hB)
    have SW_18:=Aside0.mk (Kd.S_below SW_17.out hB)
    have RX_18:=Aside0.mk (Kd.R_below RX_17.out hB)
    have Hg10_18:=Aside0.mk (blk_below Hg10_17.out hB)
    have R12_18:=Aside0.mk (Kd.R_below R12_17.out hB)
    have R13_18:=Aside0.mk (Kd.R_below R13_17.out hB)
    have SG_18:=Aside0.mk (Kd.S_below SG_17.out hB)
    have CX17_18:=Aside0.mk (Kd.C_below CX17_17.out hB)
    have fg30_18:=zz0 Hg3_18
    have fg31_18:=zz1 Hg3_18
    have fg32_18:=zz2 Hg3_18
    have fg100_18:=zz0 Hg10_18
    have fg101_18:=zz1 Hg10_18
    have fg102_18:=zz2 Hg10_18
    clear hB
    refine hK.out _ _ ?_
    clear hK K
    refine zzn 70 ?_;refine zzp 4 71 (zzb 5 31) ?_
    refine done_ (by kernel_rfl) ?_
    go_wp2_with (first|(go_at_call 20;(with_reducible refine (laws_toCellS.calls ka A1 c1 l1 al _ C1_18.out hc1 KA.out).mono ?_);rintro e w19 ⟨v18,rfl,hR,hB⟩;have HB_19:=Aside0.mk (below_step HB_18.out hB);have CC_19:=Aside0.mk (Kd.C_below CC_18.out hB);have C1_19:=Aside0.mk (Kd.C_below C1_18.out hB);have C2_19:=Aside0.mk (Kd.C_below C2_18.out hB);have Hg3_19:=Aside0.mk (blk_below Hg3_18.out hB);have SW_19:=Aside0.mk (Kd.S_below SW_18.out hB);have RX_19:=Aside0.mk (Kd.R_below RX_18.out hB);have Hg10_19:=Aside0.mk (blk_below Hg10_18.out hB);have R12_19:=Aside0.mk (Kd.R_below R12_18.out hB);have R13_19:=Aside0.mk (Kd.R_below R13_18.out hB);have SG_19:=Aside0.mk (Kd.S_below SG_18.out hB);obtain ⟨A18,c18,rfl⟩:=Kd.R_slice hR;have CX18_19:=Aside0.mk (Kd.R_reads' hR).2.2;have LX18:=Aside0.mk (Kd.R_reads' hR).2.1;clear hR;have fg30_19:=zz0 Hg3_19;have fg31_19:=zz1 Hg3_19;have fg32_19:=zz2 Hg3_19;have fg100_19:=zz0 Hg10_19;have fg101_19:=zz1 Hg10_19;have fg102_19:=zz2 Hg10_19;clear hB)|(go_at_call 22;(with_reducible refine (laws_eqCellS.calls kc A12 c12 al A18 c18 al true _ (Kd.R_reads' R12_19.out).2.2 (Kd.R_reads' R12_19.out).2.1 CX18_19.out LX18.out KC.out).mono ?_);rintro e w20 ⟨rfl,hB⟩;have HB_20:=Aside0.mk (below_step HB_19.out hB);have CC_20:=Aside0.mk (Kd.C_below CC_19.out hB);have C1_20:=Aside0.mk (Kd.C_below C1_19.out hB);have C2_20:=Aside0.mk (Kd.C_below C2_19.out hB);have Hg3_20:=Aside0.mk (blk_below Hg3_19.out hB);have SW_20:=Aside0.mk (Kd.S_below SW_19.out hB);have RX_20:=Aside0.mk (Kd.R_below RX_19.out hB);have Hg10_20:=Aside0.mk (blk_below Hg10_19.out hB);have R12_20:=Aside0.mk (Kd.R_below R12_19.out hB);have R13_20:=Aside0.mk (Kd.R_below R13_19.out hB);have SG_20:=Aside0.mk (Kd.S_below SG_19.out hB);have CX18_20:=Aside0.mk (Kd.C_below CX18_19.out hB);have fg30_20:=zz0 Hg3_20;have fg31_20:=zz1 Hg3_20;have fg32_20:=zz2 Hg3_20;have fg100_20:=zz0 Hg10_20;have fg101_20:=zz1 Hg10_20;have fg102_20:=zz2 Hg10_20;clear hB)|(go_at_call 20;(with_reducible refine (laws_toCellS.calls kb A2 c2 l2 tl _ C2_20.out hc2 KB.out).mono ?_);rintro e w21 ⟨v19,rfl,hR,hB⟩;have HB_21:=Aside0.mk (below_step HB_20.out hB);have CC_21:=Aside0.mk (Kd.C_below CC_20.out hB);have C1_21:=Aside0.mk (Kd.C_below C1_20.out hB);have C2_21:=Aside0.mk (Kd.C_below C2_20.out hB);have Hg3_21:=Aside0.mk (blk_below Hg3_20.out hB);have SW_21:=Aside0.mk (Kd.S_below SW_20.out hB);have RX_21:=Aside0.mk (Kd.R_below RX_20.out hB);have Hg10_21:=Aside0.mk (blk_below Hg10_20.out hB);have R12_21:=Aside0.mk (Kd.R_below R12_20.out hB);have R13_21:=Aside0.mk (Kd.R_below R13_20.out hB);have SG_21:=Aside0.mk (Kd.S_below SG_20.out hB);obtain ⟨A19,c19,rfl⟩:=Kd.R_slice hR;have CX19_21:=Aside0.mk (Kd.R_reads' hR).2.2;have LX19:=Aside0.mk (Kd.R_reads' hR).2.1;clear hR;have fg30_21:=zz0 Hg3_21;have fg31_21:=zz1 Hg3_21;have fg32_21:=zz2 Hg3_21;have fg100_21:=zz0 Hg10_21;have fg101_21:=zz1 Hg10_21;have fg102_21:=zz2 Hg10_21;clear hB)|(go_at_call 22;(with_reducible refine (laws_eqCellS.calls kd A13 c13 tl A19 c19 tl true _ (Kd.R_reads' R13_21.out).2.2 (Kd.R_reads' R13_21.out).2.1 CX19_21.out LX19.out KD.out).mono ?_);rintro e w22 ⟨rfl,hB⟩;have HB_22:=Aside0.mk (below_step HB_21.out hB);have CC_22:=Aside0.mk (Kd.C_below CC_21.out hB);have C1_22:=Aside0.mk (Kd.C_below C1_21.out hB);have C2_22:=Aside0.mk (Kd.C_below C2_21.out hB);have Hg3_22:=Aside0.mk (blk_below Hg3_21.out hB);have SW_22:=Aside0.mk (Kd.S_below SW_21.out hB);have RX_22:=Aside0.mk (Kd.R_below RX_21.out hB);have Hg10_22:=Aside0.mk (blk_below Hg10_21.out hB);have R12_22:=Aside0.mk (Kd.R_below R12_21.out hB);have R13_22:=Aside0.mk (Kd.R_below R13_21.out hB);have SG_22:=Aside0.mk (Kd.S_below SG_21.out hB);have CX19_22:=Aside0.mk (Kd.C_below CX19_21.out hB);have fg30_22:=zz0 Hg3_22;have fg31_22:=zz1 Hg3_22;have fg32_22:=zz2 Hg3_22;have fg100_22:=zz0 Hg10_22;have fg101_22:=zz1 Hg10_22;have fg102_22:=zz2 Hg10_22;clear hB)|(go_at_call 31;(with_reducible refine (laws_markFloor.calls km a0_0 a0_1 (fun k=>w8.heap.size ≤ k ∧ k < w9.heap.size) (.slice A9 bl.length c9) bl 1 (1 + 2 * (bl.length : Int)) xs w _ HB_22.out (Kd.R_lower RX_22.out HB_8.out.size) KM.out).mono ?_);rintro e w23 ⟨rfl,hS,hB,hk⟩;have HB_23:=Aside0.mk hB;have CC_23:=Aside0.mk (Kd.C_below CC_0.out hB);have C1_23:=Aside0.mk (Kd.C_below C1_0.out hB);have C2_23:=Aside0.mk (Kd.C_below C2_0.out hB);have Hg3_23:=Aside0.mk ((hk.2 g3 (blk_lt Hg3_22.out) (fun p=>by have z1:=Z89.out;have z2:=Z911.out;have z3:=Z12.out;have z4:=Z13.out;have l3:=Lg3.out;have l10:=LG10.out;have gg:=Gg10.out;have z6:=p.1;have z7:=p.2;omega)).trans Hg3_22.out);have SW_23:=Aside0.mk (Kd.S_kept SW_22.out hk (fun k hk p=>by have z1:=Z89.out;have z2:=Z911.out;have z3:=Z12.out;have z4:=Z13.out;have l3:=Lg3.out;have l10:=LG10.out;have gg:=Gg10.out;have z6:=p.1;have z7:=p.2;omega));have RX_23:=Aside0.mk hS;have Hg10_23:=Aside0.mk ((hk.2 g10 (blk_lt Hg10_22.out) (fun p=>by have z1:=Z89.out;have z2:=Z911.out;have z3:=Z12.out;have z4:=Z13.out;have l3:=Lg3.out;have l10:=LG10.out;have gg:=Gg10.out;have z6:=p.1;have z7:=p.2;omega)).trans Hg10_22.out);have R12_23:=Aside0.mk (Kd.R_kept R12_22.out hk (fun k hk p=>by have z1:=Z89.out;have z2:=Z911.out;have z3:=Z12.out;have z4:=Z13.out;have l3:=Lg3.out;have l10:=LG10.out;have gg:=Gg10.out;have z6:=p.1;have z7:=p.2;have z8:=hk.1;have z9:=hk.2;omega));have R13_23:=Aside0.mk (Kd.R_kept R13_22.out hk (fun k hk p=>by have z1:=Z89.out;have z2:=Z911.out;have z3:=Z12.out;have z4:=Z13.out;have l3:=Lg3.out;have l10:=LG10.out;have gg:=Gg10.out;have z6:=p.1;have z7:=p.2;have z8:=hk.1;have z9:=hk.2;omega));have SG_23:=Aside0.mk (Kd.S_kept SG_22.out hk (fun k hk p=>by have z1:=Z89.out;have z2:=Z911.out;have z3:=Z12.out;have z4:=Z13.out;have l3:=Lg3.out;have l10:=LG10.out;have gg:=Gg10.out;have z6:=p.1;have z7:=p.2;omega));have fg30_23:=zz0 Hg3_23;have fg31_23:=zz1 Hg3_23;have fg32_23:=zz2 Hg3_23;have fg100_23:=zz0 Hg10_23;have fg101_23:=zz1 Hg10_23;have fg102_23:=zz2 Hg10_23;clear hS hB hk)|(go_at_call 36;(with_reducible refine (laws_markCellS.calls kn (fun k=>w11.heap.size ≤ k ∧ k < w12.heap.size) (.slice A12 al.length c12) al (1 + 2 * (bl.length : Int)) (1 + 2 * (bl.length : Int) + 2 * (al.length : Int)) ps w _ HB_23.out (Kd.R_lower R12_23.out HB_11.out.size) KN.out).mono ?_);rintro e w24 ⟨rfl,hS,hB,hk⟩;have HB_24:=Aside0.mk hB;have CC_24:=Aside0.mk (Kd.C_below CC_0.out hB);have C1_24:=Aside0.mk (Kd.C_below C1_0.out hB);have C2_24:=Aside0.mk (Kd.C_below C2_0.out hB);have Hg3_24:=Aside0.mk ((hk.2 g3 (blk_lt Hg3_23.out) (fun p=>by have z1:=Z89.out;have z2:=Z911.out;have z3:=Z12.out;have z4:=Z13.out;have l3:=Lg3.out;have l10:=LG10.out;have gg:=Gg10.out;have z6:=p.1;have z7:=p.2;omega)).trans Hg3_23.out);have SW_24:=Aside0.mk (Kd.S_kept SW_23.out hk (fun k hk p=>by have z1:=Z89.out;have z2:=Z911.out;have z3:=Z12.out;have z4:=Z13.out;have l3:=Lg3.out;have l10:=LG10.out;have gg:=Gg10.out;have z6:=p.1;have z7:=p.2;omega));have Hg10_24:=Aside0.mk ((hk.2 g10 (blk_lt Hg10_23.out) (fun p=>by have z1:=Z89.out;have z2:=Z911.out;have z3:=Z12.out;have z4:=Z13.out;have l3:=Lg3.out;have l10:=LG10.out;have gg:=Gg10.out;have z6:=p.1;have z7:=p.2;omega)).trans Hg10_23.out);have R12_24:=Aside0.mk hS;have R13_24:=Aside0.mk (Kd.R_kept R13_23.out hk (fun k hk p=>by have z1:=Z89.out;have z2:=Z911.out;have z3:=Z12.out;have z4:=Z13.out;have l3:=Lg3.out;have l10:=LG10.out;have gg:=Gg10.out;have z6:=p.1;have z7:=p.2;have z8:=hk.1;have z9:=hk.2;omega));have SG_24:=Aside0.mk (Kd.S_kept SG_23.out hk (fun k hk p=>by have z1:=Z89.out;have z2:=Z911.out;have z3:=Z12.out;have z4:=Z13.out;have l3:=Lg3.out;have l10:=LG10.out;have gg:=Gg10.out;have z6:=p.1;have z7:=p.2;omega));have fg30_24:=zz0 Hg3_24;have fg31_24:=zz1 Hg3_24;have fg32_24:=zz2 Hg3_24;have fg100_24:=zz0 Hg10_24;have fg101_24:=zz1 Hg10_24;have fg102_24:=zz2 Hg10_24;clear hS hB hk)|(go_at_call 36;(with_reducible refine (laws_markCellS.calls kq (fun k=>w12.heap.size ≤ k ∧ k < w13.heap.size) (.slice A13 tl.length c13) tl (1 + 2 * (bl.length : Int) + 2 * (al.length : Int)) (1 + 2 * (bl.length : Int) + 2 * (al.length : Int) + 2 * (tl.length : Int)) qs w _ HB_24.out (Kd.R_lower R13_24.out HB_12.out.size) KQ.out).mono ?_);rintro e w25 ⟨rfl,hS,hB,hk⟩;have HB_25:=Aside0.mk hB;have CC_25:=Aside0.mk (Kd.C_below CC_0.out hB);have C1_25:=Aside0.mk (Kd.C_below C1_0.out hB);have C2_25:=Aside0.mk (Kd.C_below C2_0.out hB);have Hg3_25:=Aside0.mk ((hk.2 g3 (blk_lt Hg3_24.out) (fun p=>by have z1:=Z89.out;have z2:=Z911.out;have z3:=Z12.out;have z4:=Z13.out;have l3:=Lg3.out;have l10:=LG10.out;have gg:=Gg10.out;have z6:=p.1;have z7:=p.2;omega)).trans Hg3_24.out);have SW_25:=Aside0.mk (Kd.S_kept SW_24.out hk (fun k hk p=>by have z1:=Z89.out;have z2:=Z911.out;have z3:=Z12.out;have z4:=Z13.out;have l3:=Lg3.out;have l10:=LG10.out;have gg:=Gg10.out;have z6:=p.1;have z7:=p.2;omega));have Hg10_25:=Aside0.mk ((hk.2 g10 (blk_lt Hg10_24.out) (fun p=>by have z1:=Z89.out;have z2:=Z911.out;have z3:=Z12.out;have z4:=Z13.out;have l3:=Lg3.out;have l10:=LG10.out;have gg:=Gg10.out;have z6:=p.1;have z7:=p.2;omega)).trans Hg10_24.out);have R13_25:=Aside0.mk hS;have SG_25:=Aside0.mk (Kd.S_kept SG_24.out hk (fun k hk p=>by have z1:=Z89.out;have z2:=Z911.out;have z3:=Z12.out;have z4:=Z13.out;have l3:=Lg3.out;have l10:=LG10.out;have gg:=Gg10.out;have z6:=p.1;have z7:=p.2;omega));have fg30_25:=zz0 Hg3_25;have fg31_25:=zz1 Hg3_25;have fg32_25:=zz2 Hg3_25;have fg100_25:=zz0 Hg10_25;have fg101_25:=zz1 Hg10_25;have fg102_25:=zz2 Hg10_25;clear hS hB hk)|(go_at_call 42;(with_reducible refine (laws_eqCellSS.calls kr A14 c14 R.1 A8 c8 R.1 true _ (Kd.S_reads' SG_25.out).2.2 (Kd.S_reads' SG_25.out).2.1 (Kd.S_reads' SW_25.out).2.2 (Kd.S_reads' SW_25.out).2.1 KR.out).mono ?_);rintro e w26 ⟨rfl,hB⟩;have HB_26:=Aside0.mk (below_step HB_25.out hB);have CC_26:=Aside0.mk (Kd.C_below CC_25.out hB);have C1_26:=Aside0.mk (Kd.C_below C1_25.out hB);have C2_26:=Aside0.mk (Kd.C_below C2_25.out hB);have Hg3_26:=Aside0.mk (blk_below Hg3_25.out hB);have SW_26:=Aside0.mk (Kd.S_below SW_25.out hB);have Hg10_26:=Aside0.mk (blk_below Hg10_25.out hB);have SG_26:=Aside0.mk (Kd.S_below SG_25.out hB);have fg30_26:=zz0 Hg3_26;have fg31_26:=zz1 Hg3_26;have fg32_26:=zz2 Hg3_26;have fg100_26:=zz0 Hg10_26;have fg101_26:=zz1 Hg10_26;have fg102_26:=zz2 Hg10_26;clear hB)|(go_at_call 43;(with_reducible refine (markCSS_rows kg A14 c14 R.1 gs 1 w _ HB_26.out (Kd.S_lower SG_26.out HB_13.out.size) HGL.out KG.out).mono ?_);rintro e w27 ⟨rfl,hS,hB,hk⟩;have HB_27:=Aside0.mk hB;have CC_27:=Aside0.mk (Kd.C_below CC_0.out hB);have C1_27:=Aside0.mk (Kd.C_below C1_0.out hB);have C2_27:=Aside0.mk (Kd.C_below C2_0.out hB);have Hg3_27:=Aside0.mk ((hk.2 g3 (blk_lt Hg3_26.out) (fun p=>by have z1:=Z89.out;have z2:=Z911.out;have z3:=Z12.out;have z4:=Z13.out;have l3:=Lg3.out;have l10:=LG10.out;have gg:=Gg10.out;omega)).trans Hg3_26.out);have SW_27:=Aside0.mk (Kd.S_kept SW_26.out hk (fun k hk p=>by have z1:=Z89.out;have z2:=Z911.out;have z3:=Z12.out;have z4:=Z13.out;have l3:=Lg3.out;have l10:=LG10.out;have gg:=Gg10.out;omega));have Hg10_27:=Aside0.mk ((hk.2 g10 (blk_lt Hg10_26.out) (fun p=>by have z1:=Z89.out;have z2:=Z911.out;have z3:=Z12.out;have z4:=Z13.out;have l3:=Lg3.out;have l10:=LG10.out;have gg:=Gg10.out;omega)).trans Hg10_26.out);have SG_27:=Aside0.mk hS;have fg30_27:=zz0 Hg3_27;have fg31_27:=zz1 Hg3_27;have fg32_27:=zz2 Hg3_27;have fg100_27:=zz0 Hg10_27;have fg101_27:=zz1 Hg10_27;have fg102_27:=zz2 Hg10_27;clear hS hB hk)|(go_at_call 46;(with_reducible refine (heldRows_at kh A14 c14 gs R.1.length 1 _ _ HGL.out (Kd.S_reads' SG_27.out).2.2 (Kd.S_reads' SG_27.out).2.1 KH.out).mono ?_);rintro e w28 ⟨rfl,hd⟩;have hB:=hd.below;clear hd;have HB_28:=Aside0.mk (below_step HB_27.out hB);have CC_28:=Aside0.mk (Kd.C_below CC_27.out hB);have C1_28:=Aside0.mk (Kd.C_below C1_27.out hB);have C2_28:=Aside0.mk (Kd.C_below C2_27.out hB);have Hg3_28:=Aside0.mk (blk_below Hg3_27.out hB);have SW_28:=Aside0.mk (Kd.S_below SW_27.out hB);have Hg10_28:=Aside0.mk (blk_below Hg10_27.out hB);have SG_28:=Aside0.mk (Kd.S_below SG_27.out hB);have fg30_28:=zz0 Hg3_28;have fg31_28:=zz1 Hg3_28;have fg32_28:=zz2 Hg3_28;have fg100_28:=zz0 Hg10_28;have fg101_28:=zz1 Hg10_28;have fg102_28:=zz2 Hg10_28;clear hB)|(go_at_call 15;(with_reducible refine (laws_toFloor.calls kt a0_0 a0_1 A0_2 c0_2 l0_2 a0_0 a0_1 bl _ CC_28.out hc0_2 KT.out).mono ?_);rintro e w29 ⟨v21,rfl,hR,hB⟩;have HB_29:=Aside0.mk (below_step HB_28.out hB);have CC_29:=Aside0.mk (Kd.C_below CC_28.out hB);have C1_29:=Aside0.mk (Kd.C_below C1_28.out hB);have C2_29:=Aside0.mk (Kd.C_below C2_28.out hB);have Hg3_29:=Aside0.mk (blk_below Hg3_28.out hB);have SW_29:=Aside0.mk (Kd.S_below SW_28.out hB);have Hg10_29:=Aside0.mk (blk_below Hg10_28.out hB);have SG_29:=Aside0.mk (Kd.S_below SG_28.out hB);obtain ⟨A21,c21,rfl⟩:=Kd.R_slice hR;have CX21_29:=Aside0.mk (Kd.R_reads' hR).2.2;have LX21:=Aside0.mk (Kd.R_reads' hR).2.1;clear hR;have fg30_29:=zz0 Hg3_29;have fg31_29:=zz1 Hg3_29;have fg32_29:=zz2 Hg3_29;have fg100_29:=zz0 Hg10_29;have fg101_29:=zz1 Hg10_29;have fg102_29:=zz2 Hg10_29;clear hB)|(go_at_call 20;(with_reducible refine (laws_toCellS.calls ka A1 c1 l1 al _ C1_29.out hc1 KA.out).mono ?_);rintro e w30 ⟨v22,rfl,hR,hB⟩;have HB_30:=Aside0.mk (below_step HB_29.out hB);have CC_30:=Aside0.mk (Kd.C_below CC_29.out hB);have C1_30:=Aside0.mk (Kd.C_below C1_29.out hB);have C2_30:=Aside0.mk (Kd.C_below C2_29.out hB);have Hg3_30:=Aside0.mk (blk_below Hg3_29.out hB);have SW_30:=Aside0.mk (Kd.S_below SW_29.out hB);have Hg10_30:=Aside0.mk (blk_below Hg10_29.out hB);have SG_30:=Aside0.mk (Kd.S_below SG_29.out hB);have CX21_30:=Aside0.mk (Kd.C_below CX21_29.out hB);obtain ⟨A22,c22,rfl⟩:=Kd.R_slice hR;have CX22_30:=Aside0.mk (Kd.R_reads' hR).2.2;have LX22:=Aside0.mk (Kd.R_reads' hR).2.1;clear hR;have fg30_30:=zz0 Hg3_30;have fg31_30:=zz1 Hg3_30;have fg32_30:=zz2 Hg3_30;have fg100_30:=zz0 Hg10_30;have fg101_30:=zz1 Hg10_30;have fg102_30:=zz2 Hg10_30;clear hB)|(go_at_call 20;(with_reducible refine (laws_toCellS.calls kb A2 c2 l2 tl _ C2_30.out hc2 KB.out).mono ?_);rintro e w31 ⟨v23,rfl,hR,hB⟩;have HB_31:=Aside0.mk (below_step HB_30.out hB);have CC_31:=Aside0.mk (Kd.C_below CC_30.out hB);have C1_31:=Aside0.mk (Kd.C_below C1_30.out hB);have C2_31:=Aside0.mk (Kd.C_below C2_30.out hB);have Hg3_31:=Aside0.mk (blk_below Hg3_30.out hB);have SW_31:=Aside0.mk (Kd.S_below SW_30.out hB);have Hg10_31:=Aside0.mk (blk_below Hg10_30.out hB);have SG_31:=Aside0.mk (Kd.S_below SG_30.out hB);have CX21_31:=Aside0.mk (Kd.C_below CX21_30.out hB);have CX22_31:=Aside0.mk (Kd.C_below CX22_30.out hB);obtain ⟨A23,c23,rfl⟩:=Kd.R_slice hR;have CX23_31:=Aside0.mk (Kd.R_reads' hR).2.2;have LX23:=Aside0.mk (Kd.R_reads' hR).2.1;clear hR;have fg30_31:=zz0 Hg3_31;have fg31_31:=zz1 Hg3_31;have fg32_31:=zz2 Hg3_31;have fg100_31:=zz0 Hg10_31;have fg101_31:=zz1 Hg10_31;have fg102_31:=zz2 Hg10_31;clear hB)|(go_at_call 45;(with_reducible refine (impl_PlanFleet.calls ki a0_0 a0_1 A21 c21 bl A22 c22 al A23 c23 tl R.1 R.2 _ CX21_31.out LX21.out CX22_31.out LX22.out CX23_31.out LX23.out KI.out).mono ?_);rintro e w32 ⟨v24,rfl,hS,hB⟩;have HB_32:=Aside0.mk (below_step HB_31.out hB);have CC_32:=Aside0.mk (Kd.C_below CC_31.out hB);have C1_32:=Aside0.mk (Kd.C_below C1_31.out hB);have C2_32:=Aside0.mk (Kd.C_below C2_31.out hB);have Hg3_32:=Aside0.mk (blk_below Hg3_31.out hB);have SW_32:=Aside0.mk (Kd.S_below SW_31.out hB);have Hg10_32:=Aside0.mk (blk_below Hg10_31.out hB);have SG_32:=Aside0.mk (Kd.S_below SG_31.out hB);have CX21_32:=Aside0.mk (Kd.C_below CX21_31.out hB);have CX22_32:=Aside0.mk (Kd.C_below CX22_31.out hB);have CX23_32:=Aside0.mk (Kd.C_below CX23_31.out hB);obtain ⟨A24,c24,rfl⟩:=Kd.S_slice hS;have SH_32:=Aside0.mk hS;clear hS;have fg30_32:=zz0 Hg3_32;have fg31_32:=zz1 Hg3_32;have fg32_32:=zz2 Hg3_32;have fg100_32:=zz0 Hg10_32;have fg101_32:=zz1 Hg10_32;have fg102_32:=zz2 Hg10_32;clear hB)|(go_at_call 42;(with_reducible refine (laws_eqCellSS.calls kr A24 c24 R.1 A8 c8 R.1 true _ (Kd.S_reads' SH_32.out).2.2 (Kd.S_reads' SH_32.out).2.1 (Kd.S_reads' SW_32.out).2.2 (Kd.S_reads' SW_32.out).2.1 KR.out).mono ?_);rintro e w33 ⟨rfl,hB⟩;have HB_33:=Aside0.mk (below_step HB_32.out hB);have CC_33:=Aside0.mk (Kd.C_below CC_32.out hB);have C1_33:=Aside0.mk (Kd.C_below C1_32.out hB);have C2_33:=Aside0.mk (Kd.C_below C2_32.out hB);have Hg3_33:=Aside0.mk (blk_below Hg3_32.out hB);have SW_33:=Aside0.mk (Kd.S_below SW_32.out hB);have Hg10_33:=Aside0.mk (blk_below Hg10_32.out hB);have SG_33:=Aside0.mk (Kd.S_below SG_32.out hB);have SH_33:=Aside0.mk (Kd.S_below SH_32.out hB);have fg30_33:=zz0 Hg3_33;have fg31_33:=zz1 Hg3_33;have fg32_33:=zz2 Hg3_33;have fg100_33:=zz0 Hg10_33;have fg101_33:=zz1 Hg10_33;have fg102_33:=zz2 Hg10_33;clear hB)|(go_at_call 46;(with_reducible refine (heldRows_at kh A14 c14 gs R.1.length 1 _ _ HGL.out (Kd.S_reads' SG_33.out).2.2 (Kd.S_reads' SG_33.out).2.1 KH.out).mono ?_);rintro e w34 ⟨rfl,hd⟩;have hB:=hd.below;clear hd;have HB_34:=Aside0.mk (below_step HB_33.out hB);have CC_34:=Aside0.mk (Kd.C_below CC_33.out hB);have C1_34:=Aside0.mk (Kd.C_below C1_33.out hB);have C2_34:=Aside0.mk (Kd.C_below C2_33.out hB);have Hg3_34:=Aside0.mk (blk_below Hg3_33.out hB);have SW_34:=Aside0.mk (Kd.S_below SW_33.out hB);have Hg10_34:=Aside0.mk (blk_below Hg10_33.out hB);have SG_34:=Aside0.mk (Kd.S_below SG_33.out hB);have SH_34:=Aside0.mk (Kd.S_below SH_33.out hB);have fg30_34:=zz0 Hg3_34;have fg31_34:=zz1 Hg3_34;have fg32_34:=zz2 Hg3_34;have fg100_34:=zz0 Hg10_34;have fg101_34:=zz1 Hg10_34;have fg102_34:=zz2 Hg10_34;clear hB))
    go_ret
    exact ⟨rfl,HB_34.out⟩
end Go.Proofs.Ytbpccdbkaiigcaa.G

-- Written by wip/tools/gen.py out of the translation (the kit's printer, one namespace a seat). Lean checks it.
namespace Go.Proofs.Ytbpccdbkaiigcaa.G
open Go.RowKit Go.ChangeShapes Go.WideShapes Go.Deep Go.Proofs.YtbpccdbkaiigcaaW.PrintWords Go.Proofs.YtbpccdbkaiigcaaW.PrintLast
set_option linter.unusedVariables false
/-! Opening the arguments of a law: whatever reads as data of type t reads as a value of kind d, within what its type allows. -/
def Opens {α : Type} (P : Program) (t : TypeId) (d : Kd α) (Wf : α → Prop) : Prop :=
 ∀ {H : Type} {enc : TypeId × Value → H} {W : World} {spare : Nat → Bool} {held : Bool} {fuel : Nat} {cs : List Value} {x : DataW H × List MemPlace},
  DataW.trod enc P W 0 spare held fuel t cs = some x → ∃ a,d.K W a cs ∧ Wf a
theorem opens_int {P : Program} {t : TypeId} {k : IntKind} (ht : P.underlying t = some (.int k)) : Opens P t (Kd.int k) (fun x=>(Lit.int k x).wf = true):=by
 intro H enc W spare held fuel cs x h
 obtain ⟨n,rfl,_,hw⟩:=DataW.trod_int ht h
 exact ⟨n,rfl,hw⟩
theorem opens_row {α : Type} {d : Kd α} {Wf : α → Prop} {W : World} (Q : Nat → List Value → Prop) (hq : ∀ i cs,Q i cs → ∃ a,d.K W a cs ∧ Wf a) (n : Nat) (h : ∀ i,i < n → ∃ cs,Q i cs) :
  ∃ xs : List α,xs.length = n ∧ (∀ y ∈ xs,Wf y) ∧ ∀ j p,xs[j]? = some p → ∃ cs,Q j cs ∧ d.K W p cs:=by
 induction n with
 | zero=>exact ⟨[],rfl,fun y hy=>by simp at hy,fun j p hp=>by simp at hp⟩
 | succ n ih =>
  obtain ⟨xs,hl,hw,hx⟩:=ih (fun i hi=>h i (by omega))
  obtain ⟨cs,hcs⟩:=h n (by omega)
  obtain ⟨a,ha,hwa⟩:=hq n cs hcs
  refine ⟨xs ++ [a],by simp [hl],fun y hy=>?_,fun j p hp=>?_⟩
  ·rcases List.mem_append.1 hy with hy|hy
   ·exact hw y hy
   ·rw [List.mem_singleton.1 hy];exact hwa
  ·rcases Nat.lt_or_ge j xs.length with hj|hj
   ·rw [List.getElem?_append_left hj] at hp
    exact hx j p hp
   ·rw [List.getElem?_append_right hj] at hp
    have h0 : j - xs.length = 0:=by
     rcases Nat.eq_zero_or_pos (j - xs.length) with h0|h0
     ·exact h0
     ·rw [List.getElem?_eq_none (by simp;omega)] at hp;cases hp
    rw [h0] at hp
    simp at hp
    subst hp
    have : j = n:=by omega
    subst this
    exact ⟨cs,hcs,ha⟩
theorem opens_slice {α : Type} {P : Program} {t e : TypeId} {d : Kd α} {Wf : α → Prop} (ht : P.underlying t = some (.slice e)) (hC : P.cellsOf e = d.sz) (ho : Opens P e d Wf) :
  Opens P t (Kd.slice e d) (fun xs=>xs.length ≤ maxLen ∧ ∀ y ∈ xs,Wf y):=by
 intro H enc W spare held fuel cs x h
 rcases open_slice ht h with ⟨rfl,_⟩|⟨a,len,cap,m,n,D,Pl,rfl,_,hl,hm,hmm,_,hi⟩
 ·exact ⟨[],⟨none,0,rfl,Nat.le_refl _,rfl,by simp,fun h=>by simp at h⟩,by simp [maxLen],fun y hy=>by simp at hy⟩
 ·have hml : len ≤ m:=by rw [hmm];split <;> omega
  obtain ⟨xs,hxl,hw,hx⟩:=opens_row (W:=W) (d:=d) (Wf:=Wf) (fun i cs'=>W.cells? 0 (a.add (i * P.cellsOf e)) (P.cellsOf e) = some cs' ∧ DataW.trod enc P W 0 spare held n e cs' = some (D i,Pl i))
   (fun i cs' hq=>ho hq.2) len (fun i hi'=>hi i (by omega))
  refine ⟨xs,⟨some a,cap,by rw [hxl],by omega,rfl,?_,fun _=>⟨a,rfl,fun j p hj=>?_⟩⟩,by omega,hw⟩
  ·simp only [maxLen] at hm
   omega
  ·obtain ⟨cs',⟨hc,_⟩,hK⟩:=hx j p hj
   obtain ⟨_,hcl,hat⟩:=World.cells?_some hc
   refine ⟨cs',d.K_len hK,hK,fun i u hu=>?_⟩
   have hil : i < cs'.length:=(List.getElem?_eq_some_iff.1 hu).1
   have h1:=hat i (by omega)
   rw [hC] at h1
   rw [← Go.Deep.add_add,h1,hu]
theorem opens_iso {α β : Type} {P : Program} {t : TypeId} {d : Kd α} {Wf : α → Prop} {Wf' : β → Prop} {f : β → α} (ho : Opens P t d Wf) (g : α → β) (hg : ∀ a,f (g a) = a) (hw : ∀ a,Wf a → Wf' (g a)) : Opens P t (Kd.iso d f) Wf':=by
 intro H enc W spare held fuel cs x h
 obtain ⟨a,hK,hwa⟩:=ho h
 refine ⟨g a,?_,hw a hwa⟩
 show d.K W (f (g a)) cs
 rw [hg]
 exact hK
section
variable {α β γ δ : Type} {P : Program} {t : TypeId} {f0 f1 f2 f3 : Field} {d0 : Kd α} {d1 : Kd β} {d2 : Kd γ} {d3 : Kd δ} {W0 : α → Prop} {W1 : β → Prop} {W2 : γ → Prop} {W3 : δ → Prop}
theorem opens_struct2 (ht : P.underlying t = some (.struct #[f0,f1])) (hT : P.cellsOf t = d0.sz + d1.sz) (s0 : f0.offset = 0) (c0 : P.cellsOf f0.type = d0.sz) (s1 : f1.offset = d0.sz) (c1 : P.cellsOf f1.type = d1.sz)
  (o0 : Opens P f0.type d0 W0) (o1 : Opens P f1.type d1 W1) : Opens P t (Kd.pair d0 d1) (fun x=>W0 x.1 ∧ W1 x.2):=by
 intro H enc W spare held fuel cs x h
 obtain ⟨xs,n,_,_,hlen,hxl,hf⟩:=DataW.trod_struct ht h
 have h0:=hf 0 f0 rfl
 have h1:=hf 1 f1 rfl
 rw [List.getElem?_eq_getElem (show 0 < xs.length by rw [hxl];simp),s0,c0,List.drop_zero] at h0
 rw [List.getElem?_eq_getElem (show 1 < xs.length by rw [hxl];simp),s1,c1,List.take_of_length_le (by simp;omega)] at h1
 obtain ⟨a,ka,wa⟩:=o0 h0
 obtain ⟨b,kb,wb⟩:=o1 h1
 exact ⟨(a,b),⟨_,_,(List.take_append_drop d0.sz cs).symm,ka,kb⟩,wa,wb⟩
theorem opens_struct3 (ht : P.underlying t = some (.struct #[f0,f1,f2])) (hT : P.cellsOf t = d0.sz + (d1.sz + d2.sz)) (s0 : f0.offset = 0) (c0 : P.cellsOf f0.type = d0.sz) (s1 : f1.offset = d0.sz) (c1 : P.cellsOf f1.type = d1.sz)
  (s2 : f2.offset = d0.sz + d1.sz) (c2 : P.cellsOf f2.type = d2.sz) (o0 : Opens P f0.type d0 W0) (o1 : Opens P f1.type d1 W1) (o2 : Opens P f2.type d2 W2) : Opens P t (Kd.pair d0 (Kd.pair d1 d2)) (fun x=>W0 x.1 ∧ W1 x.2.1 ∧ W2 x.2.2):=by
 intro H enc W spare held fuel cs x h
 obtain ⟨xs,n,_,_,hlen,hxl,hf⟩:=DataW.trod_struct ht h
 have h0:=hf 0 f0 rfl
 have h1:=hf 1 f1 rfl
 have h2:=hf 2 f2 rfl
 rw [List.getElem?_eq_getElem (show 0 < xs.length by rw [hxl];simp),s0,c0,List.drop_zero] at h0
 rw [List.getElem?_eq_getElem (show 1 < xs.length by rw [hxl];simp),s1,c1] at h1
 rw [List.getElem?_eq_getElem (show 2 < xs.length by rw [hxl];simp),s2,c2,List.take_of_length_le (by simp;omega)] at h2
 obtain ⟨a,ka,wa⟩:=o0 h0
 obtain ⟨b,kb,wb⟩:=o1 h1
 obtain ⟨c,kc,wc⟩:=o2 h2
 refine ⟨(a,b,c),⟨_,_,(List.take_append_drop d0.sz cs).symm,ka,⟨_,_,(List.take_append_drop d1.sz (cs.drop d0.sz)).symm,kb,?_⟩⟩,wa,wb,wc⟩
 rw [List.drop_drop]
 exact kc
end
theorem opens_arg {α : Type} {P : Program} {t e : TypeId} {d : Kd α} {Wf : List α → Prop} (ho : Opens P t (Kd.slice e d) Wf) {H : Type} {enc : TypeId × Value → H} {W : World} {spare : Nat → Bool} {held : Bool} {a : Option Addr} {len cap : Nat} {dd : DataW H} {p : List MemPlace}
  (h : DataW.Trod enc P W 0 spare held t (.slice a len cap) dd p) : ∃ l : List α,len = l.length ∧ l.length ≤ cap ∧ Kd.C d W a l.length l ∧ Wf l:=by
 obtain ⟨fuel,hf⟩:=h
 obtain ⟨l,⟨A,c,he,hl,hC⟩,hw⟩:=ho hf
 simp [Value.cells] at he
 obtain ⟨rfl,rfl,rfl⟩:=he
 exact ⟨l,rfl,hl,hC,hw⟩
theorem opens_agg {α : Type} {P : Program} {t : TypeId} {fs : Array Field} {d : Kd α} {Wf : α → Prop} (ht : P.underlying t = some (.struct fs)) (hT : P.cellsOf t = d.sz) (ho : Opens P t d Wf) {H : Type} {enc : TypeId × Value → H} {W : World} {r : Reach} {b0 : Nat} {spare : Nat → Bool} {held : Bool} {v : Value} {dd : DataW H} {p : List MemPlace}
  (hv : Value.okWide P W r b0 t v) (h : DataW.Trod enc P W 0 spare held t v dd p) : ∃ x : α,(∀ cs : List Value,v.cells.toList = cs → v = .agg cs.toArray) ∧ d.K W x v.cells.toList ∧ Wf x:=by
 obtain ⟨cs,rfl,_⟩:=okWide_struct ht hv
 obtain ⟨fuel,hf⟩:=h
 obtain ⟨x,hK,hw⟩:=ho hf
 refine ⟨x,fun l hl=>?_,hK,hw⟩
 rw [← hl]
 simp [Value.cells]

set_option maxRecDepth 100000 in
theorem opens_T44 : Opens Try.prog 44 k44 W44 :=
 opens_iso (opens_struct2 Try.underlying44 (by kernel_rfl) rfl (by kernel_rfl) rfl (by kernel_rfl) (opens_int Try.underlying3) (opens_int Try.underlying3)) (fun p=>⟨p.1,p.2⟩) (fun _=>rfl) (fun _ h=>h)
set_option maxRecDepth 100000 in
theorem opens_T24 : Opens Try.prog 24 k24 W24 :=
 opens_iso (opens_struct3 Try.underlying24 (by kernel_rfl) rfl (by kernel_rfl) rfl (by kernel_rfl) rfl (by kernel_rfl) (opens_int Try.underlying3) (opens_int Try.underlying3) (opens_slice Try.underlying22 (by kernel_rfl) (opens_T44))) (fun p=>⟨p.1,p.2.1,p.2.2⟩) (fun _=>rfl) (fun _ h=>h)
end Go.Proofs.Ytbpccdbkaiigcaa.G
