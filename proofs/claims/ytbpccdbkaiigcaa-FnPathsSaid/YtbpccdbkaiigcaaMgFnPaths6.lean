/- Texts of the proof of FnPaths, joined in build order. -/
import Derived.Test.YtbpccdbkaiigcaaMgFnPaths1
import Derived.Test.YtbpccdbkaiigcaaMgFnPaths3
import Derived.Test.YtbpccdbkaiigcaaMgFnPaths4
import Derived.Test.YtbpccdbkaiigcaaMgFnPaths5
import Derived.Test.YtbpccdbkaiigcaaMgFnPaths2
import Derived.Deep.Slices
import Derived.ChangeArms
import Derived.WideShapes
import Derived.ChangeShapes
set_option maxHeartbeats 100000000
set_option maxRecDepth 100000
set_option linter.unusedVariables false
set_option linter.unusedSimpArgs false
namespace Go.Proofs.Ytbpccdbkaiigcaa.G
open Go.RowKit Go.Proofs.YtbpccdbkaiigcaaW.PrintWords Go.Proofs.YtbpccdbkaiigcaaW.PrintLast Go.Proofs.YtbpccdbkaiigcaaW.PrintMore
attribute [local go_sem] max2_int min2_int max_two min_two max_three min_three max_four min_four   -- for this text's walks alone

attribute [local go_sem high] eqA48
mutual
noncomputable def laws_FnPaths.j0:Nat → List (List (S48)) → List (S48) → Bool → Bool → Int → Int → List (S48) → Int → Int → Int → Int → Option (Bool)
 | 0,_,_,_,_,_,_,_,_,_,_,_=>none
 | k + 1,x4,x7,x8,x54,x0,x1,x2,x3,x5,x6,x9=>if x54 = true then (some false) else ((impl_ShortestPath.f x0 x1 x2 x3 x5 x6 x9).bind fun bt4=>((spec_ShortestPath.f k x0 x1 x2 x3 x5 x6 x9).bind fun bt7=>(if (bt4.2 != bt7.2) = true then (laws_FnPaths.j1 k x4 x7 x8 bt4.1 bt4.2 true x0 x1 x2 x3 x5 x6 x9) else ((laws_vPath.f k bt4.1 bt7.1).bind fun t8=>(laws_FnPaths.j1 k x4 x7 x8 bt4.1 bt4.2 (!t8) x0 x1 x2 x3 x5 x6 x9)))))
noncomputable def laws_FnPaths.j1:Nat → List (List (S48)) → List (S48) → Bool → List (S48) → Bool → Bool → Int → Int → List (S48) → Int → Int → Int → Int → Option (Bool)
 | 0,_,_,_,_,_,_,_,_,_,_,_,_,_=>none
 | k + 1,x4,x7,x8,x11,x12,x77,x0,x1,x2,x3,x5,x6,x9=>if x77 = true then (some false) else (if x12 = true then ((impl_PathLengthTo.f x0 x1 x2 x3 x5).bind fun bt10=>(if bt10.2 = true then ((impl_IsValidPath.f k x0 x1 x2 x11).bind fun t11=>(if t11 = true then (if 0 < (x11.length:Int) then (if (!(((rd_T48 x11 0).f0) == x3) || (!(((rd_T48 x11 0).f1) == x5))) = true then (some false) else (if 0 ≤ (wrap64 ((x11.length:Int) - 1)) then (if (wrap64 ((x11.length:Int) - 1)) < (x11.length:Int) then (if (!(((rd_T48 x11 (wrap64 ((x11.length:Int) - 1))).f0) == x6) || (!(((rd_T48 x11 (wrap64 ((x11.length:Int) - 1))).f1) == x9))) = true then (some false) else (if (bt10.1.length:Int) ≤ x9 then (some false) else (if 0 ≤ x9 then (if x9 < (bt10.1.length:Int) then (if ((rd_L5 bt10.1 x9).length:Int) ≤ x6 then (some false) else (if 0 ≤ x6 then (if x6 < ((rd_L5 bt10.1 x9).length:Int) then (if (rd (rd_L5 bt10.1 x9) x6) = (wrap64 ((x11.length:Int) - 1)) then (laws_FnPaths.j2 k x4 x7 x8 x11 x12 x0 x1 x2 x3 x5 x6 x9) else (some false)) else (none)) else (none))) else (none)) else (none)))) else (none)) else (none))) else (none)) else (some false))) else (some false))) else (laws_FnPaths.j2 k x4 x7 x8 x11 x12 x0 x1 x2 x3 x5 x6 x9))
noncomputable def laws_FnPaths.j2:Nat → List (List (S48)) → List (S48) → Bool → List (S48) → Bool → Int → Int → List (S48) → Int → Int → Int → Int → Option (Bool)
 | 0,_,_,_,_,_,_,_,_,_,_,_,_=>none
 | k + 1,x4,x7,x8,x11,x12,x0,x1,x2,x3,x5,x6,x9=>if x8 = true then (laws_FnPaths.l0 k x4 x7 x11 x12 0 x0 x1 x2 x3 x5 x6 x9) else (some ((x7.length:Int) == 0))
noncomputable def laws_FnPaths.l0:Nat → List (List (S48)) → List (S48) → List (S48) → Bool → Int → Int → Int → List (S48) → Int → Int → Int → Int → Option (Bool)
 | 0,_,_,_,_,_,_,_,_,_,_,_,_=>none
 | k + 1,x4,x7,x11,x12,x17,x0,x1,x2,x3,x5,x6,x9=>if x17 < (x4.length:Int) then (if 0 ≤ x17 then ((impl_FirstCollision.f k x0 x1 x2 x7 (rd_L6 x4 x17)).bind fun bt12=>(if bt12.2.2 = true then (if bt12.2.1 = true then (some false) else (laws_FnPaths.l0 k x4 x7 x11 x12 (wrap64 (x17 + 1)) x0 x1 x2 x3 x5 x6 x9)) else (some false))) else (none)) else (if x12 = true then ((impl_IsValidPath.f k x0 x1 x2 x7).bind fun t13=>(if t13 = true then (if 0 < (x7.length:Int) then (if (((rd_T48 x7 0).f0) == x3 && (((rd_T48 x7 0).f1) == x5)) = true then (if 0 ≤ (wrap64 ((x7.length:Int) - 1)) then (if (wrap64 ((x7.length:Int) - 1)) < (x7.length:Int) then (if (((rd_T48 x7 (wrap64 ((x7.length:Int) - 1))).f0) == x6 && (((rd_T48 x7 (wrap64 ((x7.length:Int) - 1))).f1) == x9)) = true then (some (decide ((x7.length:Int) ≥ (x11.length:Int)))) else (some false)) else (none)) else (none)) else (some false)) else (none)) else (some false))) else (some false))
end
noncomputable def laws_FnPaths.f (k:Nat) (l0:List Int):Option (Bool):=(laws_vBig.f l0).bind fun t0=>(if t0 = true then (some true) else ((spec_DrawSafePath.f k l0).bind fun bt1=>((impl_SafePath.f bt1.1 bt1.2.1 bt1.2.2.1 bt1.2.2.2.1 bt1.2.2.2.2.1 bt1.2.2.2.2.2.1 bt1.2.2.2.2.2.2.1 bt1.2.2.2.2.2.2.2).bind fun bt2=>((spec_SafePath.f k bt1.1 bt1.2.1 bt1.2.2.1 bt1.2.2.2.1 bt1.2.2.2.2.1 bt1.2.2.2.2.2.1 bt1.2.2.2.2.2.2.1 bt1.2.2.2.2.2.2.2).bind fun bt3=>(if (bt2.2 != bt3.2) = true then (laws_FnPaths.j0 k bt1.2.2.2.1 bt2.1 bt2.2 true bt1.1 bt1.2.1 bt1.2.2.1 bt1.2.2.2.2.1 bt1.2.2.2.2.2.1 bt1.2.2.2.2.2.2.1 bt1.2.2.2.2.2.2.2) else ((laws_vPath.f k bt2.1 bt3.1).bind fun t4=>(laws_FnPaths.j0 k bt1.2.2.2.1 bt2.1 bt2.2 (!t4) bt1.1 bt1.2.1 bt1.2.2.1 bt1.2.2.2.2.1 bt1.2.2.2.2.2.1 bt1.2.2.2.2.2.2.1 bt1.2.2.2.2.2.2.2)))))))
def laws_FnPaths.T14:Bool × List (List Nat × List Nat):=(true,[([],[]),([0],[0]),([1],[1]),([2],[2]),([2],[2]),([3,4,2,2],[2,3,4]),([5,2],[2,5]),([2,6],[2,6]),([7,5],[7]),([8],[8]),([9,8],[8,9]),([10,8],[8,10]),([8],[8]),([11,12,8],[8,11,12]),([8,13],[8,13]),([14,8],[14]),([15],[15]),([15],[15]),([17,15],[15,17]),([18,15],[15,18]),([16,19,15],[15,16,19]),([20,15],[15,20]),([15],[15]),([21,22,15],[15,21,22]),([15,23],[15,23]),([24,15],[24]),([25],[25]),([26,25],[25,26]),([25],[25]),([28,25],[25,28]),([27,29,25],[25,27,29]),([25,30],[25,30]),([31,25],[31]),([32],[32]),([32],[32]),([34,32],[32,34]),([33,35,32],[32,33,35]),([36,32],[32,36]),([37,32],[32,37]),([32],[32]),([39,32],[32,39]),([38,40,32],[32,38,40]),([32,41],[32,41]),([42,32],[42]),([43],[43]),([43],[43]),([45,43],[43,45]),([44,46,43],[43,44,46]),([47,43],[43,47]),([43],[43]),([49,43],[43,49]),([48,50,43],[43,48,50]),([51,43],[43,51]),([43],[43]),([53,43],[43,53]),([54,43],[43,54]),([52,55,43],[43,52,55]),([43,56],[43,56])])
def laws_FnPaths.B14:List Nat:=[0,1,3,7,7,31,63,127,255,511,1023,2047,511,8191,16383,32767,65535,65535,196607,458751,1048575,2097151,65535,8388607,16777215,33554431,67108863,134217727,67108863,335544319,1073741823,2147483647,4294967295,8589934591,8589934591,25769803775,68719476735,137438953471,274877906943,8589934591,558345748479,2199023255551,4398046511103,8796093022207,17592186044415,17592186044415,52776558133247,140737488355327,281474976710655,17592186044415,580542139465727,2251799813685247,4503599627370495,17592186044415,9024791440785407,27039189950267391,72057594037927935,144115188075855871]
theorem laws_FnPaths.tab14:rtab .any (opsOf Try.f11 14) = laws_FnPaths.T14:=by kernel_rfl
theorem laws_FnPaths.bits14:waitsOk laws_FnPaths.T14.2 laws_FnPaths.B14 = true:=by kernel_rfl
def laws_FnPaths.T21:Bool × List (List Nat × List Nat):=(true,[([],[]),([],[]),([],[]),([],[]),([2,3],[2,3]),([4],[4]),([0,1,5],[0,1,5]),([6],[6]),([7],[7]),([7],[7]),([7],[7]),([8,6,0,1,2,3,4,5,6,7,8],[8]),([9,11,0,1,2,3,4,5,6,7,8,9,11],[9]),([10,12,0,1,2,3,4,5,6,7,8,9,10,11,12],[10])])
def laws_FnPaths.B21:List Nat:=[0,0,0,0,12,28,63,127,255,255,255,511,3071,8191]
theorem laws_FnPaths.tab21:rtab .any (opsOf Try.f11 21) = laws_FnPaths.T21:=by kernel_rfl
theorem laws_FnPaths.bits21:waitsOk laws_FnPaths.T21.2 laws_FnPaths.B21 = true:=by kernel_rfl
def laws_FnPaths.T24:Bool × List (List Nat × List Nat):=(true,[([],[]),([0],[0]),([1],[1]),([1],[1]),([2,3,1,1],[1,2,3]),([1,4],[1,4]),([5,4],[5]),([6],[6]),([7,6],[6,7]),([8,6],[6,8]),([6],[6]),([9,10,6],[6,9,10]),([6,11],[6,11]),([12,6],[12]),([13],[13]),([13],[13]),([15,13],[13,15]),([16,13],[13,16]),([14,17,13],[13,14,17]),([18,13],[13,18]),([13],[13]),([19,20,13],[13,19,20]),([13,21],[13,21]),([22,13],[22]),([23],[23]),([24,23],[23,24]),([23],[23]),([26,23],[23,26]),([25,27,23],[23,25,27]),([23,28],[23,28]),([29,23,0,1,2,3,4,5,6,7,8,9,10,11,12,13,14,15,16,17,18,19,20,21,22,23,24,25,26,27,28,29],[29])])
def laws_FnPaths.B24:List Nat:=[0,1,3,3,15,31,63,127,255,511,127,2047,4095,8191,16383,16383,49151,114687,262143,524287,16383,2097151,4194303,8388607,16777215,33554431,16777215,83886079,268435455,536870911,1073741823]
theorem laws_FnPaths.tab24:rtab .any (opsOf Try.f11 24) = laws_FnPaths.T24:=by kernel_rfl
theorem laws_FnPaths.bits24:waitsOk laws_FnPaths.T24.2 laws_FnPaths.B24 = true:=by kernel_rfl
theorem laws_FnPaths.calls (k:Nat) (A0:Option Addr) (c0:Nat) (l0:List Int) (r:Bool) (w:World) (hr0:Kd.C (Kd.int .u8) w A0 l0.length l0) (hc0:l0.length ≤ c0) (h:laws_FnPaths.f k l0 = some r) (hT:r = true) :
  Calls Try.prog 11 #[.slice A0 l0.length c0] w fun e w'=>e = .returned (.bool r) ∧ Below w.heap.size w w':=by
 have HRT:=zM hT;clear hT;have hu29:=Try.underlying29;have hu48:=Try.underlying48;have HR0:=zM hr0;have HC0:=zM hc0;clear hr0 hc0;have HB:=zM (Below.refl w.heap.size w);have H:((laws_vBig.f l0).bind fun t0=>(if t0 = true then (some true) else ((spec_DrawSafePath.f k l0).bind fun bt1=>((impl_SafePath.f bt1.1 bt1.2.1 bt1.2.2.1 bt1.2.2.2.1 bt1.2.2.2.2.1 bt1.2.2.2.2.2.1 bt1.2.2.2.2.2.2.1 bt1.2.2.2.2.2.2.2).bind fun bt2=>((spec_SafePath.f k bt1.1 bt1.2.1 bt1.2.2.1 bt1.2.2.2.1 bt1.2.2.2.2.1 bt1.2.2.2.2.2.1 bt1.2.2.2.2.2.2.1 bt1.2.2.2.2.2.2.2).bind fun bt3=>(if (bt2.2 != bt3.2) = true then (laws_FnPaths.j0 k bt1.2.2.2.1 bt2.1 bt2.2 true bt1.1 bt1.2.1 bt1.2.2.1 bt1.2.2.2.2.1 bt1.2.2.2.2.2.1 bt1.2.2.2.2.2.2.1 bt1.2.2.2.2.2.2.2) else ((laws_vPath.f k bt2.1 bt3.1).bind fun t4=>(laws_FnPaths.j0 k bt1.2.2.2.1 bt2.1 bt2.2 (!t4) bt1.1 bt1.2.1 bt1.2.2.1 bt1.2.2.2.2.1 bt1.2.2.2.2.2.1 bt1.2.2.2.2.2.2.1 bt1.2.2.2.2.2.2.2)))))))) = some r:=h;clear h;replace H:=Option.bind_eq_some_iff.mp H;obtain ⟨t0,A20,H⟩:=H;replace H:(if t0 = true then (some true) else ((spec_DrawSafePath.f k l0).bind fun bt1=>((impl_SafePath.f bt1.1 bt1.2.1 bt1.2.2.1 bt1.2.2.2.1 bt1.2.2.2.2.1 bt1.2.2.2.2.2.1 bt1.2.2.2.2.2.2.1 bt1.2.2.2.2.2.2.2).bind fun bt2=>((spec_SafePath.f k bt1.1 bt1.2.1 bt1.2.2.1 bt1.2.2.2.1 bt1.2.2.2.2.1 bt1.2.2.2.2.2.1 bt1.2.2.2.2.2.2.1 bt1.2.2.2.2.2.2.2).bind fun bt3=>(if (bt2.2 != bt3.2) = true then (laws_FnPaths.j0 k bt1.2.2.2.1 bt2.1 bt2.2 true bt1.1 bt1.2.1 bt1.2.2.1 bt1.2.2.2.2.1 bt1.2.2.2.2.2.1 bt1.2.2.2.2.2.2.1 bt1.2.2.2.2.2.2.2) else ((laws_vPath.f k bt2.1 bt3.1).bind fun t4=>(laws_FnPaths.j0 k bt1.2.2.2.1 bt2.1 bt2.2 (!t4) bt1.1 bt1.2.1 bt1.2.2.1 bt1.2.2.2.2.1 bt1.2.2.2.2.2.1 bt1.2.2.2.2.2.2.1 bt1.2.2.2.2.2.2.2))))))) = some r:=H
 have A2:=zM A20;clear A20;by_cases c3:t0 = true
 ·
  subst c3;have H1:(some true) = some r:=by rw [if_pos rfl] at H;exact H
  clear H;have H:=H1;clear H1;obtain rfl:=Option.some.inj H;go_enter Try.func11,Try.ntmps11;go_wp2_with (first|((with_reducible refine gate_callee (f:=47) rfl ?_);refine goesL_ (some 22) rfl rfl Try.func47 (by kernel_rfl) rfl #[.slice A0 l0.length c0] rfl zq77 ?_;(with_reducible refine (laws_vBig.calls _ _ l0 true _ ?side1 ?side2 A2.out).mono ?_);(case side1=>repeat (first|exact HR0.out|(with_reducible first|refine zG ?_ _|refine zH ?_ _|refine zI ?_)));(case side2=>exact HC0.out);rintro e w' ⟨rfl,⟨nd,rfl⟩⟩;refine ⟨_,rfl,?_⟩));go_ret;exact ⟨zq84,zzh⟩
 ·
  (replace c3:=Bool.eq_false_iff.mpr c3;subst c3;have H1:((spec_DrawSafePath.f k l0).bind fun bt1=>((impl_SafePath.f bt1.1 bt1.2.1 bt1.2.2.1 bt1.2.2.2.1 bt1.2.2.2.2.1 bt1.2.2.2.2.2.1 bt1.2.2.2.2.2.2.1 bt1.2.2.2.2.2.2.2).bind fun bt2=>((spec_SafePath.f k bt1.1 bt1.2.1 bt1.2.2.1 bt1.2.2.2.1 bt1.2.2.2.2.1 bt1.2.2.2.2.2.1 bt1.2.2.2.2.2.2.1 bt1.2.2.2.2.2.2.2).bind fun bt3=>(if (bt2.2 != bt3.2) = true then (laws_FnPaths.j0 k bt1.2.2.2.1 bt2.1 bt2.2 true bt1.1 bt1.2.1 bt1.2.2.1 bt1.2.2.2.2.1 bt1.2.2.2.2.2.1 bt1.2.2.2.2.2.2.1 bt1.2.2.2.2.2.2.2) else ((laws_vPath.f k bt2.1 bt3.1).bind fun t4=>(laws_FnPaths.j0 k bt1.2.2.2.1 bt2.1 bt2.2 (!t4) bt1.1 bt1.2.1 bt1.2.2.1 bt1.2.2.2.2.1 bt1.2.2.2.2.2.1 bt1.2.2.2.2.2.2.1 bt1.2.2.2.2.2.2.2)))))) = some r:=by rw [if_neg (show ¬ (false = true) by decide)] at H;exact H);clear H;have H:=H1;clear H1;replace H:=Option.bind_eq_some_iff.mp H;obtain ⟨⟨t1,t5,t6,t7,t8,t9,t10,t11⟩,A40,H⟩:=H;replace H:((impl_SafePath.f t1 t5 t6 t7 t8 t9 t10 t11).bind fun bt2=>((spec_SafePath.f k t1 t5 t6 t7 t8 t9 t10 t11).bind fun bt3=>(if (bt2.2 != bt3.2) = true then (laws_FnPaths.j0 k t7 bt2.1 bt2.2 true t1 t5 t6 t8 t9 t10 t11) else ((laws_vPath.f k bt2.1 bt3.1).bind fun t4=>(laws_FnPaths.j0 k t7 bt2.1 bt2.2 (!t4) t1 t5 t6 t8 t9 t10 t11))))) = some r:=H;have A4:=zM A40;clear A40;replace H:=Option.bind_eq_some_iff.mp H;obtain ⟨⟨t2,t12⟩,A50,H⟩:=H;replace H:((spec_SafePath.f k t1 t5 t6 t7 t8 t9 t10 t11).bind fun bt3=>(if (t12 != bt3.2) = true then (laws_FnPaths.j0 k t7 t2 t12 true t1 t5 t6 t8 t9 t10 t11) else ((laws_vPath.f k t2 bt3.1).bind fun t4=>(laws_FnPaths.j0 k t7 t2 t12 (!t4) t1 t5 t6 t8 t9 t10 t11)))) = some r:=H
  have A5:=zM A50;clear A50;replace H:=Option.bind_eq_some_iff.mp H;obtain ⟨⟨t3,t13⟩,A60,H⟩:=H;replace H:(if (t12 != t13) = true then (laws_FnPaths.j0 k t7 t2 t12 true t1 t5 t6 t8 t9 t10 t11) else ((laws_vPath.f k t2 t3).bind fun t4=>(laws_FnPaths.j0 k t7 t2 t12 (!t4) t1 t5 t6 t8 t9 t10 t11))) = some r:=H;have A6:=zM A60;clear A60;have HC7:=zM H;clear H;go_enter Try.func11,Try.ntmps11;go_upto_region 6 with (first|((with_reducible refine gate_callee (f:=47) rfl ?_);refine goesL_ (some 22) rfl rfl Try.func47 (by kernel_rfl) rfl #[.slice A0 l0.length c0] rfl zq77 ?_;(with_reducible refine (laws_vBig.calls _ _ l0 false _ ?side1 ?side2 A2.out).mono ?_);(case side1=>repeat (first|exact HR0.out|(with_reducible first|refine zG ?_ _|refine zH ?_ _|refine zI ?_)));(case side2=>exact HC0.out);rintro e w' ⟨rfl,⟨nd,rfl⟩⟩;refine ⟨_,rfl,?_⟩)|((with_reducible refine gate_callee (f:=48) rfl ?_);refine goesL_ (some 25) rfl rfl Try.func48 (by kernel_rfl) rfl #[.slice A0 l0.length c0] rfl zq77 ?_;(with_reducible refine (spec_DrawSafePath.calls k _ _ l0 t1 t5 t6 t7 t8 t9 t10 t11 _ ?side1 ?side2 A4.out).mono ?_);(case side1=>repeat (first|exact HR0.out|(with_reducible first|refine zG ?_ _|refine zH ?_ _|refine zI ?_)));(case side2=>exact HC0.out);rintro e w8 ⟨v14,v15,rfl,ho0,ho1,hb⟩;refine ⟨_,rfl,?_⟩;have HO16:= zM (Kd.R_lower ho0 (zR zzh));have HO17:= zM (Kd.S_lower ho1 (zR zzh));replace HB:= zM (zQ zzh hb);(try clear hb);(try clear hb2);(try clear hk);(try clear hi);(try clear ho0);(try clear ho1))|((with_reducible refine gate_dst (N:=3) rfl ?_);(try (refine gate_guard (by rfl) ?_;dsimp only));refine zzc 3 #[.int .i64 0,.int .i64 0,.slice none 0 0] 29 ?_;intro gb18 hg w9 hbox hb;replace HO16:= zM (zP (zzl HO16) hb);replace HO17:= zM (Kd.S_below (zzj HO17) hb);have BK18:= zM (hbox);have GW18:= zM ((zq94:w.heap.size ≤ gb18));have GE18:= zM ((zq94:w.heap.size ≤ gb18));replace HB:= zM (zQ zzh hb);clear hb hbox hg)|((with_reducible refine gate_dst (N:=5) rfl ?_);(try (refine gate_guard (by rfl) ?_;dsimp only));refine zzc 5 #[.int .i64 0,.int .i64 0] 48 ?_;intro gb19 hg w10 hbox hb;replace HO16:= zM (zP (Kd.R_elderB (zzl HO16) gb19 (Nat.le_of_eq hg.symm)) hb);replace HO17:= zM (Kd.S_below (Kd.S_elderB (zzj HO17) gb19 (Nat.le_of_eq hg.symm)) hb);have BK19:= zM (hbox);have GW19:= zM ((zq94:w.heap.size ≤ gb19));have GE19:= zM ((zq94:w.heap.size ≤ gb19));replace HB:= zM (zQ zzh hb);have NB18_19:= zM ((zzm hg (zzi BK18):gb18 ≠ gb19));have NB19_18:= zM ((zzM hg (zzi BK18):gb19 ≠ gb18));replace BK18:= zM (blk_below (zzi BK18) hb);clear hb hbox hg)|((with_reducible refine gate_dst (N:=6) rfl ?_);(try (refine gate_guard (by rfl) ?_;dsimp only));refine zzc 6 #[.int .i64 0,.int .i64 0] 48 ?_;intro gb20 hg w11 hbox hb;replace HO16:= zM (zP (Kd.R_elderB (zzl HO16) gb20 (Nat.le_of_eq hg.symm)) hb);replace HO17:= zM (Kd.S_below (Kd.S_elderB (zzj HO17) gb20 (Nat.le_of_eq hg.symm)) hb);have BK20:= zM (hbox);have GW20:= zM ((zq94:w.heap.size ≤ gb20));have GE20:= zM ((zq94:w.heap.size ≤ gb20));replace HB:= zM (zQ zzh hb);have NB18_20:= zM ((zzm hg (zzi BK18):gb18 ≠ gb20));have NB20_18:= zM ((zzM hg (zzi BK18):gb20 ≠ gb18));replace BK18:= zM (blk_below (zzi BK18) hb);have NB19_20:= zM ((zzm hg (zzi BK19):gb19 ≠ gb20));have NB20_19:= zM ((zzM hg (zzi BK19):gb20 ≠ gb19));replace BK19:= zM (blk_below (zzi BK19) hb);clear hb hbox hg;have hnb12:=NB18_19.out;have hnc12:=NB19_18.out;have hnb13:=NB18_20.out;have hnc13:=NB20_18.out;have hcz14_0:=zz0 BK18;have hcz14_1:=zz1 BK18;have hcz14_2:=zz2 BK18;have hfz14_0:=blk_frozen BK18.out 0;have hfz14_1:=blk_frozen BK18.out 1;have hfz14_2:=blk_frozen BK18.out 2;obtain ⟨Ao15,co15,eo15⟩:=Kd.R_slice HO16.out;subst eo15;have hnb16:=NB19_20.out;have hnc16:=NB20_19.out;have hcz17_0:=zz0 BK19;have hcz17_1:=zz1 BK19;have hfz17_0:=blk_frozen BK19.out 0;have hfz17_1:=blk_frozen BK19.out 1;have hcz18_0:=zz0 BK20;have hcz18_1:=zz1 BK20;have hfz18_0:=blk_frozen BK20.out 0;have hfz18_1:=blk_frozen BK20.out 1;obtain ⟨Ao19,co19,eo19⟩:=Kd.S_slice HO17.out;subst eo19)|((with_reducible refine gate_callee (f:=41) rfl ?_);refine goesL_ (some 35) rfl rfl Try.func41 (by kernel_rfl) rfl #[.agg #[.int .i64 t1,.int .i64 t5,.slice Ao15 t6.length co15],.slice Ao19 t7.length co19,.agg #[.int .i64 t8,.int .i64 t9],.agg #[.int .i64 t10,.int .i64 t11]] rfl zq77 ?_;(with_reducible refine (impl_SafePath.calls t1 t5 _ _ t6 _ _ t7 t8 t9 t10 t11 t2 t12 _ ?side1 ?side2 ?side3 ?side4 A5.out).mono ?_);(case side1=>refine (zN (e:=48) (base:=w.heap.size) (ok:=fun k_=>((True ∧ k_ ≠ gb19) ∧ k_ ≠ gb20)) (n:=t6.length) (c:=co15) ?_).2.2;exact zq3);(case side2=>exact (zN HO16.out).2.1);(case side3=>refine (Kd.S_reads' (e:=27) (base:=w.heap.size) (ok:=fun k_=>((some k_ ≠ (.slice Ao15 t6.length co15:Value).ownBlock ∧ k_ ≠ gb19) ∧ k_ ≠ gb20)) (n:=t7.length) (c:=co19) ?_).2.2;exact zq2);(case side4=>exact (Kd.S_reads' HO17.out).2.1);rintro e w20 ⟨v21,rfl,ho0,hb⟩;refine ⟨_,rfl,?_⟩;replace HO17:= zM (Kd.S_elder' zq2 (Kd.R_base ho0) hb);have HO22:= zM (Kd.R_lower (Kd.R_newB (Kd.R_newB (Kd.R_new' ho0 (Kd.R_lt zq3)) (g:=gb19) (o := .cells #[.int .i64 t8,.int .i64 t9] 48 (0,0)) zq1) (g:=gb20) (o := .cells #[.int .i64 t10,.int .i64 t11] 48 (0,0)) zq0) (zR zzh));replace HO16:= zM (Kd.R_elder' zq3 (Kd.R_base ho0) hb);replace BK18:= zM (blk_below (g:=gb18) (o := .cells #[.int .i64 t1,.int .i64 t5,.slice Ao15 t6.length co15] 29 (0,0)) (by (with_reducible repeat (first|refine zJ ?_ _|refine zK ?_|refine zL ?_ _));refine blk_far ?_ NB18_20.out _;(with_reducible repeat (first|refine zJ ?_ _|refine zK ?_|refine zL ?_ _));refine blk_far ?_ NB18_20.out _;(with_reducible repeat (first|refine zJ ?_ _|refine zK ?_|refine zL ?_ _));refine blk_far ?_ NB18_19.out _;(with_reducible repeat (first|refine zJ ?_ _|refine zK ?_|refine zL ?_ _));refine blk_far ?_ NB18_19.out _;(with_reducible repeat (first|refine zJ ?_ _|refine zK ?_|refine zL ?_ _));refine blk_put (cs := #[.int .i64 t1,.int .i64 t5,.slice none 0 0]) ?_ 2 _ rfl;(with_reducible repeat (first|refine zJ ?_ _|refine zK ?_|refine zL ?_ _));refine blk_put (cs := #[.int .i64 t1,.int .i64 0,.slice none 0 0]) ?_ 1 _ rfl;(with_reducible repeat (first|refine zJ ?_ _|refine zK ?_|refine zL ?_ _));refine blk_put (cs := #[.int .i64 0,.int .i64 0,.slice none 0 0]) ?_ 0 _ rfl;(with_reducible repeat (first|refine zJ ?_ _|refine zK ?_|refine zL ?_ _));exact BK18.out) hb);replace BK19:= zM (blk_below (g:=gb19) (o := .cells #[.int .i64 t8,.int .i64 t9] 48 (0,0)) zq1 hb);replace BK20:= zM (blk_below (g:=gb20) (o := .cells #[.int .i64 t10,.int .i64 t11] 48 (0,0)) zq0 hb);replace HB:= zM (zQ zzh hb);(try clear hb);(try clear hb2);(try clear hk);(try clear hi);(try clear ho0);have hcz21_0:=zz0 BK18;have hcz21_1:=zz1 BK18;have hcz21_2:=zz2 BK18;have hfz21_0:=blk_frozen BK18.out 0;have hfz21_1:=blk_frozen BK18.out 1;have hfz21_2:=blk_frozen BK18.out 2;have hcz22_0:=zz0 BK19;have hcz22_1:=zz1 BK19;have hfz22_0:=blk_frozen BK19.out 0;have hfz22_1:=blk_frozen BK19.out 1;have hcz23_0:=zz0 BK20;have hcz23_1:=zz1 BK20;have hfz23_0:=blk_frozen BK20.out 0;have hfz23_1:=blk_frozen BK20.out 1)|((with_reducible refine gate_callee (f:=39) rfl ?_);refine goesL_ (some 43) rfl rfl Try.func39 (by kernel_rfl) rfl #[.agg #[.int .i64 t1,.int .i64 t5,.slice Ao15 t6.length co15],.slice Ao19 t7.length co19,.agg #[.int .i64 t8,.int .i64 t9],.agg #[.int .i64 t10,.int .i64 t11]] rfl zq77 ?_;(with_reducible refine (spec_SafePath.calls k t1 t5 _ _ t6 _ _ t7 t8 t9 t10 t11 t3 t13 _ ?side1 ?side2 ?side3 ?side4 A6.out).mono ?_);(case side1=>repeat (first|exact (zN HO16.out).2.2|(with_reducible first|refine zG ?_ _|refine zH ?_ _|refine zI ?_)));(case side2=>exact (zN HO16.out).2.1);(case side3=>repeat (first|exact (Kd.S_reads' HO17.out).2.2|(with_reducible first|refine zG ?_ _|refine zH ?_ _|refine zI ?_)));(case side4=>exact (Kd.S_reads' HO17.out).2.1);rintro e w24 ⟨v23,rfl,ho0,hb⟩;refine ⟨_,rfl,?_⟩;replace HO17:= zM (Kd.S_elder' (zzj HO17) (Kd.R_base ho0) hb);have HO24:= zM (Kd.R_lower (Kd.R_newB (Kd.R_newB (Kd.R_new' (Kd.R_new' ho0 (Kd.R_lt (zzl HO16))) (Kd.R_lt (zzl HO22))) (g:=gb19) (o := .cells #[.int .i64 t8,.int .i64 t9] 48 (0,0)) (zzi BK19)) (g:=gb20) (o := .cells #[.int .i64 t10,.int .i64 t11] 48 (0,0)) (zzi BK20)) (zR zzh));replace HO16:= zM (Kd.R_elder' (zzl HO16) (Kd.R_base ho0) hb);replace HO22:= zM (Kd.R_elder' (zzl HO22) (Kd.R_base ho0) hb);replace BK18:= zM (blk_below (zzi BK18) hb);replace BK19:= zM (blk_below (zzi BK19) hb);replace BK20:= zM (blk_below (zzi BK20) hb);replace HB:= zM (zQ zzh hb);(try clear hb);(try clear hb2);(try clear hk);(try clear hi);(try clear ho0)))
  (try simp only [Act.put,zT,zU,zV]);go_cut [54] (fun v54 wc => ∃ (kq:Nat) (x54_6:Bool),v54 = .bool x54_6 ∧ Aside0 (laws_FnPaths.j0 kq t7 t2 t12 x54_6 t1 t5 t6 t8 t9 t10 t11 = some r) ∧ Aside0 (kq ≤ k) ∧ Aside0 (Kd.S (Kd.slice 48 k48) 27 wc w.heap.size (fun k_=>some k_ ≠ (v21:Value).ownBlock ∧ some k_ ≠ ((.slice Ao15 t6.length co15):Value).ownBlock ∧ k_ ≠ gb19 ∧ k_ ≠ gb20) (.slice Ao19 t7.length co19) t7) ∧ Aside0 (Kd.R k48 48 wc w.heap.size (fun k_=>some k_ ≠ ((.slice Ao15 t6.length co15):Value).ownBlock ∧ k_ ≠ gb19 ∧ k_ ≠ gb20) v21 t2) ∧ Aside0 (Kd.R k48 48 wc w.heap.size (fun k_=>some k_ ≠ (v21:Value).ownBlock ∧ k_ ≠ gb19 ∧ k_ ≠ gb20) (.slice Ao15 t6.length co15) t6) ∧ Aside0 (wc.heap[gb18]? = some (.cells #[.int .i64 t1,.int .i64 t5,(.slice Ao15 t6.length co15)] 29 (0,0))) ∧ Aside0 (wc.heap[gb19]? = some (.cells #[.int .i64 t8,.int .i64 t9] 48 (0,0))) ∧ Aside0 (wc.heap[gb20]? = some (.cells #[.int .i64 t10,.int .i64 t11] 48 (0,0))) ∧ Aside0 (Below w.heap.size w wc))
  case first =>
   have H:=HC7.out;clear HC7;by_cases c25:(t12 != t13) = true
   ·
    rw [if_pos c25] at H;have c25b0:(t12 != t13) = true:=c25;(try (have c25b1:decide (t12 = t13) = false:=by simpa using c25));(try (have c25b2:(t12 == t13) = false:=by simpa using c25));(try (have c25b3:¬ (t12 = t13):=by simpa using c25));clear c25;(first|rw [c25b0]|(simp only [i64_w,i32_w];rw [c25b0])|skip);have H':=zM H;clear H;go_wp2;go_meet
    case rel=>exact ⟨_,(true),zq91,H',⟨zq93⟩,⟨zq62⟩,⟨zq78⟩,⟨zq79⟩,⟨zzi BK18⟩,⟨zzi BK19⟩,⟨zzi BK20⟩,⟨zzh⟩⟩
   ·
    (rw [if_neg c25] at H;have c25b0:(t12 != t13) = false:=by simpa using c25);(try (have c25b1:decide (t12 = t13) = true:=by simpa using c25));(try (have c25b2:(t12 == t13) = true:=by simpa using c25));clear c25;(first|rw [c25b0]|(simp only [i64_w,i32_w];rw [c25b0])|skip);replace H:=Option.bind_eq_some_iff.mp H;obtain ⟨t4,A25,H⟩:=H;replace H:(laws_FnPaths.j0 k t7 t2 t12 (!t4) t1 t5 t6 t8 t9 t10 t11) = some r:=H;have A26:=zM A25;clear A25;have H':=zM H;clear H;obtain ⟨Ao27,co27,eo27⟩:=Kd.R_slice HO22.out;subst eo27;obtain ⟨Ao28,co28,eo28⟩:=Kd.R_slice HO24.out;subst eo28;go_wp2_with (first|(go_at_call 49;(with_reducible refine (laws_vPath.calls k _ _ t2 _ _ t3 t4 _ ?side1 ?side2 ?side3 ?side4 A26.out).mono ?_);(case side1=>repeat (first|exact (zN HO22.out).2.2|(with_reducible first|refine zG ?_ _|refine zH ?_ _|refine zI ?_)));(case side2=>exact (zN HO22.out).2.1);(case side3=>repeat (first|exact (zN HO24.out).2.2|(with_reducible first|refine zG ?_ _|refine zH ?_ _|refine zI ?_)));(case side4=>exact (zN HO24.out).2.1);rintro e w' ⟨rfl,⟨nd,rfl⟩⟩));go_meet
    case rel=>exact ⟨_,(!t4),zq91,H',⟨zq93⟩,⟨zq62⟩,⟨zq78⟩,⟨zq79⟩,⟨zzi BK18⟩,⟨zzi BK19⟩,⟨zzi BK20⟩,⟨zzh⟩⟩
  case rest =>
   clear HC7;(try clear c1);(try clear c2);(try clear p2);(try clear c3);(try clear c4);(try clear c11);(try clear c12);(try clear c13);(try clear c16);(try clear c25);(try clear c25b0);(try clear c25b1);(try clear c25b2);(try clear hcz14_0);(try clear hcz14_1);(try clear hcz14_2);(try clear hcz17_0);(try clear hcz17_1);(try clear hcz18_0);(try clear hcz18_1);(try clear hcz21_0);(try clear hcz21_1);(try clear hcz21_2);(try clear hcz22_0);(try clear hcz22_1);(try clear hcz23_0);(try clear hcz23_1);(try clear hfz14_0);(try clear hfz14_1);(try clear hfz14_2);(try clear hfz17_0);(try clear hfz17_1);(try clear hfz18_0);(try clear hfz18_1);(try clear hfz21_0);(try clear hfz21_1);(try clear hfz21_2);(try clear hfz22_0);(try clear hfz22_1);(try clear hfz23_0);(try clear hfz23_1);obtain ⟨kq,x54_6,rfl,HA,HJ6,HO_4,HO_7,HO_26,BK18,BK19,BK20,HB⟩:=hcut;cases kq with
   | zero=>exact absurd HA.out (by simp [laws_FnPaths.j0])
   | succ kj6 =>
    have H:=HA.out;clear HA;simp only [laws_FnPaths.j0] at H;by_cases c29:x54_6 = true
    ·
     subst c29;have H1:(some false) = some r:=by rw [if_pos rfl] at H;exact H
     clear H;have H:=H1;clear H1;exact absurd ((Option.some.inj H).trans HRT.out) Bool.false_ne_true
    ·
     (replace c29:=Bool.eq_false_iff.mpr c29;subst c29;have H1:((impl_ShortestPath.f t1 t5 t6 t8 t9 t10 t11).bind fun bt27=>((spec_ShortestPath.f kj6 t1 t5 t6 t8 t9 t10 t11).bind fun bt28=>(if (bt27.2 != bt28.2) = true then (laws_FnPaths.j1 kj6 t7 t2 t12 bt27.1 bt27.2 true t1 t5 t6 t8 t9 t10 t11) else ((laws_vPath.f kj6 bt27.1 bt28.1).bind fun t29=>(laws_FnPaths.j1 kj6 t7 t2 t12 bt27.1 bt27.2 (!t29) t1 t5 t6 t8 t9 t10 t11))))) = some r:=by rw [if_neg (show ¬ (false = true) by decide)] at H;exact H);clear H;have H:=H1;clear H1;replace H:=Option.bind_eq_some_iff.mp H;obtain ⟨⟨t27,t30⟩,A32,H⟩:=H;replace H:((spec_ShortestPath.f kj6 t1 t5 t6 t8 t9 t10 t11).bind fun bt28=>(if (t30 != bt28.2) = true then (laws_FnPaths.j1 kj6 t7 t2 t12 t27 t30 true t1 t5 t6 t8 t9 t10 t11) else ((laws_vPath.f kj6 t27 bt28.1).bind fun t29=>(laws_FnPaths.j1 kj6 t7 t2 t12 t27 t30 (!t29) t1 t5 t6 t8 t9 t10 t11)))) = some r:=H;have A30:=zM A32;clear A32;replace H:=Option.bind_eq_some_iff.mp H;obtain ⟨⟨t28,t31⟩,A33,H⟩:=H;replace H:(if (t30 != t31) = true then (laws_FnPaths.j1 kj6 t7 t2 t12 t27 t30 true t1 t5 t6 t8 t9 t10 t11) else ((laws_vPath.f kj6 t27 t28).bind fun t29=>(laws_FnPaths.j1 kj6 t7 t2 t12 t27 t30 (!t29) t1 t5 t6 t8 t9 t10 t11))) = some r:=H;have A31:=zM A33;clear A33;have HC32:=zM H;clear H;have hnb33:=NB18_19.out;have hnc33:=NB19_18.out;have hnb34:=NB18_20.out;have hnc34:=NB20_18.out;have hcz35_0:=zz0 BK18;have hcz35_1:=zz1 BK18;have hcz35_2:=zz2 BK18;have hfz35_0:=blk_frozen BK18.out 0;have hfz35_1:=blk_frozen BK18.out 1;have hfz35_2:=blk_frozen BK18.out 2;have hnb36:=NB19_20.out;have hnc36:=NB20_19.out;have hcz37_0:=zz0 BK19
     have hcz37_1:=zz1 BK19;have hfz37_0:=blk_frozen BK19.out 0;have hfz37_1:=blk_frozen BK19.out 1;have hcz38_0:=zz0 BK20;have hcz38_1:=zz1 BK20;have hfz38_0:=blk_frozen BK20.out 0;have hfz38_1:=blk_frozen BK20.out 1;go_upto_region 10 with (first|((with_reducible refine gate_callee (f:=35) rfl ?_);refine goesL_ (some 59) rfl rfl Try.func35 (by kernel_rfl) rfl #[.agg #[.int .i64 t1,.int .i64 t5,.slice Ao15 t6.length co15],.agg #[.int .i64 t8,.int .i64 t9],.agg #[.int .i64 t10,.int .i64 t11]] rfl zq77 ?_;(with_reducible refine (impl_ShortestPath.calls t1 t5 _ _ t6 t8 t9 t10 t11 t27 t30 _ ?side1 ?side2 A30.out).mono ?_);(case side1=>repeat (first|exact (zN HO_26.out).2.2|(with_reducible first|refine zG ?_ _|refine zH ?_ _|refine zI ?_)));(case side2=>exact (zN HO_26.out).2.1);rintro e w39 ⟨v34,rfl,ho0,hb⟩;refine ⟨_,rfl,?_⟩;replace HO_4:= zM (Kd.S_elder' (zzj HO_4) (Kd.R_base ho0) hb);have HO35:= zM (Kd.R_lower (Kd.R_newB (Kd.R_newB (Kd.R_new' (Kd.R_new' ho0 (Kd.R_lt (zzl HO_7))) (Kd.R_lt (zzl HO_26))) (g:=gb19) (o := .cells #[.int .i64 t8,.int .i64 t9] 48 (0,0)) (zzi BK19)) (g:=gb20) (o := .cells #[.int .i64 t10,.int .i64 t11] 48 (0,0)) (zzi BK20)) (zR zzh));replace HO_7:= zM (Kd.R_elder' (zzl HO_7) (Kd.R_base ho0) hb);replace HO_26:= zM (Kd.R_elder' (zzl HO_26) (Kd.R_base ho0) hb);replace BK18:= zM (blk_below (zzi BK18) hb);replace BK19:= zM (blk_below (zzi BK19) hb);replace BK20:= zM (blk_below (zzi BK20) hb);replace HB:= zM (zQ zzh hb);(try clear hb);(try clear hb2);(try clear hk);(try clear hi);(try clear ho0);have hcz40_0:=zz0 BK18;have hcz40_1:=zz1 BK18;have hcz40_2:=zz2 BK18;have hfz40_0:=blk_frozen BK18.out 0;have hfz40_1:=blk_frozen BK18.out 1;have hfz40_2:=blk_frozen BK18.out 2;have hcz41_0:=zz0 BK19;have hcz41_1:=zz1 BK19;have hfz41_0:=blk_frozen BK19.out 0;have hfz41_1:=blk_frozen BK19.out 1;have hcz42_0:=zz0 BK20;have hcz42_1:=zz1 BK20;have hfz42_0:=blk_frozen BK20.out 0;have hfz42_1:=blk_frozen BK20.out 1)|((with_reducible refine gate_callee (f:=34) rfl ?_);refine goesL_ (some 66) rfl rfl Try.func34 (by kernel_rfl) rfl #[.agg #[.int .i64 t1,.int .i64 t5,.slice Ao15 t6.length co15],.agg #[.int .i64 t8,.int .i64 t9],.agg #[.int .i64 t10,.int .i64 t11]] rfl zq77 ?_;(with_reducible refine (spec_ShortestPath.calls kj6 t1 t5 _ _ t6 t8 t9 t10 t11 t28 t31 _ ?side1 ?side2 A31.out).mono ?_);(case side1=>repeat (first|exact (zN HO_26.out).2.2|(with_reducible first|refine zG ?_ _|refine zH ?_ _|refine zI ?_)));(case side2=>exact (zN HO_26.out).2.1);rintro e w43 ⟨v36,rfl,ho0,hb⟩;refine ⟨_,rfl,?_⟩;replace HO_4:= zM (Kd.S_elder' (zzj HO_4) (Kd.R_base ho0) hb);have HO37:= zM (Kd.R_lower (Kd.R_newB (Kd.R_newB (Kd.R_new' (Kd.R_new' (Kd.R_new' ho0 (Kd.R_lt (zzl HO_7))) (Kd.R_lt (zzl HO_26))) (Kd.R_lt (zzl HO35))) (g:=gb19) (o := .cells #[.int .i64 t8,.int .i64 t9] 48 (0,0)) (zzi BK19)) (g:=gb20) (o := .cells #[.int .i64 t10,.int .i64 t11] 48 (0,0)) (zzi BK20)) (zR zzh));replace HO_7:= zM (Kd.R_elder' (zzl HO_7) (Kd.R_base ho0) hb);replace HO_26:= zM (Kd.R_elder' (zzl HO_26) (Kd.R_base ho0) hb);replace HO35:= zM (Kd.R_elder' (zzl HO35) (Kd.R_base ho0) hb);replace BK18:= zM (blk_below (zzi BK18) hb);replace BK19:= zM (blk_below (zzi BK19) hb);replace BK20:= zM (blk_below (zzi BK20) hb);replace HB:= zM (zQ zzh hb);(try clear hb);(try clear hb2);(try clear hk);(try clear hi);(try clear ho0)))
     (try simp only [Act.put,zT,zU,zV]);go_cut [77] (fun v77 wc => ∃ (kq:Nat) (x77_31:Bool),v77 = .bool x77_31 ∧ Aside0 (laws_FnPaths.j1 kq t7 t2 t12 t27 t30 x77_31 t1 t5 t6 t8 t9 t10 t11 = some r) ∧ Aside0 (kq ≤ kj6) ∧ Aside0 (Kd.S (Kd.slice 48 k48) 27 wc w.heap.size (fun k_=>some k_ ≠ (v21:Value).ownBlock ∧ some k_ ≠ (v34:Value).ownBlock ∧ some k_ ≠ ((.slice Ao15 t6.length co15):Value).ownBlock ∧ k_ ≠ gb19 ∧ k_ ≠ gb20) (.slice Ao19 t7.length co19) t7) ∧ Aside0 (Kd.R k48 48 wc w.heap.size (fun k_=>some k_ ≠ (v34:Value).ownBlock ∧ some k_ ≠ ((.slice Ao15 t6.length co15):Value).ownBlock ∧ k_ ≠ gb19 ∧ k_ ≠ gb20) v21 t2) ∧ Aside0 (Kd.R k48 48 wc w.heap.size (fun k_=>some k_ ≠ (v21:Value).ownBlock ∧ some k_ ≠ ((.slice Ao15 t6.length co15):Value).ownBlock ∧ k_ ≠ gb19 ∧ k_ ≠ gb20) v34 t27) ∧ Aside0 (Kd.R k48 48 wc w.heap.size (fun k_=>some k_ ≠ (v21:Value).ownBlock ∧ some k_ ≠ (v34:Value).ownBlock ∧ k_ ≠ gb19 ∧ k_ ≠ gb20) (.slice Ao15 t6.length co15) t6) ∧ Aside0 (wc.heap[gb18]? = some (.cells #[.int .i64 t1,.int .i64 t5,(.slice Ao15 t6.length co15)] 29 (0,0))) ∧ Aside0 (wc.heap[gb19]? = some (.cells #[.int .i64 t8,.int .i64 t9] 48 (0,0))) ∧ Aside0 (wc.heap[gb20]? = some (.cells #[.int .i64 t10,.int .i64 t11] 48 (0,0))) ∧ Aside0 (Below w.heap.size w wc))
     case first =>
      have H:=HC32.out;clear HC32;by_cases c44:(t30 != t31) = true
      ·
       rw [if_pos c44] at H;have c44b0:(t30 != t31) = true:=c44;(try (have c44b1:decide (t30 = t31) = false:=by simpa using c44));(try (have c44b2:(t30 == t31) = false:=by simpa using c44));(try (have c44b3:¬ (t30 = t31):=by simpa using c44));clear c44;(first|rw [c44b0]|(simp only [i64_w,i32_w];rw [c44b0])|skip);have H':=zM H;clear H;go_wp2;go_meet
       case rel=>exact ⟨_,(true),zq91,H',⟨by have:=HJ6.out;first|omega|exact Nat.le_refl _⟩,⟨zq61⟩,⟨zq73⟩,⟨zq71⟩,⟨zq72⟩,⟨zzi BK18⟩,⟨zzi BK19⟩,⟨zzi BK20⟩,⟨zzh⟩⟩
      ·
       (rw [if_neg c44] at H;have c44b0:(t30 != t31) = false:=by simpa using c44);(try (have c44b1:decide (t30 = t31) = true:=by simpa using c44));(try (have c44b2:(t30 == t31) = true:=by simpa using c44));clear c44;(first|rw [c44b0]|(simp only [i64_w,i32_w];rw [c44b0])|skip);replace H:=Option.bind_eq_some_iff.mp H;obtain ⟨t29,A38,H⟩:=H;replace H:(laws_FnPaths.j1 kj6 t7 t2 t12 t27 t30 (!t29) t1 t5 t6 t8 t9 t10 t11) = some r:=H;have A45:=zM A38;clear A38;have H':=zM H;clear H;obtain ⟨Ao46,co46,eo46⟩:=Kd.R_slice HO35.out;subst eo46;obtain ⟨Ao47,co47,eo47⟩:=Kd.R_slice HO37.out;subst eo47;go_wp2_with (first|(go_at_call 49;(with_reducible refine (laws_vPath.calls kj6 _ _ t27 _ _ t28 t29 _ ?side1 ?side2 ?side3 ?side4 A45.out).mono ?_);(case side1=>repeat (first|exact (zN HO35.out).2.2|(with_reducible first|refine zG ?_ _|refine zH ?_ _|refine zI ?_)));(case side2=>exact (zN HO35.out).2.1);(case side3=>repeat (first|exact (zN HO37.out).2.2|(with_reducible first|refine zG ?_ _|refine zH ?_ _|refine zI ?_)));(case side4=>exact (zN HO37.out).2.1);rintro e w' ⟨rfl,⟨nd,rfl⟩⟩));go_meet
       case rel=>exact ⟨_,(!t29),zq91,H',⟨by have:=HJ6.out;first|omega|exact Nat.le_refl _⟩,⟨zq61⟩,⟨zq73⟩,⟨zq71⟩,⟨zq72⟩,⟨zzi BK18⟩,⟨zzi BK19⟩,⟨zzi BK20⟩,⟨zzh⟩⟩
     case rest =>
      clear HC32;(try clear c1);(try clear c2);(try clear p2);(try clear c3);(try clear c4);(try clear c11);(try clear c12);(try clear c13);(try clear c16);(try clear c25);(try clear c25b0);(try clear c25b1);(try clear c25b2);(try clear c29);(try clear c33);(try clear c34);(try clear c35);(try clear c36);(try clear c39);(try clear c41);(try clear c44);(try clear c44b0);(try clear c44b1);(try clear c44b2);(try clear c47);(try clear hcz14_0);(try clear hcz14_1);(try clear hcz14_2);(try clear hcz17_0);(try clear hcz17_1);(try clear hcz18_0);(try clear hcz18_1);(try clear hcz21_0);(try clear hcz21_1);(try clear hcz21_2);(try clear hcz22_0);(try clear hcz22_1);(try clear hcz23_0);(try clear hcz23_1);(try clear hcz35_0);(try clear hcz35_1);(try clear hcz35_2);(try clear hcz37_0);(try clear hcz37_1);(try clear hcz38_0);(try clear hcz38_1);(try clear hcz40_0);(try clear hcz40_1);(try clear hcz40_2);(try clear hcz41_0);(try clear hcz41_1);(try clear hcz42_0);(try clear hcz42_1);(try clear hfz14_0);(try clear hfz14_1);(try clear hfz14_2);(try clear hfz17_0);(try clear hfz17_1);(try clear hfz18_0);(try clear hfz18_1);(try clear hfz21_0);(try clear hfz21_1);(try clear hfz21_2);(try clear hfz22_0);(try clear hfz22_1);(try clear hfz23_0);(try clear hfz23_1);(try clear hfz35_0);(try clear hfz35_1);(try clear hfz35_2);(try clear hfz37_0);(try clear hfz37_1);(try clear hfz38_0);(try clear hfz38_1);(try clear hfz40_0);(try clear hfz40_1);(try clear hfz40_2);(try clear hfz41_0);(try clear hfz41_1);(try clear hfz42_0);(try clear hfz42_1);(try clear p2);obtain ⟨kq,x77_31,rfl,HA,HJ31,HO_4,HO_7,HO_11,HO_26,BK18,BK19,BK20,HB⟩:=hcut;cases kq with
      | zero=>exact absurd HA.out (by simp [laws_FnPaths.j1])
      | succ kj31 =>
       have H:=HA.out;clear HA;simp only [laws_FnPaths.j1] at H;by_cases c48:x77_31 = true
       ·
        subst c48;have H1:(some false) = some r:=by rw [if_pos rfl] at H;exact H
        clear H;have H:=H1;clear H1;exact absurd ((Option.some.inj H).trans HRT.out) Bool.false_ne_true
       ·
        (replace c48:=Bool.eq_false_iff.mpr c48;subst c48;have H1:(if t30 = true then ((impl_PathLengthTo.f t1 t5 t6 t8 t9).bind fun bt39=>(if bt39.2 = true then ((impl_IsValidPath.f kj31 t1 t5 t6 t27).bind fun t40=>(if t40 = true then (if 0 < (t27.length:Int) then (if (!(((rd_T48 t27 0).f0) == t8) || (!(((rd_T48 t27 0).f1) == t9))) = true then (some false) else (if 0 ≤ (wrap64 ((t27.length:Int) - 1)) then (if (wrap64 ((t27.length:Int) - 1)) < (t27.length:Int) then (if (!(((rd_T48 t27 (wrap64 ((t27.length:Int) - 1))).f0) == t10) || (!(((rd_T48 t27 (wrap64 ((t27.length:Int) - 1))).f1) == t11))) = true then (some false) else (if (bt39.1.length:Int) ≤ t11 then (some false) else (if 0 ≤ t11 then (if t11 < (bt39.1.length:Int) then (if ((rd_L5 bt39.1 t11).length:Int) ≤ t10 then (some false) else (if 0 ≤ t10 then (if t10 < ((rd_L5 bt39.1 t11).length:Int) then (if (rd (rd_L5 bt39.1 t11) t10) = (wrap64 ((t27.length:Int) - 1)) then (laws_FnPaths.j2 kj31 t7 t2 t12 t27 t30 t1 t5 t6 t8 t9 t10 t11) else (some false)) else (none)) else (none))) else (none)) else (none)))) else (none)) else (none))) else (none)) else (some false))) else (some false))) else (laws_FnPaths.j2 kj31 t7 t2 t12 t27 t30 t1 t5 t6 t8 t9 t10 t11)) = some r:=by rw [if_neg (show ¬ (false = true) by decide)] at H;exact H);clear H;have H:=H1;clear H1;have HC49:=zM H;clear H;go_upto_if 78 with (fail);go_cut [] (fun wc => ∃ (kq:Nat),Aside0 (laws_FnPaths.j2 kq t7 t2 t12 t27 t30 t1 t5 t6 t8 t9 t10 t11 = some r) ∧ Aside0 (kq ≤ kj31) ∧ Aside0 (Kd.S (Kd.slice 48 k48) 27 wc w.heap.size (fun k_=>some k_ ≠ (v21:Value).ownBlock ∧ some k_ ≠ (v34:Value).ownBlock ∧ some k_ ≠ ((.slice Ao15 t6.length co15):Value).ownBlock ∧ k_ ≠ gb19 ∧ k_ ≠ gb20) (.slice Ao19 t7.length co19) t7) ∧ Aside0 (Kd.R k48 48 wc w.heap.size (fun k_=>some k_ ≠ (v34:Value).ownBlock ∧ some k_ ≠ ((.slice Ao15 t6.length co15):Value).ownBlock ∧ k_ ≠ gb19 ∧ k_ ≠ gb20) v21 t2) ∧ Aside0 (Kd.R k48 48 wc w.heap.size (fun k_=>some k_ ≠ (v21:Value).ownBlock ∧ some k_ ≠ ((.slice Ao15 t6.length co15):Value).ownBlock ∧ k_ ≠ gb19 ∧ k_ ≠ gb20) v34 t27) ∧ Aside0 (Kd.R k48 48 wc w.heap.size (fun k_=>some k_ ≠ (v21:Value).ownBlock ∧ some k_ ≠ (v34:Value).ownBlock ∧ k_ ≠ gb19 ∧ k_ ≠ gb20) (.slice Ao15 t6.length co15) t6) ∧ Aside0 (wc.heap[gb18]? = some (.cells #[.int .i64 t1,.int .i64 t5,(.slice Ao15 t6.length co15)] 29 (0,0))) ∧ Aside0 (wc.heap[gb19]? = some (.cells #[.int .i64 t8,.int .i64 t9] 48 (0,0))) ∧ Aside0 (wc.heap[gb20]? = some (.cells #[.int .i64 t10,.int .i64 t11] 48 (0,0))) ∧ Aside0 (Below w.heap.size w wc))
        case first =>
         have H:=HC49.out;clear HC49;by_cases c50:t30 = true
         ·
          subst c50;have H1:((impl_PathLengthTo.f t1 t5 t6 t8 t9).bind fun bt39=>(if bt39.2 = true then ((impl_IsValidPath.f kj31 t1 t5 t6 t27).bind fun t40=>(if t40 = true then (if 0 < (t27.length:Int) then (if (!(((rd_T48 t27 0).f0) == t8) || (!(((rd_T48 t27 0).f1) == t9))) = true then (some false) else (if 0 ≤ (wrap64 ((t27.length:Int) - 1)) then (if (wrap64 ((t27.length:Int) - 1)) < (t27.length:Int) then (if (!(((rd_T48 t27 (wrap64 ((t27.length:Int) - 1))).f0) == t10) || (!(((rd_T48 t27 (wrap64 ((t27.length:Int) - 1))).f1) == t11))) = true then (some false) else (if (bt39.1.length:Int) ≤ t11 then (some false) else (if 0 ≤ t11 then (if t11 < (bt39.1.length:Int) then (if ((rd_L5 bt39.1 t11).length:Int) ≤ t10 then (some false) else (if 0 ≤ t10 then (if t10 < ((rd_L5 bt39.1 t11).length:Int) then (if (rd (rd_L5 bt39.1 t11) t10) = (wrap64 ((t27.length:Int) - 1)) then (laws_FnPaths.j2 kj31 t7 t2 t12 t27 true t1 t5 t6 t8 t9 t10 t11) else (some false)) else (none)) else (none))) else (none)) else (none)))) else (none)) else (none))) else (none)) else (some false))) else (some false))) = some r:=by rw [if_pos rfl] at H;exact H
          clear H;have H:=H1;clear H1;replace H:=Option.bind_eq_some_iff.mp H;obtain ⟨⟨t39,t41⟩,A42,H⟩:=H;replace H:(if t41 = true then ((impl_IsValidPath.f kj31 t1 t5 t6 t27).bind fun t40=>(if t40 = true then (if 0 < (t27.length:Int) then (if (!(((rd_T48 t27 0).f0) == t8) || (!(((rd_T48 t27 0).f1) == t9))) = true then (some false) else (if 0 ≤ (wrap64 ((t27.length:Int) - 1)) then (if (wrap64 ((t27.length:Int) - 1)) < (t27.length:Int) then (if (!(((rd_T48 t27 (wrap64 ((t27.length:Int) - 1))).f0) == t10) || (!(((rd_T48 t27 (wrap64 ((t27.length:Int) - 1))).f1) == t11))) = true then (some false) else (if (t39.length:Int) ≤ t11 then (some false) else (if 0 ≤ t11 then (if t11 < (t39.length:Int) then (if ((rd_L5 t39 t11).length:Int) ≤ t10 then (some false) else (if 0 ≤ t10 then (if t10 < ((rd_L5 t39 t11).length:Int) then (if (rd (rd_L5 t39 t11) t10) = (wrap64 ((t27.length:Int) - 1)) then (laws_FnPaths.j2 kj31 t7 t2 t12 t27 true t1 t5 t6 t8 t9 t10 t11) else (some false)) else (none)) else (none))) else (none)) else (none)))) else (none)) else (none))) else (none)) else (some false))) else (some false)) = some r:=H;have A51:=zM A42;clear A42;by_cases c52:t41 = true
          ·
           subst c52;have H1:((impl_IsValidPath.f kj31 t1 t5 t6 t27).bind fun t40=>(if t40 = true then (if 0 < (t27.length:Int) then (if (!(((rd_T48 t27 0).f0) == t8) || (!(((rd_T48 t27 0).f1) == t9))) = true then (some false) else (if 0 ≤ (wrap64 ((t27.length:Int) - 1)) then (if (wrap64 ((t27.length:Int) - 1)) < (t27.length:Int) then (if (!(((rd_T48 t27 (wrap64 ((t27.length:Int) - 1))).f0) == t10) || (!(((rd_T48 t27 (wrap64 ((t27.length:Int) - 1))).f1) == t11))) = true then (some false) else (if (t39.length:Int) ≤ t11 then (some false) else (if 0 ≤ t11 then (if t11 < (t39.length:Int) then (if ((rd_L5 t39 t11).length:Int) ≤ t10 then (some false) else (if 0 ≤ t10 then (if t10 < ((rd_L5 t39 t11).length:Int) then (if (rd (rd_L5 t39 t11) t10) = (wrap64 ((t27.length:Int) - 1)) then (laws_FnPaths.j2 kj31 t7 t2 t12 t27 true t1 t5 t6 t8 t9 t10 t11) else (some false)) else (none)) else (none))) else (none)) else (none)))) else (none)) else (none))) else (none)) else (some false))) = some r:=by rw [if_pos rfl] at H;exact H
           clear H;have H:=H1;clear H1;replace H:=Option.bind_eq_some_iff.mp H;obtain ⟨t40,A43,H⟩:=H;replace H:(if t40 = true then (if 0 < (t27.length:Int) then (if (!(((rd_T48 t27 0).f0) == t8) || (!(((rd_T48 t27 0).f1) == t9))) = true then (some false) else (if 0 ≤ (wrap64 ((t27.length:Int) - 1)) then (if (wrap64 ((t27.length:Int) - 1)) < (t27.length:Int) then (if (!(((rd_T48 t27 (wrap64 ((t27.length:Int) - 1))).f0) == t10) || (!(((rd_T48 t27 (wrap64 ((t27.length:Int) - 1))).f1) == t11))) = true then (some false) else (if (t39.length:Int) ≤ t11 then (some false) else (if 0 ≤ t11 then (if t11 < (t39.length:Int) then (if ((rd_L5 t39 t11).length:Int) ≤ t10 then (some false) else (if 0 ≤ t10 then (if t10 < ((rd_L5 t39 t11).length:Int) then (if (rd (rd_L5 t39 t11) t10) = (wrap64 ((t27.length:Int) - 1)) then (laws_FnPaths.j2 kj31 t7 t2 t12 t27 true t1 t5 t6 t8 t9 t10 t11) else (some false)) else (none)) else (none))) else (none)) else (none)))) else (none)) else (none))) else (none)) else (some false)) = some r:=H;have A53:=zM A43;clear A43;by_cases c54:t40 = true
           ·
            subst c54;have H1:(if 0 < (t27.length:Int) then (if (!(((rd_T48 t27 0).f0) == t8) || (!(((rd_T48 t27 0).f1) == t9))) = true then (some false) else (if 0 ≤ (wrap64 ((t27.length:Int) - 1)) then (if (wrap64 ((t27.length:Int) - 1)) < (t27.length:Int) then (if (!(((rd_T48 t27 (wrap64 ((t27.length:Int) - 1))).f0) == t10) || (!(((rd_T48 t27 (wrap64 ((t27.length:Int) - 1))).f1) == t11))) = true then (some false) else (if (t39.length:Int) ≤ t11 then (some false) else (if 0 ≤ t11 then (if t11 < (t39.length:Int) then (if ((rd_L5 t39 t11).length:Int) ≤ t10 then (some false) else (if 0 ≤ t10 then (if t10 < ((rd_L5 t39 t11).length:Int) then (if (rd (rd_L5 t39 t11) t10) = (wrap64 ((t27.length:Int) - 1)) then (laws_FnPaths.j2 kj31 t7 t2 t12 t27 true t1 t5 t6 t8 t9 t10 t11) else (some false)) else (none)) else (none))) else (none)) else (none)))) else (none)) else (none))) else (none)) = some r:=by rw [if_pos rfl] at H;exact H
            clear H;have H:=H1;clear H1;by_cases c55:0 < (t27.length:Int)
            ·
             rw [if_pos c55] at H;have c55b0:decide (0 < (t27.length:Int)) = true:=decide_eq_true c55;have c55b1:decide (0 < t27.length) = true:=decide_eq_true (by omega);clear c55;(first|rw [c55b0]|(simp only [i64_w,i32_w];rw [c55b0])|skip);by_cases c56:(!(((rd_T48 t27 0).f0) == t8) || (!(((rd_T48 t27 0).f1) == t9))) = true
             ·
              rw [if_pos c56] at H;have c56b0:(!(((rd_T48 t27 0).f0) == t8) || (!(((rd_T48 t27 0).f1) == t9))) = true:=c56;clear c56;exact absurd ((Option.some.inj H).trans HRT.out) Bool.false_ne_true
             ·
              (rw [if_neg c56] at H;have c56b0:(!(((rd_T48 t27 0).f0) == t8) || (!(((rd_T48 t27 0).f1) == t9))) = false:=by simpa using c56);clear c56;obtain ⟨ji66,hji66⟩ : ∃ j_:Int,(wrap64 ((t27.length:Int) - 1)) = j_:=⟨_,rfl⟩;replace H:(if 0 ≤ (ji66) then (if (ji66) < (t27.length:Int) then (if (!(((rd_T48 t27 (ji66)).f0) == t10) || (!(((rd_T48 t27 (ji66)).f1) == t11))) = true then (some false) else (if (t39.length:Int) ≤ t11 then (some false) else (if 0 ≤ t11 then (if t11 < (t39.length:Int) then (if ((rd_L5 t39 t11).length:Int) ≤ t10 then (some false) else (if 0 ≤ t10 then (if t10 < ((rd_L5 t39 t11).length:Int) then (if (rd (rd_L5 t39 t11) t10) = (ji66) then (laws_FnPaths.j2 kj31 t7 t2 t12 t27 true t1 t5 t6 t8 t9 t10 t11) else (some false)) else (none)) else (none))) else (none)) else (none)))) else (none)) else (none)) = some r:=by first|(rw [hji66] at H;exact H)|(simp only [hji66] at H ⊢;exact H)
              (try rw [hji66] at A51);(try rw [hji66] at A53);have hji66w:(IntKind.i64.wrap ((t27.length:Int) - 1)) = ji66:=(i64_w _).trans hji66;by_cases c67:0 ≤ (ji66)
              ·
               rw [if_pos c67] at H;have c67b0:decide (0 ≤ (ji66)) = true:=decide_eq_true c67;clear c67;by_cases c68:(ji66) < (t27.length:Int)
               ·
                rw [if_pos c68] at H;have c68b0:decide ((ji66) < (t27.length:Int)) = true:=decide_eq_true c68;clear c68;by_cases c69:(!(((rd_T48 t27 (ji66)).f0) == t10) || (!(((rd_T48 t27 (ji66)).f1) == t11))) = true
                ·
                 rw [if_pos c69] at H;have c69b0:(!(((rd_T48 t27 (ji66)).f0) == t10) || (!(((rd_T48 t27 (ji66)).f1) == t11))) = true:=c69;clear c69;exact absurd ((Option.some.inj H).trans HRT.out) Bool.false_ne_true
                ·
                 (rw [if_neg c69] at H;have c69b0:(!(((rd_T48 t27 (ji66)).f0) == t10) || (!(((rd_T48 t27 (ji66)).f1) == t11))) = false:=by simpa using c69);clear c69;by_cases c79:(t39.length:Int) ≤ t11
                 ·
                  rw [if_pos c79] at H;have c79b0:decide ((t39.length:Int) ≤ t11) = true:=decide_eq_true c79;clear c79;exact absurd ((Option.some.inj H).trans HRT.out) Bool.false_ne_true
                 ·
                  rw [if_neg c79] at H;have c79b0:decide ((t39.length:Int) ≤ t11) = false:=decide_eq_false c79;clear c79;by_cases c90:0 ≤ t11
                  ·
                   rw [if_pos c90] at H;have c90b0:decide (0 ≤ t11) = true:=decide_eq_true c90;clear c90;by_cases c91:t11 < (t39.length:Int)
                   ·
                    rw [if_pos c91] at H;have c91b0:decide (t11 < (t39.length:Int)) = true:=decide_eq_true c91;clear c91;by_cases c92:((rd_L5 t39 t11).length:Int) ≤ t10
                    ·
                     rw [if_pos c92] at H;have c92b0:decide (((rd_L5 t39 t11).length:Int) ≤ t10) = true:=decide_eq_true c92;clear c92;exact absurd ((Option.some.inj H).trans HRT.out) Bool.false_ne_true
                    ·
                     rw [if_neg c92] at H;have c92b0:decide (((rd_L5 t39 t11).length:Int) ≤ t10) = false:=decide_eq_false c92;clear c92;by_cases c45:0 ≤ t10
                     ·
                      rw [if_pos c45] at H;have c45b0:decide (0 ≤ t10) = true:=decide_eq_true c45;clear c45;by_cases c46:t10 < ((rd_L5 t39 t11).length:Int)
                      ·
                       rw [if_pos c46] at H;have c46b0:decide (t10 < ((rd_L5 t39 t11).length:Int)) = true:=decide_eq_true c46;clear c46;by_cases c49:(rd (rd_L5 t39 t11) t10) = (ji66)
                       ·
                        rw [if_pos c49] at H;have c49b0:((rd (rd_L5 t39 t11) t10) == (ji66)) = true:=beq_iff_eq.mpr c49;have c49b1:((rd (rd_L5 t39 t11) t10) != (ji66)) = false:=bne_eq_false_iff_eq.mpr c49;clear c49;have H':=zM H;clear H;have hnb44:=NB18_19.out;have hnc44:=NB19_18.out;have hnb47:=NB18_20.out;have hnc47:=NB20_18.out;have hcz48_0:=zz0 BK18;have hcz48_1:=zz1 BK18;have hcz48_2:=zz2 BK18;have hfz48_0:=blk_frozen BK18.out 0;have hfz48_1:=blk_frozen BK18.out 1;have hfz48_2:=blk_frozen BK18.out 2;have hnb50:=NB19_20.out;have hnc50:=NB20_19.out;have hcz51_0:=zz0 BK19;have hcz51_1:=zz1 BK19;have hfz51_0:=blk_frozen BK19.out 0;have hfz51_1:=blk_frozen BK19.out 1;try go_wp2_with (first|((with_reducible refine gate_callee (f:=29) rfl ?_);refine goesL_ (some 82) rfl rfl Try.func29 (by kernel_rfl) rfl #[.agg #[.int .i64 t1,.int .i64 t5,.slice Ao15 t6.length co15],.agg #[.int .i64 t8,.int .i64 t9]] rfl zq77 ?_;(with_reducible refine (impl_PathLengthTo.calls t1 t5 _ _ t6 t8 t9 t39 true _ ?side1 ?side2 A51.out).mono ?_);(case side1=>repeat (first|exact (zN HO_26.out).2.2|(with_reducible first|refine zG ?_ _|refine zH ?_ _|refine zI ?_)));(case side2=>exact (zN HO_26.out).2.1);rintro e w52 ⟨v53,rfl,ho0,hb⟩;refine ⟨_,rfl,?_⟩;replace HO_4:= zM (Kd.S_below (zzj HO_4) hb);replace HO_7:= zM (zP (zzl HO_7) hb);replace HO_11:= zM (zP (zzl HO_11) hb);replace HO_26:= zM (zP (zzl HO_26) hb);have HO54:= zM (Kd.S_lower ho0 (zR zzh));replace BK18:= zM (blk_below (zzi BK18) hb);replace BK19:= zM (blk_below (zzi BK19) hb);replace BK20:= zM (blk_below (zzi BK20) hb);replace HB:= zM (zQ zzh hb);(try clear hb);(try clear hb2);(try clear hk);(try clear hi);(try clear ho0)))
                        replace HO_4:= zM (Kd.S_drew HO_4.out);replace HO_7:= zM (zC HO_7.out);replace HO_11:= zM (zC HO_11.out);replace HO_26:= zM (zC HO_26.out);replace HO54:= zM (Kd.S_drew HO54.out);replace BK18:= zM (zK BK18.out);replace BK19:= zM (zK BK19.out);replace BK20:= zM (zK BK20.out);replace HB:= zM (zF HB.out);obtain ⟨Ao55,co55,eo55⟩:=Kd.R_slice HO_11.out;(first|subst eo55|(injection eo55 with f1_ f2_ f3_;have f4_:=f1_.symm;have f5_:=f3_.symm;clear f1_ f2_ f3_;subst f4_;subst f5_));have p56:0 ≤ (0:Int):=(by omega);have q56:0 < (t27.length:Int):=zzd;obtain ⟨ad56,e56,hx56_0,hx56_1⟩:=at_T48 (zN HO_11.out).2.2 0 p56 q56;cases e56;have qi56:(0 < t27.length) = True:=eq_true (by omega);(try rw [show ((0:Int)).toNat = 0 from rfl] at hx56_0);(try rw [show 0 * 2 = 0 from rfl] at hx56_0);(try rw [Addr.add_zero'] at hx56_0);(try rw [show ((0:Int)).toNat = 0 from rfl] at hx56_1);(try rw [show 0 * 2 = 0 from rfl] at hx56_1);(try rw [Addr.add_zero'] at hx56_1);replace p56:=eq_true p56;replace q56:=eq_true q56;have p57:0 ≤ ((ji66):Int):=zzd;have q57:(ji66) < (t27.length:Int):=zzd;obtain ⟨ad57,e57,hx57_0,hx57_1⟩:=at_T48 (zN HO_11.out).2.2 (ji66) p57 q57;obtain rfl:ad56 = ad57:=(by injection e57);replace p57:=eq_true p57;replace q57:=eq_true q57;obtain ⟨Ao58,co58,eo58⟩:=Kd.S_slice HO54.out;(first|subst eo58|(injection eo58 with f1_ f2_ f3_;have f4_:=f1_.symm;have f5_:=f3_.symm;clear f1_ f2_ f3_;subst f4_;subst f5_));have p59:0 ≤ (t11:Int):=zzd;have q59:t11 < (t39.length:Int):=zzd;obtain ⟨ad59,A59_0,c59_0,e59,hx59_0,hl59_0,hi59_0⟩:=at_L5 (Kd.S_reads' HO54.out).2.2 t11 p59 q59;cases e59
                        obtain ⟨ce59,hce59,hMe59,hcc59⟩:=Kd.S_get HO54.out [] t11 p59 (by first|exact q59|exact zzd|(have e_:=(Kd.S_reads' HO54.out).1;omega));obtain ⟨ve59_0,rfl,ge59_0⟩:=hMe59;have hv59_0:=hcc59 0 _ rfl;rw [Nat.add_zero,show ((Kd.slice 3 (Kd.int .i64))).sz = 1 from rfl,Nat.mul_one] at hv59_0;replace hv59_0:=Option.some.inj (hv59_0.symm.trans hx59_0);rw [hv59_0] at ge59_0;have HL59_0:=zM (show Kd.R (Kd.int .i64) 3 _ _ _ _ (rd_L5 t39 t11) from ge59_0);clear hv59_0 ge59_0;clear hcc59 hce59;have HR59_0:=zM hi59_0;have HC59_0:=zM hl59_0;clear hi59_0 hl59_0;replace p59:=eq_true p59;replace q59:=eq_true q59;have p60:0 ≤ (t11:Int):=zzd;have q60:t11 < (t39.length:Int):=zzd;obtain ⟨ad60,A60_0,c60_0,e60,hx60_0,hl60_0,hi60_0⟩:=at_L5 (Kd.S_reads' HO54.out).2.2 t11 p60 q60;obtain rfl:ad59 = ad60:=(by injection e60);obtain ⟨ce60,hce60,hMe60,hcc60⟩:=Kd.S_get HO54.out [] t11 p60 (by first|exact q60|exact zzd|(have e_:=(Kd.S_reads' HO54.out).1;omega));obtain ⟨ve60_0,rfl,ge60_0⟩:=hMe60;have hv60_0:=hcc60 0 _ rfl;rw [Nat.add_zero,show ((Kd.slice 3 (Kd.int .i64))).sz = 1 from rfl,Nat.mul_one] at hv60_0;replace hv60_0:=Option.some.inj (hv60_0.symm.trans hx60_0);rw [hv60_0] at ge60_0;have HL60_0:=zM (show Kd.R (Kd.int .i64) 3 _ _ _ _ (rd_L5 t39 t11) from ge60_0);clear hv60_0 ge60_0;clear hcc60 hce60;have HR60_0:=zM hi60_0;have HC60_0:=zM hl60_0;clear hi60_0 hl60_0;replace p60:=eq_true p60;replace q60:=eq_true q60;have ea_:=Option.some.inj (hx59_0.symm.trans hx60_0);injection ea_ with ea_ en_ ec_;subst ea_;subst ec_;clear en_;have p61:0 ≤ (t10:Int):=zzd
                        have q61:t10 < ((rd_L5 t39 t11).length:Int):=zzd;obtain ⟨ad61,e61,hx61_0⟩:=Kd.at_int (by repeat (first|(with_reducible exact HR60_0.out)|(with_reducible first|refine zG ?_ _|refine zH ?_ _|refine zI ?_)|exact HR60_0.out)) t10 p61 q61;cases e61;replace p61:=eq_true p61;replace q61:=eq_true q61;refine start_ (n:=58) (S:=fun w'=>w'.cell? ⟨gb18,0,none⟩ = some (.int .i64 t1) ∧ w'.cell? ⟨gb18,1,none⟩ = some (.int .i64 t5) ∧ w'.cell? ⟨gb18,2,none⟩ = some (.slice Ao15 t6.length co15) ∧ w'.cell? ⟨gb19,0,none⟩ = some (.int .i64 t8) ∧ w'.cell? ⟨gb19,1,none⟩ = some (.int .i64 t9) ∧ w'.cell? ⟨gb20,0,none⟩ = some (.int .i64 t10) ∧ w'.cell? ⟨gb20,1,none⟩ = some (.int .i64 t11) ∧ w'.cell? ad56 = some (.int .i64 ((rd_T48 t27 0).f0)) ∧ w'.cell? ⟨ad56.block,ad56.off + 1,none⟩ = some (.int .i64 ((rd_T48 t27 0).f1)) ∧ w'.cell? (ad56.add (((ji66)).toNat * 2)) = some (.int .i64 ((rd_T48 t27 (ji66)).f0)) ∧ w'.cell? ⟨(ad56.add (((ji66)).toNat * 2)).block,(ad56.add (((ji66)).toNat * 2)).off + 1,none⟩ = some (.int .i64 ((rd_T48 t27 (ji66)).f1)) ∧ w'.cell? (ad59.add (t11).toNat) = some (.slice (some ad61) (rd_L5 t39 t11).length c59_0) ∧ w'.cell? (ad59.add (t11).toNat) = some (.slice (some ad61) (rd_L5 t39 t11).length c59_0) ∧ w'.cell? (ad61.add (t10).toNat) = some (.int .i64 (rd (rd_L5 t39 t11) t10))) (ds:=[]) #[false,false,false,false,false,false,false,false,false,false,false,false,false,false,false,false,false,false,false,false,false,false,false,false,false,false,false,false,false,false,false,false,false,false,false,false,false,false,false,false,false,false,false,false,false,false,false,false,false,false,false,false,false,false,false,false,false,false] (by kernel_rfl) rfl rfl ⟨zz0 BK18,zz1 BK18,zz2 BK18,zz0 BK19,zz1 BK19,zz0 BK20,zz1 BK20,hx56_0,hx56_1,hx57_0,hx57_1,hx59_0,hx60_0,hx61_0⟩ (fun hHeld=>?_);refine with_tabW laws_FnPaths.tab14 laws_FnPaths.bits14 (fun HT_ HW_=>?_)
                        generalize w52.drew = w62 at HO_4 HO_7 HO_11 HO_26 HO54 BK18 BK19 BK20 HB HL59_0 HL60_0 HR59_0 HR60_0 hx56_0 hx56_1 hx57_0 hx57_1 hx59_0 hx60_0 hx61_0 hHeld ⊢;refine zzp 0 85 (zzb 58 1) ?_ (hc:=zzx HT_);refine zzp 1 86 (zzb 58 3) ?_ (hc:=zzx HT_);refine zzp 2 87 (zzb 58 7) ?_ (hc:=zzx HT_);refine zzp 4 89 (zzb 58 23) ?_ (hc:=zzx HT_);refine zzt 3 88 (zzb 58 31) hHeld ?_ (hc:=zzy HT_ HW_) (hy:=by rintro w' ⟨s0,s1,s2,s3,s4,s5,s6,s7,s8,s9,s10,s11,s12,s13⟩;go_simp;with_reducible rfl);refine zzo 5 90 (zzb 58 63) (hc:=zzw HT_) (fun K hK=>?_);refine zzf Try.func21 #[.agg #[.int .i64 t1,.int .i64 t5,.slice Ao15 t6.length co15],.slice (some ad56) t27.length co55] ?_;with_reducible refine (impl_IsValidPath.calls kj31 t1 t5 _ _ t6 _ _ t27 true _ ?side1 ?side2 ?side3 ?side4 A53.out).mono ?_
                        (case side1=>repeat (first|exact (zN HO_26.out).2.2|(with_reducible first|refine zG ?_ _|refine zH ?_ _|refine zI ?_)));(case side2=>exact (zN HO_26.out).2.1);(case side3=>repeat (first|exact (zN HO_11.out).2.2|(with_reducible first|refine zG ?_ _|refine zH ?_ _|refine zI ?_)));(case side4=>exact (zN HO_11.out).2.1);rintro e w63 ⟨rfl,hb⟩;have HS7_:=(hb.cell (World.block_lt_of_cell? _ _ (hHeld.2.2.2.2.2.2.2.1))).trans (hHeld.2.2.2.2.2.2.2.1);have HS8_:=(hb.cell (World.block_lt_of_cell? _ _ (hHeld.2.2.2.2.2.2.2.2.1))).trans (hHeld.2.2.2.2.2.2.2.2.1);have HS9_:=(hb.cell (World.block_lt_of_cell? _ _ (hHeld.2.2.2.2.2.2.2.2.2.1))).trans (hHeld.2.2.2.2.2.2.2.2.2.1);have HS10_:=(hb.cell (World.block_lt_of_cell? _ _ (hHeld.2.2.2.2.2.2.2.2.2.2.1))).trans (hHeld.2.2.2.2.2.2.2.2.2.2.1);have HS11_:=(hb.cell (World.block_lt_of_cell? _ _ (hHeld.2.2.2.2.2.2.2.2.2.2.2.1))).trans (hHeld.2.2.2.2.2.2.2.2.2.2.2.1);have HS12_:=(hb.cell (World.block_lt_of_cell? _ _ (hHeld.2.2.2.2.2.2.2.2.2.2.2.2.1))).trans (hHeld.2.2.2.2.2.2.2.2.2.2.2.2.1);have HS13_:=(hb.cell (World.block_lt_of_cell? _ _ (hHeld.2.2.2.2.2.2.2.2.2.2.2.2.2))).trans (hHeld.2.2.2.2.2.2.2.2.2.2.2.2.2);refine ⟨_,rfl,?_⟩;replace HO_4:= zM (Kd.S_below (zzj HO_4) hb);replace HO_7:= zM (zP (zzl HO_7) hb);replace HO_11:= zM (zP (zzl HO_11) hb);replace HO_26:= zM (zP (zzl HO_26) hb);replace HO54:= zM (Kd.S_below (zzj HO54) hb);replace BK18:= zM (blk_below (zzi BK18) hb);replace BK19:= zM (blk_below (zzi BK19) hb);replace BK20:= zM (blk_below (zzi BK20) hb)
                        replace HB:= zM (zQ zzh hb);(try clear hb);(try clear hb2);(try clear hk);(try clear hi);refine hK.out _ _ ⟨zz0 BK18,zz1 BK18,zz2 BK18,zz0 BK19,zz1 BK19,zz0 BK20,zz1 BK20,HS7_,HS8_,HS9_,HS10_,HS11_,HS12_,HS13_⟩ (fun hHeld=>?_);clear hK K;refine zzn 90 ?_;refine zzp 6 91 (zzb 58 127) ?_ (hc:=zzx HT_);refine zzp 7 92 (zzb 58 255) ?_ (hc:=zzx HT_);refine zzp 8 93 (zzb 58 511) ?_ (hc:=zzx HT_);refine zzp 9 94 (zzb 58 1023) ?_ (hc:=zzx HT_);refine zzp 10 95 (zzb 58 2047) ?_ (hc:=zzx HT_);refine zzt 11 96 (zzb 58 4095) hHeld ?_ (hc:=zzy HT_ HW_) (hy:=by rintro w' ⟨s0,s1,s2,s3,s4,s5,s6,s7,s8,s9,s10,s11,s12,s13⟩;go_simp;with_reducible rfl);refine zzt 12 97 (zzb 58 8191) hHeld ?_ (hc:=zzy HT_ HW_) (hy:=by rintro w' ⟨s0,s1,s2,s3,s4,s5,s6,s7,s8,s9,s10,s11,s12,s13⟩;go_simp;with_reducible rfl);refine zzp 13 98 (zzb 58 16383) ?_ (hc:=zzx HT_);refine zzp 14 99 (zzb 58 32767) ?_ (hc:=zzx HT_);refine zzp 15 100 (zzb 58 65535) ?_ (hc:=zzx HT_);refine zzp 16 101 (zzb 58 131071) ?_ (hc:=zzx HT_);refine zzp 17 102 (zzb 58 262143) ?_ (hc:=zzx HT_);refine zzp 18 103 (zzb 58 524287) ?_ (hc:=zzx HT_);refine zzp 19 104 (zzb 58 1048575) ?_ (hc:=zzx HT_);refine zzp 20 105 (zzb 58 2097151) ?_ (hc:=zzx HT_);refine zzt 21 106 (zzb 58 4194303) hHeld ?_ (hc:=zzy HT_ HW_) (hy:=by rintro w' ⟨s0,s1,s2,s3,s4,s5,s6,s7,s8,s9,s10,s11,s12,s13⟩;go_simp;with_reducible rfl);refine zzt 22 107 (zzb 58 8388607) hHeld ?_ (hc:=zzy HT_ HW_) (hy:=by rintro w' ⟨s0,s1,s2,s3,s4,s5,s6,s7,s8,s9,s10,s11,s12,s13⟩;go_simp;with_reducible rfl);refine zzp 23 108 (zzb 58 16777215) ?_ (hc:=zzx HT_);refine zzp 24 109 (zzb 58 33554431) ?_ (hc:=zzx HT_);refine zzp 25 110 (zzb 58 67108863) ?_ (hc:=zzx HT_);refine zzp 26 111 (zzb 58 134217727) ?_ (hc:=zzx HT_);refine zzp 27 112 (zzb 58 268435455) ?_ (hc:=zzx HT_);refine zzp 28 113 (zzb 58 536870911) ?_ (hc:=zzx HT_)
                        refine zzt 29 114 (zzb 58 1073741823) hHeld ?_ (hc:=zzy HT_ HW_) (hy:=by rintro w' ⟨s0,s1,s2,s3,s4,s5,s6,s7,s8,s9,s10,s11,s12,s13⟩;go_simp;with_reducible rfl);refine zzp 30 115 (zzb 58 2147483647) ?_ (hc:=zzx HT_);refine zzp 31 116 (zzb 58 4294967295) ?_ (hc:=zzx HT_);refine zzp 32 117 (zzb 58 8589934591) ?_ (hc:=zzx HT_);refine zzp 33 118 (zzb 58 17179869183) ?_ (hc:=zzx HT_);refine zzp 34 119 (zzb 58 34359738367) ?_ (hc:=zzx HT_);refine zzp 39 124 (zzb 58 584115552255) ?_ (hc:=zzx HT_);refine zzt 35 120 (zzb 58 618475290623) hHeld ?_ (hc:=zzy HT_ HW_) (hy:=by rintro w' ⟨s0,s1,s2,s3,s4,s5,s6,s7,s8,s9,s10,s11,s12,s13⟩;go_simp;with_reducible rfl);refine zzp 36 121 (zzb 58 687194767359) ?_ (hc:=zzx HT_);refine zzt 37 122 (zzb 58 824633720831) hHeld ?_ (hc:=zzy HT_ HW_) (hy:=by rintro w' ⟨s0,s1,s2,s3,s4,s5,s6,s7,s8,s9,s10,s11,s12,s13⟩;go_simp;with_reducible rfl);refine zzp 38 123 (zzb 58 1099511627775) ?_ (hc:=zzx HT_);refine zzt 40 125 (zzb 58 2199023255551) hHeld ?_ (hc:=zzy HT_ HW_) (hy:=by rintro w' ⟨s0,s1,s2,s3,s4,s5,s6,s7,s8,s9,s10,s11,s12,s13⟩;go_simp;with_reducible rfl);refine zzp 41 126 (zzb 58 4398046511103) ?_ (hc:=zzx HT_);refine zzp 42 127 (zzb 58 8796093022207) ?_ (hc:=zzx HT_);refine zzp 43 128 (zzb 58 17592186044415) ?_ (hc:=zzx HT_);refine zzp 44 129 (zzb 58 35184372088831) ?_ (hc:=zzx HT_);refine zzp 45 130 (zzb 58 70368744177663) ?_ (hc:=zzx HT_);refine zzp 49 134 (zzb 58 633318697598975) ?_ (hc:=zzx HT_);refine zzp 53 138 (zzb 58 9640517952339967) ?_ (hc:=zzx HT_);refine zzp 54 139 (zzb 58 27654916461821951) ?_ (hc:=zzx HT_);refine zzp 55 140 (zzb 58 63683713480785919) ?_ (hc:=zzx HT_)
                        (refine zzt 46 131 (zzb 58 63754082224963583) hHeld ?_ (hc:=zzy HT_ HW_) (hy:=by rintro w' ⟨s0,s1,s2,s3,s4,s5,s6,s7,s8,s9,s10,s11,s12,s13⟩;go_simp;with_reducible rfl);refine zzp 47 132 (zzb 58 63894819713318911) ?_ (hc:=zzx HT_);refine zzt 48 133 (zzb 58 64176294690029567) hHeld ?_ (hc:=zzy HT_ HW_) (hy:=by rintro w' ⟨s0,s1,s2,s3,s4,s5,s6,s7,s8,s9,s10,s11,s12,s13⟩;go_simp;with_reducible rfl);refine zzt 50 135 (zzb 58 65302194596872191) hHeld ?_ (hc:=zzy HT_ HW_) (hy:=by rintro w' ⟨s0,s1,s2,s3,s4,s5,s6,s7,s8,s9,s10,s11,s12,s13⟩;go_simp;with_reducible rfl);refine zzp 51 136 (zzb 58 67553994410557439) ?_ (hc:=zzx HT_);refine zzt 52 137 (zzb 58 72057594037927935) hHeld ?_ (hc:=zzy HT_ HW_) (hy:=by rintro w' ⟨s0,s1,s2,s3,s4,s5,s6,s7,s8,s9,s10,s11,s12,s13⟩;go_simp;with_reducible rfl);refine zzp 56 141 (zzb 58 144115188075855871) ?_ (hc:=zzx HT_);refine zzp 57 142 (zzb 58 288230376151711743) ?_ (hc:=zzx HT_);refine done_ (done_of HT_.out (by kernel_rfl)) ?_;try go_wp2);go_meet
                        case rel=>exact ⟨_,H',⟨by have:=HJ6.out;have:=HJ31.out;first|omega|exact Nat.le_refl _⟩,⟨zzj HO_4⟩,⟨zzl HO_7⟩,⟨zzl HO_11⟩,⟨zzl HO_26⟩,⟨zzi BK18⟩,⟨zzi BK19⟩,⟨zzi BK20⟩,⟨zzh⟩⟩
                       ·
                        rw [if_neg c49] at H;have c49b0:((rd (rd_L5 t39 t11) t10) == (ji66)) = false:=beq_eq_false_iff_ne.mpr c49;have c49b1:((rd (rd_L5 t39 t11) t10) != (ji66)) = true:=bne_iff_ne.mpr c49;exact absurd ((Option.some.inj H).trans HRT.out) Bool.false_ne_true
                      ·
                       rw [if_neg c46] at H;exact absurd H (by simp)
                     ·
                      rw [if_neg c45] at H;exact absurd H (by simp)
                   ·
                    rw [if_neg c91] at H;exact absurd H (by simp)
                  ·
                   rw [if_neg c90] at H;exact absurd H (by simp)
               ·
                rw [if_neg c68] at H;exact absurd H (by simp)
              ·
               rw [if_neg c67] at H;exact absurd H (by simp)
            ·
             rw [if_neg c55] at H;exact absurd H (by simp)
           ·
            (replace c54:=Bool.eq_false_iff.mpr c54;subst c54;have H1:(some false) = some r:=by rw [if_neg (show ¬ (false = true) by decide)] at H;exact H);clear H;have H:=H1;clear H1;exact absurd ((Option.some.inj H).trans HRT.out) Bool.false_ne_true
          ·
           (replace c52:=Bool.eq_false_iff.mpr c52;subst c52;have H1:(some false) = some r:=by rw [if_neg (show ¬ (false = true) by decide)] at H;exact H);clear H;have H:=H1;clear H1;exact absurd ((Option.some.inj H).trans HRT.out) Bool.false_ne_true
         ·
          (replace c50:=Bool.eq_false_iff.mpr c50;subst c50;have H1:(laws_FnPaths.j2 kj31 t7 t2 t12 t27 false t1 t5 t6 t8 t9 t10 t11) = some r:=by rw [if_neg (show ¬ (false = true) by decide)] at H;exact H);clear H;have H:=H1;clear H1;have H':=zM H;clear H;go_wp2;go_meet
          case rel=>exact ⟨_,H',⟨by have:=HJ6.out;have:=HJ31.out;first|omega|exact Nat.le_refl _⟩,⟨zzj HO_4⟩,⟨zzl HO_7⟩,⟨zzl HO_11⟩,⟨zzl HO_26⟩,⟨zzi BK18⟩,⟨zzi BK19⟩,⟨zzi BK20⟩,⟨zzh⟩⟩
        case rest =>
         clear HC49;(try clear c1);(try clear c2);(try clear p2);(try clear c5);(try clear c13);(try clear c29);(try clear c50);(try clear c52);(try clear c64);(try clear c65);(try clear c66);(try clear hcz67_0);(try clear hcz67_1);(try clear hcz67_2);(try clear hcz68_0);(try clear hcz68_1);(try clear hfz67_0);(try clear hfz67_1);(try clear hfz67_2);(try clear hfz68_0);(try clear hfz68_1);obtain ⟨kq,HA,HJ48,HO_4,HO_7,HO_11,HO_26,BK18,BK19,BK20,HB⟩:=hcut;cases kq with
         | zero=>exact absurd HA.out (by simp [laws_FnPaths.j2])
         | succ kj48 =>
          have H:=HA.out;clear HA;simp only [laws_FnPaths.j2] at H;by_cases c70:t12 = true
          ·
           subst c70;have H1:(laws_FnPaths.l0 kj48 t7 t2 t27 t30 0 t1 t5 t6 t8 t9 t10 t11) = some r:=by rw [if_pos rfl] at H;exact H
           clear H;have H:=H1;clear H1;have H':=zM H;clear H;go_wp2;go_loopg [17] kj48 (fun kq v17 w' => ∃ (x17_4:Int),v17 = .int .i64 x17_4 ∧ Aside0 (laws_FnPaths.l0 kq t7 t2 t27 t30 x17_4 t1 t5 t6 t8 t9 t10 t11 = some r) ∧ Aside0 (kq ≤ kj48) ∧ Aside0 (Kd.S (Kd.slice 48 k48) 27 w' w.heap.size (fun k_=>some k_ ≠ (v21:Value).ownBlock ∧ some k_ ≠ (v34:Value).ownBlock ∧ some k_ ≠ ((.slice Ao15 t6.length co15):Value).ownBlock ∧ k_ ≠ gb19 ∧ k_ ≠ gb20) (.slice Ao19 t7.length co19) t7) ∧ Aside0 (Kd.R k48 48 w' w.heap.size (fun k_=>some k_ ≠ (v34:Value).ownBlock ∧ some k_ ≠ ((.slice Ao15 t6.length co15):Value).ownBlock ∧ k_ ≠ gb19 ∧ k_ ≠ gb20) v21 t2) ∧ Aside0 (Kd.R k48 48 w' w.heap.size (fun k_=>some k_ ≠ (v21:Value).ownBlock ∧ some k_ ≠ ((.slice Ao15 t6.length co15):Value).ownBlock ∧ k_ ≠ gb19 ∧ k_ ≠ gb20) v34 t27) ∧ Aside0 (Kd.R k48 48 w' w.heap.size (fun k_=>some k_ ≠ (v21:Value).ownBlock ∧ some k_ ≠ (v34:Value).ownBlock ∧ k_ ≠ gb19 ∧ k_ ≠ gb20) (.slice Ao15 t6.length co15) t6) ∧ Aside0 (w'.heap[gb18]? = some (.cells #[.int .i64 t1,.int .i64 t5,(.slice Ao15 t6.length co15)] 29 (0,0))) ∧ Aside0 (w'.heap[gb19]? = some (.cells #[.int .i64 t8,.int .i64 t9] 48 (0,0))) ∧ Aside0 (w'.heap[gb20]? = some (.cells #[.int .i64 t10,.int .i64 t11] 48 (0,0))) ∧ Aside0 (Below w.heap.size w w'))
           case atStart=>exact ⟨(0),zq91,H',⟨Nat.le_refl _⟩,⟨zzj HO_4⟩,⟨zzl HO_7⟩,⟨zzl HO_11⟩,⟨zzl HO_26⟩,⟨zzi BK18⟩,⟨zzi BK19⟩,⟨zzi BK20⟩,⟨zzh⟩⟩
           case round =>
            clear H';(try clear c1);(try clear c2);(try clear p2);(try clear c5);(try clear c13);(try clear c14);(try clear c29);(try clear c50);(try clear c52);(try clear c64);(try clear c65);(try clear c66);(try clear c70);(try clear hcz67_0);(try clear hcz67_1);(try clear hcz67_2);(try clear hcz68_0);(try clear hcz68_1);(try clear hfz67_0);(try clear hfz67_1);(try clear hfz67_2);(try clear hfz68_0);(try clear hfz68_1);(try clear p2);obtain ⟨x17_4,rfl,HA,HK4,HO_4,HO_7,HO_11,HO_26,BK18,BK19,BK20,HB⟩:=hrel;cases gk with
            | zero=>exact absurd HA.out (by simp [laws_FnPaths.l0])
            | succ k4 =>
             have H:=HA.out;clear HA;simp only [laws_FnPaths.l0] at H;by_cases c71:x17_4 < (t7.length:Int)
             ·
              rw [if_pos c71] at H;have c71b0:decide (x17_4 < (t7.length:Int)) = true:=decide_eq_true c71;clear c71;by_cases c72:0 ≤ x17_4
              ·
               rw [if_pos c72] at H;have c72b0:decide (0 ≤ x17_4) = true:=decide_eq_true c72;clear c72;replace H:=Option.bind_eq_some_iff.mp H;obtain ⟨⟨t69,t73,t74⟩,A75,H⟩:=H;replace H:(if t74 = true then (if t73 = true then (some false) else (laws_FnPaths.l0 k4 t7 t2 t27 t30 (wrap64 (x17_4 + 1)) t1 t5 t6 t8 t9 t10 t11)) else (some false)) = some r:=H;have A76:=zM A75;clear A75;by_cases c77:t74 = true
               ·
                subst c77;have H1:(if t73 = true then (some false) else (laws_FnPaths.l0 k4 t7 t2 t27 t30 (wrap64 (x17_4 + 1)) t1 t5 t6 t8 t9 t10 t11)) = some r:=by rw [if_pos rfl] at H;exact H
                clear H;have H:=H1;clear H1;by_cases c78:t73 = true
                ·
                 subst c78;have H1:(some false) = some r:=by rw [if_pos rfl] at H;exact H
                 clear H;have H:=H1;clear H1;exact absurd ((Option.some.inj H).trans HRT.out) Bool.false_ne_true
                ·
                 (replace c78:=Bool.eq_false_iff.mpr c78;subst c78;have H1:(laws_FnPaths.l0 k4 t7 t2 t27 t30 (wrap64 (x17_4 + 1)) t1 t5 t6 t8 t9 t10 t11) = some r:=by rw [if_neg (show ¬ (false = true) by decide)] at H;exact H);clear H;have H:=H1;clear H1;have H':=zM H;clear H;try go_wp2
                 replace HO_4:= zM (Kd.S_drew HO_4.out);replace HO_7:= zM (zC HO_7.out);replace HO_11:= zM (zC HO_11.out);replace HO_26:= zM (zC HO_26.out);replace BK18:= zM (zK BK18.out);replace BK19:= zM (zK BK19.out);replace BK20:= zM (zK BK20.out);replace HB:= zM (zF HB.out);have p79:0 ≤ (x17_4:Int):=zzd;have q79:x17_4 < (t7.length:Int):=zzd;obtain ⟨ad79,A79_0,c79_0,e79,hx79_0,hl79_0,hi79_0⟩:=at_L6 (Kd.S_reads' HO_4.out).2.2 x17_4 p79 q79;cases e79;obtain ⟨ce79,hce79,hMe79,hcc79⟩:=Kd.S_get HO_4.out [] x17_4 p79 (by first|exact q79|exact zzd|(have e_:=(Kd.S_reads' HO_4.out).1;omega));obtain ⟨ve79_0,rfl,ge79_0⟩:=hMe79;have hv79_0:=hcc79 0 _ rfl;rw [Nat.add_zero,show ((Kd.slice 48 k48)).sz = 1 from rfl,Nat.mul_one] at hv79_0;replace hv79_0:=Option.some.inj (hv79_0.symm.trans hx79_0);rw [hv79_0] at ge79_0;have HL79_0:=zM (show Kd.R k48 48 _ _ _ _ (rd_L6 t7 x17_4) from ge79_0);clear hv79_0 ge79_0;clear hcc79 hce79;have HR79_0:=zM hi79_0;have HC79_0:=zM hl79_0;clear hi79_0 hl79_0;replace p79:=eq_true p79;replace q79:=eq_true q79;obtain ⟨Ao80,co80,eo80⟩:=Kd.R_slice HO_7.out;(first|subst eo80|(injection eo80 with f1_ f2_ f3_;have f4_:=f1_.symm;have f5_:=f3_.symm;clear f1_ f2_ f3_;subst f4_;subst f5_));refine start_ (n:=14) (S:=fun w'=>w'.cell? ⟨gb18,0,none⟩ = some (.int .i64 t1) ∧ w'.cell? ⟨gb18,1,none⟩ = some (.int .i64 t5) ∧ w'.cell? ⟨gb18,2,none⟩ = some (.slice Ao15 t6.length co15) ∧ w'.cell? (ad79.add (x17_4).toNat) = some (.slice A79_0 (rd_L6 t7 x17_4).length c79_0)) (ds:=[]) #[false,false,false,false,false,false,false,false,false,false,false,false,false,false] (by kernel_rfl) rfl rfl ⟨zz0 BK18,zz1 BK18,zz2 BK18,hx79_0⟩ (fun hHeld=>?_);refine with_tabW laws_FnPaths.tab21 laws_FnPaths.bits21 (fun HT_ HW_=>?_)
                 generalize wr.drew = w81 at HO_4 HO_7 HO_11 HO_26 BK18 BK19 BK20 HB HL79_0 HR79_0 hx79_0 hHeld ⊢;refine zzp 1 156 (zzb 14 2) ?_ (hc:=zzx HT_);refine zzp 2 157 (zzb 14 6) ?_ (hc:=zzx HT_);refine zzp 3 158 (zzb 14 14) ?_ (hc:=zzx HT_);refine zzp 4 159 (zzb 14 30) ?_ (hc:=zzx HT_);refine zzt 0 155 (zzb 14 31) hHeld ?_ (hc:=zzy HT_ HW_) (hy:=by rintro w' ⟨s0,s1,s2,s3⟩;go_simp;with_reducible rfl);refine zzt 5 160 (zzb 14 63) hHeld ?_ (hc:=zzy HT_ HW_) (hy:=by rintro w' ⟨s0,s1,s2,s3⟩;go_simp;with_reducible rfl);refine zzo 6 161 (zzb 14 127) (hc:=zzw HT_) (fun K hK=>?_);refine zzf Try.func24 #[.agg #[.int .i64 t1,.int .i64 t5,.slice Ao15 t6.length co15],.slice Ao80 t2.length co80,.slice A79_0 (rd_L6 t7 x17_4).length c79_0] ?_;with_reducible refine (impl_FirstCollision.calls k4 t1 t5 _ _ t6 _ _ t2 _ _ (rd_L6 t7 x17_4) t69 false true _ ?side1 ?side2 ?side3 ?side4 ?side5 ?side6 A76.out).mono ?_
                 (case side1=>repeat (first|exact (zN HO_26.out).2.2|(with_reducible first|refine zG ?_ _|refine zH ?_ _|refine zI ?_)));(case side2=>exact (zN HO_26.out).2.1);(case side3=>repeat (first|exact (zN HO_7.out).2.2|(with_reducible first|refine zG ?_ _|refine zH ?_ _|refine zI ?_)));(case side4=>exact (zN HO_7.out).2.1);(case side5=>repeat (first|exact zq75|(with_reducible first|refine zG ?_ _|refine zH ?_ _|refine zI ?_)));(case side6=>exact HC79_0.out);rintro e w82 ⟨rfl,hb⟩;have HS3_:=(hb.cell (World.block_lt_of_cell? _ _ (hHeld.2.2.2))).trans (hHeld.2.2.2);refine ⟨_,rfl,?_⟩;replace HO_4:= zM (Kd.S_below (zzj HO_4) hb);replace HO_7:= zM (zP (zzl HO_7) hb);replace HO_11:= zM (zP (zzl HO_11) hb);replace HO_26:= zM (zP (zzl HO_26) hb);replace HL79_0:= zM (zP (zzl HL79_0) hb);replace BK18:= zM (blk_below (zzi BK18) hb);replace BK19:= zM (blk_below (zzi BK19) hb);replace BK20:= zM (blk_below (zzi BK20) hb);replace HR79_0:= zM (zO zq75 hb);replace HB:= zM (zQ zzh hb);(try clear hb);(try clear hb2);(try clear hk);(try clear hi);refine hK.out _ _ ⟨zz0 BK18,zz1 BK18,zz2 BK18,HS3_⟩ (fun hHeld=>?_);clear hK K;refine zzn 161 ?_;refine zzp 7 154 (zzb 14 255) ?_ (hc:=zzx HT_);refine zzp 8 162 (zzb 14 511) ?_ (hc:=zzx HT_);refine zzp 9 163 (zzb 14 1023) ?_ (hc:=zzx HT_);refine zzp 10 164 (zzb 14 2047) ?_ (hc:=zzx HT_);refine zzp 11 18 (zzb 14 4095) ?_ (hc:=zzx HT_);refine zzp 12 19 (zzb 14 8191) ?_ (hc:=zzx HT_);refine zzp 13 20 (zzb 14 16383) ?_ (hc:=zzx HT_);refine done_ (done_of HT_.out (by kernel_rfl)) ?_
                 (try go_wp2);go_roundg k4
                 case measure=>have:=HJ6.out;have:=HJ31.out;have:=HJ48.out;have:=HK4.out;omega
                 case rel=>exact ⟨(wrap64 (x17_4 + 1)),zq91,H',⟨by have:=HJ6.out;have:=HJ31.out;have:=HJ48.out;have:=HK4.out;omega⟩,⟨zzj HO_4⟩,⟨zzl HO_7⟩,⟨zzl HO_11⟩,⟨zzl HO_26⟩,⟨zzi BK18⟩,⟨zzi BK19⟩,⟨zzi BK20⟩,⟨zzh⟩⟩
               ·
                (replace c77:=Bool.eq_false_iff.mpr c77;subst c77;have H1:(some false) = some r:=by rw [if_neg (show ¬ (false = true) by decide)] at H;exact H);clear H;have H:=H1;clear H1;exact absurd ((Option.some.inj H).trans HRT.out) Bool.false_ne_true
              ·
               rw [if_neg c72] at H;exact absurd H (by simp)
             ·
              rw [if_neg c71] at H;have c71b0:decide (x17_4 < (t7.length:Int)) = false:=decide_eq_false c71;clear c71;by_cases c83:t30 = true
              ·
               subst c83;have H1:((impl_IsValidPath.f k4 t1 t5 t6 t2).bind fun t84=>(if t84 = true then (if 0 < (t2.length:Int) then (if (((rd_T48 t2 0).f0) == t8 && (((rd_T48 t2 0).f1) == t9)) = true then (if 0 ≤ (wrap64 ((t2.length:Int) - 1)) then (if (wrap64 ((t2.length:Int) - 1)) < (t2.length:Int) then (if (((rd_T48 t2 (wrap64 ((t2.length:Int) - 1))).f0) == t10 && (((rd_T48 t2 (wrap64 ((t2.length:Int) - 1))).f1) == t11)) = true then (some (decide ((t2.length:Int) ≥ (t27.length:Int)))) else (some false)) else (none)) else (none)) else (some false)) else (none)) else (some false))) = some r:=by rw [if_pos rfl] at H;exact H
               clear H;have H:=H1;clear H1;replace H:=Option.bind_eq_some_iff.mp H;obtain ⟨t84,A85,H⟩:=H;replace H:(if t84 = true then (if 0 < (t2.length:Int) then (if (((rd_T48 t2 0).f0) == t8 && (((rd_T48 t2 0).f1) == t9)) = true then (if 0 ≤ (wrap64 ((t2.length:Int) - 1)) then (if (wrap64 ((t2.length:Int) - 1)) < (t2.length:Int) then (if (((rd_T48 t2 (wrap64 ((t2.length:Int) - 1))).f0) == t10 && (((rd_T48 t2 (wrap64 ((t2.length:Int) - 1))).f1) == t11)) = true then (some (decide ((t2.length:Int) ≥ (t27.length:Int)))) else (some false)) else (none)) else (none)) else (some false)) else (none)) else (some false)) = some r:=H;have A86:=zM A85;clear A85;by_cases c87:t84 = true
               ·
                subst c87;have H1:(if 0 < (t2.length:Int) then (if (((rd_T48 t2 0).f0) == t8 && (((rd_T48 t2 0).f1) == t9)) = true then (if 0 ≤ (wrap64 ((t2.length:Int) - 1)) then (if (wrap64 ((t2.length:Int) - 1)) < (t2.length:Int) then (if (((rd_T48 t2 (wrap64 ((t2.length:Int) - 1))).f0) == t10 && (((rd_T48 t2 (wrap64 ((t2.length:Int) - 1))).f1) == t11)) = true then (some (decide ((t2.length:Int) ≥ (t27.length:Int)))) else (some false)) else (none)) else (none)) else (some false)) else (none)) = some r:=by rw [if_pos rfl] at H;exact H
                clear H;have H:=H1;clear H1;by_cases c88:0 < (t2.length:Int)
                ·
                 rw [if_pos c88] at H;have c88b0:decide (0 < (t2.length:Int)) = true:=decide_eq_true c88;have c88b1:decide (0 < t2.length) = true:=decide_eq_true (by omega);clear c88;by_cases c89:(((rd_T48 t2 0).f0) == t8 && (((rd_T48 t2 0).f1) == t9)) = true
                 ·
                  (rw [if_pos c89] at H;have c89b0:(((rd_T48 t2 0).f0) == t8 && (((rd_T48 t2 0).f1) == t9)) = true:=c89;(try (have c89b1:decide (((rd_T48 t2 0).f0) = t8 && (((rd_T48 t2 0).f1) == t9)) = true:=by simpa using c89));(try (have c89b2:(((rd_T48 t2 0).f0) == t8 && (((rd_T48 t2 0).f1) == t9)) = true:=by simpa using c89));clear c89;obtain ⟨ji90,hji90⟩ : ∃ j_:Int,(wrap64 ((t2.length:Int) - 1)) = j_:=⟨_,rfl⟩;replace H:(if 0 ≤ (ji90) then (if (ji90) < (t2.length:Int) then (if (((rd_T48 t2 (ji90)).f0) == t10 && (((rd_T48 t2 (ji90)).f1) == t11)) = true then (some (decide ((t2.length:Int) ≥ (t27.length:Int)))) else (some false)) else (none)) else (none)) = some r:=by first|(rw [hji90] at H;exact H)|(simp only [hji90] at H ⊢;exact H));(try rw [hji90] at A86);have hji90w:(IntKind.i64.wrap ((t2.length:Int) - 1)) = ji90:=(i64_w _).trans hji90;by_cases c93:0 ≤ (ji90)
                  ·
                   rw [if_pos c93] at H;have c93b0:decide (0 ≤ (ji90)) = true:=decide_eq_true c93;clear c93;by_cases c94:(ji90) < (t2.length:Int)
                   ·
                    rw [if_pos c94] at H;have c94b0:decide ((ji90) < (t2.length:Int)) = true:=decide_eq_true c94;clear c94;by_cases c95:(((rd_T48 t2 (ji90)).f0) == t10 && (((rd_T48 t2 (ji90)).f1) == t11)) = true
                    ·
                     (rw [if_pos c95] at H;have c95b0:(((rd_T48 t2 (ji90)).f0) == t10 && (((rd_T48 t2 (ji90)).f1) == t11)) = true:=c95;(try (have c95b1:decide (((rd_T48 t2 (ji90)).f0) = t10 && (((rd_T48 t2 (ji90)).f1) == t11)) = true:=by simpa using c95));(try (have c95b2:(((rd_T48 t2 (ji90)).f0) == t10 && (((rd_T48 t2 (ji90)).f1) == t11)) = true:=by simpa using c95));clear c95;obtain rfl:=Option.some.inj H;try go_wp2);replace HO_4:= zM (Kd.S_drew HO_4.out);replace HO_7:= zM (zC HO_7.out);replace HO_11:= zM (zC HO_11.out);replace HO_26:= zM (zC HO_26.out);replace BK18:= zM (zK BK18.out);replace BK19:= zM (zK BK19.out);replace BK20:= zM (zK BK20.out);replace HB:= zM (zF HB.out);obtain ⟨Ao91,co91,eo91⟩:=Kd.R_slice HO_7.out;(first|subst eo91|(injection eo91 with f1_ f2_ f3_;have f4_:=f1_.symm;have f5_:=f3_.symm;clear f1_ f2_ f3_;subst f4_;subst f5_));have p92:0 ≤ (0:Int):=(by omega);have q92:0 < (t2.length:Int):=zzd;obtain ⟨ad92,e92,hx92_0,hx92_1⟩:=at_T48 (zN HO_7.out).2.2 0 p92 q92;cases e92;have qi92:(0 < t2.length) = True:=eq_true (by omega);(try rw [show ((0:Int)).toNat = 0 from rfl] at hx92_0);(try rw [show 0 * 2 = 0 from rfl] at hx92_0);(try rw [Addr.add_zero'] at hx92_0);(try rw [show ((0:Int)).toNat = 0 from rfl] at hx92_1);(try rw [show 0 * 2 = 0 from rfl] at hx92_1);(try rw [Addr.add_zero'] at hx92_1);replace p92:=eq_true p92;replace q92:=eq_true q92;have p96:0 ≤ ((ji90):Int):=zzd;have q96:(ji90) < (t2.length:Int):=zzd;obtain ⟨ad96,e96,hx96_0,hx96_1⟩:=at_T48 (zN HO_7.out).2.2 (ji90) p96 q96;obtain rfl:ad92 = ad96:=(by injection e96)
                     replace p96:=eq_true p96;replace q96:=eq_true q96;refine start_ (n:=31) (S:=fun w'=>w'.cell? ⟨gb18,0,none⟩ = some (.int .i64 t1) ∧ w'.cell? ⟨gb18,1,none⟩ = some (.int .i64 t5) ∧ w'.cell? ⟨gb18,2,none⟩ = some (.slice Ao15 t6.length co15) ∧ w'.cell? ⟨gb19,0,none⟩ = some (.int .i64 t8) ∧ w'.cell? ⟨gb19,1,none⟩ = some (.int .i64 t9) ∧ w'.cell? ⟨gb20,0,none⟩ = some (.int .i64 t10) ∧ w'.cell? ⟨gb20,1,none⟩ = some (.int .i64 t11) ∧ w'.cell? ad92 = some (.int .i64 ((rd_T48 t2 0).f0)) ∧ w'.cell? ⟨ad92.block,ad92.off + 1,none⟩ = some (.int .i64 ((rd_T48 t2 0).f1)) ∧ w'.cell? (ad92.add (((ji90)).toNat * 2)) = some (.int .i64 ((rd_T48 t2 (ji90)).f0)) ∧ w'.cell? ⟨(ad92.add (((ji90)).toNat * 2)).block,(ad92.add (((ji90)).toNat * 2)).off + 1,none⟩ = some (.int .i64 ((rd_T48 t2 (ji90)).f1))) (ds:=[]) #[false,false,false,false,false,false,false,false,false,false,false,false,false,false,false,false,false,false,false,false,false,false,false,false,false,false,false,false,false,false,false] (by kernel_rfl) rfl rfl ⟨zz0 BK18,zz1 BK18,zz2 BK18,zz0 BK19,zz1 BK19,zz0 BK20,zz1 BK20,hx92_0,hx92_1,hx96_0,hx96_1⟩ (fun hHeld=>?_);refine with_tabW laws_FnPaths.tab24 laws_FnPaths.bits24 (fun HT_ HW_=>?_);generalize wr.drew = w97 at HO_4 HO_7 HO_11 HO_26 BK18 BK19 BK20 HB hx92_0 hx92_1 hx96_0 hx96_1 hHeld ⊢;refine zzp 0 170 (zzb 31 1) ?_ (hc:=zzx HT_);refine zzp 1 171 (zzb 31 3) ?_ (hc:=zzx HT_);refine zzp 3 173 (zzb 31 11) ?_ (hc:=zzx HT_);refine zzt 2 172 (zzb 31 15) hHeld ?_ (hc:=zzy HT_ HW_) (hy:=by rintro w' ⟨s0,s1,s2,s3,s4,s5,s6,s7,s8,s9,s10⟩;go_simp;with_reducible rfl)
                     (refine zzo 4 174 (zzb 31 31) (hc:=zzw HT_) (fun K hK=>?_);refine zzf Try.func21 #[.agg #[.int .i64 t1,.int .i64 t5,.slice Ao15 t6.length co15],.slice (some ad92) t2.length co91] ?_;with_reducible refine (impl_IsValidPath.calls k4 t1 t5 _ _ t6 _ _ t2 true _ ?side1 ?side2 ?side3 ?side4 A86.out).mono ?_);(case side1=>repeat (first|exact (zN HO_26.out).2.2|(with_reducible first|refine zG ?_ _|refine zH ?_ _|refine zI ?_)));(case side2=>exact (zN HO_26.out).2.1);(case side3=>repeat (first|exact (zN HO_7.out).2.2|(with_reducible first|refine zG ?_ _|refine zH ?_ _|refine zI ?_)));(case side4=>exact (zN HO_7.out).2.1);rintro e w98 ⟨rfl,hb⟩;have HS7_:=(hb.cell (World.block_lt_of_cell? _ _ (hHeld.2.2.2.2.2.2.2.1))).trans (hHeld.2.2.2.2.2.2.2.1);have HS8_:=(hb.cell (World.block_lt_of_cell? _ _ (hHeld.2.2.2.2.2.2.2.2.1))).trans (hHeld.2.2.2.2.2.2.2.2.1);have HS9_:=(hb.cell (World.block_lt_of_cell? _ _ (hHeld.2.2.2.2.2.2.2.2.2.1))).trans (hHeld.2.2.2.2.2.2.2.2.2.1);have HS10_:=(hb.cell (World.block_lt_of_cell? _ _ (hHeld.2.2.2.2.2.2.2.2.2.2))).trans (hHeld.2.2.2.2.2.2.2.2.2.2);refine ⟨_,rfl,?_⟩;replace HO_4:= zM (Kd.S_below (zzj HO_4) hb);replace HO_7:= zM (zP (zzl HO_7) hb);replace HO_11:= zM (zP (zzl HO_11) hb);replace HO_26:= zM (zP (zzl HO_26) hb);replace BK18:= zM (blk_below (zzi BK18) hb);replace BK19:= zM (blk_below (zzi BK19) hb);replace BK20:= zM (blk_below (zzi BK20) hb);replace HB:= zM (zQ zzh hb);(try clear hb);(try clear hb2);(try clear hk);(try clear hi);obtain ⟨Ao99,co99,eo99⟩:=Kd.R_slice HO_11.out;(first|subst eo99|(injection eo99 with f1_ f2_ f3_;have f4_:=f1_.symm;have f5_:=f3_.symm;clear f1_ f2_ f3_;subst f4_;subst f5_))
                     refine hK.out _ _ ⟨zz0 BK18,zz1 BK18,zz2 BK18,zz0 BK19,zz1 BK19,zz0 BK20,zz1 BK20,HS7_,HS8_,HS9_,HS10_⟩ (fun hHeld=>?_);clear hK K;refine zzn 174 ?_;refine zzp 5 175 (zzb 31 63) ?_ (hc:=zzx HT_);refine zzp 6 176 (zzb 31 127) ?_ (hc:=zzx HT_);refine zzp 7 177 (zzb 31 255) ?_ (hc:=zzx HT_);refine zzp 8 178 (zzb 31 511) ?_ (hc:=zzx HT_);refine zzt 9 179 (zzb 31 1023) hHeld ?_ (hc:=zzy HT_ HW_) (hy:=by rintro w' ⟨s0,s1,s2,s3,s4,s5,s6,s7,s8,s9,s10⟩;go_simp;with_reducible rfl);refine zzt 10 180 (zzb 31 2047) hHeld ?_ (hc:=zzy HT_ HW_) (hy:=by rintro w' ⟨s0,s1,s2,s3,s4,s5,s6,s7,s8,s9,s10⟩;go_simp;with_reducible rfl);refine zzp 11 181 (zzb 31 4095) ?_ (hc:=zzx HT_);refine zzp 12 182 (zzb 31 8191) ?_ (hc:=zzx HT_);refine zzp 13 183 (zzb 31 16383) ?_ (hc:=zzx HT_);refine zzp 14 184 (zzb 31 32767) ?_ (hc:=zzx HT_);refine zzp 15 185 (zzb 31 65535) ?_ (hc:=zzx HT_);refine zzp 16 186 (zzb 31 131071) ?_ (hc:=zzx HT_);refine zzp 17 187 (zzb 31 262143) ?_ (hc:=zzx HT_);refine zzp 18 188 (zzb 31 524287) ?_ (hc:=zzx HT_);refine zzt 19 189 (zzb 31 1048575) hHeld ?_ (hc:=zzy HT_ HW_) (hy:=by rintro w' ⟨s0,s1,s2,s3,s4,s5,s6,s7,s8,s9,s10⟩;go_simp;with_reducible rfl);refine zzt 20 190 (zzb 31 2097151) hHeld ?_ (hc:=zzy HT_ HW_) (hy:=by rintro w' ⟨s0,s1,s2,s3,s4,s5,s6,s7,s8,s9,s10⟩;go_simp;with_reducible rfl);refine zzp 21 191 (zzb 31 4194303) ?_ (hc:=zzx HT_);refine zzp 22 192 (zzb 31 8388607) ?_ (hc:=zzx HT_);refine zzp 23 193 (zzb 31 16777215) ?_ (hc:=zzx HT_);refine zzp 24 194 (zzb 31 33554431) ?_ (hc:=zzx HT_);refine zzp 25 195 (zzb 31 67108863) ?_ (hc:=zzx HT_);refine zzp 26 196 (zzb 31 134217727) ?_ (hc:=zzx HT_);refine zzp 27 197 (zzb 31 268435455) ?_ (hc:=zzx HT_);refine zzp 28 198 (zzb 31 536870911) ?_ (hc:=zzx HT_);refine zzp 29 199 (zzb 31 1073741823) ?_ (hc:=zzx HT_);refine zzp 30 2 (zzb 31 2147483647) ?_ (hc:=zzx HT_)
                     (refine done_ (done_of HT_.out (by kernel_rfl)) ?_;try go_wp2);go_ret;exact ⟨by first|rfl|(simp [errW_none,errW_some] <;> rfl)|(simp only [← hji90];first|rfl|(simp [errW_none,errW_some] <;> rfl))|(simp [*,errW_none,errW_some] <;> rfl),zzh⟩
                    ·
                     (rw [if_neg c95] at H;have c95b0:(((rd_T48 t2 (ji90)).f0) == t10 && (((rd_T48 t2 (ji90)).f1) == t11)) = false:=by simpa using c95);(try (have c95b1:decide (((rd_T48 t2 (ji90)).f0) = t10 && (((rd_T48 t2 (ji90)).f1) == t11)) = false:=by simpa using c95));(try (have c95b2:(((rd_T48 t2 (ji90)).f0) == t10 && (((rd_T48 t2 (ji90)).f1) == t11)) = false:=by simpa using c95));(try (have c95b3:¬ (((rd_T48 t2 (ji90)).f0) = t10 && (((rd_T48 t2 (ji90)).f1) == t11)):=by simpa using c95));clear c95;exact absurd ((Option.some.inj H).trans HRT.out) Bool.false_ne_true
                   ·
                    rw [if_neg c94] at H;exact absurd H (by simp)
                  ·
                   rw [if_neg c93] at H;exact absurd H (by simp)
                 ·
                  (rw [if_neg c89] at H;have c89b0:(((rd_T48 t2 0).f0) == t8 && (((rd_T48 t2 0).f1) == t9)) = false:=by simpa using c89);(try (have c89b1:decide (((rd_T48 t2 0).f0) = t8 && (((rd_T48 t2 0).f1) == t9)) = false:=by simpa using c89));(try (have c89b2:(((rd_T48 t2 0).f0) == t8 && (((rd_T48 t2 0).f1) == t9)) = false:=by simpa using c89));(try (have c89b3:¬ (((rd_T48 t2 0).f0) = t8 && (((rd_T48 t2 0).f1) == t9)):=by simpa using c89));clear c89;exact absurd ((Option.some.inj H).trans HRT.out) Bool.false_ne_true
                ·
                 rw [if_neg c88] at H;exact absurd H (by simp)
               ·
                (replace c87:=Bool.eq_false_iff.mpr c87;subst c87;have H1:(some false) = some r:=by rw [if_neg (show ¬ (false = true) by decide)] at H;exact H);clear H;have H:=H1;clear H1;exact absurd ((Option.some.inj H).trans HRT.out) Bool.false_ne_true
              ·
               (replace c83:=Bool.eq_false_iff.mpr c83;subst c83;have H1:(some false) = some r:=by rw [if_neg (show ¬ (false = true) by decide)] at H;exact H);clear H;have H:=H1;clear H1;exact absurd ((Option.some.inj H).trans HRT.out) Bool.false_ne_true
          ·
           (replace c70:=Bool.eq_false_iff.mpr c70;subst c70;have H1:(some ((t2.length:Int) == 0)) = some r:=by rw [if_neg (show ¬ (false = true) by decide)] at H;exact H);clear H;have H:=H1;clear H1;obtain rfl:=Option.some.inj H;obtain ⟨Ao100,co100,eo100⟩:=Kd.R_slice HO_7.out;subst eo100;go_wp2;go_ret;exact ⟨zq84,zzh⟩

def laws_FnPaths.Pure:Prop := ∀ (l0:List Int),(l0.length ≤ maxLen ∧ ∀ y ∈ l0,(Lit.int .u8 y).wf = true) → ∃ k,laws_FnPaths.f k l0 = some true
theorem laws_FnPaths.walk (P:laws_FnPaths.Pure) (A0:Option Addr) (c0:Nat) (l0:List Int) (w:World) (hr0:Kd.C (Kd.int .u8) w A0 l0.length l0) (hc0:l0.length ≤ c0) (hw0:(l0.length ≤ maxLen ∧ ∀ y ∈ l0,(Lit.int .u8 y).wf = true)) :
  Calls Try.prog 11 #[.slice A0 l0.length c0] w fun e w'=>e = .returned (.bool true) ∧ Below w.heap.size w w':=by
 obtain ⟨k,h⟩:=P l0 hw0;refine (laws_FnPaths.calls k _ _ l0 true w hr0 hc0 h rfl).mono ?_;rintro e w' ⟨rfl,hd⟩;exact ⟨rfl,hd⟩

end Go.Proofs.Ytbpccdbkaiigcaa.G

namespace Go.Proofs.Ytbpccdbkaiigcaa.G
open Go.RowKit Go.Proofs.YtbpccdbkaiigcaaW.PrintWords Go.Proofs.YtbpccdbkaiigcaaW.PrintLast
def EvP {α : Type} (g : Nat → Option α) (P : α → Prop) : Prop := ∃ r,P r ∧ Ev g r
theorem EvP.now {α : Type} {P : α → Prop} (v : α) (h : P v) : EvP (fun _=>some v) P:=⟨v,h,Ev.now v⟩
theorem EvP.step {α : Type} {g f : Nat → Option α} {P : α → Prop} (h : ∀ k,g (k + 1) = f k) (k : EvP f P) : EvP g P:=by
 obtain ⟨r,p,e⟩:=k;exact ⟨r,p,Ev.step h e⟩
theorem EvP.bind {α β : Type} {g : Nat → Option α} {f : Nat → α → Option β} {P : α → Prop} {Q : β → Prop} (h : EvP g P) (k : ∀ a,P a → EvP (fun n=>f n a) Q) : EvP (fun n=>(g n).bind (f n)) Q:=by
 obtain ⟨a,p,e⟩:=h;obtain ⟨r,q,e2⟩:=k a p;exact ⟨r,q,Ev.bind e e2⟩
theorem EvP.ite {α : Type} {c : Prop} [Decidable c] {A B : Nat → Option α} {P : α → Prop} (h1 : c → EvP A P) (h2 : ¬ c → EvP B P) : EvP (fun k=>if c then A k else B k) P:=by
 by_cases h : c
 ·simpa only [if_pos h] using h1 h
 ·simpa only [if_neg h] using h2 h
theorem EvP.mono {α : Type} {g : Nat → Option α} {P Q : α → Prop} (h : EvP g P) (k : ∀ r,P r → Q r) : EvP g Q:=by
 obtain ⟨r,p,e⟩:=h;exact ⟨r,k r p,e⟩
def Cd (l : List Int) : Prop:=(l.length : Int) ≤ 65536 ∧ ∀ y ∈ l,0 ≤ y ∧ y ≤ 255
theorem cd_of {l : List Int} (h : (l.length : Int) ≤ 65536) (hw : ∀ y ∈ l,(Lit.int .u8 y).wf = true) : Cd l:=by
 refine ⟨h,fun y hy=>?_⟩;have e : (Lit.int .u8 y).wf = (decide (0 ≤ y) && decide (y ≤ 255)):=rfl;have:=hw y hy;rw [e] at this;simpa using this
theorem rd_memD (l : List Int) (i : Int) (h0 : 0 ≤ i) (h1 : i < (l.length : Int)) : rd l i ∈ l:=by
 unfold rd;rw [List.getD_eq_getElem?_getD,List.getElem?_eq_getElem (show i.toNat < l.length by omega)];exact List.getElem_mem _
theorem and255 (x : Int) : 0 ≤ Go.bits .and .u64 x 255 ∧ Go.bits .and .u64 x 255 ≤ 255:=by
 show 0 ≤ IntKind.u64.wrap (((BitVec.ofInt 64 x) &&& (BitVec.ofInt 64 255)).toNat : Int) ∧ IntKind.u64.wrap (((BitVec.ofInt 64 x) &&& (BitVec.ofInt 64 255)).toNat : Int) ≤ 255
 have h : ((BitVec.ofInt 64 x) &&& (BitVec.ofInt 64 255)).toNat ≤ 255:=by
  rw [BitVec.toNat_and];exact Nat.le_trans Nat.and_le_right (by decide)
 have e : IntKind.u64.wrap (((BitVec.ofInt 64 x) &&& (BitVec.ofInt 64 255)).toNat : Int) = (((BitVec.ofInt 64 x) &&& (BitVec.ofInt 64 255)).toNat : Int):=by
  generalize (((BitVec.ofInt 64 x) &&& (BitVec.ofInt 64 255)).toNat) = n at h ⊢;simp only [IntKind.wrap,IntKind.signed,IntKind.bits];simp;omega
 rw [e];omega
theorem next_ok {l : List Int} (hc : Cd l) (a s : Int) (h0 : 0 ≤ a) (h1 : a ≤ 1099511627776) : ∃ b s',spec_l1Cur_next.f l a s = some (b,a + 1,s') ∧ 0 ≤ b ∧ b ≤ 255:=by
 have hl:=hc.1;unfold spec_l1Cur_next.f;rw [wrap64_id (x:=a + 1) (by omega) (by omega)];by_cases h : a < (l.length : Int)
 ·have hm:=hc.2 _ (rd_memD l a h0 h)
  rw [if_pos h,if_pos h0,if_pos (by omega),wrap64_id (x:=rd l a) (by omega) (by omega)];exact ⟨_,_,rfl,hm.1,hm.2⟩
 ·rw [if_neg h,if_neg (by omega)]
  (refine ⟨_,_,rfl,?_⟩;generalize hX : Go.bits _ _ _ _ = X;have:=and255 (IntKind.u64.wrap (IntKind.u64.wrap (IntKind.u64.wrap (s * 6364136223846793005)) + 906906) / 1099511627776);have hb : 0 ≤ X ∧ X ≤ 255:=by rw [← hX];exact this);rw [wrap64_id (by omega) (by omega)];exact hb
theorem pick_ok {l : List Int} (hc : Cd l) (a s n : Int) (h0 : 0 ≤ a) (h1 : a ≤ 1000000) : ∃ b a' s',spec_l1Cur_pick.f l a s n = some (b,a',s') ∧ 0 ≤ b ∧ (b = 0 ∨ b < n) ∧ a ≤ a' ∧ a' ≤ a + 2:=by
 unfold spec_l1Cur_pick.f;by_cases g : n ≤ 1
 ·rw [if_pos g]
  exact ⟨_,_,_,rfl,by omega,by omega,by omega,by omega⟩
 ·obtain ⟨x,s1,e1,x0,x1⟩:=next_ok hc a s h0 (by omega)
  rw [if_neg g,e1];simp only [Option.bind_some];by_cases g2 : n > 200
  ·obtain ⟨y,s2,e2,y0,y1⟩:=next_ok hc (a + 1) s1 (by omega) (by omega)
   rw [if_pos g2,e2];simp only [Option.bind_some];rw [if_neg (by omega),wrap64_id (x:=x * 256) (by omega) (by omega),wrap64_id (x:=x * 256 + y) (by omega) (by omega)];refine ⟨_,_,_,rfl,Int.tmod_nonneg _ (by omega),.inr ?_,by omega,by omega⟩;exact Int.tmod_lt_of_pos _ (by omega)
  ·rw [if_neg g2,if_neg (by omega)]
   refine ⟨_,_,_,rfl,Int.tmod_nonneg _ (by omega),.inr ?_,by omega,by omega⟩;exact Int.tmod_lt_of_pos _ (by omega)
theorem EvP.pick {β : Type} {l : List Int} (hc : Cd l) {a s n : Int} {f : Nat → Int × Int × Int → Option β} {Q : β → Prop} (h0 : 0 ≤ a) (h1 : a ≤ 1000000)
  (k : ∀ b a' s',0 ≤ b → (b = 0 ∨ b < n) → a ≤ a' → a' ≤ a + 2 → EvP (fun k=>f k (b,a',s')) Q) : EvP (fun k=>(spec_l1Cur_pick.f l a s n).bind (f k)) Q:=by
 obtain ⟨b,a',s',e,h2,h3,h4,h5⟩:=pick_ok hc a s n h0 h1;rw [e];exact k b a' s' h2 h3 h4 h5
theorem EvP.one {β : Type} {l : List Int} (hc : Cd l) {a s n : Int} {f : Nat → Bool × Int × Int → Option β} {Q : β → Prop} (h0 : 0 ≤ a) (h1 : a ≤ 1000000)
  (k : ∀ b a' s',a ≤ a' → a' ≤ a + 2 → EvP (fun k=>f k (b,a',s')) Q) : EvP (fun k=>(spec_l1Cur_one.f l a s n).bind (f k)) Q:=by
 obtain ⟨b,a',s',e,h2,h3,h4,h5⟩:=pick_ok hc a s n h0 h1;unfold spec_l1Cur_one.f;rw [e];simp only [Option.bind_some];exact k _ a' s' h4 h5
theorem EvP.among {β : Type} {l : List Int} (hc : Cd l) {a s : Int} {xs : List Int} {f : Nat → Int × Int × Int → Option β} {Q : β → Prop} (h0 : 0 ≤ a) (h1 : a ≤ 1000000) (hx : 0 < (xs.length : Int))
  (k : ∀ b a' s',b ∈ xs → a ≤ a' → a' ≤ a + 2 → EvP (fun k=>f k (b,a',s')) Q) : EvP (fun k=>(spec_l1Cur_among.f l a s xs).bind (f k)) Q:=by
 obtain ⟨b,a',s',e,h2,h3,h4,h5⟩:=pick_ok hc a s (xs.length : Int) h0 h1;unfold spec_l1Cur_among.f;rw [e];simp only [Option.bind_some];rw [if_pos h2,if_pos (by omega)];exact k _ a' s' (rd_memD xs b h2 (by omega)) h4 h5
end Go.Proofs.Ytbpccdbkaiigcaa.G

namespace Go.Proofs.Ytbpccdbkaiigcaa.G
open Go.RowKit Go.Proofs.YtbpccdbkaiigcaaW.PrintWords Go.Proofs.YtbpccdbkaiigcaaW.PrintLast Go.Proofs.YtbpccdbkaiigcaaW.PrintMore
attribute [local go_sem] max2_int min2_int max_two min_two max_three min_three max_four min_four   -- for this text's walks alone

def spec_DrawPlanFleet.l0:Nat → List (S48) → List (S48) → Int → List Int → Int → Int → Int → Int → List (S48) → Option (Int × Int × (List (S48)) × (List (S48)) × (List (S48)))
 | 0,_,_,_,_,_,_,_,_,_=>none
 | k + 1,x7,x8,x9,x0,x1,x2,x3,x4,x5=>if x9 > 0 then ((spec_l1Cur_cell.f k x0 x1 x2 x3 x4 x5).bind fun bt6=>(if x7.length < 8796093022208 then ((spec_l1Cur_cell.f k x0 bt6.2.2.1 bt6.2.2.2 x3 x4 x5).bind fun bt7=>(if x8.length < 8796093022208 then (spec_DrawPlanFleet.l0 k (x7 ++ [(⟨bt6.1,bt6.2.1⟩ : S48)]) (x8 ++ [(⟨bt7.1,bt7.2.1⟩ : S48)]) (wrap64 (x9 - 1)) x0 bt7.2.2.1 bt7.2.2.2 x3 x4 x5) else (none))) else (none))) else ((spec_l1Cur_one.f x0 x1 x2 16).bind fun bt8=>(if bt8.1 = true then ((spec_l1Cur_cell.f k x0 bt8.2.1 bt8.2.2 x3 x4 x5).bind fun bt9=>(if x8.length < 8796093022208 then (some (x3,x4,x5,x7,(x8 ++ [(⟨bt9.1,bt9.2.1⟩ : S48)]))) else (none))) else (some (x3,x4,x5,x7,x8))))
def spec_DrawPlanFleet.f (k:Nat) (l0:List Int):Option (Int × Int × (List (S48)) × (List (S48)) × (List (S48))):=(spec_l1Cur_floor.f k l0 0 0).bind fun bt0=>((spec_l1Cur_among.f l0 bt0.2.2.2.1 bt0.2.2.2.2 (([0,1,2,2,3,4]:List Int))).bind fun bt1=>(spec_DrawPlanFleet.l0 k (([]:List (S48))) (([]:List (S48))) bt1.1 l0 bt1.2.1 bt1.2.2 bt0.1 bt0.2.1 bt0.2.2.1))


def spec_DrawFirstCollision.f (k:Nat) (l0:List Int):Option (Int × Int × (List (S48)) × (List (S48)) × (List (S48))):=(spec_l1Cur_floor.f k l0 0 0).bind fun bt0=>((spec_l1Cur_path.f k l0 bt0.2.2.2.1 bt0.2.2.2.2 bt0.1 bt0.2.1 bt0.2.2.1).bind fun bt1=>((spec_l1Cur_path.f k l0 bt1.2.1 bt1.2.2 bt0.1 bt0.2.1 bt0.2.2.1).bind fun bt2=>(some (bt0.1,bt0.2.1,bt0.2.2.1,bt1.1,bt2.1))))


def spec_DrawIsValidPath.f (k:Nat) (l0:List Int):Option (Int × Int × (List (S48)) × (List (S48))):=(spec_l1Cur_floor.f k l0 0 0).bind fun bt0=>((spec_l1Cur_path.f k l0 bt0.2.2.2.1 bt0.2.2.2.2 bt0.1 bt0.2.1 bt0.2.2.1).bind fun bt1=>(some (bt0.1,bt0.2.1,bt0.2.2.1,bt1.1)))


def spec_DrawWaitMinutes.f (k:Nat) (l0:List Int):Option (Int × Int × (List (S48)) × (List (S48))):=(spec_DrawIsValidPath.f k l0).bind fun bt0=>(some (bt0.1,bt0.2.1,bt0.2.2.1,bt0.2.2.2))
end Go.Proofs.Ytbpccdbkaiigcaa.G

/- What the draws of the vehicles' laws give: a floor, cells, paths, of small size. -/
namespace Go.Proofs.Ytbpccdbkaiigcaa.G
open Go.RowKit Go.Proofs.YtbpccdbkaiigcaaW.PrintWords Go.Proofs.YtbpccdbkaiigcaaW.PrintLast
theorem spec_nbx {w h : Int} {bl : List S48} (hf : FloorOk w h bl) (hb : (bl.length : Int) ≤ 1099511627776) {c : S48} (hin : (-9 ≤ c.f0 ∧ c.f0 ≤ 9) ∧ (-9 ≤ c.f1 ∧ c.f1 ≤ 9)) : Ev (fun k=>spec_l16Next.f k w h bl c.f0 c.f1) (nbOf w h bl c):=by
 unfold spec_l16Next.f;rw [wrap64_id (x:=c.f1 - 1) (by omega) (by omega),wrap64_id (x:=c.f0 - 1) (by omega) (by omega),wrap64_id (x:=c.f0 + 1) (by omega) (by omega),wrap64_id (x:=c.f1 + 1) (by omega) (by omega)];obtain ⟨L,hL⟩ : ∃ L : List S48,[(⟨c.f0,c.f1 - 1⟩ : S48),(⟨c.f0 - 1,c.f1⟩ : S48),(⟨c.f0,c.f1⟩ : S48),(⟨c.f0 + 1,c.f1⟩ : S48),(⟨c.f0,c.f1 + 1⟩ : S48)] = L:=⟨_,rfl⟩;have hl : L.length = 5:=by rw [← hL];rfl
 rw [hL]
 have step : ∀ (i : Int) (acc : List S48) (d : S48) (r : List S48),0 ≤ i → i < 5 → acc.length ≤ 10 → rd_T48 L i = d → Ev (fun k=>spec_l16Next.l0 k L (acc ++ sel w h bl d) (i + 1) w h bl) r → Ev (fun k=>spec_l16Next.l0 k L acc i w h bl) r:=by
  (intro i acc d r i0 i1 ha e hr;refine Ev.step (fun k=>by rw [spec_l16Next.l0]) ?_;have q6 : i < (L.length : Int):=by rw [hl];exact i1);simp only [if_pos q6,if_pos i0,e,wrap64_id (x:=i + 1) (by omega) (by omega)];refine Ev.bind (spec_free w h bl d hf.1 hf.2.1 hb) ?_;unfold sel at hr;by_cases hd : Free w h bl d
  ·rw [chk_pos hd] at hr ⊢
   simp only [if_true,if_pos (show acc.length < 8796093022208 by omega)];exact hr
  ·rw [chk_neg hd] at hr ⊢
   simp only [Bool.false_eq_true,if_false];rw [List.append_nil] at hr;exact hr
 have s1:=sel_len w h bl ⟨c.f0,c.f1 - 1⟩;have s2:=sel_len w h bl ⟨c.f0 - 1,c.f1⟩;have s3:=sel_len w h bl ⟨c.f0,c.f1⟩;have s4:=sel_len w h bl ⟨c.f0 + 1,c.f1⟩;refine step 0 [] ⟨c.f0,c.f1 - 1⟩ _ (by omega) (by omega) (by simp) (by subst hL;rfl) ?_;refine step 1 _ ⟨c.f0 - 1,c.f1⟩ _ (by omega) (by omega) (by simp;omega) (by subst hL;rfl) ?_;refine step 2 _ ⟨c.f0,c.f1⟩ _ (by omega) (by omega) (by simp;omega) (by subst hL;rfl) ?_;refine step 3 _ ⟨c.f0 + 1,c.f1⟩ _ (by omega) (by omega) (by simp;omega) (by subst hL;rfl) ?_;refine step 4 _ ⟨c.f0,c.f1 + 1⟩ _ (by omega) (by omega) (by simp;omega) (by subst hL;rfl) ?_;refine Ev.step (fun k=>by rw [spec_l16Next.l0]) ?_;simp only [if_neg (show ¬ ((4 : Int) + 1 < (L.length : Int)) by rw [hl];decide)];exact Ev.now _
theorem len_one (p : List S48) (c : S48) : ((p ++ [c]).length : Int) = (p.length : Int) + 1:=by rw [List.length_append,List.length_singleton];omega
theorem mx_one (x : Int) (h : x ≤ 7) : mx x 1 ≤ 7:=by unfold mx;split <;> omega
def SmF (w h : Int) (bl : List S48) : Prop:=(0 ≤ w ∧ w ≤ 7) ∧ (0 ≤ h ∧ h ≤ 7) ∧ (bl.length : Int) ≤ 60
def FloorQ (r : Int × Int × List S48 × Int × Int) : Prop:=SmF r.1 r.2.1 r.2.2.1 ∧ 0 ≤ r.2.2.2.1 ∧ r.2.2.2.1 ≤ 200
theorem floor_row {l : List Int} (w h y B A : Int) (hc : Cd l) (A1 : A ≤ 10000) (B1 : B ≤ 10000) (nx : ∀ (bl : List S48) (a s : Int),(bl.length : Int) ≤ B → 0 ≤ a → a ≤ A → EvP (fun k=>spec_l1Cur_floor.l0 k (wrap64 (y + 1)) l a s w h bl) FloorQ) :
  ∀ (d : Nat) (x a s : Int) (bl : List S48),0 ≤ x → x + d = w → w ≤ 10 → (bl.length : Int) + d ≤ B → 0 ≤ a → a + 2 * d ≤ A → EvP (fun k=>spec_l1Cur_floor.l1 k y x l a s w h bl) FloorQ
 | 0,x,a,s,bl,x0,hd,hw,hb,a0,a1=>by
  refine EvP.step (fun k=>by rw [spec_l1Cur_floor.l1]) ?_
  simp (disch:=omega) only [if_neg]
  exact nx bl a s (by omega) a0 (by omega)
 | d + 1,x,a,s,bl,x0,hd,hw,hb,a0,a1=>by
  refine EvP.step (fun k=>by rw [spec_l1Cur_floor.l1]) ?_
  simp (disch:=omega) only [if_pos]
  rw [wrap64_id (x:=x + 1) (by omega) (by omega)]
  refine EvP.one hc a0 (by omega) (fun b a' s' h0 h1=>?_)
  dsimp only
  refine EvP.ite (fun g=>?_) (fun g=>?_)
  ·exact floor_row w h y B A hc A1 B1 nx d (x + 1) a' s' _ (by omega) (by omega) hw (by rw [len_one];omega) (by omega) (by omega)
  ·exact floor_row w h y B A hc A1 B1 nx d (x + 1) a' s' bl (by omega) (by omega) hw (by omega) (by omega) (by omega)
theorem floor_end {l : List Int} (hc : Cd l) (w h a s : Int) (bl : List S48) (hw : 0 ≤ w ∧ w ≤ 7) (hh : 0 ≤ h ∧ h ≤ 7) (hb : (bl.length : Int) ≤ 50) (a0 : 0 ≤ a) (a1 : a ≤ 150) (y : Int) (hy : ¬ y < h) : EvP (fun k=>spec_l1Cur_floor.l0 k y l a s w h bl) FloorQ:=by
 (refine EvP.step (fun k=>by rw [spec_l1Cur_floor.l0]) ?_;simp only [if_neg hy];refine EvP.pick hc a0 (by omega) (fun b a' s' b0 b1 h0 h1=>?_);dsimp only;have m3 : ∀ x : Int,x ∈ ([0,7,6] : List Int) → 0 ≤ x ∧ x ≤ 7:=by intro x hx;simp only [List.mem_cons,List.not_mem_nil,or_false] at hx;omega);refine EvP.ite (fun g=>?_) (fun g=>?_)
 ·refine EvP.among hc (by omega) (by omega) (by decide) (fun v a2 s2 hv h2 h3=>?_)
  exact EvP.now _ ⟨⟨m3 v hv,hh,zq105⟩,zq105,zq105⟩
 ·refine EvP.ite (fun g=>?_) (fun g=>?_)
  ·refine EvP.among hc (by omega) (by omega) (by decide) (fun v a2 s2 hv h2 h3=>?_)
   exact EvP.now _ ⟨⟨hw,m3 v hv,zq105⟩,zq105,zq105⟩
  ·refine EvP.ite (fun g=>?_) (fun g=>?_)
   ·refine EvP.pick hc (by omega) (by omega) (fun v a2 s2 v0 v1 h2 h3=>?_)
    dsimp only;refine EvP.pick hc (by omega) (by omega) (fun u a3 s3 u0 u1 h4 h5=>?_);dsimp only;simp only [if_pos (show bl.length < 8796093022208 by omega)];exact EvP.now _ ⟨⟨hw,hh,by dsimp only;rw [len_one];omega⟩,zq105,zq105⟩
   ·exact EvP.now _ ⟨⟨hw,hh,zq105⟩,zq105,zq105⟩
theorem floor_all {l : List Int} (hc : Cd l) (w h : Int) (hw : 0 ≤ w ∧ w ≤ 5) (hh : 0 ≤ h ∧ h ≤ 7) : ∀ (d : Nat) (y a s : Int) (bl : List S48),0 ≤ y → y + d = h → (bl.length : Int) + 5 * d ≤ 50 → 0 ≤ a → a + 10 * d ≤ 150 → EvP (fun k=>spec_l1Cur_floor.l0 k y l a s w h bl) FloorQ
 | 0,y,a,s,bl,y0,hd,hb,a0,a1=>floor_end hc w h a s bl ⟨hw.1,by omega⟩ hh (by omega) a0 (by omega) y (by omega)
 | d + 1,y,a,s,bl,y0,hd,hb,a0,a1=>by
  refine EvP.step (fun k=>by rw [spec_l1Cur_floor.l0]) ?_
  simp (disch:=omega) only [if_pos]
  refine floor_row w h y (50 - 5 * d) (150 - 10 * d) hc (by omega) (by omega) (fun bl' a' s' hb' h0 h1=>?_) w.toNat 0 a s bl (by omega) (by omega) (by omega) (by omega) a0 (by omega)
  rw [wrap64_id (x:=y + 1) (by omega) (by omega)]
  exact floor_all hc w h hw hh d (y + 1) a' s' bl' (by omega) (by omega) (by omega) h0 (by omega)
theorem floor_ok {l : List Int} (hc : Cd l) : EvP (fun k=>spec_l1Cur_floor.f k l 0 0) FloorQ:=by
 unfold spec_l1Cur_floor.f;refine EvP.pick hc (by omega) (by omega) (fun b a s b0 b1 h0 h1=>?_);dsimp only;refine EvP.pick hc (by omega) (by omega) (fun c a' s' c0 c1 h2 h3=>?_);dsimp only;rw [wrap64_id (x:=2 + b) (by omega) (by omega),wrap64_id (x:=1 + c) (by omega) (by omega)];exact floor_all hc (2 + b) (1 + c) (by omega) (by omega) (1 + c).toNat 0 a' s' [] (by omega) (by omega) (by simp only [List.length_nil];omega) (by omega) (by omega)
def SmC (x y : Int) : Prop:=(-9 ≤ x ∧ x ≤ 9) ∧ (-9 ≤ y ∧ y ≤ 9)
def CellQ (A : Int) (r : Int × Int × Int × Int) : Prop:=SmC r.1 r.2.1 ∧ 0 ≤ r.2.2.1 ∧ r.2.2.1 ≤ A
theorem cell_end {l : List Int} (hc : Cd l) {w h : Int} {bl : List S48} (A n a s x y : Int) (hx : SmC x y) (a0 : 0 ≤ a) (a1 : a + 4 ≤ A) (A1 : A ≤ 10000) : EvP (fun k=>spec_l1Cur_cell.j1 k n false l a s w h bl x y) (CellQ A):=by
 refine EvP.step (fun k=>by rw [spec_l1Cur_cell.j1]) ?_;simp only [Bool.false_eq_true,if_false];refine EvP.one hc a0 (by omega) (fun b a' s' h0 h1=>?_);dsimp only;refine EvP.ite (fun g=>?_) (fun g=>?_)
 ·refine EvP.among hc (by omega) (by omega) (by decide) (fun v a2 s2 hv h2 h3=>?_)
  (have hv' : -9 ≤ v ∧ v ≤ 9:=by simp only [List.mem_cons,List.not_mem_nil,or_false] at hv;omega);exact EvP.now _ ⟨⟨hv',hx.2⟩,zq105,zq105⟩
 ·exact EvP.now _ ⟨hx,zq105,zq105⟩
theorem cell_loop {l : List Int} (hc : Cd l) {w h : Int} {bl : List S48} (hf : SmF w h bl) (A : Int) (A1 : A ≤ 10000) : ∀ (d : Nat) (n a s x y : Int),0 ≤ n → n + d = 3 → SmC x y → 0 ≤ a → a + 4 * d + 4 ≤ A → EvP (fun k=>spec_l1Cur_cell.l0 k n l a s w h bl x y) (CellQ A)
 | 0,n,a,s,x,y,n0,hd,hx,a0,a1=>by
  refine EvP.step (fun k=>by rw [spec_l1Cur_cell.l0]) ?_
  simp (disch:=omega) only [if_neg]
  exact cell_end hc A n a s x y hx a0 (by omega) A1
 | d + 1,n,a,s,x,y,n0,hd,hx,a0,a1=>by
  refine EvP.step (fun k=>by rw [spec_l1Cur_cell.l0]) ?_
  simp (disch:=omega) only [if_pos]
  refine EvP.bind ⟨_,rfl,spec_blocked w h bl ⟨x,y⟩ (by have:=hf.2.2;omega)⟩ (fun t ht=>?_)
  subst ht
  by_cases hb : HasC bl ⟨x,y⟩
  ·rw [chk_pos hb]
   refine EvP.step (fun k=>by rw [spec_l1Cur_cell.j1]) ?_
   simp only [if_true,spec_most_eq,Option.bind_some]
   have m1:=mx_one w hf.1.2
   have m2:=mx_one h hf.2.1.2
   refine EvP.pick hc a0 (by omega) (fun b a' s' b0 b1 h0 h1=>?_)
   dsimp only
   refine EvP.pick hc (by omega) (by omega) (fun c a2 s2 c0 c1 h2 h3=>?_)
   dsimp only
   rw [wrap64_id (x:=n + 1) (by omega) (by omega)]
   exact cell_loop hc hf A A1 d (n + 1) a2 s2 b c (by omega) (by omega) ⟨by omega,by omega⟩ (by omega) (by omega)
  ·rw [chk_neg hb]
   exact cell_end hc A n a s x y hx a0 (by omega) A1
theorem cell_ok {l : List Int} (hc : Cd l) {w h : Int} {bl : List S48} (hf : SmF w h bl) (A a s : Int) (a0 : 0 ≤ a) (a1 : a + 20 ≤ A) (A1 : A ≤ 10000) : EvP (fun k=>spec_l1Cur_cell.f k l a s w h bl) (CellQ A):=by
 unfold spec_l1Cur_cell.f;simp only [spec_most_eq,Option.bind_some];have m1:=mx_one w hf.1.2;have m2:=mx_one h hf.2.1.2;refine EvP.pick hc a0 (by omega) (fun b a' s' b0 b1 h0 h1=>?_);dsimp only;refine EvP.pick hc (by omega) (by omega) (fun c a2 s2 c0 c1 h2 h3=>?_);dsimp only;exact cell_loop hc hf A A1 3 0 a2 s2 b c (by omega) (by omega) ⟨by omega,by omega⟩ (by omega) (by omega)
def PathQ (A : Int) (r : List S48 × Int × Int) : Prop:=(r.1.length : Int) ≤ 20 ∧ 0 ≤ r.2.1 ∧ r.2.1 ≤ A
theorem path_end {l : List Int} (hc : Cd l) {w h : Int} {bl : List S48} (hf : SmF w h bl) (A a s : Int) (p : List S48) (hp : (p.length : Int) ≤ 19) (a0 : 0 ≤ a) (a1 : a + 22 ≤ A) (A1 : A ≤ 10000) : EvP (fun k=>spec_l1Cur_path.j2 k p l a s w h bl) (PathQ A):=by
 refine EvP.step (fun k=>by rw [spec_l1Cur_path.j2]) ?_;refine EvP.one hc a0 (by omega) (fun b a' s' h0 h1=>?_);dsimp only;refine EvP.ite (fun g=>?_) (fun g=>?_)
 ·refine EvP.bind (cell_ok hc hf A a' s' (by omega) (by omega) A1) (fun r hr=>?_)
  simp only [if_pos (show p.length < 8796093022208 by omega)];exact EvP.now _ ⟨by dsimp only;rw [len_one];omega,hr.2⟩
 ·exact EvP.now _ ⟨zq105,zq105,zq105⟩
theorem path_loop {l : List Int} (hc : Cd l) {w h : Int} {bl : List S48} (hf : SmF w h bl) (A : Int) (A1 : A ≤ 10000) : ∀ (d : Nat) (n a s x y : Int) (p : List S48),n = d → SmC x y → (p.length : Int) + d ≤ 19 → 0 ≤ a → a + 2 * d + 22 ≤ A → EvP (fun k=>spec_l1Cur_path.l0 k p n l a s w h bl x y) (PathQ A)
 | 0,n,a,s,x,y,p,hd,hx,hp,a0,a1=>by
  refine EvP.step (fun k=>by rw [spec_l1Cur_path.l0]) ?_
  simp (disch:=omega) only [if_neg]
  refine EvP.step (fun k=>by rw [spec_l1Cur_path.j1]) ?_
  simp only [Bool.false_eq_true,if_false]
  exact path_end hc hf A a s p (by omega) a0 (by omega) A1
 | d + 1,n,a,s,x,y,p,hd,hx,hp,a0,a1=>by
  have hb:=hf.2.2
  refine EvP.step (fun k=>by rw [spec_l1Cur_path.l0]) ?_
  simp (disch:=omega) only [if_pos]
  refine EvP.bind ⟨_,rfl,spec_floor w h bl (by omega)⟩ (fun t ht=>?_)
  subst ht
  by_cases hok : FloorOk w h bl
  ·rw [chk_pos hok]
   refine EvP.step (fun k=>by rw [spec_l1Cur_path.j1]) ?_
   simp only [if_true]
   refine EvP.bind ⟨_,rfl,spec_nbx hok (by omega) (c:=⟨x,y⟩) hx⟩ (fun t ht=>?_)
   subst ht
   refine EvP.ite (fun g=>path_end hc hf A a s p (by omega) a0 (by omega) A1) (fun g=>?_)
   refine EvP.pick hc a0 (by omega) (fun b a' s' b0 b1 h0 h1=>?_)
   dsimp only
   have hlt : b < ((nbOf w h bl ⟨x,y⟩).length : Int):=by omega
   simp only [if_pos b0,if_pos hlt,if_pos (show p.length < 8796093022208 by omega),wrap64_id (x:=n - 1) (show -9223372036854775808 ≤ n - 1 by omega) (show n - 1 ≤ 9223372036854775807 by omega)]
   have hm : rd_T48 (nbOf w h bl ⟨x,y⟩) b ∈ nbOf w h bl ⟨x,y⟩:=by
    unfold rd_T48
    rw [List.getD_eq_getElem?_getD,List.getElem?_eq_getElem (show b.toNat < (nbOf w h bl ⟨x,y⟩).length by omega)]
    exact List.getElem_mem _
   have hfr:=(nb_mem.1 hm).1
   have hin:=free_in hok hfr
   exact path_loop hc hf A A1 d (n - 1) a' s' _ _ _ (by omega) ⟨by omega,by omega⟩ (by rw [len_one];omega) (by omega) (by omega)
  ·rw [chk_neg hok]
   refine EvP.step (fun k=>by rw [spec_l1Cur_path.j1]) ?_
   simp only [Bool.false_eq_true,if_false]
   exact path_end hc hf A a s p (by omega) a0 (by omega) A1
theorem path_ok {l : List Int} (hc : Cd l) {w h : Int} {bl : List S48} (hf : SmF w h bl) (A a s : Int) (a0 : 0 ≤ a) (a1 : a + 100 ≤ A) (A1 : A ≤ 10000) : EvP (fun k=>spec_l1Cur_path.f k l a s w h bl) (PathQ A):=by
 unfold spec_l1Cur_path.f;refine EvP.bind (cell_ok hc hf (a + 20) a s a0 (by omega) (by omega)) (fun r hr=>?_);obtain ⟨x,y,a2,s2⟩:=r;obtain ⟨hx,h0,h1⟩:=hr;dsimp only at hx h0 h1 ⊢;refine EvP.pick hc h0 (by omega) (fun b a' s' b0 b1 h2 h3=>?_);dsimp only;exact path_loop hc hf A A1 b.toNat b a' s' x y _ (by omega) hx (by simp only [List.length_cons,List.length_nil];omega) (by omega) (by omega)
def SafeQ (r : Int × Int × List S48 × List (List S48) × Int × Int × Int × Int) : Prop:=(r.2.2.1.length : Int) ≤ 60 ∧ (r.2.2.2.1.length : Int) ≤ 4 ∧ ∀ p ∈ r.2.2.2.1,(p.length : Int) ≤ 20
theorem safe_loop {l : List Int} (hc : Cd l) {w h : Int} {bl : List S48} (hf : SmF w h bl) : ∀ (d : Nat) (n a s : Int) (os : List (List S48)),n = d → (os.length : Int) + d ≤ 4 → (∀ p ∈ os,(p.length : Int) ≤ 20) → 0 ≤ a → a + 100 * d ≤ 900 → EvP (fun k=>spec_DrawSafePath.l0 k os n l a s w h bl) SafeQ
 | 0,n,a,s,os,hd,ho,hp,a0,a1=>by
  refine EvP.step (fun k=>by rw [spec_DrawSafePath.l0]) ?_
  simp (disch:=omega) only [if_neg]
  refine EvP.bind (cell_ok hc hf (a + 20) a s a0 (by omega) (by omega)) (fun r hr=>?_)
  have h0:=hr.2.1
  have h1:=hr.2.2
  refine EvP.bind (cell_ok hc hf (a + 40) _ _ h0 (by omega) (by omega)) (fun r hr=>?_)
  exact EvP.now _ ⟨hf.2.2,zq105,hp⟩
 | d + 1,n,a,s,os,hd,ho,hp,a0,a1=>by
  refine EvP.step (fun k=>by rw [spec_DrawSafePath.l0]) ?_
  simp (disch:=omega) only [if_pos]
  refine EvP.bind (path_ok hc hf (a + 100) a s a0 (by omega) (by omega)) (fun r hr=>?_)
  obtain ⟨p,a2,s2⟩:=r
  obtain ⟨h0,h1,h2⟩:=hr
  dsimp only at h0 h1 h2 ⊢
  simp only [if_pos (show os.length < 5864062014805 by omega),wrap64_id (x:=n - 1) (show -9223372036854775808 ≤ n - 1 by omega) (show n - 1 ≤ 9223372036854775807 by omega)]
  exact safe_loop hc hf d (n - 1) a2 s2 _ (by omega) (by rw [List.length_append,List.length_singleton];omega) (fun q hq=>by
   rcases List.mem_append.1 hq with hq|hq
   ·exact hp q hq
   ·rw [List.mem_singleton] at hq;rw [hq];exact h0) h1 (by omega)
theorem draw_safe {l : List Int} (hc : Cd l) : EvP (fun k=>spec_DrawSafePath.f k l) SafeQ:=by
 unfold spec_DrawSafePath.f;refine EvP.bind (floor_ok hc) (fun r hr=>?_);obtain ⟨w,h,bl,a,s⟩:=r;obtain ⟨hf,h0,h1⟩:=hr;dsimp only at hf h0 h1 ⊢;refine EvP.among hc h0 (by omega) (by decide) (fun v a2 s2 hv h2 h3=>?_);have hv' : 0 ≤ v ∧ v ≤ 4:=by simp only [List.mem_cons,List.not_mem_nil,or_false] at hv;omega
 dsimp only;exact safe_loop hc hf v.toNat v a2 s2 [] (by omega) (by simp only [List.length_nil];omega) (fun p hp=>by cases hp) (by omega) (by omega)
end Go.Proofs.Ytbpccdbkaiigcaa.G

namespace Go.Proofs.Ytbpccdbkaiigcaa.G
open Go.RowKit Go.Proofs.YtbpccdbkaiigcaaW.PrintWords Go.Proofs.YtbpccdbkaiigcaaW.PrintLast Go.Proofs.YtbpccdbkaiigcaaW.PrintMore
attribute [local go_sem] max2_int min2_int max_two min_two max_three min_three max_four min_four   -- for this text's walks alone

def laws_toCell.f (a0_0:Int) (a0_1:Int):Option (Int × Int):=some (a0_0,a0_1)
end Go.Proofs.Ytbpccdbkaiigcaa.G

/- What spec.ShortestPath answers. -/
namespace Go.Proofs.Ytbpccdbkaiigcaa.G
open Go.RowKit Go.Proofs.YtbpccdbkaiigcaaW.PrintWords Go.Proofs.YtbpccdbkaiigcaaW.PrintLast
theorem safeP_len {w h : Int} {bl : List S48} {os : List (List S48)} {a b : S48} {p : List S48} (hp : safeP w h bl os a b = some p) : 1 ≤ p.length ∧ p.length ≤ 25:=by
 unfold safeP at hp;by_cases hh : HitAt os a a 0
 ·rw [chk_pos hh] at hp;cases hp
 ·rw [chk_neg hh] at hp
  cases hf : firstN (EndS w h bl os a b) 25 0 with
  | none=>rw [hf] at hp;cases hp
  | some e =>
   rw [hf] at hp;have h1 : trace (nxS w h bl os a b e) a e = some p:=hp;have:=trace_len h1;have:=(firstN_some hf).2.2;omega
theorem safeR_len (w h : Int) (bl : List S48) (os : List (List S48)) (a b : S48) : (safeR w h bl os a b).1.length ≤ 25:=by
 cases hp : safeP w h bl os a b with
 | none=>rw [safeR_none hp];exact Nat.zero_le _
 | some p=>rw [safeR_some hp];exact (safeP_len hp).2
theorem shortR_len (w h : Int) (bl : List S48) (a b : S48) : (shortR w h bl a b).1.length ≤ 25:=by
 unfold shortR;by_cases hc : FloorOk w h bl ∧ Free w h bl a ∧ Free w h bl b
 ·rw [chk_pos hc];exact safeR_len _ _ _ _ _ _
 ·rw [chk_neg hc];exact Nat.zero_le _
theorem len_nil : Len []:=⟨by simp,fun p hp=>by cases hp⟩
theorem spec_short (w h : Int) (bl : List S48) (hb : (bl.length : Int) ≤ 1099511627776) (a0 a1 b0 b1 : Int) : Ev (fun k=>spec_ShortestPath.f k w h bl a0 a1 b0 b1) (shortR w h bl ⟨a0,a1⟩ ⟨b0,b1⟩):=by
 unfold spec_ShortestPath.f;refine Ev.bind (spec_asked w h bl hb ⟨a0,a1⟩ ⟨b0,b1⟩) ?_;unfold shortR;by_cases hc : FloorOk w h bl ∧ Free w h bl ⟨a0,a1⟩ ∧ Free w h bl ⟨b0,b1⟩
 ·rw [chk_pos hc,chk_pos hc]
  simp only [if_true];unfold spec_l16Safe.f;rw [chk_pos ⟨hc.1,hb,hc.2.1,hc.2.2,len_nil⟩];simp only [Option.bind_some];exact Ev.now _
 ·rw [chk_neg hc,chk_neg hc]
  simp only [Bool.false_eq_true,if_false];exact Ev.now _
theorem impl_short (w h : Int) (bl : List S48) (hb : (bl.length : Int) ≤ 1099511627776) (a0 a1 b0 b1 : Int) : impl_ShortestPath.f w h bl a0 a1 b0 b1 = some (shortR w h bl ⟨a0,a1⟩ ⟨b0,b1⟩):=by
 unfold impl_ShortestPath.f;rw [chk_pos hb]
end Go.Proofs.Ytbpccdbkaiigcaa.G

/- What spec.SafePath and impl.SafePath answer: the same. -/
namespace Go.Proofs.Ytbpccdbkaiigcaa.G
open Go.RowKit Go.Proofs.YtbpccdbkaiigcaaW.PrintWords Go.Proofs.YtbpccdbkaiigcaaW.PrintLast
noncomputable def askR (w h : Int) (bl : List S48) (os : List (List S48)) (a b : S48) : List S48 × Bool:=chk (AskOk w h bl os a b) (safeR w h bl os a b) ([],false)
theorem askR_len (w h : Int) (bl : List S48) (os : List (List S48)) (a b : S48) : (askR w h bl os a b).1.length ≤ 25:=by
 unfold askR;by_cases hc : AskOk w h bl os a b
 ·rw [chk_pos hc];exact safeR_len _ _ _ _ _ _
 ·rw [chk_neg hc];exact Nat.zero_le _
theorem impl_safe (w h : Int) (bl : List S48) (os : List (List S48)) (hb : (bl.length : Int) ≤ 1099511627776) (a0 a1 b0 b1 : Int) : impl_SafePath.f w h bl os a0 a1 b0 b1 = some (askR w h bl os ⟨a0,a1⟩ ⟨b0,b1⟩):=by
 unfold impl_SafePath.f askR;rw [chk_pos hb]
theorem rd6_in (os : List (List S48)) (i : Int) (h0 : 0 ≤ i) (h1 : i < (os.length : Int)) : rd_L6 os i ∈ os:=by
 unfold rd_L6;rw [List.getD_eq_getElem?_getD,List.getElem?_eq_getElem (by omega)];exact List.getElem_mem _
theorem all_rows {P : List S48 → Prop} {os : List (List S48)} (h : ∀ i : Int,0 ≤ i → i < (os.length : Int) → P (rd_L6 os i)) : ∀ p ∈ os,P p:=by
 intro p hp;obtain ⟨i,hi,e⟩:=List.mem_iff_getElem.1 hp;have:=h (i : Int) (by omega) (by omega);unfold rd_L6 at this;rw [Int.toNat_natCast,List.getD_eq_getElem?_getD,List.getElem?_eq_getElem hi] at this;rw [← e];exact this
theorem spec_safe (w h : Int) (bl : List S48) (os : List (List S48)) (hb : (bl.length : Int) ≤ 1099511627776) (hos : ∀ p ∈ os,(p.length : Int) ≤ 1099511627776) (a0 a1 b0 b1 : Int) : Ev (fun k=>spec_SafePath.f k w h bl os a0 a1 b0 b1) (askR w h bl os ⟨a0,a1⟩ ⟨b0,b1⟩):=by
 (obtain ⟨a,ha⟩ : ∃ a : S48,a = ⟨a0,a1⟩:=⟨_,rfl⟩;obtain ⟨b,hb'⟩ : ∃ b : S48,b = ⟨b0,b1⟩:=⟨_,rfl⟩;rw [← ha,← hb'];obtain rfl : a.f0 = a0:=by rw [ha]);obtain rfl : a.f1 = a1:=by rw [ha]
 (obtain rfl : b.f0 = b0:=by rw [hb']);obtain rfl : b.f1 = b1:=by rw [hb']
 clear ha hb';unfold spec_SafePath.f;refine Ev.bind (spec_asked w h bl hb a b) ?_;by_cases hc : FloorOk w h bl ∧ Free w h bl a ∧ Free w h bl b
 ·rw [chk_pos hc]
  simp only [if_true];refine Ev.step (fun k=>by rw [spec_SafePath.j0]) ?_;by_cases hl : (os.length : Int) > 3
  ·rw [decide_eq_true hl]
   simp only [if_true];unfold askR;rw [chk_neg (fun x=>by have:=x.2.1;omega)];exact Ev.now _
  ·rw [decide_eq_false hl]
   simp only [Bool.false_eq_true,if_false];refine Ev.up (fun k (_ : Unit) i=>spec_SafePath.l0 k os i w h bl a.f0 a.f1 b.f0 b.f1) (fun _ _=>askR w h bl os a b) (fun _ i=>0 ≤ i ∧ ∀ j : Int,0 ≤ j → j < i → PathOk w h bl (rd_L6 os j)) (os.length : Int) ?_ ?_ () 0 ⟨Int.le_refl _,fun j h0 h1=>by omega⟩ (by omega)
   ·rintro _ ⟨_,hp⟩
    refine Ev.step (fun k=>by rw [spec_SafePath.l0]) ?_;have hok : AskOk w h bl os a b:=⟨hc.1,by omega,hc.2.1,hc.2.2,all_rows hp⟩;simp only [Int.lt_irrefl,if_false];unfold spec_l16Safe.f;rw [chk_pos (show SafeOk w h bl os ⟨a.f0,a.f1⟩ ⟨b.f0,b.f1⟩ from ⟨hc.1,hb,hc.2.1,hc.2.2,hok.len⟩)];simp only [Option.bind_some];unfold askR;rw [chk_pos hok];exact Ev.now _
   ·rintro _ i ⟨h0,hp⟩ hlt ih
    refine Ev.step (fun k=>by rw [spec_SafePath.l0]) ?_;have e9 : wrap64 (i + 1) = i + 1:=wrap64_id (by omega) (by omega);simp only [if_pos hlt,if_pos h0,e9];refine Ev.bind (spec_path hc.1 hb _ (hos _ (rd6_in os i h0 hlt))) ?_;by_cases hpi : PathOk w h bl (rd_L6 os i)
    ·rw [chk_pos hpi]
     simp only [if_true]
     exact ih () ⟨by omega,fun j j0 j1=>by
      by_cases e : j = i
      ·rw [e];exact hpi
      ·exact hp j j0 (by omega)⟩
    ·rw [chk_neg hpi]
     simp only [Bool.false_eq_true,if_false];unfold askR;rw [chk_neg (fun x=>hpi (x.2.2.2.2 _ (rd6_in os i h0 hlt)))];exact Ev.now _
 ·rw [chk_neg hc]
  simp only [Bool.false_eq_true,if_false];refine Ev.step (fun k=>by rw [spec_SafePath.j0]) ?_;simp only [if_true];unfold askR;rw [chk_neg (fun x=>hc ⟨x.1,x.2.2.1,x.2.2.2.1⟩)];exact Ev.now _
end Go.Proofs.Ytbpccdbkaiigcaa.G

namespace Go.Proofs.Ytbpccdbkaiigcaa.G
open Go.RowKit Go.Proofs.YtbpccdbkaiigcaaW.PrintWords Go.Proofs.YtbpccdbkaiigcaaW.PrintLast Go.Proofs.YtbpccdbkaiigcaaW.PrintMore
attribute [local go_sem] max2_int min2_int max_two min_two max_three min_three max_four min_four   -- for this text's walks alone

attribute [local go_sem high] eqA48
def impl_WaitMinutes.l0:Nat → List (S48) → Int → Int → Option (Int × Bool)
 | 0,_,_,_=>none
 | k + 1,x1,x6,x7=>if x7 < (x1.length:Int) then (if 0 ≤ x7 then (if 0 ≤ (wrap64 (x7 - 1)) then (if (wrap64 (x7 - 1)) < (x1.length:Int) then (if (((rd_T48 x1 x7).f0) == ((rd_T48 x1 (wrap64 (x7 - 1))).f0) && (((rd_T48 x1 x7).f1) == ((rd_T48 x1 (wrap64 (x7 - 1))).f1))) = true then (impl_WaitMinutes.l0 k x1 (wrap64 (x6 + 1)) (wrap64 (x7 + 1))) else (impl_WaitMinutes.l0 k x1 x6 (wrap64 (x7 + 1)))) else (none)) else (none)) else (none)) else (some (x6,true))
def impl_WaitMinutes.f (k:Nat) (a0_0:Int) (a0_1:Int) (l0_2:List (S48)) (l1:List (S48)):Option (Int × Bool):=(impl_IsValidPath.f k a0_0 a0_1 l0_2 l1).bind fun t0=>(if t0 = true then (impl_WaitMinutes.l0 k l1 0 1) else (some (0,false)))


attribute [local go_sem high] eqA48
mutual
def spec_WaitMinutes.j0:Nat → List (S48) → Bool → Option (Int × Bool)
 | 0,_,_=>none
 | k + 1,x1,x16=>if x16 = true then (some (0,false)) else (spec_WaitMinutes.l0 k x1 0 1)
def spec_WaitMinutes.l0:Nat → List (S48) → Int → Int → Option (Int × Bool)
 | 0,_,_,_=>none
 | k + 1,x1,x6,x7=>if x7 < (x1.length:Int) then (if 0 ≤ x7 then (if 0 ≤ (wrap64 (x7 - 1)) then (if (wrap64 (x7 - 1)) < (x1.length:Int) then (if (((rd_T48 x1 x7).f0) == ((rd_T48 x1 (wrap64 (x7 - 1))).f0) && (((rd_T48 x1 x7).f1) == ((rd_T48 x1 (wrap64 (x7 - 1))).f1))) = true then (spec_WaitMinutes.l0 k x1 (wrap64 (x6 + 1)) (wrap64 (x7 + 1))) else (spec_WaitMinutes.l0 k x1 x6 (wrap64 (x7 + 1)))) else (none)) else (none)) else (none)) else (some (x6,true))
end
def spec_WaitMinutes.f (k:Nat) (a0_0:Int) (a0_1:Int) (l0_2:List (S48)) (l1:List (S48)):Option (Int × Bool):=(spec_l16Good.f k a0_0 a0_1 l0_2).bind fun t0=>(if t0 = true then ((spec_l16Path.f k a0_0 a0_1 l0_2 l1).bind fun t1=>(spec_WaitMinutes.j0 k l1 (!t1))) else (spec_WaitMinutes.j0 k l1 true))
end Go.Proofs.Ytbpccdbkaiigcaa.G

namespace Go.Proofs.Ytbpccdbkaiigcaa.G
open Go.RowKit Go.Proofs.YtbpccdbkaiigcaaW.PrintWords Go.Proofs.YtbpccdbkaiigcaaW.PrintLast
noncomputable def waitTo (p : List S48) : Nat → Int
 | 0=>0
 | d + 1=>waitTo p d + chk (0 < d ∧ eqc (rd_T48 p d) (rd_T48 p ((d : Int) - 1))) 1 0
theorem waitTo_succ (p : List S48) (d : Nat) : waitTo p (d + 1) = waitTo p d + chk (0 < d ∧ eqc (rd_T48 p d) (rd_T48 p ((d : Int) - 1))) 1 0:=rfl
end Go.Proofs.Ytbpccdbkaiigcaa.G

/- What is known of a safe path: it is a path, it begins and ends as asked, none of the others hinders it, and none is shorter than the shortest one. -/
namespace Go.Proofs.Ytbpccdbkaiigcaa.G
open Go.RowKit Go.Proofs.YtbpccdbkaiigcaaW.PrintWords Go.Proofs.YtbpccdbkaiigcaaW.PrintLast
section
variable {w h : Int} {bl : List S48} {os : List (List S48)} {a b : S48}
theorem safeP_told (ha : Free w h bl a) (hb : Free w h bl b) {p : List S48} (hp : safeP w h bl os a b = some p) : ∃ e : Nat,e ≤ 24 ∧ EndS w h bl os a b e ∧ (∀ s,s < e → ¬ EndS w h bl os a b s) ∧ PathI w h bl os a b e e p ∧ ¬ HitAt os a a 0:=by
 unfold safeP at hp;by_cases hh : HitAt os a a 0
 ·rw [chk_pos hh] at hp;cases hp
 ·rw [chk_neg hh] at hp
  cases hf : firstN (EndS w h bl os a b) 25 0 with
  | none=>rw [hf] at hp;cases hp
  | some e =>
   rw [hf] at hp;have h1 : trace (nxS w h bl os a b e) a e = some p:=hp;have h2:=firstN_some hf;obtain ⟨q,_,hq,hI⟩:=trace_both ha hb h2.1.1 e (Nat.le_refl _);rw [h1] at hq;obtain rfl:=Option.some.inj hq;exact ⟨e,by omega,h2.1,fun s hs=>firstN_least hf s (Nat.zero_le _) hs,hI,hh⟩
theorem safe_ok (hf : FloorOk w h bl) (ha : Free w h bl a) (hb : Free w h bl b) {p : List S48} (hp : safeP w h bl os a b = some p) : PathOk w h bl p ∧ rd_T48 p 0 = a ∧ rd_T48 p ((p.length : Int) - 1) = b:=by
 obtain ⟨e,he,_,_,hI,_⟩:=safeP_told ha hb hp;have hl:=hI.len;refine ⟨⟨hf,⟨by omega,by omega⟩,fun i h0 h1=>⟨?_,fun hi=>?_⟩⟩,hI.hd,?_⟩
 ·have:=(hI.on i.toNat (by omega)).1
  rw [show ((i.toNat : Nat) : Int) = i from by omega] at this;exact lev_free ha _ _ this
 ·have:=(hI.step (i.toNat - 1) (by omega)).1
  rw [show (((i.toNat - 1 : Nat)) : Int) = i - 1 from by omega,show (((i.toNat - 1 + 1 : Nat)) : Int) = i from by omega] at this;exact this
 ·have:=(hI.on e (Nat.le_refl _)).2
  rw [Nat.sub_self] at this;rw [show (p.length : Int) - 1 = (e : Int) from by omega];exact this
theorem cat_in {p : List S48} {i : Int} (h1 : i ≤ (p.length : Int) - 1) : cat p i = rd_T48 p i:=by
 unfold cat mn;rw [if_neg (by omega)]
theorem cat_out {p : List S48} {i : Int} (h1 : (p.length : Int) - 1 ≤ i) : cat p i = rd_T48 p ((p.length : Int) - 1):=by
 unfold cat mn;by_cases e : (p.length : Int) - 1 < i
 ·rw [if_pos e]
 ·rw [if_neg e];congr 1;omega
theorem safe_miss (hf : FloorOk w h bl) (ha : Free w h bl a) (hb : Free w h bl b) {p : List S48} (hp : safeP w h bl os a b = some p) {o : List S48} (ho : o ∈ os) (i : Int) (h0 : 0 ≤ i) (h1 : i ≤ 24) : ¬ Hit p o i:=by
 obtain ⟨e,he,hE,_,hI,h00⟩:=safeP_told ha hb hp;have hl:=hI.len;have hlast : rd_T48 p ((p.length : Int) - 1) = b:=(safe_ok hf ha hb hp).2.2;intro hh;unfold Hit at hh;rw [eqc_iff,eqc_iff,eqc_iff] at hh;by_cases e0 : i = 0
 ·subst e0
  rcases hh with hh|hh
  ·rw [cat_in (by omega),hI.hd] at hh
   exact h00 ⟨o,ho,Or.inl hh.symm⟩
  ·exact absurd hh.1 (by omega)
 ·by_cases e1 : i ≤ (e : Int)
  ·have:=(hI.step (i.toNat - 1) (by omega)).2
   rw [show (((i.toNat - 1 : Nat)) : Int) = i - 1 from by omega,show (((i.toNat - 1 + 1 : Nat)) : Int) = i from by omega] at this;rw [cat_in (p:=p) (i:=i) (by omega),cat_in (p:=p) (i:=i - 1) (by omega)] at hh;rcases hh with hh|hh
   ·exact this ⟨o,ho,Or.inl hh.symm⟩
   ·exact this ⟨o,ho,Or.inr ⟨by omega,hh.2.2.symm,hh.2.1.symm⟩⟩
  ·have hr:=hE.2 i.toNat (by omega) (by omega)
   rw [show ((i.toNat : Nat) : Int) = i from by omega,hitAt_same] at hr;rw [cat_out (p:=p) (i:=i) (by omega),cat_out (p:=p) (i:=i - 1) (by omega),hlast] at hh;rcases hh with hh|hh
   ·exact hr ⟨o,ho,hh.symm⟩
   ·exact hr ⟨o,ho,hh.2.2.symm⟩
theorem collF_none {p q : List S48} : ∀ {d : Nat} {i : Int},(∀ j : Int,i ≤ j → j < i + d → ¬ Hit p q j) → collF p q d i = -1
 | 0,i,_=>rfl
 | d + 1,i,hn=>by
  rw [collF_succ,chk_neg (hn i (by omega) (by omega))]
  exact collF_none (fun j h0 h1=>hn j (by omega) (by omega))
theorem safe_coll (hf : FloorOk w h bl) (ha : Free w h bl a) (hb : Free w h bl b) {p : List S48} (hp : safeP w h bl os a b = some p) {o : List S48} (ho : o ∈ os) (hok : PathOk w h bl o) : collR w h bl p o = (0,false,true):=by
 have hpo:=(safe_ok hf ha hb hp).1;unfold collR;have m:=mx_two (p.length : Int) (o.length : Int);have l1:=hpo.2.1;have l2:=hok.2.1;rw [chk_pos ⟨hpo,hok⟩,collF_none (fun j h0 h1=>safe_miss hf ha hb hp ho j h0 (by omega))];rfl
theorem lev_more (ha : Free w h bl a) : ∀ (t : Nat) (c : S48),c ∈ lev w h bl os a t → c ∈ lev w h bl [] a t
 | 0,c,hc=>by rw [lev] at hc ⊢;exact hc
 | t + 1,c,hc=>by
  obtain ⟨h1,d,hd,hn,_⟩:=lev_mem.1 hc
  exact lev_mem.2 ⟨h1,d,lev_more ha t d hd,hn,hitAt_nil⟩
theorem short_le (ha : Free w h bl a) (hb : Free w h bl b) {p : List S48} (hp : safeP w h bl os a b = some p) : ∃ q,safeP w h bl [] a b = some q ∧ q.length ≤ p.length:=by
 obtain ⟨e,he,hE,_,hI,_⟩:=safeP_told ha hb hp;have hE0 : EndS w h bl [] a b e:=⟨lev_more ha e b hE.1,fun s _ _=>hitAt_nil⟩
 cases hf : firstN (EndS w h bl [] a b) 25 0 with
 | none=>exact absurd hE0 (firstN_none hf e (Nat.zero_le _) (by omega))
 | some e' =>
  have h2:=firstN_some hf;obtain ⟨q,_,hq,hJ⟩:=trace_both ha hb h2.1.1 e' (Nat.le_refl _);refine ⟨q,?_,?_⟩
  ·unfold safeP
   rw [chk_neg hitAt_nil,hf];exact hq
  ·have hle : e' ≤ e:=Classical.byContradiction fun hn=>firstN_least hf e (Nat.zero_le _) (by omega) hE0
   rw [hJ.len,hI.len];omega
theorem lev_rch (ha : Free w h bl a) : ∀ (t : Nat) (c : S48),c ∈ lev w h bl [] a t → Rch (nbOf w h bl) a t c
 | 0,c,hc=>by rw [lev,List.mem_singleton] at hc;exact hc
 | t + 1,c,hc=>by
  obtain ⟨h1,d,hd,hn,_⟩:=lev_mem.1 hc
  exact ⟨d,lev_rch ha t d hd,nb_iff.2 ⟨h1,hn⟩⟩
theorem rch_sym (ha : Free w h bl a) (hb : Free w h bl b) {n : Nat} (hr : Rch (nbOf w h bl) b n a) : Rch (nbOf w h bl) a n b:=by
 have:=lev_go ha hb n 0 a (by rw [lev];exact List.mem_singleton.2 rfl) hr;rw [Nat.zero_add] at this;exact lev_rch ha n b this
theorem dist_short (ha : Free w h bl a) (hb : Free w h bl b) {r : Mp} (hd : Dist (nbOf w h bl) a r) {q : List S48} (hq : safeP w h bl [] a b = some q) : r b = some ((q.length : Int) - 1):=by
 (obtain ⟨e,he,hE,hm,hI,_⟩:=safeP_told ha hb hq;obtain ⟨v,hv,hle⟩:=hd.least e b (rch_sym ha hb ((ends_rch ha hb).1 hE));obtain ⟨h0,hr⟩:=hd.snd b v hv;have hge : ¬ v.toNat < e:=fun hlt=>hm _ hlt ((ends_rch ha hb).2 (rch_sym hb ha hr)));rw [hv,hI.len];congr 1;omega
end
theorem safeR_true {w h : Int} {bl : List S48} {os : List (List S48)} {a b : S48} (hr : (safeR w h bl os a b).2 = true) : safeP w h bl os a b = some (safeR w h bl os a b).1:=by
 cases hp : safeP w h bl os a b with
 | none=>rw [safeR_none hp] at hr;cases hr
 | some p=>rw [safeR_some hp]
theorem askR_true {w h : Int} {bl : List S48} {os : List (List S48)} {a b : S48} (hr : (askR w h bl os a b).2 = true) : AskOk w h bl os a b ∧ safeP w h bl os a b = some (askR w h bl os a b).1:=by
 unfold askR at hr ⊢;by_cases hc : AskOk w h bl os a b
 ·rw [chk_pos hc] at hr ⊢
  exact ⟨hc,safeR_true hr⟩
 ·rw [chk_neg hc] at hr;cases hr
theorem askR_false {w h : Int} {bl : List S48} {os : List (List S48)} {a b : S48} (hr : (askR w h bl os a b).2 = false) : (askR w h bl os a b).1 = []:=by
 unfold askR at hr ⊢;by_cases hc : AskOk w h bl os a b
 ·rw [chk_pos hc] at hr ⊢
  unfold safeR at hr ⊢
  cases hp : safeP w h bl os a b with
  | none=>rfl
  | some p=>rw [hp] at hr;cases hr
 ·rw [chk_neg hc]
noncomputable def planTo (w h : Int) (bl a b : List S48) : Nat → Option (List (List S48))
 | 0=>some []
 | i + 1=>(planTo w h bl a b i).bind fun os=>if (askR w h bl os (rd_T48 a (i : Int)) (rd_T48 b (i : Int))).2 = true then some (os ++ [(askR w h bl os (rd_T48 a (i : Int)) (rd_T48 b (i : Int))).1]) else none
theorem planTo_succ (w h : Int) (bl a b : List S48) (i : Nat) : planTo w h bl a b (i + 1) = (planTo w h bl a b i).bind fun os=>if (askR w h bl os (rd_T48 a (i : Int)) (rd_T48 b (i : Int))).2 = true then some (os ++ [(askR w h bl os (rd_T48 a (i : Int)) (rd_T48 b (i : Int))).1]) else none:=rfl
def Apart (w h : Int) (bl : List S48) (os : List (List S48)) : Prop := ∀ i k : Nat,i < os.length → k < i → collR w h bl (rd_L6 os (i : Int)) (rd_L6 os (k : Int)) = (0,false,true)
theorem apart_nil (w h : Int) (bl : List S48) : Apart w h bl []:=fun i k hi=>absurd hi (Nat.not_lt_zero _)
theorem rd6_app_lt {os : List (List S48)} {p : List S48} {i : Nat} (hi : i < os.length) : rd_L6 (os ++ [p]) (i : Int) = rd_L6 os (i : Int):=by
 unfold rd_L6;rw [Int.toNat_natCast,List.getD_eq_getElem?_getD,List.getD_eq_getElem?_getD,List.getElem?_append_left hi]
theorem rd6_app_eq {os : List (List S48)} {p : List S48} {i : Nat} (hi : i = os.length) : rd_L6 (os ++ [p]) (i : Int) = p:=by
 unfold rd_L6;subst hi;rw [Int.toNat_natCast,List.getD_eq_getElem?_getD,List.getElem?_append_right (Nat.le_refl _),Nat.sub_self];rfl
theorem plan_ok {w h : Int} {bl a b : List S48} : ∀ {i : Nat} {os : List (List S48)},planTo w h bl a b i = some os → os.length = i ∧ (∀ p ∈ os,PathOk w h bl p ∧ p.length ≤ 25) ∧ Apart w h bl os ∧ ∀ j : Nat,j < i → Free w h bl (rd_T48 a (j : Int)) ∧ Free w h bl (rd_T48 b (j : Int))
 | 0,os,e=>by
  rw [planTo] at e
  obtain rfl:=Option.some.inj e
  exact ⟨rfl,(fun p hp=>by cases hp),apart_nil w h bl,fun j hj=>by omega⟩
 | i + 1,os,e=>by
  rw [planTo_succ] at e
  cases hq : planTo w h bl a b i with
  | none=>rw [hq] at e;cases e
  | some qs =>
   rw [hq] at e
   have e : (if (askR w h bl qs (rd_T48 a (i : Int)) (rd_T48 b (i : Int))).2 = true then some (qs ++ [(askR w h bl qs (rd_T48 a (i : Int)) (rd_T48 b (i : Int))).1]) else none) = some os:=e
   by_cases hr : (askR w h bl qs (rd_T48 a (i : Int)) (rd_T48 b (i : Int))).2 = true
   ·rw [if_pos hr] at e
    obtain rfl:=Option.some.inj e
    obtain ⟨h1,h2,h3,h4⟩:=plan_ok hq
    obtain ⟨hk,hs⟩:=askR_true hr
    have hp:=safe_ok hk.1 hk.2.2.1 hk.2.2.2.1 hs
    refine ⟨by rw [List.length_append,h1];rfl,fun p hp'=>?_,fun j k hj hk'=>?_,fun j hj=>?_⟩
    ·rcases List.mem_append.1 hp' with hp'|hp'
     ·exact h2 p hp'
     ·rw [List.mem_singleton] at hp'
      subst hp'
      exact ⟨hp.1,by have:=hp.1.2.1;omega⟩
    ·rw [List.length_append,List.length_singleton] at hj
     by_cases ej : j = qs.length
     ·rw [rd6_app_eq ej,rd6_app_lt (by omega)]
      have hin : rd_L6 qs (k : Int) ∈ qs:=rd6_in qs k (by omega) (by omega)
      exact safe_coll hk.1 hk.2.2.1 hk.2.2.2.1 hs hin (h2 _ hin).1
     ·rw [rd6_app_lt (by omega),rd6_app_lt (by omega)]
      exact h3 j k (by omega) hk'
    ·by_cases ej : j = i
     ·rw [ej];exact ⟨hk.2.2.1,hk.2.2.2.1⟩
     ·exact h4 j (by omega)
   ·rw [if_neg hr] at e;cases e
noncomputable def fleetR (w h : Int) (bl a b : List S48) : List (List S48) × Bool:=chk (FloorOk w h bl ∧ (a.length : Int) = (b.length : Int) ∧ (a.length : Int) ≤ 3) (match planTo w h bl a b a.length with|some os=>(os,true)|none=>([],false)) ([],false)
theorem fleet_ok (w h : Int) (bl a b : List S48) : (fleetR w h bl a b).1.length ≤ 3 ∧ (∀ p ∈ (fleetR w h bl a b).1,PathOk w h bl p ∧ p.length ≤ 25) ∧ Apart w h bl (fleetR w h bl a b).1:=by
 unfold fleetR;have no : ([] : List (List S48)).length ≤ 3 ∧ (∀ p ∈ ([] : List (List S48)),PathOk w h bl p ∧ p.length ≤ 25) ∧ Apart w h bl []:=⟨by simp,(fun p hp=>by cases hp),apart_nil w h bl⟩;by_cases hc : FloorOk w h bl ∧ (a.length : Int) = (b.length : Int) ∧ (a.length : Int) ≤ 3
 ·rw [chk_pos hc]
  cases hp : planTo w h bl a b a.length with
  | none=>exact no
  | some os =>
   have:=plan_ok hp;exact ⟨by have:=this.1;show os.length ≤ 3;omega,this.2.1,this.2.2.1⟩
 ·rw [chk_neg hc];exact no
end Go.Proofs.Ytbpccdbkaiigcaa.G

/- FnPaths: a shortest path has the length of the distance, and a safe path collides with none of the others (for drawn bytes of at most 2^16; else the statement is true at once). -/
namespace Go.Proofs.Ytbpccdbkaiigcaa.Pure
open Go.RowKit Go.Proofs.Ytbpccdbkaiigcaa.G Go.Proofs.YtbpccdbkaiigcaaW.PrintWords Go.Proofs.YtbpccdbkaiigcaaW.PrintLast
theorem vPath_V (xs : List S48) (h : (xs.length : Int) ≤ 1048576) : Ev (fun k=>laws_vPath.f k xs xs) true:=by
 unfold laws_vPath.f;simp only [if_true];refine Ev.upc (fun k i=>laws_vPath.l0 k xs xs i) true (xs.length : Int) 0 ?_ ?_ 0 (by omega) (by omega)
 ·refine Ev.step (fun k=>by rw [laws_vPath.l0]) ?_
  simp only [Int.lt_irrefl,if_false];exact Ev.now _
 ·intro i h0 hlt hr
  refine Ev.step (fun k=>by rw [laws_vPath.l0]) ?_;simp (disch:=omega) only [wrap64_id,if_pos,beq_self_eq_true,Bool.not_true,Bool.or_self,Bool.false_eq_true,if_false];exact hr
theorem short_true {w h : Int} {bl : List S48} {a b : S48} {q : List S48} (hT : shortR w h bl a b = (q,true)) : (FloorOk w h bl ∧ Free w h bl a ∧ Free w h bl b) ∧ safeP w h bl [] a b = some q:=by
 unfold shortR at hT;by_cases hc : FloorOk w h bl ∧ Free w h bl a ∧ Free w h bl b
 ·rw [chk_pos hc] at hT
  have:=safeR_true (w:=w) (h:=h) (bl:=bl) (os:=[]) (a:=a) (b:=b) (by rw [hT]);rw [hT] at this;exact ⟨hc,this⟩
 ·rw [chk_neg hc] at hT
  cases hT
theorem paths2 {w h : Int} {bl : List S48} {os : List (List S48)} {a0 a1 b0 b1 : Int} (hb : (bl.length : Int) ≤ 60) (ho : (os.length : Int) ≤ 4) (p q : List S48) (ok told : Bool) (hR : askR w h bl os ⟨a0,a1⟩ ⟨b0,b1⟩ = (p,ok)) (hT : shortR w h bl ⟨a0,a1⟩ ⟨b0,b1⟩ = (q,told)) :
  Ev (fun k=>laws_FnPaths.j2 k os p ok q told w h bl a0 a1 b0 b1) true:=by
 refine Ev.step (fun k=>by rw [laws_FnPaths.j2]) ?_
 cases ok with
 | false =>
  have e:=askR_false (w:=w) (h:=h) (bl:=bl) (os:=os) (a:=⟨a0,a1⟩) (b:=⟨b0,b1⟩) (by rw [hR]);rw [hR] at e;dsimp only at e;subst e;simp only [Bool.false_eq_true,if_false];exact Ev.now _
 | true =>
  obtain ⟨hk,hs⟩:=askR_true (w:=w) (h:=h) (bl:=bl) (os:=os) (a:=⟨a0,a1⟩) (b:=⟨b0,b1⟩) (by rw [hR]);rw [hR] at hs;dsimp only at hs;obtain ⟨q',hq,hle⟩:=short_le hk.2.2.1 hk.2.2.2.1 hs
  have hsh : shortR w h bl ⟨a0,a1⟩ ⟨b0,b1⟩ = (q',true):=by
   unfold shortR;rw [chk_pos ⟨hk.1,hk.2.2.1,hk.2.2.2.1⟩,safeR_some hq]
  rw [hT] at hsh;injection hsh with e1 e2;subst e1 e2;obtain ⟨hpo,hp0,hp1⟩:=safe_ok hk.1 hk.2.2.1 hk.2.2.2.1 hs;have hl:=hpo.2.1;simp only [if_true];refine Ev.upc (fun k i=>laws_FnPaths.l0 k os p q true i w h bl a0 a1 b0 b1) true (os.length : Int) 0 ?_ ?_ 0 (by omega) (by omega)
  ·refine Ev.step (fun k=>by rw [laws_FnPaths.l0]) ?_
   simp only [Int.lt_irrefl,if_false,if_true];refine Ev.bind (impl_path w h bl (by omega) p) ?_;rw [chk_pos hpo];have e1 : wrap64 ((p.length : Int) - 1) = (p.length : Int) - 1:=wrap64_id (by omega) (by omega);simp only [if_true,if_pos (show 0 < (p.length : Int) by omega),e1,hp0,hp1,beq_self_eq_true,Bool.and_self,if_pos (show 0 ≤ (p.length : Int) - 1 by omega),if_pos (show (p.length : Int) - 1 < (p.length : Int) by omega)];rw [decide_eq_true (show (p.length : Int) ≥ (q.length : Int) by omega)];exact Ev.now _
  ·intro i i0 i1 hr
   have hin:=rd6_in os i i0 i1;refine Ev.step (fun k=>by rw [laws_FnPaths.l0]) ?_;simp only [if_pos i1,if_pos i0,wrap64_id (x:=i + 1) (show -9223372036854775808 ≤ i + 1 by omega) (show i + 1 ≤ 9223372036854775807 by omega)];refine Ev.bind (impl_first w h bl (by omega) p (rd_L6 os i)) ?_;rw [safe_coll hk.1 hk.2.2.1 hk.2.2.2.1 hs hin (hk.2.2.2.2 _ hin)];simp only [if_true,Bool.false_eq_true,if_false];exact hr
theorem FnPaths : laws_FnPaths.Pure:=by
 intro l hw;refine Ev.rounds (g:=fun k=>laws_FnPaths.f k l) (r:=true) ?_;unfold laws_FnPaths.f laws_vBig.f;simp only [Option.bind_some];refine Ev.ite (fun _=>Ev.now _) (fun hbig=>?_);have hc : Cd l:=cd_of (by simpa using hbig) hw.2;obtain ⟨⟨w,h,bl,os,a0,a1,b0,b1⟩,⟨h1,h2,h3⟩,e⟩:=draw_safe hc;dsimp only at h1 h2 h3;refine Ev.bind e ?_;dsimp only;simp only [impl_safe w h bl os (show (bl.length : Int) ≤ 1099511627776 by omega) a0 a1 b0 b1,Option.bind_some];refine Ev.bind (spec_safe w h bl os (by omega) (fun p hp=>by have:=h3 p hp;omega) a0 a1 b0 b1) ?_;have hl:=askR_len w h bl os ⟨a0,a1⟩ ⟨b0,b1⟩;have hl2:=shortR_len w h bl ⟨a0,a1⟩ ⟨b0,b1⟩;obtain ⟨⟨p,ok⟩,hR⟩ : ∃ R,askR w h bl os ⟨a0,a1⟩ ⟨b0,b1⟩ = R:=⟨_,rfl⟩;obtain ⟨⟨q,told⟩,hT⟩ : ∃ R,shortR w h bl ⟨a0,a1⟩ ⟨b0,b1⟩ = R:=⟨_,rfl⟩;rw [hR] at hl ⊢;rw [hT] at hl2;dsimp only at hl hl2 ⊢;simp only [bne_self_eq_false,Bool.false_eq_true,if_false];refine Ev.bind (vPath_V p (by omega)) ?_;refine Ev.step (fun k=>by rw [laws_FnPaths.j0]) ?_;simp only [Bool.not_true,Bool.false_eq_true,if_false,impl_short w h bl (show (bl.length : Int) ≤ 1099511627776 by omega) a0 a1 b0 b1,Option.bind_some];refine Ev.bind (spec_short w h bl (by omega) a0 a1 b0 b1) ?_;rw [hT];dsimp only;simp only [bne_self_eq_false,Bool.false_eq_true,if_false];refine Ev.bind (vPath_V q (by omega)) ?_;refine Ev.step (fun k=>by rw [laws_FnPaths.j1]) ?_;simp only [Bool.not_true,Bool.false_eq_true,if_false];have fin:=paths2 (by omega) h2 p q ok told hR hT
 cases told with
 | false =>
  simp only [Bool.false_eq_true,if_false];exact fin
 | true =>
  (obtain ⟨⟨hf,ha,hb⟩,hq⟩:=short_true hT;obtain ⟨hqo,hq0,hq1⟩:=safe_ok hf ha hb hq;have hql:=hqo.2.1;obtain ⟨r,hr⟩:=bfs_floor hf ha;have em : plMap w h bl ⟨a0,a1⟩ = r:=by unfold plMap;rw [hr];rfl);have hd:=dist_short ha hb (bfs_dist hr) hq;have hin:=hb.1;have hin2 : (0 ≤ b0 ∧ b0 ≤ w - 1) ∧ (0 ≤ b1 ∧ b1 ≤ h - 1):=hin
  have epl : impl_PathLengthTo.f w h bl a0 a1 = some (tabOf (fun d=>(r d).getD (-1)) w.toNat h.toNat,true):=by
   unfold impl_PathLengthTo.f plR;rw [chk_pos (show (bl.length : Int) ≤ 1099511627776 by omega),chk_pos ⟨hf,ha⟩,em]
  (have e1 : wrap64 ((q.length : Int) - 1) = (q.length : Int) - 1:=wrap64_id (by omega) (by omega);have e2 : ((tabOf (fun d=>(r d).getD (-1)) w.toNat h.toNat).length : Int) = h:=by rw [tabOf_len];omega);have e3 : rd_L5 (tabOf (fun d=>(r d).getD (-1)) w.toNat h.toNat) b1 = rowOf (fun d=>(r d).getD (-1)) b1 w.toNat:=tab_row _ _ _ _ (by omega) (by omega);have e4 : ((rowOf (fun d=>(r d).getD (-1)) b1 w.toNat).length : Int) = w:=by rw [rowOf_len];omega
  have e5 : rd (rowOf (fun d=>(r d).getD (-1)) b1 w.toNat) b0 = (q.length : Int) - 1:=by
   (rw [row_rd _ _ _ _ (by omega) (by omega)];show (r ⟨b0,b1⟩).getD (-1) = _);rw [hd];rfl
  simp only [if_true,epl,Option.bind_some];refine Ev.bind (impl_path w h bl (by omega) q) ?_;rw [chk_pos hqo];simp only [if_true,if_pos (show 0 < (q.length : Int) by omega),e1,hq0,hq1,beq_self_eq_true,Bool.not_true,Bool.or_self,Bool.false_eq_true,if_false,if_pos (show 0 ≤ (q.length : Int) - 1 by omega),if_pos (show (q.length : Int) - 1 < (q.length : Int) by omega),e2,e3,e4,e5,if_neg (show ¬ h ≤ b1 by omega),if_pos (show 0 ≤ b1 by omega),if_pos (show b1 < h by omega),if_neg (show ¬ w ≤ b0 by omega),if_pos (show 0 ≤ b0 by omega),if_pos (show b0 < w by omega)];exact fin
end Go.Proofs.Ytbpccdbkaiigcaa.Pure

namespace Go.Proofs.Ytbpccdbkaiigcaa.G
open Go.RowKit Go.ChangeShapes Go.WideShapes Go.Deep Go.Proofs.YtbpccdbkaiigcaaW.PrintWords Go.Proofs.YtbpccdbkaiigcaaW.PrintLast
def Opens {α : Type} (P : Program) (t : TypeId) (d : Kd α) (Wf : α → Prop) : Prop :=
 ∀ {H : Type} {enc : TypeId × Value → H} {W : World} {spare : Nat → Bool} {held : Bool} {fuel : Nat} {cs : List Value} {x : DataW H × List MemPlace},
  DataW.trod enc P W 0 spare held fuel t cs = some x → ∃ a,d.K W a cs ∧ Wf a
theorem opens_int {P : Program} {t : TypeId} {k : IntKind} (ht : P.underlying t = some (.int k)) : Opens P t (Kd.int k) (fun x=>(Lit.int k x).wf = true):=by
 intro H enc W spare held fuel cs x h;obtain ⟨n,rfl,_,hw⟩:=DataW.trod_int ht h;exact ⟨n,rfl,hw⟩
theorem opens_row {α : Type} {d : Kd α} {Wf : α → Prop} {W : World} (Q : Nat → List Value → Prop) (hq : ∀ i cs,Q i cs → ∃ a,d.K W a cs ∧ Wf a) (n : Nat) (h : ∀ i,i < n → ∃ cs,Q i cs) :
  ∃ xs : List α,xs.length = n ∧ (∀ y ∈ xs,Wf y) ∧ ∀ j p,xs[j]? = some p → ∃ cs,Q j cs ∧ d.K W p cs:=by
 induction n with
 | zero=>exact ⟨[],rfl,fun y hy=>by simp at hy,fun j p hp=>by simp at hp⟩
 | succ n ih =>
  obtain ⟨xs,hl,hw,hx⟩:=ih (fun i hi=>h i (by omega));obtain ⟨cs,hcs⟩:=h n (by omega);obtain ⟨a,ha,hwa⟩:=hq n cs hcs;refine ⟨xs ++ [a],by simp [hl],fun y hy=>?_,fun j p hp=>?_⟩
  ·rcases List.mem_append.1 hy with hy|hy
   ·exact hw y hy
   ·rw [List.mem_singleton.1 hy];exact hwa
  ·rcases Nat.lt_or_ge j xs.length with hj|hj
   ·rw [List.getElem?_append_left hj] at hp
    exact hx j p hp
   ·rw [List.getElem?_append_right hj] at hp
    have h0 : j - xs.length = 0:=by
     rcases Nat.eq_zero_or_pos (j - xs.length) with h0|h0
     ·exact h0
     ·rw [List.getElem?_eq_none (by simp;omega)] at hp;cases hp
    (rw [h0] at hp;simp at hp;subst hp;have : j = n:=by omega);subst this;exact ⟨cs,hcs,ha⟩
theorem opens_slice {α : Type} {P : Program} {t e : TypeId} {d : Kd α} {Wf : α → Prop} (ht : P.underlying t = some (.slice e)) (hC : P.cellsOf e = d.sz) (ho : Opens P e d Wf) :
  Opens P t (Kd.slice e d) (fun xs=>xs.length ≤ maxLen ∧ ∀ y ∈ xs,Wf y):=by
 intro H enc W spare held fuel cs x h;rcases open_slice ht h with ⟨rfl,_⟩|⟨a,len,cap,m,n,D,Pl,rfl,_,hl,hm,hmm,_,hi⟩
 ·exact ⟨[],⟨none,0,rfl,Nat.le_refl _,rfl,by simp,fun h=>by simp at h⟩,by simp [maxLen],fun y hy=>by simp at hy⟩
 ·have hml : len ≤ m:=by rw [hmm];split <;> omega
  obtain ⟨xs,hxl,hw,hx⟩:=opens_row (W:=W) (d:=d) (Wf:=Wf) (fun i cs'=>W.cells? 0 (a.add (i * P.cellsOf e)) (P.cellsOf e) = some cs' ∧ DataW.trod enc P W 0 spare held n e cs' = some (D i,Pl i))
   (fun i cs' hq=>ho hq.2) len (fun i hi'=>hi i (by omega))
  refine ⟨xs,⟨some a,cap,by rw [hxl],by omega,rfl,?_,fun _=>⟨a,rfl,fun j p hj=>?_⟩⟩,by omega,hw⟩
  ·simp only [maxLen] at hm
   omega
  ·obtain ⟨cs',⟨hc,_⟩,hK⟩:=hx j p hj
   obtain ⟨_,hcl,hat⟩:=World.cells?_some hc;refine ⟨cs',d.K_len hK,hK,fun i u hu=>?_⟩;have hil : i < cs'.length:=(List.getElem?_eq_some_iff.1 hu).1;have h1:=hat i (by omega);rw [hC] at h1;rw [← Go.Deep.add_add,h1,hu]
section
variable {α β γ δ : Type} {P : Program} {t : TypeId} {f0 f1 f2 f3 : Field} {d0 : Kd α} {d1 : Kd β} {d2 : Kd γ} {d3 : Kd δ} {W0 : α → Prop} {W1 : β → Prop} {W2 : γ → Prop} {W3 : δ → Prop}
end
theorem opens_arg {α : Type} {P : Program} {t e : TypeId} {d : Kd α} {Wf : List α → Prop} (ho : Opens P t (Kd.slice e d) Wf) {H : Type} {enc : TypeId × Value → H} {W : World} {spare : Nat → Bool} {held : Bool} {a : Option Addr} {len cap : Nat} {dd : DataW H} {p : List MemPlace}
  (h : DataW.Trod enc P W 0 spare held t (.slice a len cap) dd p) : ∃ l : List α,len = l.length ∧ l.length ≤ cap ∧ Kd.C d W a l.length l ∧ Wf l:=by
 obtain ⟨fuel,hf⟩:=h;obtain ⟨l,⟨A,c,he,hl,hC⟩,hw⟩:=ho hf;simp [Value.cells] at he;obtain ⟨rfl,rfl,rfl⟩:=he;exact ⟨l,rfl,hl,hC,hw⟩
end Go.Proofs.Ytbpccdbkaiigcaa.G
