/- Texts of the proof of FnQuay, joined in build order. -/
import Derived.Test.YtcciljjnpfgaeaaMgFnQuay1
import Derived.Test.YtcciljjnpfgaeaaMgFnQuay2
import Derived.Test.YtcciljjnpfgaeaaMgFnQuay3
import Derived.Test.YtcciljjnpfgaeaaMgFnQuay5
import Derived.Test.YtcciljjnpfgaeaaMgFnQuay4
import Derived.Deep.Slices
import Derived.ChangeArms
import Derived.WideShapes
import Derived.ChangeShapes
-- Written by wip/tools/gen.py out of the translation (the kit's printer, one namespace a seat). Lean checks it.
namespace Go.Proofs.Ytcciljjnpfgaeaa.G
open Go.RowKit Go.Proofs.YtcciljjnpfgaeaaW.PrintWords Go.Proofs.YtcciljjnpfgaeaaW.PrintLast Go.Proofs.YtcciljjnpfgaeaaW.PrintMore
attribute [local go_sem] max2_int min2_int max_two min_two max_three min_three max_four min_four   -- for this text's walks alone
set_option linter.unusedVariables false
set_option linter.unusedSimpArgs false

attribute [local go_sem high] eqA37
/-! ### laws_FnQuay: function 12 -/
mutual
def laws_FnQuay.j0 : Nat → List Int → Int → List (S62) → List (S37) → Int → List Int → Bool → Bool → Option (Bool)
 | 0,_,_,_,_,_,_,_,_=>none
 | k + 1,x0,x3,x4,x5,x6,x7,x8,x58=>if x58 = true then (some false) else (if x8 = true then ((impl_LastHour.f k x3 x4 x5).bind fun bt1048=>(laws_FnQuay.l0 k x0 x3 x4 x5 x6 x7 bt1048.1 bt1048.2 0 0)) else (laws_FnQuay.j3 k x0))
def laws_FnQuay.j3 : Nat → List Int → Option (Bool)
 | 0,_=>none
 | k + 1,x0=>(spec_DrawNextBerth.f k x0).bind fun bt1055=>((impl_NextBerth.f k bt1055.1 bt1055.2.1 bt1055.2.2).bind fun bt1062=>((spec_NextBerth.f k bt1055.1 bt1055.2.1 bt1055.2.2).bind fun bt1066=>(if (!(bt1062.1 == bt1066.1) || (!(bt1062.2.1 == bt1066.2.1))) = true then (laws_FnQuay.j4 k bt1055.1 bt1055.2.1 bt1055.2.2 bt1062.2.2 true bt1062.1 bt1062.2.1) else (laws_FnQuay.j4 k bt1055.1 bt1055.2.1 bt1055.2.2 bt1062.2.2 (bt1062.2.2 != bt1066.2.2) bt1062.1 bt1062.2.1))))
def laws_FnQuay.j4 : Nat → Int → List (S62) → List (S37) → Bool → Bool → Int → Int → Option (Bool)
 | 0,_,_,_,_,_,_,_=>none
 | k + 1,x17,x18,x19,x21,x164,x1066000,x1066001=>if x164 = true then (some false) else (if x21 = true then ((some (([] : List (S37)) : List (S37))).bind fun y1070=>(if y1070.length + x19.length < 8796093022208 then ((some (y1070 ++ x19 : List (S37))).bind fun y1073=>((some (([(⟨x1066000,x1066001⟩ : S37)] : List (S37)) : List (S37))).bind fun y1076=>(if y1073.length + y1076.length < 8796093022208 then ((some (y1073 ++ y1076 : List (S37))).bind fun y1079=>(if 0 ≤ (y1079.length : Int) then (if (y1079.length : Int) ≤ (x18.length : Int) then ((impl_IsPossiblePlan.f k x17 (x18.take ((y1079.length : Int) : Int).toNat) y1079).bind fun t1086=>(some t1086)) else (none)) else (none))) else (none)))) else (none))) else (some (x1066000 == 0 && (x1066001 == 0))))
def laws_FnQuay.l0 : Nat → List Int → Int → List (S62) → List (S37) → Int → List Int → Int → Bool → Int → Int → Option (Bool)
 | 0,_,_,_,_,_,_,_,_,_,_=>none
 | k + 1,x0,x3,x4,x5,x6,x7,x11,x12,x13,x14=>if x14 < (x7.length : Int) then (if 0 ≤ x14 then (if (rd x7 x14) ≥ 0 then (laws_FnQuay.l0 k x0 x3 x4 x5 x6 x7 x11 x12 (wrap64 (x13 + 1)) (wrap64 (x14 + 1))) else (laws_FnQuay.l0 k x0 x3 x4 x5 x6 x7 x11 x12 x13 (wrap64 (x14 + 1)))) else (none)) else (laws_FnQuay.l1 k x0 x3 x4 x5 x6 x7 x11 x12 x13 0 0)
def laws_FnQuay.l1 : Nat → List Int → Int → List (S62) → List (S37) → Int → List Int → Int → Bool → Int → Int → Int → Option (Bool)
 | 0,_,_,_,_,_,_,_,_,_,_,_=>none
 | k + 1,x0,x3,x4,x5,x6,x7,x11,x12,x13,x15,x16=>if x16 < (x4.length : Int) then (if 0 ≤ x16 then (if x16 < (x5.length : Int) then (if x6 ≥ ((rd_T37 x5 x16).f1) then (if x6 < (wrap64 (((rd_T37 x5 x16).f1) + ((rd_T62 x4 x16).f2))) then (laws_FnQuay.l1 k x0 x3 x4 x5 x6 x7 x11 x12 x13 (wrap64 (x15 + ((rd_T62 x4 x16).f0))) (wrap64 (x16 + 1))) else (laws_FnQuay.l1 k x0 x3 x4 x5 x6 x7 x11 x12 x13 x15 (wrap64 (x16 + 1)))) else (laws_FnQuay.l1 k x0 x3 x4 x5 x6 x7 x11 x12 x13 x15 (wrap64 (x16 + 1)))) else (none)) else (none)) else (if x12 = true then (if (x7.length : Int) = x3 then (if x13 = x15 then (if x6 ≥ x11 then (if x13 > 0 then (some false) else (laws_FnQuay.j3 k x0)) else (laws_FnQuay.j3 k x0)) else (some false)) else (some false)) else (some false))
end
def laws_FnQuay.f (k : Nat) (l0 : List Int) : Option (Bool):=(laws_vBig.f l0).bind fun t1030=>(if t1030 = true then (some true) else ((spec_DrawQuayUse.f k l0).bind fun bt1031=>((impl_QuayUse.f k bt1031.1 bt1031.2.1 bt1031.2.2.1 bt1031.2.2.2).bind fun bt1039=>((spec_QuayUse.f k bt1031.1 bt1031.2.1 bt1031.2.2.1 bt1031.2.2.2).bind fun bt1043=>(if (bt1039.2 != bt1043.2) = true then (laws_FnQuay.j0 k l0 bt1031.1 bt1031.2.1 bt1031.2.2.1 bt1031.2.2.2 bt1039.1 bt1039.2 true) else ((laws_vInts.f k bt1039.1 bt1043.1).bind fun t1047=>(laws_FnQuay.j0 k l0 bt1031.1 bt1031.2.1 bt1031.2.2.1 bt1031.2.2.2 bt1039.1 bt1039.2 (!t1047))))))))
def laws_FnQuay.T20 : Bool × List (List Nat × List Nat):=(true,[([],[]),([],[]),([],[]),([1,2],[1,2]),([3],[3]),([4],[4]),([0,5],[0,5]),([6],[6]),([7],[7]),([7],[7]),([7],[7]),([9,10,7],[7,9,10]),([11,7],[7,11]),([12,7],[7,12]),([7],[7]),([7],[7]),([14,15,7],[7,14,15]),([16,7],[7,16]),([17,7],[7,17]),([13,18,7],[7,13,18]),([8,19,7],[7,8,19]),([7,20],[7,20])])
def laws_FnQuay.B20 : List Nat:=[0,0,0,6,14,30,63,127,255,255,255,1791,3839,7935,255,255,49407,114943,246015,524031,1048575,2097151]
theorem laws_FnQuay.tab20 : rtab .any (opsOf Try.f12 20) = laws_FnQuay.T20:=by kernel_rfl
theorem laws_FnQuay.bits20 : waitsOk laws_FnQuay.T20.2 laws_FnQuay.B20 = true:=by kernel_rfl
set_option maxHeartbeats 8000000 in
set_option maxRecDepth 100000 in
theorem laws_FnQuay.calls (k : Nat) (A0 : Option Addr) (c0 : Nat) (l0 : List Int) (r : Bool) (w : World) (hr0 : Kd.C (Kd.int .u8) w A0 l0.length l0) (hc0 : l0.length ≤ c0) (h : laws_FnQuay.f k l0 = some r) :
  Calls Try.prog 12 #[.slice A0 l0.length c0] w fun e w'=>e = .returned (.bool r) ∧ Below w.heap.size w w':=by
 have hu37:=Try.underlying37
 have HR0:=zM hr0
 have HC0:=zM hc0
 clear hr0 hc0
 have HB:=zM (Below.refl w.heap.size w)
 have H : ((laws_vBig.f l0).bind fun t1030=>(if t1030 = true then (some true) else ((spec_DrawQuayUse.f k l0).bind fun bt1031=>((impl_QuayUse.f k bt1031.1 bt1031.2.1 bt1031.2.2.1 bt1031.2.2.2).bind fun bt1039=>((spec_QuayUse.f k bt1031.1 bt1031.2.1 bt1031.2.2.1 bt1031.2.2.2).bind fun bt1043=>(if (bt1039.2 != bt1043.2) = true then (laws_FnQuay.j0 k l0 bt1031.1 bt1031.2.1 bt1031.2.2.1 bt1031.2.2.2 bt1039.1 bt1039.2 true) else ((laws_vInts.f k bt1039.1 bt1043.1).bind fun t1047=>(laws_FnQuay.j0 k l0 bt1031.1 bt1031.2.1 bt1031.2.2.1 bt1031.2.2.2 bt1039.1 bt1039.2 (!t1047))))))))) = some r:=h
 clear h
 replace H:=Option.bind_eq_some_iff.mp H
 obtain ⟨t1030,A20,H⟩:=H
 replace H : (if t1030 = true then (some true) else ((spec_DrawQuayUse.f k l0).bind fun bt1031=>((impl_QuayUse.f k bt1031.1 bt1031.2.1 bt1031.2.2.1 bt1031.2.2.2).bind fun bt1039=>((spec_QuayUse.f k bt1031.1 bt1031.2.1 bt1031.2.2.1 bt1031.2.2.2).bind fun bt1043=>(if (bt1039.2 != bt1043.2) = true then (laws_FnQuay.j0 k l0 bt1031.1 bt1031.2.1 bt1031.2.2.1 bt1031.2.2.2 bt1039.1 bt1039.2 true) else ((laws_vInts.f k bt1039.1 bt1043.1).bind fun t1047=>(laws_FnQuay.j0 k l0 bt1031.1 bt1031.2.1 bt1031.2.2.1 bt1031.2.2.2 bt1039.1 bt1039.2 (!t1047)))))))) = some r:=H
 have A2:=zM A20
 clear A20
 by_cases c3 : t1030 = true
 ·subst c3
  have H1 : (some true) = some r:=by rw [if_pos rfl] at H;exact H
  clear H
  have H:=H1
  clear H1
  obtain rfl:=Option.some.inj H
  go_enter Try.func12,Try.ntmps12
  go_wp2_with (first|((with_reducible refine gate_callee (f:=43) rfl ?_);refine goesL_ (some 26) rfl rfl Try.func43 (by kernel_rfl) rfl #[.slice A0 l0.length c0] rfl (by (try simp only [List.map_toArray,List.map_cons,List.map_nil]);first|done|rfl|(simp only [List.length_drop,List.length_take];rfl)) ?_;(with_reducible refine (laws_vBig.calls _ _ l0 true _ ?side1 ?side2 A2.out).mono ?_);(case side1=>repeat (first|exact HR0.out|(with_reducible refine zG ?_ _)|(with_reducible refine zH ?_ _)|(with_reducible refine zI ?_)));(case side2=>exact HC0.out);rintro e w' ⟨rfl,⟨nd,rfl⟩⟩;refine ⟨_,rfl,?_⟩))
  go_ret
  exact ⟨by first|rfl|(simp [errW_none,errW_some] <;> rfl)|(simp [*,errW_none,errW_some] <;> rfl),by repeat (first|(with_reducible first|exact HB.out|apply zD|apply zE|apply zF)|exact HB.out)⟩
 ·replace c3:=Bool.eq_false_iff.mpr c3
  subst c3
  have H1 : ((spec_DrawQuayUse.f k l0).bind fun bt1031=>((impl_QuayUse.f k bt1031.1 bt1031.2.1 bt1031.2.2.1 bt1031.2.2.2).bind fun bt1039=>((spec_QuayUse.f k bt1031.1 bt1031.2.1 bt1031.2.2.1 bt1031.2.2.2).bind fun bt1043=>(if (bt1039.2 != bt1043.2) = true then (laws_FnQuay.j0 k l0 bt1031.1 bt1031.2.1 bt1031.2.2.1 bt1031.2.2.2 bt1039.1 bt1039.2 true) else ((laws_vInts.f k bt1039.1 bt1043.1).bind fun t1047=>(laws_FnQuay.j0 k l0 bt1031.1 bt1031.2.1 bt1031.2.2.1 bt1031.2.2.2 bt1039.1 bt1039.2 (!t1047))))))) = some r:=by rw [if_neg (show ¬ (false = true) by decide)] at H;exact H
  clear H
  have H:=H1
  clear H1
  replace H:=Option.bind_eq_some_iff.mp H
  obtain ⟨⟨t1031,t1032,t1033,t1034⟩,A40,H⟩:=H
  replace H : ((impl_QuayUse.f k t1031 t1032 t1033 t1034).bind fun bt1039=>((spec_QuayUse.f k t1031 t1032 t1033 t1034).bind fun bt1043=>(if (bt1039.2 != bt1043.2) = true then (laws_FnQuay.j0 k l0 t1031 t1032 t1033 t1034 bt1039.1 bt1039.2 true) else ((laws_vInts.f k bt1039.1 bt1043.1).bind fun t1047=>(laws_FnQuay.j0 k l0 t1031 t1032 t1033 t1034 bt1039.1 bt1039.2 (!t1047)))))) = some r:=H
  have A4:=zM A40
  clear A40
  replace H:=Option.bind_eq_some_iff.mp H
  obtain ⟨⟨t1039,t1040⟩,A50,H⟩:=H
  replace H : ((spec_QuayUse.f k t1031 t1032 t1033 t1034).bind fun bt1043=>(if (t1040 != bt1043.2) = true then (laws_FnQuay.j0 k l0 t1031 t1032 t1033 t1034 t1039 t1040 true) else ((laws_vInts.f k t1039 bt1043.1).bind fun t1047=>(laws_FnQuay.j0 k l0 t1031 t1032 t1033 t1034 t1039 t1040 (!t1047))))) = some r:=H
  have A5:=zM A50
  clear A50
  replace H:=Option.bind_eq_some_iff.mp H
  obtain ⟨⟨t1043,t1044⟩,A60,H⟩:=H
  replace H : (if (t1040 != t1044) = true then (laws_FnQuay.j0 k l0 t1031 t1032 t1033 t1034 t1039 t1040 true) else ((laws_vInts.f k t1039 t1043).bind fun t1047=>(laws_FnQuay.j0 k l0 t1031 t1032 t1033 t1034 t1039 t1040 (!t1047)))) = some r:=H
  have A6:=zM A60
  clear A60
  have HC7:=zM H
  clear H
  go_enter Try.func12,Try.ntmps12
  go_upto_region 6 with (first|((with_reducible refine gate_callee (f:=43) rfl ?_);refine goesL_ (some 26) rfl rfl Try.func43 (by kernel_rfl) rfl #[.slice A0 l0.length c0] rfl (by (try simp only [List.map_toArray,List.map_cons,List.map_nil]);first|done|rfl|(simp only [List.length_drop,List.length_take];rfl)) ?_;(with_reducible refine (laws_vBig.calls _ _ l0 false _ ?side1 ?side2 A2.out).mono ?_);(case side1=>repeat (first|exact HR0.out|(with_reducible refine zG ?_ _)|(with_reducible refine zH ?_ _)|(with_reducible refine zI ?_)));(case side2=>exact HC0.out);rintro e w' ⟨rfl,⟨nd,rfl⟩⟩;refine ⟨_,rfl,?_⟩)|((with_reducible refine gate_callee (f:=47) rfl ?_);refine goesL_ (some 29) rfl rfl Try.func47 (by kernel_rfl) rfl #[.slice A0 l0.length c0] rfl (by (try simp only [List.map_toArray,List.map_cons,List.map_nil]);first|done|rfl|(simp only [List.length_drop,List.length_take];rfl)) ?_;(with_reducible refine (spec_DrawQuayUse.calls k _ _ l0 t1031 t1032 t1033 t1034 _ ?side1 ?side2 A4.out).mono ?_);(case side1=>repeat (first|exact HR0.out|(with_reducible refine zG ?_ _)|(with_reducible refine zH ?_ _)|(with_reducible refine zI ?_)));(case side2=>exact HC0.out);rintro e w8 ⟨v1035,v1037,rfl,ho0,ho1,hb⟩;refine ⟨_,rfl,?_⟩;have n0_:=zM (Kd.R_lower ho0 (zR (by repeat (first|(with_reducible first|exact HB.out|apply zD|apply zE|apply zF)|exact HB.out))));have n1_:=zM (Kd.R_lower ho1 (zR (by repeat (first|(with_reducible first|exact HB.out|apply zD|apply zE|apply zF)|exact HB.out))));have n2_:=zM (zQ (by repeat (first|(with_reducible first|exact HB.out|apply zD|apply zE|apply zF)|exact HB.out)) hb);clear HB;have HO1036:=n0_;have HO1038:=n1_;have HB:=n2_;clear n0_ n1_ n2_;(try clear hb);(try clear hb2);(try clear hk);(try clear hi);(try clear ho0);(try clear ho1);obtain ⟨Ao9,co9,eo9⟩:=Kd.R_slice HO1036.out;subst eo9;obtain ⟨Ao10,co10,eo10⟩:=Kd.R_slice HO1038.out;subst eo10)|((with_reducible refine gate_callee (f:=36) rfl ?_);refine goesL_ (some 39) rfl rfl Try.func36 (by kernel_rfl) rfl #[.int .i64 t1031,.slice Ao9 t1032.length co9,.slice Ao10 t1033.length co10,.int .i64 t1034] rfl (by (try simp only [List.map_toArray,List.map_cons,List.map_nil]);first|done|rfl|(simp only [List.length_drop,List.length_take];rfl)) ?_;(with_reducible refine (impl_QuayUse.calls k t1031 _ _ t1032 _ _ t1033 t1034 t1039 t1040 _ ?side1 ?side2 ?side3 ?side4 A5.out).mono ?_);(case side1=>repeat (first|exact (zN HO1036.out).2.2|(with_reducible refine zG ?_ _)|(with_reducible refine zH ?_ _)|(with_reducible refine zI ?_)));(case side2=>exact (zN HO1036.out).2.1);(case side3=>repeat (first|exact (zN HO1038.out).2.2|(with_reducible refine zG ?_ _)|(with_reducible refine zH ?_ _)|(with_reducible refine zI ?_)));(case side4=>exact (zN HO1038.out).2.1);rintro e w11 ⟨v1041,rfl,ho0,hb⟩;refine ⟨_,rfl,?_⟩;have n0_:=zM (zP (by (with_reducible repeat (first|apply zA|apply zB|apply zC));exact HO1036.out) hb);have n1_:=zM (zP (by (with_reducible repeat (first|apply zA|apply zB|apply zC));exact HO1038.out) hb);have n2_:=zM (Kd.R_lower ho0 (zR (by repeat (first|(with_reducible first|exact HB.out|apply zD|apply zE|apply zF)|exact HB.out))));have n3_:=zM (zQ (by repeat (first|(with_reducible first|exact HB.out|apply zD|apply zE|apply zF)|exact HB.out)) hb);clear HO1036;clear HO1038;clear HB;have HO1036:=n0_;have HO1038:=n1_;have HO1042:=n2_;have HB:=n3_;clear n0_ n1_ n2_ n3_;(try clear hb);(try clear hb2);(try clear hk);(try clear hi);(try clear ho0))|((with_reducible refine gate_callee (f:=35) rfl ?_);refine goesL_ (some 47) rfl rfl Try.func35 (by kernel_rfl) rfl #[.int .i64 t1031,.slice Ao9 t1032.length co9,.slice Ao10 t1033.length co10,.int .i64 t1034] rfl (by (try simp only [List.map_toArray,List.map_cons,List.map_nil]);first|done|rfl|(simp only [List.length_drop,List.length_take];rfl)) ?_;(with_reducible refine (spec_QuayUse.calls k t1031 _ _ t1032 _ _ t1033 t1034 t1043 t1044 _ ?side1 ?side2 ?side3 ?side4 A6.out).mono ?_);(case side1=>repeat (first|exact (zN HO1036.out).2.2|(with_reducible refine zG ?_ _)|(with_reducible refine zH ?_ _)|(with_reducible refine zI ?_)));(case side2=>exact (zN HO1036.out).2.1);(case side3=>repeat (first|exact (zN HO1038.out).2.2|(with_reducible refine zG ?_ _)|(with_reducible refine zH ?_ _)|(with_reducible refine zI ?_)));(case side4=>exact (zN HO1038.out).2.1);rintro e w12 ⟨v1045,rfl,ho0,hb⟩;refine ⟨_,rfl,?_⟩;have n0_:=zM (zP (by (with_reducible repeat (first|apply zA|apply zB|apply zC));exact HO1036.out) hb);have n1_:=zM (zP (by (with_reducible repeat (first|apply zA|apply zB|apply zC));exact HO1038.out) hb);have n2_:=zM (Kd.R_elder' (by (with_reducible repeat (first|apply zA|apply zB|apply zC));exact HO1042.out) (Kd.R_base ho0) hb);have n3_:=zM (Kd.R_lower (Kd.R_new' ho0 (Kd.R_lt (by (with_reducible repeat (first|apply zA|apply zB|apply zC));exact HO1042.out))) (zR (by repeat (first|(with_reducible first|exact HB.out|apply zD|apply zE|apply zF)|exact HB.out))));have n4_:=zM (zQ (by repeat (first|(with_reducible first|exact HB.out|apply zD|apply zE|apply zF)|exact HB.out)) hb);clear HO1036;clear HO1038;clear HO1042;clear HB;have HO1036:=n0_;have HO1038:=n1_;have HO1042:=n2_;have HO1046:=n3_;have HB:=n4_;clear n0_ n1_ n2_ n3_ n4_;(try clear hb);(try clear hb2);(try clear hk);(try clear hi);(try clear ho0)))
  (try simp only [Act.put,List.setIfInBounds_toArray,List.set_cons_zero,List.set_cons_succ])
  go_cut [58] (fun v58 wc => ∃ (kq : Nat) (x58_6 : Bool),v58 = .bool x58_6 ∧ Aside0 (laws_FnQuay.j0 kq l0 t1031 t1032 t1033 t1034 t1039 t1040 x58_6 = some r) ∧ Aside0 (kq ≤ k) ∧ Aside0 (Kd.R k62 62 wc w.heap.size (fun _=>True) (.slice Ao9 t1032.length co9) t1032) ∧ Aside0 (Kd.R k37 37 wc w.heap.size (fun _=>True) (.slice Ao10 t1033.length co10) t1033) ∧ Aside0 (Kd.R (Kd.int .i64) 3 wc w.heap.size (fun _=>True) v1041 t1039) ∧ Aside0 (Below w.heap.size w wc))
  case first =>
   have H:=HC7.out
   clear HC7
   by_cases c13 : (t1040 != t1044) = true
   ·rw [if_pos c13] at H
    have c13b0 : (t1040 != t1044) = true:=c13
    (try (have c13b1 : decide (t1040 = t1044) = false:=by simpa using c13))
    (try (have c13b2 : (t1040 == t1044) = false:=by simpa using c13))
    (try (have c13b3 : ¬ (t1040 = t1044):=by simpa using c13))
    clear c13
    (first|rw [c13b0]|(simp only [i64_w,i32_w];rw [c13b0])|skip)
    have H':=zM H
    clear H
    go_wp2
    go_meet
    case rel=>exact ⟨_,(true),(by first|rfl|(simp;done)|(simp [*];done)),H',⟨by first|omega|exact Nat.le_refl _⟩,⟨by (with_reducible repeat (first|apply zA|apply zB|apply zC));exact HO1036.out⟩,⟨by (with_reducible repeat (first|apply zA|apply zB|apply zC));exact HO1038.out⟩,⟨by (with_reducible repeat (first|apply zA|apply zB|apply zC));exact Kd.R_mono HO1042.out (fun _ hk=>trivial)⟩,⟨by repeat (first|(with_reducible first|exact HB.out|apply zD|apply zE|apply zF)|exact HB.out)⟩⟩
   ·rw [if_neg c13] at H
    have c13b0 : (t1040 != t1044) = false:=by simpa using c13
    (try (have c13b1 : decide (t1040 = t1044) = true:=by simpa using c13))
    (try (have c13b2 : (t1040 == t1044) = true:=by simpa using c13))
    clear c13
    (first|rw [c13b0]|(simp only [i64_w,i32_w];rw [c13b0])|skip)
    replace H:=Option.bind_eq_some_iff.mp H
    obtain ⟨t1047,A140,H⟩:=H
    replace H : (laws_FnQuay.j0 k l0 t1031 t1032 t1033 t1034 t1039 t1040 (!t1047)) = some r:=H
    have A14:=zM A140
    clear A140
    have H':=zM H
    clear H
    obtain ⟨Ao15,co15,eo15⟩:=Kd.R_slice HO1042.out
    subst eo15
    obtain ⟨Ao16,co16,eo16⟩:=Kd.R_slice HO1046.out
    subst eo16
    go_wp2_with (first|(go_at_call 45;(with_reducible refine (laws_vInts.calls k _ _ t1039 _ _ t1043 t1047 _ ?side1 ?side2 ?side3 ?side4 A14.out).mono ?_);(case side1=>repeat (first|exact (zN HO1042.out).2.2|(with_reducible refine zG ?_ _)|(with_reducible refine zH ?_ _)|(with_reducible refine zI ?_)));(case side2=>exact (zN HO1042.out).2.1);(case side3=>repeat (first|exact (zN HO1046.out).2.2|(with_reducible refine zG ?_ _)|(with_reducible refine zH ?_ _)|(with_reducible refine zI ?_)));(case side4=>exact (zN HO1046.out).2.1);rintro e w' ⟨rfl,⟨nd,rfl⟩⟩))
    go_meet
    case rel=>exact ⟨_,(!t1047),(by first|rfl|(simp;done)|(simp [*];done)),H',⟨by first|omega|exact Nat.le_refl _⟩,⟨by (with_reducible repeat (first|apply zA|apply zB|apply zC));exact HO1036.out⟩,⟨by (with_reducible repeat (first|apply zA|apply zB|apply zC));exact HO1038.out⟩,⟨by (with_reducible repeat (first|apply zA|apply zB|apply zC));exact Kd.R_mono HO1042.out (fun _ hk=>trivial)⟩,⟨by repeat (first|(with_reducible first|exact HB.out|apply zD|apply zE|apply zF)|exact HB.out)⟩⟩
  case rest =>
   clear HC7
   try clear c1
   try clear p2
   try clear c3
   try clear c4
   try clear c12
   try clear c13
   try clear c13b0
   try clear c13b1
   try clear c13b2
   obtain ⟨kq,x58_6,rfl,HA,HJ6,HO_4,HO_5,HO_7,HB⟩:=hcut
   cases kq with
   | zero=>exact absurd HA.out (by simp [laws_FnQuay.j0])
   | succ kj6 =>
    have H:=HA.out
    clear HA
    simp only [laws_FnQuay.j0] at H
    by_cases c17 : x58_6 = true
    ·subst c17
     have H1 : (some false) = some r:=by rw [if_pos rfl] at H;exact H
     clear H
     have H:=H1
     clear H1
     obtain rfl:=Option.some.inj H
     go_wp2
     go_ret
     exact ⟨by first|rfl|(simp [errW_none,errW_some] <;> rfl)|(simp [*,errW_none,errW_some] <;> rfl),by repeat (first|(with_reducible first|exact HB.out|apply zD|apply zE|apply zF)|exact HB.out)⟩
    ·replace c17:=Bool.eq_false_iff.mpr c17
     subst c17
     have H1 : (if t1040 = true then ((impl_LastHour.f kj6 t1031 t1032 t1033).bind fun bt1048=>(laws_FnQuay.l0 kj6 l0 t1031 t1032 t1033 t1034 t1039 bt1048.1 bt1048.2 0 0)) else (laws_FnQuay.j3 kj6 l0)) = some r:=by rw [if_neg (show ¬ (false = true) by decide)] at H;exact H
     clear H
     have H:=H1
     clear H1
     have HC18:=zM H
     clear H
     go_upto_if 59 with (fail)
     go_cut [] (fun wc => ∃ (kq : Nat),Aside0 (laws_FnQuay.j3 kq l0 = some r) ∧ Aside0 (kq ≤ kj6) ∧ Aside0 (Below w.heap.size w wc))
     case first =>
      have H:=HC18.out
      clear HC18
      by_cases c19 : t1040 = true
      ·subst c19
       have H1 : ((impl_LastHour.f kj6 t1031 t1032 t1033).bind fun bt1048=>(laws_FnQuay.l0 kj6 l0 t1031 t1032 t1033 t1034 t1039 bt1048.1 bt1048.2 0 0)) = some r:=by rw [if_pos rfl] at H;exact H
       clear H
       have H:=H1
       clear H1
       replace H:=Option.bind_eq_some_iff.mp H
       obtain ⟨⟨t1048,t1049⟩,A200,H⟩:=H
       replace H : (laws_FnQuay.l0 kj6 l0 t1031 t1032 t1033 t1034 t1039 t1048 t1049 0 0) = some r:=H
       have A20:=zM A200
       clear A200
       have H':=zM H
       clear H
       go_wp2_with (first|((with_reducible refine gate_callee (f:=22) rfl ?_);refine goesL_ (some 64) rfl rfl Try.func22 (by kernel_rfl) rfl #[.int .i64 t1031,.slice Ao9 t1032.length co9,.slice Ao10 t1033.length co10] rfl (by (try simp only [List.map_toArray,List.map_cons,List.map_nil]);first|done|rfl|(simp only [List.length_drop,List.length_take];rfl)) ?_;(with_reducible refine (impl_LastHour.calls kj6 t1031 _ _ t1032 _ _ t1033 t1048 t1049 _ ?side1 ?side2 ?side3 ?side4 A20.out).mono ?_);(case side1=>repeat (first|exact (zN HO_4.out).2.2|(with_reducible refine zG ?_ _)|(with_reducible refine zH ?_ _)|(with_reducible refine zI ?_)));(case side2=>exact (zN HO_4.out).2.1);(case side3=>repeat (first|exact (zN HO_5.out).2.2|(with_reducible refine zG ?_ _)|(with_reducible refine zH ?_ _)|(with_reducible refine zI ?_)));(case side4=>exact (zN HO_5.out).2.1);rintro e w21 ⟨rfl,hb⟩;refine ⟨_,rfl,?_⟩;have n0_:=zM (zP (by (with_reducible repeat (first|apply zA|apply zB|apply zC));exact HO_4.out) hb);have n1_:=zM (zP (by (with_reducible repeat (first|apply zA|apply zB|apply zC));exact HO_5.out) hb);have n2_:=zM (zP (by (with_reducible repeat (first|apply zA|apply zB|apply zC));exact HO_7.out) hb);have n3_:=zM (zQ (by repeat (first|(with_reducible first|exact HB.out|apply zD|apply zE|apply zF)|exact HB.out)) hb);clear HO_4;clear HO_5;clear HO_7;clear HB;have HO_4:=n0_;have HO_5:=n1_;have HO_7:=n2_;have HB:=n3_;clear n0_ n1_ n2_ n3_;(try clear hb);(try clear hb2);(try clear hk);(try clear hi)))
       go_loopg [13,14] kj6 (fun kq v13 v14 w' => ∃ (x13_2 : Int) (x14_2 : Int),v13 = .int .i64 x13_2 ∧ v14 = .int .i64 x14_2 ∧ Aside0 (laws_FnQuay.l0 kq l0 t1031 t1032 t1033 t1034 t1039 t1048 t1049 x13_2 x14_2 = some r) ∧ Aside0 (kq ≤ kj6) ∧ Aside0 (Kd.R k62 62 w' w.heap.size (fun _=>True) (.slice Ao9 t1032.length co9) t1032) ∧ Aside0 (Kd.R k37 37 w' w.heap.size (fun _=>True) (.slice Ao10 t1033.length co10) t1033) ∧ Aside0 (Kd.R (Kd.int .i64) 3 w' w.heap.size (fun _=>True) v1041 t1039) ∧ Aside0 (Below w.heap.size w w'))
       case atStart=>exact ⟨(0),(0),(by first|rfl|(simp;done)|(simp [*];done)),(by first|rfl|(simp;done)|(simp [*];done)),H',⟨Nat.le_refl _⟩,⟨by (with_reducible repeat (first|apply zA|apply zB|apply zC));exact HO_4.out⟩,⟨by (with_reducible repeat (first|apply zA|apply zB|apply zC));exact HO_5.out⟩,⟨by (with_reducible repeat (first|apply zA|apply zB|apply zC));exact HO_7.out⟩,⟨by repeat (first|(with_reducible first|exact HB.out|apply zD|apply zE|apply zF)|exact HB.out)⟩⟩
       case round =>
        clear H'
        try clear c1
        try clear c2
        try clear p2
        try clear c3
        try clear c4
        try clear c12
        try clear c13
        try clear c13b0
        try clear c13b1
        try clear c13b2
        try clear c17
        try clear c19
        try clear p2
        obtain ⟨x13_2,x14_2,rfl,rfl,HA,HK2,HO_4,HO_5,HO_7,HB⟩:=hrel
        cases gk with
        | zero=>exact absurd HA.out (by simp [laws_FnQuay.l0])
        | succ k2 =>
         have H:=HA.out
         clear HA
         simp only [laws_FnQuay.l0] at H
         by_cases c22 : x14_2 < (t1039.length : Int)
         ·rw [if_pos c22] at H
          have c22b0 : decide (x14_2 < (t1039.length : Int)) = true:=decide_eq_true c22
          clear c22
          (first|rw [c22b0]|(simp only [i64_w,i32_w];rw [c22b0])|skip)
          by_cases c23 : 0 ≤ x14_2
          ·rw [if_pos c23] at H
           have c23b0 : decide (0 ≤ x14_2) = true:=decide_eq_true c23
           clear c23
           by_cases c24 : (rd t1039 x14_2) ≥ 0
           ·rw [if_pos c24] at H
            have c24b0 : decide (0 ≤ (rd t1039 x14_2)) = true:=decide_eq_true c24
            clear c24
            have H':=zM H
            clear H
            obtain ⟨Ao25,co25,eo25⟩:=Kd.R_slice HO_7.out
            subst eo25
            have p1050 : 0 ≤ (x14_2 : Int):=of_decide_eq_true (by first|(with_reducible assumption)|assumption)
            have q1050 : x14_2 < (t1039.length : Int):=of_decide_eq_true (by first|(with_reducible assumption)|assumption)
            obtain ⟨ad1050,e1050,hx1050_0⟩:=Kd.at_int (zN HO_7.out).2.2 x14_2 p1050 q1050
            cases e1050
            replace p1050:=eq_true p1050
            replace q1050:=eq_true q1050
            go_wp2
            go_roundg k2
            case measure=>have:=HJ6.out;have:=HK2.out;omega
            case rel=>exact ⟨(wrap64 (x13_2 + 1)),(wrap64 (x14_2 + 1)),(by first|rfl|(simp;done)|(simp [*];done)),(by first|rfl|(simp;done)|(simp [*];done)),H',⟨by have:=HJ6.out;have:=HK2.out;omega⟩,⟨by (with_reducible repeat (first|apply zA|apply zB|apply zC));exact HO_4.out⟩,⟨by (with_reducible repeat (first|apply zA|apply zB|apply zC));exact HO_5.out⟩,⟨by (with_reducible repeat (first|apply zA|apply zB|apply zC));exact HO_7.out⟩,⟨by repeat (first|(with_reducible first|exact HB.out|apply zD|apply zE|apply zF)|exact HB.out)⟩⟩
           ·rw [if_neg c24] at H
            have c24b0 : decide (0 ≤ (rd t1039 x14_2)) = false:=decide_eq_false c24
            clear c24
            have H':=zM H
            clear H
            obtain ⟨Ao26,co26,eo26⟩:=Kd.R_slice HO_7.out
            subst eo26
            have p1050 : 0 ≤ (x14_2 : Int):=of_decide_eq_true (by first|(with_reducible assumption)|assumption)
            have q1050 : x14_2 < (t1039.length : Int):=of_decide_eq_true (by first|(with_reducible assumption)|assumption)
            obtain ⟨ad1050,e1050,hx1050_0⟩:=Kd.at_int (zN HO_7.out).2.2 x14_2 p1050 q1050
            cases e1050
            replace p1050:=eq_true p1050
            replace q1050:=eq_true q1050
            go_wp2
            go_roundg k2
            case measure=>have:=HJ6.out;have:=HK2.out;omega
            case rel=>exact ⟨(x13_2),(wrap64 (x14_2 + 1)),(by first|rfl|(simp;done)|(simp [*];done)),(by first|rfl|(simp;done)|(simp [*];done)),H',⟨by have:=HJ6.out;have:=HK2.out;omega⟩,⟨by (with_reducible repeat (first|apply zA|apply zB|apply zC));exact HO_4.out⟩,⟨by (with_reducible repeat (first|apply zA|apply zB|apply zC));exact HO_5.out⟩,⟨by (with_reducible repeat (first|apply zA|apply zB|apply zC));exact HO_7.out⟩,⟨by repeat (first|(with_reducible first|exact HB.out|apply zD|apply zE|apply zF)|exact HB.out)⟩⟩
          ·rw [if_neg c23] at H
           exact absurd H (by simp)
         ·rw [if_neg c22] at H
          have c22b0 : decide (x14_2 < (t1039.length : Int)) = false:=decide_eq_false c22
          clear c22
          (first|rw [c22b0]|(simp only [i64_w,i32_w];rw [c22b0])|skip)
          have H':=zM H
          clear H
          obtain ⟨Ao27,co27,eo27⟩:=Kd.R_slice HO_7.out
          subst eo27
          go_wp2
          go_loopg [15,16] k2 (fun kq v15 v16 w' => ∃ (x15_3 : Int) (x16_3 : Int),v15 = .int .i64 x15_3 ∧ v16 = .int .i64 x16_3 ∧ Aside0 (laws_FnQuay.l1 kq l0 t1031 t1032 t1033 t1034 t1039 t1048 t1049 x13_2 x15_3 x16_3 = some r) ∧ Aside0 (kq ≤ k2) ∧ Aside0 (Kd.R k62 62 w' w.heap.size (fun _=>True) (.slice Ao9 t1032.length co9) t1032) ∧ Aside0 (Kd.R k37 37 w' w.heap.size (fun _=>True) (.slice Ao10 t1033.length co10) t1033) ∧ Aside0 (Kd.R (Kd.int .i64) 3 w' w.heap.size (fun _=>True) (.slice Ao27 t1039.length co27) t1039) ∧ Aside0 (Below w.heap.size w w'))
          case atStart=>exact ⟨(0),(0),(by first|rfl|(simp;done)|(simp [*];done)),(by first|rfl|(simp;done)|(simp [*];done)),H',⟨Nat.le_refl _⟩,⟨by (with_reducible repeat (first|apply zA|apply zB|apply zC));exact HO_4.out⟩,⟨by (with_reducible repeat (first|apply zA|apply zB|apply zC));exact HO_5.out⟩,⟨by (with_reducible repeat (first|apply zA|apply zB|apply zC));exact HO_7.out⟩,⟨by repeat (first|(with_reducible first|exact HB.out|apply zD|apply zE|apply zF)|exact HB.out)⟩⟩
          case round =>
           clear H'
           try clear c1
           try clear p1
           try clear q1
           try clear hx1
           try clear c2
           try clear p2
           try clear c3
           try clear c4
           try clear p6
           try clear p10
           try clear q10
           try clear hx10
           try clear c12
           try clear c13
           try clear c13b0
           try clear c13b1
           try clear c13b2
           try clear c17
           try clear c19
           try clear c22
           try clear c22b0
           try clear c23
           try clear c23b0
           try clear c24
           try clear c24b0
           try clear hx1050_0
           try clear p1050
           try clear p2
           try clear q1050
           obtain ⟨x15_3,x16_3,rfl,rfl,HA,HK3,HO_4,HO_5,HO_7,HB⟩:=hrel
           cases gk with
           | zero=>exact absurd HA.out (by simp [laws_FnQuay.l1])
           | succ k3 =>
            have H:=HA.out
            clear HA
            simp only [laws_FnQuay.l1] at H
            by_cases c28 : x16_3 < (t1032.length : Int)
            ·rw [if_pos c28] at H
             have c28b0 : decide (x16_3 < (t1032.length : Int)) = true:=decide_eq_true c28
             clear c28
             by_cases c29 : 0 ≤ x16_3
             ·rw [if_pos c29] at H
              have c29b0 : decide (0 ≤ x16_3) = true:=decide_eq_true c29
              clear c29
              by_cases c30 : x16_3 < (t1033.length : Int)
              ·rw [if_pos c30] at H
               have c30b0 : decide (x16_3 < (t1033.length : Int)) = true:=decide_eq_true c30
               clear c30
               by_cases c31 : t1034 ≥ ((rd_T37 t1033 x16_3).f1)
               ·rw [if_pos c31] at H
                have c31b0 : decide (((rd_T37 t1033 x16_3).f1) ≤ t1034) = true:=decide_eq_true c31
                clear c31
                by_cases c32 : t1034 < (wrap64 (((rd_T37 t1033 x16_3).f1) + ((rd_T62 t1032 x16_3).f2)))
                ·rw [if_pos c32] at H
                 have c32b0 : decide (t1034 < (wrap64 (((rd_T37 t1033 x16_3).f1) + ((rd_T62 t1032 x16_3).f2)))) = true:=decide_eq_true c32
                 clear c32
                 have H':=zM H
                 clear H
                 try go_wp2
                 have n0_:=zM (zC HO_4.out)
                 have n1_:=zM (zC HO_5.out)
                 have n2_:=zM (zC HO_7.out)
                 have n3_:=zM (zF HB.out)
                 clear HO_4
                 clear HO_5
                 clear HO_7
                 clear HB
                 have HO_4:=n0_
                 have HO_5:=n1_
                 have HO_7:=n2_
                 have HB:=n3_
                 clear n0_ n1_ n2_ n3_
                 have p1051 : 0 ≤ (x16_3 : Int):=of_decide_eq_true (by first|(with_reducible assumption)|assumption)
                 have q1051 : x16_3 < (t1033.length : Int):=of_decide_eq_true (by first|(with_reducible assumption)|assumption)
                 obtain ⟨ad1051,e1051,hx1051_0,hx1051_1⟩:=at_T37 (zN HO_5.out).2.2 x16_3 p1051 q1051
                 cases e1051
                 replace p1051:=eq_true p1051
                 replace q1051:=eq_true q1051
                 have p1052 : 0 ≤ (x16_3 : Int):=of_decide_eq_true (by first|(with_reducible assumption)|assumption)
                 have q1052 : x16_3 < (t1033.length : Int):=of_decide_eq_true (by first|(with_reducible assumption)|assumption)
                 obtain ⟨ad1052,e1052,hx1052_0,hx1052_1⟩:=at_T37 (zN HO_5.out).2.2 x16_3 p1052 q1052
                 obtain rfl : ad1051 = ad1052:=(by injection e1052)
                 replace p1052:=eq_true p1052
                 replace q1052:=eq_true q1052
                 have p1053 : 0 ≤ (x16_3 : Int):=of_decide_eq_true (by first|(with_reducible assumption)|assumption)
                 have q1053 : x16_3 < (t1032.length : Int):=of_decide_eq_true (by first|(with_reducible assumption)|assumption)
                 obtain ⟨ad1053,e1053,hx1053_0,hx1053_1,hx1053_2,hx1053_3⟩:=at_T62 (zN HO_4.out).2.2 x16_3 p1053 q1053
                 cases e1053
                 replace p1053:=eq_true p1053
                 replace q1053:=eq_true q1053
                 refine start_ (n:=22) (S:=fun w'=>w'.cell? (ad1051.add ((x16_3).toNat * 2)) = some (.int .i64 ((rd_T37 t1033 x16_3).f0)) ∧ w'.cell? ⟨(ad1051.add ((x16_3).toNat * 2)).block,(ad1051.add ((x16_3).toNat * 2)).off + 1,none⟩ = some (.int .i64 ((rd_T37 t1033 x16_3).f1)) ∧ w'.cell? (ad1051.add ((x16_3).toNat * 2)) = some (.int .i64 ((rd_T37 t1033 x16_3).f0)) ∧ w'.cell? ⟨(ad1051.add ((x16_3).toNat * 2)).block,(ad1051.add ((x16_3).toNat * 2)).off + 1,none⟩ = some (.int .i64 ((rd_T37 t1033 x16_3).f1)) ∧ w'.cell? (ad1053.add ((x16_3).toNat * 4)) = some (.int .i64 ((rd_T62 t1032 x16_3).f0)) ∧ w'.cell? ⟨(ad1053.add ((x16_3).toNat * 4)).block,(ad1053.add ((x16_3).toNat * 4)).off + 1,none⟩ = some (.int .i64 ((rd_T62 t1032 x16_3).f1)) ∧ w'.cell? ⟨(ad1053.add ((x16_3).toNat * 4)).block,(ad1053.add ((x16_3).toNat * 4)).off + 2,none⟩ = some (.int .i64 ((rd_T62 t1032 x16_3).f2)) ∧ w'.cell? ⟨(ad1053.add ((x16_3).toNat * 4)).block,(ad1053.add ((x16_3).toNat * 4)).off + 3,none⟩ = some (.int .i64 ((rd_T62 t1032 x16_3).f3))) (ds:=[]) #[false,false,false,false,false,false,false,false,false,false,false,false,false,false,false,false,false,false,false,false,false,false] (by kernel_rfl) rfl rfl ⟨hx1051_0,hx1051_1,hx1052_0,hx1052_1,hx1053_0,hx1053_1,hx1053_2,hx1053_3⟩ (fun hHeld=>?_);refine with_tabW laws_FnQuay.tab20 laws_FnQuay.bits20 (fun HT_ HW_=>?_)
                 generalize wr.drew = w33 at HO_4 HO_5 HO_7 HB hx1051_0 hx1051_1 hx1052_0 hx1052_1 hx1053_0 hx1053_1 hx1053_2 hx1053_3 hHeld ⊢
                 refine pure_ (i:=0) (N:=some 86) (v:=?_) (a':=?_) #[true,false,false,false,false,false,false,false,false,false,false,false,false,false,false,false,false,false,false,false,false,false] rfl rfl (any_of HT_.out (by kernel_rfl)) (fun _ _ _ h=>h) (Or.inl ⟨by rfl,?_⟩) ?_ ?_
                 rotate_left
                 ·intro w'
                  go_simp
                  with_reducible rfl
                 rotate_left
                 ·simp only [Act.put,List.setIfInBounds_toArray,List.set_cons_zero,List.set_cons_succ,i64_w,i32_w]
                  rfl
                 refine pure_ (i:=1) (N:=some 87) (v:=?_) (a':=?_) #[true,true,false,false,false,false,false,false,false,false,false,false,false,false,false,false,false,false,false,false,false,false] rfl rfl (any_of HT_.out (by kernel_rfl)) (fun _ _ _ h=>h) (Or.inl ⟨by rfl,?_⟩) ?_ ?_
                 rotate_left
                 ·intro w'
                  go_simp
                  with_reducible rfl
                 rotate_left
                 ·simp only [Act.put,List.setIfInBounds_toArray,List.set_cons_zero,List.set_cons_succ,i64_w,i32_w]
                  rfl
                 refine pure_ (i:=2) (N:=some 88) (v:=?_) (a':=?_) #[true,true,true,false,false,false,false,false,false,false,false,false,false,false,false,false,false,false,false,false,false,false] rfl rfl (any_of HT_.out (by kernel_rfl)) (fun _ _ _ h=>h) (Or.inl ⟨by rfl,?_⟩) ?_ ?_
                 rotate_left
                 ·intro w'
                  go_simp
                  with_reducible rfl
                 rotate_left
                 ·simp only [Act.put,List.setIfInBounds_toArray,List.set_cons_zero,List.set_cons_succ,i64_w,i32_w]
                  rfl
                 refine pure_ (i:=3) (N:=some 89) (v:=?_) (a':=?_) #[true,true,true,true,false,false,false,false,false,false,false,false,false,false,false,false,false,false,false,false,false,false] rfl rfl (any_of HT_.out (by kernel_rfl)) (fun _ _ _ h=>h) (Or.inl ⟨by rfl,?_⟩) ?_ ?_
                 rotate_left
                 ·intro w'
                  go_simp
                  with_reducible rfl
                 rotate_left
                 ·simp only [Act.put,List.setIfInBounds_toArray,List.set_cons_zero,List.set_cons_succ,i64_w,i32_w]
                  rfl
                 refine pure_ (i:=4) (N:=some 90) (v:=?_) (a':=?_) #[true,true,true,true,true,false,false,false,false,false,false,false,false,false,false,false,false,false,false,false,false,false] rfl rfl (any_of HT_.out (by kernel_rfl)) (fun _ _ _ h=>h) (Or.inl ⟨by rfl,?_⟩) ?_ ?_
                 rotate_left
                 ·intro w'
                  go_simp
                  with_reducible rfl
                 rotate_left
                 ·simp only [Act.put,List.setIfInBounds_toArray,List.set_cons_zero,List.set_cons_succ,i64_w,i32_w]
                  rfl
                 refine take_ (i:=5) (N:=some 91) (v:=?_) (a':=?_) #[true,true,true,true,true,true,false,false,false,false,false,false,false,false,false,false,false,false,false,false,false,false] rfl rfl (take_ofW HT_.out HW_.out (by kernel_rfl)) (fun _ _ _ h=>h) (Or.inl ⟨by rfl,?_⟩) hHeld ?_ ?_
                 rotate_left
                 ·rintro w' ⟨s0,s1,s2,s3,s4,s5,s6,s7⟩
                  go_simp
                  with_reducible rfl
                 rotate_left
                 ·simp only [Act.put,List.setIfInBounds_toArray,List.set_cons_zero,List.set_cons_succ,i64_w,i32_w]
                  rfl
                 refine pure_ (i:=6) (N:=some 92) (v:=?_) (a':=?_) #[true,true,true,true,true,true,true,false,false,false,false,false,false,false,false,false,false,false,false,false,false,false] rfl rfl (any_of HT_.out (by kernel_rfl)) (fun _ _ _ h=>h) (Or.inl ⟨by rfl,?_⟩) ?_ ?_
                 rotate_left
                 ·intro w'
                  go_simp
                  with_reducible rfl
                 rotate_left
                 ·simp only [Act.put,List.setIfInBounds_toArray,List.set_cons_zero,List.set_cons_succ,i64_w,i32_w]
                  rfl
                 refine pure_ (i:=7) (N:=some 93) (v:=?_) (a':=?_) #[true,true,true,true,true,true,true,true,false,false,false,false,false,false,false,false,false,false,false,false,false,false] rfl rfl (any_of HT_.out (by kernel_rfl)) (fun _ _ _ h=>h) (Or.inl ⟨by rfl,?_⟩) ?_ ?_
                 rotate_left
                 ·intro w'
                  go_simp
                  with_reducible rfl
                 rotate_left
                 ·simp only [Act.put,List.setIfInBounds_toArray,List.set_cons_zero,List.set_cons_succ,i64_w,i32_w]
                  rfl
                 refine pure_ (i:=8) (N:=some 94) (v:=?_) (a':=?_) #[true,true,true,true,true,true,true,true,true,false,false,false,false,false,false,false,false,false,false,false,false,false] rfl rfl (any_of HT_.out (by kernel_rfl)) (fun _ _ _ h=>h) (Or.inl ⟨by rfl,?_⟩) ?_ ?_
                 rotate_left
                 ·intro w'
                  go_simp
                  with_reducible rfl
                 rotate_left
                 ·simp only [Act.put,List.setIfInBounds_toArray,List.set_cons_zero,List.set_cons_succ,i64_w,i32_w]
                  rfl
                 refine pure_ (i:=9) (N:=some 95) (v:=?_) (a':=?_) #[true,true,true,true,true,true,true,true,true,true,false,false,false,false,false,false,false,false,false,false,false,false] rfl rfl (any_of HT_.out (by kernel_rfl)) (fun _ _ _ h=>h) (Or.inl ⟨by rfl,?_⟩) ?_ ?_
                 rotate_left
                 ·intro w'
                  go_simp
                  with_reducible rfl
                 rotate_left
                 ·simp only [Act.put,List.setIfInBounds_toArray,List.set_cons_zero,List.set_cons_succ,i64_w,i32_w]
                  rfl
                 refine pure_ (i:=10) (N:=some 96) (v:=?_) (a':=?_) #[true,true,true,true,true,true,true,true,true,true,true,false,false,false,false,false,false,false,false,false,false,false] rfl rfl (any_of HT_.out (by kernel_rfl)) (fun _ _ _ h=>h) (Or.inl ⟨by rfl,?_⟩) ?_ ?_
                 rotate_left
                 ·intro w'
                  go_simp
                  with_reducible rfl
                 rotate_left
                 ·simp only [Act.put,List.setIfInBounds_toArray,List.set_cons_zero,List.set_cons_succ,i64_w,i32_w]
                  rfl
                 refine pure_ (i:=11) (N:=some 97) (v:=?_) (a':=?_) #[true,true,true,true,true,true,true,true,true,true,true,true,false,false,false,false,false,false,false,false,false,false] rfl rfl (any_of HT_.out (by kernel_rfl)) (fun _ _ _ h=>h) (Or.inl ⟨by rfl,?_⟩) ?_ ?_
                 rotate_left
                 ·intro w'
                  go_simp
                  with_reducible rfl
                 rotate_left
                 ·simp only [Act.put,List.setIfInBounds_toArray,List.set_cons_zero,List.set_cons_succ,i64_w,i32_w]
                  rfl
                 refine pure_ (i:=12) (N:=some 98) (v:=?_) (a':=?_) #[true,true,true,true,true,true,true,true,true,true,true,true,true,false,false,false,false,false,false,false,false,false] rfl rfl (any_of HT_.out (by kernel_rfl)) (fun _ _ _ h=>h) (Or.inl ⟨by rfl,?_⟩) ?_ ?_
                 rotate_left
                 ·intro w'
                  go_simp
                  with_reducible rfl
                 rotate_left
                 ·simp only [Act.put,List.setIfInBounds_toArray,List.set_cons_zero,List.set_cons_succ,i64_w,i32_w]
                  rfl
                 refine pure_ (i:=14) (N:=some 100) (v:=?_) (a':=?_) #[true,true,true,true,true,true,true,true,true,true,true,true,true,false,true,false,false,false,false,false,false,false] rfl rfl (any_of HT_.out (by kernel_rfl)) (fun _ _ _ h=>h) (Or.inl ⟨by rfl,?_⟩) ?_ ?_
                 rotate_left
                 ·intro w'
                  go_simp
                  with_reducible rfl
                 rotate_left
                 ·simp only [Act.put,List.setIfInBounds_toArray,List.set_cons_zero,List.set_cons_succ,i64_w,i32_w]
                  rfl
                 refine pure_ (i:=15) (N:=some 101) (v:=?_) (a':=?_) #[true,true,true,true,true,true,true,true,true,true,true,true,true,false,true,true,false,false,false,false,false,false] rfl rfl (any_of HT_.out (by kernel_rfl)) (fun _ _ _ h=>h) (Or.inl ⟨by rfl,?_⟩) ?_ ?_
                 rotate_left
                 ·intro w'
                  go_simp
                  with_reducible rfl
                 rotate_left
                 ·simp only [Act.put,List.setIfInBounds_toArray,List.set_cons_zero,List.set_cons_succ,i64_w,i32_w]
                  rfl
                 refine pure_ (i:=16) (N:=some 102) (v:=?_) (a':=?_) #[true,true,true,true,true,true,true,true,true,true,true,true,true,false,true,true,true,false,false,false,false,false] rfl rfl (any_of HT_.out (by kernel_rfl)) (fun _ _ _ h=>h) (Or.inl ⟨by rfl,?_⟩) ?_ ?_
                 rotate_left
                 ·intro w'
                  go_simp
                  with_reducible rfl
                 rotate_left
                 ·simp only [Act.put,List.setIfInBounds_toArray,List.set_cons_zero,List.set_cons_succ,i64_w,i32_w]
                  rfl
                 refine pure_ (i:=17) (N:=some 103) (v:=?_) (a':=?_) #[true,true,true,true,true,true,true,true,true,true,true,true,true,false,true,true,true,true,false,false,false,false] rfl rfl (any_of HT_.out (by kernel_rfl)) (fun _ _ _ h=>h) (Or.inl ⟨by rfl,?_⟩) ?_ ?_
                 rotate_left
                 ·intro w'
                  go_simp
                  with_reducible rfl
                 rotate_left
                 ·simp only [Act.put,List.setIfInBounds_toArray,List.set_cons_zero,List.set_cons_succ,i64_w,i32_w]
                  rfl
                 refine take_ (i:=13) (N:=some 99) (v:=?_) (a':=?_) #[true,true,true,true,true,true,true,true,true,true,true,true,true,true,true,true,true,true,false,false,false,false] rfl rfl (take_ofW HT_.out HW_.out (by kernel_rfl)) (fun _ _ _ h=>h) (Or.inl ⟨by rfl,?_⟩) hHeld ?_ ?_
                 rotate_left
                 ·rintro w' ⟨s0,s1,s2,s3,s4,s5,s6,s7⟩
                  go_simp
                  with_reducible rfl
                 rotate_left
                 ·simp only [Act.put,List.setIfInBounds_toArray,List.set_cons_zero,List.set_cons_succ,i64_w,i32_w]
                  rfl
                 refine take_ (i:=18) (N:=some 104) (v:=?_) (a':=?_) #[true,true,true,true,true,true,true,true,true,true,true,true,true,true,true,true,true,true,true,false,false,false] rfl rfl (take_ofW HT_.out HW_.out (by kernel_rfl)) (fun _ _ _ h=>h) (Or.inl ⟨by rfl,?_⟩) hHeld ?_ ?_
                 rotate_left
                 ·rintro w' ⟨s0,s1,s2,s3,s4,s5,s6,s7⟩
                  go_simp
                  with_reducible rfl
                 rotate_left
                 ·simp only [Act.put,List.setIfInBounds_toArray,List.set_cons_zero,List.set_cons_succ,i64_w,i32_w]
                  rfl
                 refine pure_ (i:=19) (N:=some 105) (v:=?_) (a':=?_) #[true,true,true,true,true,true,true,true,true,true,true,true,true,true,true,true,true,true,true,true,false,false] rfl rfl (any_of HT_.out (by kernel_rfl)) (fun _ _ _ h=>h) (Or.inl ⟨by rfl,?_⟩) ?_ ?_
                 rotate_left
                 ·intro w'
                  go_simp
                  with_reducible rfl
                 rotate_left
                 ·simp only [Act.put,List.setIfInBounds_toArray,List.set_cons_zero,List.set_cons_succ,i64_w,i32_w]
                  rfl
                 refine pure_ (i:=20) (N:=some 106) (v:=?_) (a':=?_) #[true,true,true,true,true,true,true,true,true,true,true,true,true,true,true,true,true,true,true,true,true,false] rfl rfl (any_of HT_.out (by kernel_rfl)) (fun _ _ _ h=>h) (Or.inl ⟨by rfl,?_⟩) ?_ ?_
                 rotate_left
                 ·intro w'
                  go_simp
                  with_reducible rfl
                 rotate_left
                 ·simp only [Act.put,List.setIfInBounds_toArray,List.set_cons_zero,List.set_cons_succ,i64_w,i32_w]
                  rfl
                 refine pure_ (i:=21) (N:=some 107) (v:=?_) (a':=?_) #[true,true,true,true,true,true,true,true,true,true,true,true,true,true,true,true,true,true,true,true,true,true] rfl rfl (any_of HT_.out (by kernel_rfl)) (fun _ _ _ h=>h) (Or.inl ⟨by rfl,?_⟩) ?_ ?_
                 rotate_left
                 ·intro w'
                  go_simp
                  with_reducible rfl
                 rotate_left
                 ·simp only [Act.put,List.setIfInBounds_toArray,List.set_cons_zero,List.set_cons_succ,i64_w,i32_w]
                  rfl
                 refine done_ (done_of HT_.out (by kernel_rfl)) ?_
                 have p1054 : 0 ≤ (x16_3 : Int):=of_decide_eq_true (by first|(with_reducible assumption)|assumption)
                 have q1054 : x16_3 < (t1032.length : Int):=of_decide_eq_true (by first|(with_reducible assumption)|assumption)
                 obtain ⟨ad1054,e1054,hx1054_0,hx1054_1,hx1054_2,hx1054_3⟩:=at_T62 (zN HO_4.out).2.2 x16_3 p1054 q1054
                 obtain rfl : ad1053 = ad1054:=(by injection e1054)
                 replace p1054:=eq_true p1054
                 replace q1054:=eq_true q1054
                 try go_wp2
                 go_roundg k3
                 case measure=>have:=HJ6.out;have:=HK2.out;have:=HK3.out;omega
                 case rel=>exact ⟨(wrap64 (x15_3 + ((rd_T62 t1032 x16_3).f0))),(wrap64 (x16_3 + 1)),(by first|rfl|(simp;done)|(simp [*];done)),(by first|rfl|(simp;done)|(simp [*];done)),H',⟨by have:=HJ6.out;have:=HK2.out;have:=HK3.out;omega⟩,⟨by (with_reducible repeat (first|apply zA|apply zB|apply zC));exact HO_4.out⟩,⟨by (with_reducible repeat (first|apply zA|apply zB|apply zC));exact HO_5.out⟩,⟨by (with_reducible repeat (first|apply zA|apply zB|apply zC));exact HO_7.out⟩,⟨by repeat (first|(with_reducible first|exact HB.out|apply zD|apply zE|apply zF)|exact HB.out)⟩⟩
                ·rw [if_neg c32] at H
                 have c32b0 : decide (t1034 < (wrap64 (((rd_T37 t1033 x16_3).f1) + ((rd_T62 t1032 x16_3).f2)))) = false:=decide_eq_false c32
                 clear c32
                 have H':=zM H
                 clear H
                 try go_wp2
                 have n0_:=zM (zC HO_4.out)
                 have n1_:=zM (zC HO_5.out)
                 have n2_:=zM (zC HO_7.out)
                 have n3_:=zM (zF HB.out)
                 clear HO_4
                 clear HO_5
                 clear HO_7
                 clear HB
                 have HO_4:=n0_
                 have HO_5:=n1_
                 have HO_7:=n2_
                 have HB:=n3_
                 clear n0_ n1_ n2_ n3_
                 have p1051 : 0 ≤ (x16_3 : Int):=of_decide_eq_true (by first|(with_reducible assumption)|assumption)
                 have q1051 : x16_3 < (t1033.length : Int):=of_decide_eq_true (by first|(with_reducible assumption)|assumption)
                 obtain ⟨ad1051,e1051,hx1051_0,hx1051_1⟩:=at_T37 (zN HO_5.out).2.2 x16_3 p1051 q1051
                 cases e1051
                 replace p1051:=eq_true p1051
                 replace q1051:=eq_true q1051
                 have p1052 : 0 ≤ (x16_3 : Int):=of_decide_eq_true (by first|(with_reducible assumption)|assumption)
                 have q1052 : x16_3 < (t1033.length : Int):=of_decide_eq_true (by first|(with_reducible assumption)|assumption)
                 obtain ⟨ad1052,e1052,hx1052_0,hx1052_1⟩:=at_T37 (zN HO_5.out).2.2 x16_3 p1052 q1052
                 obtain rfl : ad1051 = ad1052:=(by injection e1052)
                 replace p1052:=eq_true p1052
                 replace q1052:=eq_true q1052
                 have p1053 : 0 ≤ (x16_3 : Int):=of_decide_eq_true (by first|(with_reducible assumption)|assumption)
                 have q1053 : x16_3 < (t1032.length : Int):=of_decide_eq_true (by first|(with_reducible assumption)|assumption)
                 obtain ⟨ad1053,e1053,hx1053_0,hx1053_1,hx1053_2,hx1053_3⟩:=at_T62 (zN HO_4.out).2.2 x16_3 p1053 q1053
                 cases e1053
                 replace p1053:=eq_true p1053
                 replace q1053:=eq_true q1053
                 refine start_ (n:=22) (S:=fun w'=>w'.cell? (ad1051.add ((x16_3).toNat * 2)) = some (.int .i64 ((rd_T37 t1033 x16_3).f0)) ∧ w'.cell? ⟨(ad1051.add ((x16_3).toNat * 2)).block,(ad1051.add ((x16_3).toNat * 2)).off + 1,none⟩ = some (.int .i64 ((rd_T37 t1033 x16_3).f1)) ∧ w'.cell? (ad1051.add ((x16_3).toNat * 2)) = some (.int .i64 ((rd_T37 t1033 x16_3).f0)) ∧ w'.cell? ⟨(ad1051.add ((x16_3).toNat * 2)).block,(ad1051.add ((x16_3).toNat * 2)).off + 1,none⟩ = some (.int .i64 ((rd_T37 t1033 x16_3).f1)) ∧ w'.cell? (ad1053.add ((x16_3).toNat * 4)) = some (.int .i64 ((rd_T62 t1032 x16_3).f0)) ∧ w'.cell? ⟨(ad1053.add ((x16_3).toNat * 4)).block,(ad1053.add ((x16_3).toNat * 4)).off + 1,none⟩ = some (.int .i64 ((rd_T62 t1032 x16_3).f1)) ∧ w'.cell? ⟨(ad1053.add ((x16_3).toNat * 4)).block,(ad1053.add ((x16_3).toNat * 4)).off + 2,none⟩ = some (.int .i64 ((rd_T62 t1032 x16_3).f2)) ∧ w'.cell? ⟨(ad1053.add ((x16_3).toNat * 4)).block,(ad1053.add ((x16_3).toNat * 4)).off + 3,none⟩ = some (.int .i64 ((rd_T62 t1032 x16_3).f3))) (ds:=[]) #[false,false,false,false,false,false,false,false,false,false,false,false,false,false,false,false,false,false,false,false,false,false] (by kernel_rfl) rfl rfl ⟨hx1051_0,hx1051_1,hx1052_0,hx1052_1,hx1053_0,hx1053_1,hx1053_2,hx1053_3⟩ (fun hHeld=>?_);refine with_tabW laws_FnQuay.tab20 laws_FnQuay.bits20 (fun HT_ HW_=>?_)
                 generalize wr.drew = w34 at HO_4 HO_5 HO_7 HB hx1051_0 hx1051_1 hx1052_0 hx1052_1 hx1053_0 hx1053_1 hx1053_2 hx1053_3 hHeld ⊢
                 refine pure_ (i:=0) (N:=some 86) (v:=?_) (a':=?_) #[true,false,false,false,false,false,false,false,false,false,false,false,false,false,false,false,false,false,false,false,false,false] rfl rfl (any_of HT_.out (by kernel_rfl)) (fun _ _ _ h=>h) (Or.inl ⟨by rfl,?_⟩) ?_ ?_
                 rotate_left
                 ·intro w'
                  go_simp
                  with_reducible rfl
                 rotate_left
                 ·simp only [Act.put,List.setIfInBounds_toArray,List.set_cons_zero,List.set_cons_succ,i64_w,i32_w]
                  rfl
                 refine pure_ (i:=1) (N:=some 87) (v:=?_) (a':=?_) #[true,true,false,false,false,false,false,false,false,false,false,false,false,false,false,false,false,false,false,false,false,false] rfl rfl (any_of HT_.out (by kernel_rfl)) (fun _ _ _ h=>h) (Or.inl ⟨by rfl,?_⟩) ?_ ?_
                 rotate_left
                 ·intro w'
                  go_simp
                  with_reducible rfl
                 rotate_left
                 ·simp only [Act.put,List.setIfInBounds_toArray,List.set_cons_zero,List.set_cons_succ,i64_w,i32_w]
                  rfl
                 refine pure_ (i:=2) (N:=some 88) (v:=?_) (a':=?_) #[true,true,true,false,false,false,false,false,false,false,false,false,false,false,false,false,false,false,false,false,false,false] rfl rfl (any_of HT_.out (by kernel_rfl)) (fun _ _ _ h=>h) (Or.inl ⟨by rfl,?_⟩) ?_ ?_
                 rotate_left
                 ·intro w'
                  go_simp
                  with_reducible rfl
                 rotate_left
                 ·simp only [Act.put,List.setIfInBounds_toArray,List.set_cons_zero,List.set_cons_succ,i64_w,i32_w]
                  rfl
                 refine pure_ (i:=3) (N:=some 89) (v:=?_) (a':=?_) #[true,true,true,true,false,false,false,false,false,false,false,false,false,false,false,false,false,false,false,false,false,false] rfl rfl (any_of HT_.out (by kernel_rfl)) (fun _ _ _ h=>h) (Or.inl ⟨by rfl,?_⟩) ?_ ?_
                 rotate_left
                 ·intro w'
                  go_simp
                  with_reducible rfl
                 rotate_left
                 ·simp only [Act.put,List.setIfInBounds_toArray,List.set_cons_zero,List.set_cons_succ,i64_w,i32_w]
                  rfl
                 refine pure_ (i:=4) (N:=some 90) (v:=?_) (a':=?_) #[true,true,true,true,true,false,false,false,false,false,false,false,false,false,false,false,false,false,false,false,false,false] rfl rfl (any_of HT_.out (by kernel_rfl)) (fun _ _ _ h=>h) (Or.inl ⟨by rfl,?_⟩) ?_ ?_
                 rotate_left
                 ·intro w'
                  go_simp
                  with_reducible rfl
                 rotate_left
                 ·simp only [Act.put,List.setIfInBounds_toArray,List.set_cons_zero,List.set_cons_succ,i64_w,i32_w]
                  rfl
                 refine take_ (i:=5) (N:=some 91) (v:=?_) (a':=?_) #[true,true,true,true,true,true,false,false,false,false,false,false,false,false,false,false,false,false,false,false,false,false] rfl rfl (take_ofW HT_.out HW_.out (by kernel_rfl)) (fun _ _ _ h=>h) (Or.inl ⟨by rfl,?_⟩) hHeld ?_ ?_
                 rotate_left
                 ·rintro w' ⟨s0,s1,s2,s3,s4,s5,s6,s7⟩
                  go_simp
                  with_reducible rfl
                 rotate_left
                 ·simp only [Act.put,List.setIfInBounds_toArray,List.set_cons_zero,List.set_cons_succ,i64_w,i32_w]
                  rfl
                 refine pure_ (i:=6) (N:=some 92) (v:=?_) (a':=?_) #[true,true,true,true,true,true,true,false,false,false,false,false,false,false,false,false,false,false,false,false,false,false] rfl rfl (any_of HT_.out (by kernel_rfl)) (fun _ _ _ h=>h) (Or.inl ⟨by rfl,?_⟩) ?_ ?_
                 rotate_left
                 ·intro w'
                  go_simp
                  with_reducible rfl
                 rotate_left
                 ·simp only [Act.put,List.setIfInBounds_toArray,List.set_cons_zero,List.set_cons_succ,i64_w,i32_w]
                  rfl
                 refine pure_ (i:=7) (N:=some 93) (v:=?_) (a':=?_) #[true,true,true,true,true,true,true,true,false,false,false,false,false,false,false,false,false,false,false,false,false,false] rfl rfl (any_of HT_.out (by kernel_rfl)) (fun _ _ _ h=>h) (Or.inl ⟨by rfl,?_⟩) ?_ ?_
                 rotate_left
                 ·intro w'
                  go_simp
                  with_reducible rfl
                 rotate_left
                 ·simp only [Act.put,List.setIfInBounds_toArray,List.set_cons_zero,List.set_cons_succ,i64_w,i32_w]
                  rfl
                 refine pure_ (i:=8) (N:=some 94) (v:=?_) (a':=?_) #[true,true,true,true,true,true,true,true,true,false,false,false,false,false,false,false,false,false,false,false,false,false] rfl rfl (any_of HT_.out (by kernel_rfl)) (fun _ _ _ h=>h) (Or.inl ⟨by rfl,?_⟩) ?_ ?_
                 rotate_left
                 ·intro w'
                  go_simp
                  with_reducible rfl
                 rotate_left
                 ·simp only [Act.put,List.setIfInBounds_toArray,List.set_cons_zero,List.set_cons_succ,i64_w,i32_w]
                  rfl
                 refine pure_ (i:=9) (N:=some 95) (v:=?_) (a':=?_) #[true,true,true,true,true,true,true,true,true,true,false,false,false,false,false,false,false,false,false,false,false,false] rfl rfl (any_of HT_.out (by kernel_rfl)) (fun _ _ _ h=>h) (Or.inl ⟨by rfl,?_⟩) ?_ ?_
                 rotate_left
                 ·intro w'
                  go_simp
                  with_reducible rfl
                 rotate_left
                 ·simp only [Act.put,List.setIfInBounds_toArray,List.set_cons_zero,List.set_cons_succ,i64_w,i32_w]
                  rfl
                 refine pure_ (i:=10) (N:=some 96) (v:=?_) (a':=?_) #[true,true,true,true,true,true,true,true,true,true,true,false,false,false,false,false,false,false,false,false,false,false] rfl rfl (any_of HT_.out (by kernel_rfl)) (fun _ _ _ h=>h) (Or.inl ⟨by rfl,?_⟩) ?_ ?_
                 rotate_left
                 ·intro w'
                  go_simp
                  with_reducible rfl
                 rotate_left
                 ·simp only [Act.put,List.setIfInBounds_toArray,List.set_cons_zero,List.set_cons_succ,i64_w,i32_w]
                  rfl
                 refine pure_ (i:=11) (N:=some 97) (v:=?_) (a':=?_) #[true,true,true,true,true,true,true,true,true,true,true,true,false,false,false,false,false,false,false,false,false,false] rfl rfl (any_of HT_.out (by kernel_rfl)) (fun _ _ _ h=>h) (Or.inl ⟨by rfl,?_⟩) ?_ ?_
                 rotate_left
                 ·intro w'
                  go_simp
                  with_reducible rfl
                 rotate_left
                 ·simp only [Act.put,List.setIfInBounds_toArray,List.set_cons_zero,List.set_cons_succ,i64_w,i32_w]
                  rfl
                 refine pure_ (i:=12) (N:=some 98) (v:=?_) (a':=?_) #[true,true,true,true,true,true,true,true,true,true,true,true,true,false,false,false,false,false,false,false,false,false] rfl rfl (any_of HT_.out (by kernel_rfl)) (fun _ _ _ h=>h) (Or.inl ⟨by rfl,?_⟩) ?_ ?_
                 rotate_left
                 ·intro w'
                  go_simp
                  with_reducible rfl
                 rotate_left
                 ·simp only [Act.put,List.setIfInBounds_toArray,List.set_cons_zero,List.set_cons_succ,i64_w,i32_w]
                  rfl
                 refine pure_ (i:=14) (N:=some 100) (v:=?_) (a':=?_) #[true,true,true,true,true,true,true,true,true,true,true,true,true,false,true,false,false,false,false,false,false,false] rfl rfl (any_of HT_.out (by kernel_rfl)) (fun _ _ _ h=>h) (Or.inl ⟨by rfl,?_⟩) ?_ ?_
                 rotate_left
                 ·intro w'
                  go_simp
                  with_reducible rfl
                 rotate_left
                 ·simp only [Act.put,List.setIfInBounds_toArray,List.set_cons_zero,List.set_cons_succ,i64_w,i32_w]
                  rfl
                 refine pure_ (i:=15) (N:=some 101) (v:=?_) (a':=?_) #[true,true,true,true,true,true,true,true,true,true,true,true,true,false,true,true,false,false,false,false,false,false] rfl rfl (any_of HT_.out (by kernel_rfl)) (fun _ _ _ h=>h) (Or.inl ⟨by rfl,?_⟩) ?_ ?_
                 rotate_left
                 ·intro w'
                  go_simp
                  with_reducible rfl
                 rotate_left
                 ·simp only [Act.put,List.setIfInBounds_toArray,List.set_cons_zero,List.set_cons_succ,i64_w,i32_w]
                  rfl
                 refine pure_ (i:=16) (N:=some 102) (v:=?_) (a':=?_) #[true,true,true,true,true,true,true,true,true,true,true,true,true,false,true,true,true,false,false,false,false,false] rfl rfl (any_of HT_.out (by kernel_rfl)) (fun _ _ _ h=>h) (Or.inl ⟨by rfl,?_⟩) ?_ ?_
                 rotate_left
                 ·intro w'
                  go_simp
                  with_reducible rfl
                 rotate_left
                 ·simp only [Act.put,List.setIfInBounds_toArray,List.set_cons_zero,List.set_cons_succ,i64_w,i32_w]
                  rfl
                 refine pure_ (i:=17) (N:=some 103) (v:=?_) (a':=?_) #[true,true,true,true,true,true,true,true,true,true,true,true,true,false,true,true,true,true,false,false,false,false] rfl rfl (any_of HT_.out (by kernel_rfl)) (fun _ _ _ h=>h) (Or.inl ⟨by rfl,?_⟩) ?_ ?_
                 rotate_left
                 ·intro w'
                  go_simp
                  with_reducible rfl
                 rotate_left
                 ·simp only [Act.put,List.setIfInBounds_toArray,List.set_cons_zero,List.set_cons_succ,i64_w,i32_w]
                  rfl
                 refine take_ (i:=13) (N:=some 99) (v:=?_) (a':=?_) #[true,true,true,true,true,true,true,true,true,true,true,true,true,true,true,true,true,true,false,false,false,false] rfl rfl (take_ofW HT_.out HW_.out (by kernel_rfl)) (fun _ _ _ h=>h) (Or.inl ⟨by rfl,?_⟩) hHeld ?_ ?_
                 rotate_left
                 ·rintro w' ⟨s0,s1,s2,s3,s4,s5,s6,s7⟩
                  go_simp
                  with_reducible rfl
                 rotate_left
                 ·simp only [Act.put,List.setIfInBounds_toArray,List.set_cons_zero,List.set_cons_succ,i64_w,i32_w]
                  rfl
                 refine take_ (i:=18) (N:=some 104) (v:=?_) (a':=?_) #[true,true,true,true,true,true,true,true,true,true,true,true,true,true,true,true,true,true,true,false,false,false] rfl rfl (take_ofW HT_.out HW_.out (by kernel_rfl)) (fun _ _ _ h=>h) (Or.inl ⟨by rfl,?_⟩) hHeld ?_ ?_
                 rotate_left
                 ·rintro w' ⟨s0,s1,s2,s3,s4,s5,s6,s7⟩
                  go_simp
                  with_reducible rfl
                 rotate_left
                 ·simp only [Act.put,List.setIfInBounds_toArray,List.set_cons_zero,List.set_cons_succ,i64_w,i32_w]
                  rfl
                 refine pure_ (i:=19) (N:=some 105) (v:=?_) (a':=?_) #[true,true,true,true,true,true,true,true,true,true,true,true,true,true,true,true,true,true,true,true,false,false] rfl rfl (any_of HT_.out (by kernel_rfl)) (fun _ _ _ h=>h) (Or.inl ⟨by rfl,?_⟩) ?_ ?_
                 rotate_left
                 ·intro w'
                  go_simp
                  with_reducible rfl
                 rotate_left
                 ·simp only [Act.put,List.setIfInBounds_toArray,List.set_cons_zero,List.set_cons_succ,i64_w,i32_w]
                  rfl
                 refine pure_ (i:=20) (N:=some 106) (v:=?_) (a':=?_) #[true,true,true,true,true,true,true,true,true,true,true,true,true,true,true,true,true,true,true,true,true,false] rfl rfl (any_of HT_.out (by kernel_rfl)) (fun _ _ _ h=>h) (Or.inl ⟨by rfl,?_⟩) ?_ ?_
                 rotate_left
                 ·intro w'
                  go_simp
                  with_reducible rfl
                 rotate_left
                 ·simp only [Act.put,List.setIfInBounds_toArray,List.set_cons_zero,List.set_cons_succ,i64_w,i32_w]
                  rfl
                 refine pure_ (i:=21) (N:=some 107) (v:=?_) (a':=?_) #[true,true,true,true,true,true,true,true,true,true,true,true,true,true,true,true,true,true,true,true,true,true] rfl rfl (any_of HT_.out (by kernel_rfl)) (fun _ _ _ h=>h) (Or.inl ⟨by rfl,?_⟩) ?_ ?_
                 rotate_left
                 ·intro w'
                  go_simp
                  with_reducible rfl
                 rotate_left
                 ·simp only [Act.put,List.setIfInBounds_toArray,List.set_cons_zero,List.set_cons_succ,i64_w,i32_w]
                  rfl
                 refine done_ (done_of HT_.out (by kernel_rfl)) ?_
                 try go_wp2
                 go_roundg k3
                 case measure=>have:=HJ6.out;have:=HK2.out;have:=HK3.out;omega
                 case rel=>exact ⟨(x15_3),(wrap64 (x16_3 + 1)),(by first|rfl|(simp;done)|(simp [*];done)),(by first|rfl|(simp;done)|(simp [*];done)),H',⟨by have:=HJ6.out;have:=HK2.out;have:=HK3.out;omega⟩,⟨by (with_reducible repeat (first|apply zA|apply zB|apply zC));exact HO_4.out⟩,⟨by (with_reducible repeat (first|apply zA|apply zB|apply zC));exact HO_5.out⟩,⟨by (with_reducible repeat (first|apply zA|apply zB|apply zC));exact HO_7.out⟩,⟨by repeat (first|(with_reducible first|exact HB.out|apply zD|apply zE|apply zF)|exact HB.out)⟩⟩
               ·rw [if_neg c31] at H
                have c31b0 : decide (((rd_T37 t1033 x16_3).f1) ≤ t1034) = false:=decide_eq_false c31
                clear c31
                have H':=zM H
                clear H
                try go_wp2
                have n0_:=zM (zC HO_4.out)
                have n1_:=zM (zC HO_5.out)
                have n2_:=zM (zC HO_7.out)
                have n3_:=zM (zF HB.out)
                clear HO_4
                clear HO_5
                clear HO_7
                clear HB
                have HO_4:=n0_
                have HO_5:=n1_
                have HO_7:=n2_
                have HB:=n3_
                clear n0_ n1_ n2_ n3_
                have p1051 : 0 ≤ (x16_3 : Int):=of_decide_eq_true (by first|(with_reducible assumption)|assumption)
                have q1051 : x16_3 < (t1033.length : Int):=of_decide_eq_true (by first|(with_reducible assumption)|assumption)
                obtain ⟨ad1051,e1051,hx1051_0,hx1051_1⟩:=at_T37 (zN HO_5.out).2.2 x16_3 p1051 q1051
                cases e1051
                replace p1051:=eq_true p1051
                replace q1051:=eq_true q1051
                refine start_ (n:=22) (S:=fun w'=>w'.cell? (ad1051.add ((x16_3).toNat * 2)) = some (.int .i64 ((rd_T37 t1033 x16_3).f0)) ∧ w'.cell? ⟨(ad1051.add ((x16_3).toNat * 2)).block,(ad1051.add ((x16_3).toNat * 2)).off + 1,none⟩ = some (.int .i64 ((rd_T37 t1033 x16_3).f1))) (ds:=[]) #[false,false,false,false,false,false,false,false,false,false,false,false,false,false,false,false,false,false,false,false,false,false] (by kernel_rfl) rfl rfl ⟨hx1051_0,hx1051_1⟩ (fun hHeld=>?_);refine with_tabW laws_FnQuay.tab20 laws_FnQuay.bits20 (fun HT_ HW_=>?_)
                generalize wr.drew = w35 at HO_4 HO_5 HO_7 HB hx1051_0 hx1051_1 hHeld ⊢
                refine pure_ (i:=0) (N:=some 86) (v:=?_) (a':=?_) #[true,false,false,false,false,false,false,false,false,false,false,false,false,false,false,false,false,false,false,false,false,false] rfl rfl (any_of HT_.out (by kernel_rfl)) (fun _ _ _ h=>h) (Or.inl ⟨by rfl,?_⟩) ?_ ?_
                rotate_left
                ·intro w'
                 go_simp
                 with_reducible rfl
                rotate_left
                ·simp only [Act.put,List.setIfInBounds_toArray,List.set_cons_zero,List.set_cons_succ,i64_w,i32_w]
                 rfl
                refine pure_ (i:=1) (N:=some 87) (v:=?_) (a':=?_) #[true,true,false,false,false,false,false,false,false,false,false,false,false,false,false,false,false,false,false,false,false,false] rfl rfl (any_of HT_.out (by kernel_rfl)) (fun _ _ _ h=>h) (Or.inl ⟨by rfl,?_⟩) ?_ ?_
                rotate_left
                ·intro w'
                 go_simp
                 with_reducible rfl
                rotate_left
                ·simp only [Act.put,List.setIfInBounds_toArray,List.set_cons_zero,List.set_cons_succ,i64_w,i32_w]
                 rfl
                refine pure_ (i:=2) (N:=some 88) (v:=?_) (a':=?_) #[true,true,true,false,false,false,false,false,false,false,false,false,false,false,false,false,false,false,false,false,false,false] rfl rfl (any_of HT_.out (by kernel_rfl)) (fun _ _ _ h=>h) (Or.inl ⟨by rfl,?_⟩) ?_ ?_
                rotate_left
                ·intro w'
                 go_simp
                 with_reducible rfl
                rotate_left
                ·simp only [Act.put,List.setIfInBounds_toArray,List.set_cons_zero,List.set_cons_succ,i64_w,i32_w]
                 rfl
                refine pure_ (i:=3) (N:=some 89) (v:=?_) (a':=?_) #[true,true,true,true,false,false,false,false,false,false,false,false,false,false,false,false,false,false,false,false,false,false] rfl rfl (any_of HT_.out (by kernel_rfl)) (fun _ _ _ h=>h) (Or.inl ⟨by rfl,?_⟩) ?_ ?_
                rotate_left
                ·intro w'
                 go_simp
                 with_reducible rfl
                rotate_left
                ·simp only [Act.put,List.setIfInBounds_toArray,List.set_cons_zero,List.set_cons_succ,i64_w,i32_w]
                 rfl
                refine pure_ (i:=4) (N:=some 90) (v:=?_) (a':=?_) #[true,true,true,true,true,false,false,false,false,false,false,false,false,false,false,false,false,false,false,false,false,false] rfl rfl (any_of HT_.out (by kernel_rfl)) (fun _ _ _ h=>h) (Or.inl ⟨by rfl,?_⟩) ?_ ?_
                rotate_left
                ·intro w'
                 go_simp
                 with_reducible rfl
                rotate_left
                ·simp only [Act.put,List.setIfInBounds_toArray,List.set_cons_zero,List.set_cons_succ,i64_w,i32_w]
                 rfl
                refine take_ (i:=5) (N:=some 91) (v:=?_) (a':=?_) #[true,true,true,true,true,true,false,false,false,false,false,false,false,false,false,false,false,false,false,false,false,false] rfl rfl (take_ofW HT_.out HW_.out (by kernel_rfl)) (fun _ _ _ h=>h) (Or.inl ⟨by rfl,?_⟩) hHeld ?_ ?_
                rotate_left
                ·rintro w' ⟨s0,s1⟩
                 go_simp
                 with_reducible rfl
                rotate_left
                ·simp only [Act.put,List.setIfInBounds_toArray,List.set_cons_zero,List.set_cons_succ,i64_w,i32_w]
                 rfl
                refine pure_ (i:=6) (N:=some 92) (v:=?_) (a':=?_) #[true,true,true,true,true,true,true,false,false,false,false,false,false,false,false,false,false,false,false,false,false,false] rfl rfl (any_of HT_.out (by kernel_rfl)) (fun _ _ _ h=>h) (Or.inl ⟨by rfl,?_⟩) ?_ ?_
                rotate_left
                ·intro w'
                 go_simp
                 with_reducible rfl
                rotate_left
                ·simp only [Act.put,List.setIfInBounds_toArray,List.set_cons_zero,List.set_cons_succ,i64_w,i32_w]
                 rfl
                refine pure_ (i:=7) (N:=some 93) (v:=?_) (a':=?_) #[true,true,true,true,true,true,true,true,false,false,false,false,false,false,false,false,false,false,false,false,false,false] rfl rfl (any_of HT_.out (by kernel_rfl)) (fun _ _ _ h=>h) (Or.inl ⟨by rfl,?_⟩) ?_ ?_
                rotate_left
                ·intro w'
                 go_simp
                 with_reducible rfl
                rotate_left
                ·simp only [Act.put,List.setIfInBounds_toArray,List.set_cons_zero,List.set_cons_succ,i64_w,i32_w]
                 rfl
                refine pure_ (i:=8) (N:=some 94) (v:=undef) (a':=?_) #[true,true,true,true,true,true,true,true,true,false,false,false,false,false,false,false,false,false,false,false,false,false] rfl rfl (any_of HT_.out (by kernel_rfl)) (fun _ _ _ h=>h) (Or.inr ⟨by rfl,rfl⟩) ?_ ?_
                rotate_left
                ·simp only [Act.put,List.setIfInBounds_toArray,List.set_cons_zero,List.set_cons_succ,i64_w,i32_w]
                 rfl
                refine pure_ (i:=9) (N:=some 95) (v:=undef) (a':=?_) #[true,true,true,true,true,true,true,true,true,true,false,false,false,false,false,false,false,false,false,false,false,false] rfl rfl (any_of HT_.out (by kernel_rfl)) (fun _ _ _ h=>h) (Or.inr ⟨by rfl,rfl⟩) ?_ ?_
                rotate_left
                ·simp only [Act.put,List.setIfInBounds_toArray,List.set_cons_zero,List.set_cons_succ,i64_w,i32_w]
                 rfl
                refine pure_ (i:=10) (N:=some 96) (v:=undef) (a':=?_) #[true,true,true,true,true,true,true,true,true,true,true,false,false,false,false,false,false,false,false,false,false,false] rfl rfl (any_of HT_.out (by kernel_rfl)) (fun _ _ _ h=>h) (Or.inr ⟨by rfl,rfl⟩) ?_ ?_
                rotate_left
                ·simp only [Act.put,List.setIfInBounds_toArray,List.set_cons_zero,List.set_cons_succ,i64_w,i32_w]
                 rfl
                refine pure_ (i:=11) (N:=some 97) (v:=undef) (a':=?_) #[true,true,true,true,true,true,true,true,true,true,true,true,false,false,false,false,false,false,false,false,false,false] rfl rfl (any_of HT_.out (by kernel_rfl)) (fun _ _ _ h=>h) (Or.inr ⟨by rfl,rfl⟩) ?_ ?_
                rotate_left
                ·simp only [Act.put,List.setIfInBounds_toArray,List.set_cons_zero,List.set_cons_succ,i64_w,i32_w]
                 rfl
                refine pure_ (i:=12) (N:=some 98) (v:=undef) (a':=?_) #[true,true,true,true,true,true,true,true,true,true,true,true,true,false,false,false,false,false,false,false,false,false] rfl rfl (any_of HT_.out (by kernel_rfl)) (fun _ _ _ h=>h) (Or.inr ⟨by rfl,rfl⟩) ?_ ?_
                rotate_left
                ·simp only [Act.put,List.setIfInBounds_toArray,List.set_cons_zero,List.set_cons_succ,i64_w,i32_w]
                 rfl
                refine pure_ (i:=13) (N:=some 99) (v:=undef) (a':=?_) #[true,true,true,true,true,true,true,true,true,true,true,true,true,true,false,false,false,false,false,false,false,false] rfl rfl (any_of HT_.out (by kernel_rfl)) (fun _ _ _ h=>h) (Or.inr ⟨by rfl,rfl⟩) ?_ ?_
                rotate_left
                ·simp only [Act.put,List.setIfInBounds_toArray,List.set_cons_zero,List.set_cons_succ,i64_w,i32_w]
                 rfl
                refine pure_ (i:=14) (N:=some 100) (v:=undef) (a':=?_) #[true,true,true,true,true,true,true,true,true,true,true,true,true,true,true,false,false,false,false,false,false,false] rfl rfl (any_of HT_.out (by kernel_rfl)) (fun _ _ _ h=>h) (Or.inr ⟨by rfl,rfl⟩) ?_ ?_
                rotate_left
                ·simp only [Act.put,List.setIfInBounds_toArray,List.set_cons_zero,List.set_cons_succ,i64_w,i32_w]
                 rfl
                refine pure_ (i:=15) (N:=some 101) (v:=undef) (a':=?_) #[true,true,true,true,true,true,true,true,true,true,true,true,true,true,true,true,false,false,false,false,false,false] rfl rfl (any_of HT_.out (by kernel_rfl)) (fun _ _ _ h=>h) (Or.inr ⟨by rfl,rfl⟩) ?_ ?_
                rotate_left
                ·simp only [Act.put,List.setIfInBounds_toArray,List.set_cons_zero,List.set_cons_succ,i64_w,i32_w]
                 rfl
                refine pure_ (i:=16) (N:=some 102) (v:=undef) (a':=?_) #[true,true,true,true,true,true,true,true,true,true,true,true,true,true,true,true,true,false,false,false,false,false] rfl rfl (any_of HT_.out (by kernel_rfl)) (fun _ _ _ h=>h) (Or.inr ⟨by rfl,rfl⟩) ?_ ?_
                rotate_left
                ·simp only [Act.put,List.setIfInBounds_toArray,List.set_cons_zero,List.set_cons_succ,i64_w,i32_w]
                 rfl
                refine pure_ (i:=17) (N:=some 103) (v:=undef) (a':=?_) #[true,true,true,true,true,true,true,true,true,true,true,true,true,true,true,true,true,true,false,false,false,false] rfl rfl (any_of HT_.out (by kernel_rfl)) (fun _ _ _ h=>h) (Or.inr ⟨by rfl,rfl⟩) ?_ ?_
                rotate_left
                ·simp only [Act.put,List.setIfInBounds_toArray,List.set_cons_zero,List.set_cons_succ,i64_w,i32_w]
                 rfl
                refine pure_ (i:=18) (N:=some 104) (v:=undef) (a':=?_) #[true,true,true,true,true,true,true,true,true,true,true,true,true,true,true,true,true,true,true,false,false,false] rfl rfl (any_of HT_.out (by kernel_rfl)) (fun _ _ _ h=>h) (Or.inr ⟨by rfl,rfl⟩) ?_ ?_
                rotate_left
                ·simp only [Act.put,List.setIfInBounds_toArray,List.set_cons_zero,List.set_cons_succ,i64_w,i32_w]
                 rfl
                refine pure_ (i:=19) (N:=some 105) (v:=undef) (a':=?_) #[true,true,true,true,true,true,true,true,true,true,true,true,true,true,true,true,true,true,true,true,false,false] rfl rfl (any_of HT_.out (by kernel_rfl)) (fun _ _ _ h=>h) (Or.inr ⟨by rfl,rfl⟩) ?_ ?_
                rotate_left
                ·simp only [Act.put,List.setIfInBounds_toArray,List.set_cons_zero,List.set_cons_succ,i64_w,i32_w]
                 rfl
                refine pure_ (i:=20) (N:=some 106) (v:=undef) (a':=?_) #[true,true,true,true,true,true,true,true,true,true,true,true,true,true,true,true,true,true,true,true,true,false] rfl rfl (any_of HT_.out (by kernel_rfl)) (fun _ _ _ h=>h) (Or.inr ⟨by rfl,rfl⟩) ?_ ?_
                rotate_left
                ·simp only [Act.put,List.setIfInBounds_toArray,List.set_cons_zero,List.set_cons_succ,i64_w,i32_w]
                 rfl
                refine pure_ (i:=21) (N:=some 107) (v:=?_) (a':=?_) #[true,true,true,true,true,true,true,true,true,true,true,true,true,true,true,true,true,true,true,true,true,true] rfl rfl (any_of HT_.out (by kernel_rfl)) (fun _ _ _ h=>h) (Or.inl ⟨by rfl,?_⟩) ?_ ?_
                rotate_left
                ·intro w'
                 go_simp
                 with_reducible rfl
                rotate_left
                ·simp only [Act.put,List.setIfInBounds_toArray,List.set_cons_zero,List.set_cons_succ,i64_w,i32_w]
                 rfl
                refine done_ (done_of HT_.out (by kernel_rfl)) ?_
                try go_wp2
                go_roundg k3
                case measure=>have:=HJ6.out;have:=HK2.out;have:=HK3.out;omega
                case rel=>exact ⟨(x15_3),(wrap64 (x16_3 + 1)),(by first|rfl|(simp;done)|(simp [*];done)),(by first|rfl|(simp;done)|(simp [*];done)),H',⟨by have:=HJ6.out;have:=HK2.out;have:=HK3.out;omega⟩,⟨by (with_reducible repeat (first|apply zA|apply zB|apply zC));exact HO_4.out⟩,⟨by (with_reducible repeat (first|apply zA|apply zB|apply zC));exact HO_5.out⟩,⟨by (with_reducible repeat (first|apply zA|apply zB|apply zC));exact HO_7.out⟩,⟨by repeat (first|(with_reducible first|exact HB.out|apply zD|apply zE|apply zF)|exact HB.out)⟩⟩
              ·rw [if_neg c30] at H
               exact absurd H (by simp)
             ·rw [if_neg c29] at H
              exact absurd H (by simp)
            ·rw [if_neg c28] at H
             have c28b0 : decide (x16_3 < (t1032.length : Int)) = false:=decide_eq_false c28
             clear c28
             by_cases c36 : t1049 = true
             ·subst c36
              have H1 : (if (t1039.length : Int) = t1031 then (if x13_2 = x15_3 then (if t1034 ≥ t1048 then (if x13_2 > 0 then (some false) else (laws_FnQuay.j3 k3 l0)) else (laws_FnQuay.j3 k3 l0)) else (some false)) else (some false)) = some r:=by rw [if_pos rfl] at H;exact H
              clear H
              have H:=H1
              clear H1
              by_cases c37 : (t1039.length : Int) = t1031
              ·rw [if_pos c37] at H
               have c37b0 : ((t1039.length : Int) == t1031) = true:=beq_iff_eq.mpr c37
               have c37b1 : ((t1039.length : Int) != t1031) = false:=bne_eq_false_iff_eq.mpr c37
               clear c37
               by_cases c38 : x13_2 = x15_3
               ·rw [if_pos c38] at H
                have c38b0 : (x13_2 == x15_3) = true:=beq_iff_eq.mpr c38
                have c38b1 : (x13_2 != x15_3) = false:=bne_eq_false_iff_eq.mpr c38
                clear c38
                by_cases c39 : t1034 ≥ t1048
                ·rw [if_pos c39] at H
                 have c39b0 : decide (t1048 ≤ t1034) = true:=decide_eq_true c39
                 clear c39
                 by_cases c40 : x13_2 > 0
                 ·rw [if_pos c40] at H
                  have c40b0 : decide (0 < x13_2) = true:=decide_eq_true c40
                  clear c40
                  obtain rfl:=Option.some.inj H
                  go_wp2
                  go_ret
                  exact ⟨by first|rfl|(simp [errW_none,errW_some] <;> rfl)|(simp [*,errW_none,errW_some] <;> rfl),by repeat (first|(with_reducible first|exact HB.out|apply zD|apply zE|apply zF)|exact HB.out)⟩
                 ·rw [if_neg c40] at H
                  have c40b0 : decide (0 < x13_2) = false:=decide_eq_false c40
                  clear c40
                  have H':=zM H
                  clear H
                  go_wp2
                  go_meet
                  case rel=>exact ⟨_,H',⟨by have:=HJ6.out;have:=HK2.out;have:=HK3.out;first|omega|exact Nat.le_refl _⟩,⟨by repeat (first|(with_reducible first|exact HB.out|apply zD|apply zE|apply zF)|exact HB.out)⟩⟩
                ·rw [if_neg c39] at H
                 have c39b0 : decide (t1048 ≤ t1034) = false:=decide_eq_false c39
                 clear c39
                 have H':=zM H
                 clear H
                 go_wp2
                 go_meet
                 case rel=>exact ⟨_,H',⟨by have:=HJ6.out;have:=HK2.out;have:=HK3.out;first|omega|exact Nat.le_refl _⟩,⟨by repeat (first|(with_reducible first|exact HB.out|apply zD|apply zE|apply zF)|exact HB.out)⟩⟩
               ·rw [if_neg c38] at H
                have c38b0 : (x13_2 == x15_3) = false:=beq_eq_false_iff_ne.mpr c38
                have c38b1 : (x13_2 != x15_3) = true:=bne_iff_ne.mpr c38
                obtain rfl:=Option.some.inj H
                go_wp2
                go_ret
                exact ⟨by first|rfl|(simp [errW_none,errW_some] <;> rfl)|(simp [*,errW_none,errW_some] <;> rfl),by repeat (first|(with_reducible first|exact HB.out|apply zD|apply zE|apply zF)|exact HB.out)⟩
              ·rw [if_neg c37] at H
               have c37b0 : ((t1039.length : Int) == t1031) = false:=beq_eq_false_iff_ne.mpr c37
               have c37b1 : ((t1039.length : Int) != t1031) = true:=bne_iff_ne.mpr c37
               obtain rfl:=Option.some.inj H
               go_wp2
               go_ret
               exact ⟨by first|rfl|(simp [errW_none,errW_some] <;> rfl)|(simp [*,errW_none,errW_some] <;> rfl),by repeat (first|(with_reducible first|exact HB.out|apply zD|apply zE|apply zF)|exact HB.out)⟩
             ·replace c36:=Bool.eq_false_iff.mpr c36
              subst c36
              have H1 : (some false) = some r:=by rw [if_neg (show ¬ (false = true) by decide)] at H;exact H
              clear H
              have H:=H1
              clear H1
              obtain rfl:=Option.some.inj H
              go_wp2
              go_ret
              exact ⟨by first|rfl|(simp [errW_none,errW_some] <;> rfl)|(simp [*,errW_none,errW_some] <;> rfl),by repeat (first|(with_reducible first|exact HB.out|apply zD|apply zE|apply zF)|exact HB.out)⟩
      ·replace c19:=Bool.eq_false_iff.mpr c19
       subst c19
       have H1 : (laws_FnQuay.j3 kj6 l0) = some r:=by rw [if_neg (show ¬ (false = true) by decide)] at H;exact H
       clear H
       have H:=H1
       clear H1
       have H':=zM H
       clear H
       go_wp2
       go_meet
       case rel=>exact ⟨_,H',⟨by have:=HJ6.out;first|omega|exact Nat.le_refl _⟩,⟨by repeat (first|(with_reducible first|exact HB.out|apply zD|apply zE|apply zF)|exact HB.out)⟩⟩
     case rest =>
      clear HC18
      try clear c1
      try clear p1
      try clear q1
      try clear hx1
      try clear c2
      try clear p2
      try clear c3
      try clear c4
      try clear p6
      try clear p10
      try clear q10
      try clear hx10
      try clear c19
      try clear c28
      try clear c28b0
      try clear c29
      try clear c30
      try clear c31
      try clear c31b0
      try clear c32
      try clear c32b0
      try clear c36
      try clear c37
      try clear c37b0
      try clear c37b1
      try clear c38
      try clear c38b0
      try clear c38b1
      try clear c39
      try clear c39b0
      try clear c40
      try clear c40b0
      try clear hx1051_0
      try clear hx1051_1
      try clear hx1052_0
      try clear hx1052_1
      try clear hx1053_0
      try clear hx1053_1
      try clear hx1053_2
      try clear hx1053_3
      try clear hx1054_0
      try clear hx1054_1
      try clear hx1054_2
      try clear hx1054_3
      try clear p1051
      try clear p1052
      try clear p1053
      try clear p1054
      try clear q1051
      try clear q1052
      try clear q1053
      try clear q1054
      obtain ⟨kq,HA,HJ17,HB⟩:=hcut
      cases kq with
      | zero=>exact absurd HA.out (by simp [laws_FnQuay.j3])
      | succ kj17 =>
       have H:=HA.out
       clear HA
       simp only [laws_FnQuay.j3] at H
       replace H:=Option.bind_eq_some_iff.mp H
       obtain ⟨⟨t1055,t1056,t1057⟩,A410,H⟩:=H
       replace H : ((impl_NextBerth.f kj17 t1055 t1056 t1057).bind fun bt1062=>((spec_NextBerth.f kj17 t1055 t1056 t1057).bind fun bt1066=>(if (!(bt1062.1 == bt1066.1) || (!(bt1062.2.1 == bt1066.2.1))) = true then (laws_FnQuay.j4 kj17 t1055 t1056 t1057 bt1062.2.2 true bt1062.1 bt1062.2.1) else (laws_FnQuay.j4 kj17 t1055 t1056 t1057 bt1062.2.2 (bt1062.2.2 != bt1066.2.2) bt1062.1 bt1062.2.1)))) = some r:=H
       have A41:=zM A410
       clear A410
       replace H:=Option.bind_eq_some_iff.mp H
       obtain ⟨⟨t1062,t1063,t1064⟩,A420,H⟩:=H
       replace H : ((spec_NextBerth.f kj17 t1055 t1056 t1057).bind fun bt1066=>(if (!(t1062 == bt1066.1) || (!(t1063 == bt1066.2.1))) = true then (laws_FnQuay.j4 kj17 t1055 t1056 t1057 t1064 true t1062 t1063) else (laws_FnQuay.j4 kj17 t1055 t1056 t1057 t1064 (t1064 != bt1066.2.2) t1062 t1063))) = some r:=H
       have A42:=zM A420
       clear A420
       replace H:=Option.bind_eq_some_iff.mp H
       obtain ⟨⟨t1066,t1067,t1068⟩,A430,H⟩:=H
       replace H : (if (!(t1062 == t1066) || (!(t1063 == t1067))) = true then (laws_FnQuay.j4 kj17 t1055 t1056 t1057 t1064 true t1062 t1063) else (laws_FnQuay.j4 kj17 t1055 t1056 t1057 t1064 (t1064 != t1068) t1062 t1063)) = some r:=H
       have A43:=zM A430
       clear A430
       have HC44:=zM H
       clear H
       go_upto_region 27 with (first|((with_reducible refine gate_callee (f:=48) rfl ?_);refine goesL_ (some 139) rfl rfl Try.func48 (by kernel_rfl) rfl #[.slice A0 l0.length c0] rfl (by (try simp only [List.map_toArray,List.map_cons,List.map_nil]);first|done|rfl|(simp only [List.length_drop,List.length_take];rfl)) ?_;(with_reducible refine (spec_DrawNextBerth.calls kj17 _ _ l0 t1055 t1056 t1057 _ ?side1 ?side2 A41.out).mono ?_);(case side1=>repeat (first|exact (zO HR0.out HB.out)|(with_reducible refine zG ?_ _)|(with_reducible refine zH ?_ _)|(with_reducible refine zI ?_)));(case side2=>exact HC0.out);rintro e w45 ⟨v1058,v1060,rfl,ho0,ho1,hb⟩;refine ⟨_,rfl,?_⟩;have n0_:=zM (Kd.R_lower ho0 (zR (by repeat (first|(with_reducible first|exact HB.out|apply zD|apply zE|apply zF)|exact HB.out))));have n1_:=zM (Kd.R_lower ho1 (zR (by repeat (first|(with_reducible first|exact HB.out|apply zD|apply zE|apply zF)|exact HB.out))));have n2_:=zM (zQ (by repeat (first|(with_reducible first|exact HB.out|apply zD|apply zE|apply zF)|exact HB.out)) hb);clear HB;have HO1059:=n0_;have HO1061:=n1_;have HB:=n2_;clear n0_ n1_ n2_;(try clear hb);(try clear hb2);(try clear hk);(try clear hi);(try clear ho0);(try clear ho1);obtain ⟨Ao46,co46,eo46⟩:=Kd.R_slice HO1059.out;subst eo46;obtain ⟨Ao47,co47,eo47⟩:=Kd.R_slice HO1061.out;subst eo47)|((with_reducible refine gate_callee (f:=26) rfl ?_);refine goesL_ (some 147) rfl rfl Try.func26 (by kernel_rfl) rfl #[.int .i64 t1055,.slice Ao46 t1056.length co46,.slice Ao47 t1057.length co47] rfl (by (try simp only [List.map_toArray,List.map_cons,List.map_nil]);first|done|rfl|(simp only [List.length_drop,List.length_take];rfl)) ?_;(with_reducible refine (impl_NextBerth.calls kj17 t1055 _ _ t1056 _ _ t1057 t1062 t1063 t1064 _ ?side1 ?side2 ?side3 ?side4 A42.out).mono ?_);(case side1=>repeat (first|exact (zN HO1059.out).2.2|(with_reducible refine zG ?_ _)|(with_reducible refine zH ?_ _)|(with_reducible refine zI ?_)));(case side2=>exact (zN HO1059.out).2.1);(case side3=>repeat (first|exact (zN HO1061.out).2.2|(with_reducible refine zG ?_ _)|(with_reducible refine zH ?_ _)|(with_reducible refine zI ?_)));(case side4=>exact (zN HO1061.out).2.1);rintro e w48 ⟨rfl,hb⟩;refine ⟨_,rfl,?_⟩;have n0_:=zM (zP (by (with_reducible repeat (first|apply zA|apply zB|apply zC));exact HO1059.out) hb);have n1_:=zM (zP (by (with_reducible repeat (first|apply zA|apply zB|apply zC));exact HO1061.out) hb);have n2_:=zM (zQ (by repeat (first|(with_reducible first|exact HB.out|apply zD|apply zE|apply zF)|exact HB.out)) hb);clear HO1059;clear HO1061;clear HB;have HO1059:=n0_;have HO1061:=n1_;have HB:=n2_;clear n0_ n1_ n2_;(try clear hb);(try clear hb2);(try clear hk);(try clear hi))|((with_reducible refine gate_dst (N:=20) rfl ?_);(try (refine gate_guard (by rfl) ?_;dsimp only));refine box_event ?hg (N:=20) ?hd (cs := #[.int .i64 0,.int .i64 0]) (t:=37) ?hr ?_;(case hd=>rfl);(case hg=>rfl);(case hr=>first|(go_simp;done)|(go_simp;rfl));intro gb1065 hg w49 hbox hb;have n0_:=zM (zP (by (with_reducible repeat (first|apply zA|apply zB|apply zC));exact HO1059.out) hb);have n1_:=zM (zP (Kd.R_elderB (by (with_reducible repeat (first|apply zA|apply zB|apply zC));exact HO1061.out) gb1065 (Nat.le_of_eq hg.symm)) hb);have n2_:=zM (zQ (by repeat (first|(with_reducible first|exact HB.out|apply zD|apply zE|apply zF)|exact HB.out)) hb);have n3_:=zM (hbox);have n4_:=zM ((by rw [hg];exact (zR (by repeat (first|(with_reducible first|exact HB.out|apply zD|apply zE|apply zF)|exact HB.out))) : w.heap.size ≤ gb1065));have n5_:=zM ((by rw [hg];exact (zR (by repeat (first|(with_reducible first|exact HB.out|apply zD|apply zE|apply zF)|exact HB.out))) : w.heap.size ≤ gb1065));clear HO1059;clear HO1061;clear HB;have HO1059:=n0_;have HO1061:=n1_;have HB:=n2_;have BK1065:=n3_;have GW1065:=n4_;have GE1065:=n5_;clear n0_ n1_ n2_ n3_ n4_ n5_;clear hb hbox hg;have hcz50_0 : w49.cell? ⟨gb1065,0,none⟩ = some (.int .i64 0):=(blk_cell BK1065.out 0).trans rfl;have hcz50_1 : w49.cell? ⟨gb1065,1,none⟩ = some (.int .i64 0):=(blk_cell BK1065.out 1).trans rfl;have hfz50_0:=blk_frozen BK1065.out 0;have hfz50_1:=blk_frozen BK1065.out 1)|((with_reducible refine gate_callee (f:=25) rfl ?_);refine goesL_ (some 154) rfl rfl Try.func25 (by kernel_rfl) rfl #[.int .i64 t1055,.slice Ao46 t1056.length co46,.slice Ao47 t1057.length co47] rfl (by (try simp only [List.map_toArray,List.map_cons,List.map_nil]);first|done|rfl|(simp only [List.length_drop,List.length_take];rfl)) ?_;(with_reducible refine (spec_NextBerth.calls kj17 t1055 _ _ t1056 _ _ t1057 t1066 t1067 t1068 _ ?side1 ?side2 ?side3 ?side4 A43.out).mono ?_);(case side1=>refine (zN (e:=62) (base:=w.heap.size) (ok:=fun k_=>True) (n:=t1056.length) (c:=co46) ?_).2.2;exact (by (with_reducible repeat (first|apply zA|apply zB|apply zC));exact (Kd.R_mono (Kd.R_far (p:=⟨gb1065,1,none⟩) (Kd.R_far (p:=⟨gb1065,0,none⟩) (Kd.R_types HO1059.out BK1065.out (by decide)) (fun _ hk=>hk.2) (.int .i64 t1062)) (fun _ hk=>hk.2) (.int .i64 t1063)) (fun _ h_=>h_.1))));(case side2=>exact (zN HO1059.out).2.1);(case side3=>refine (zN (e:=37) (base:=w.heap.size) (ok:=fun k_=>(True ∧ k_ ≠ gb1065)) (n:=t1057.length) (c:=co47) ?_).2.2;exact (by (with_reducible repeat (first|apply zA|apply zB|apply zC));exact (Kd.R_mono (Kd.R_far (p:=⟨gb1065,1,none⟩) (Kd.R_far (p:=⟨gb1065,0,none⟩) (Kd.R_mono HO1061.out (fun k_ hk=>(⟨hk,hk.2⟩ : _ ∧ k_ ≠ gb1065))) (fun _ hk=>hk.2) (.int .i64 t1062)) (fun _ hk=>hk.2) (.int .i64 t1063)) (fun _ h_=>h_.1))));(case side4=>exact (zN HO1061.out).2.1);rintro e w51 ⟨rfl,hb⟩;refine ⟨_,rfl,?_⟩;have n0_:=zM (zP (by (with_reducible repeat (first|apply zA|apply zB|apply zC));exact (Kd.R_mono (Kd.R_far (p:=⟨gb1065,1,none⟩) (Kd.R_far (p:=⟨gb1065,0,none⟩) (Kd.R_types HO1059.out BK1065.out (by decide)) (fun _ hk=>hk.2) (.int .i64 t1062)) (fun _ hk=>hk.2) (.int .i64 t1063)) (fun _ h_=>h_.1))) hb);have n1_:=zM (zP (by (with_reducible repeat (first|apply zA|apply zB|apply zC));exact (Kd.R_mono (Kd.R_far (p:=⟨gb1065,1,none⟩) (Kd.R_far (p:=⟨gb1065,0,none⟩) (Kd.R_mono HO1061.out (fun k_ hk=>(⟨hk,hk.2⟩ : _ ∧ k_ ≠ gb1065))) (fun _ hk=>hk.2) (.int .i64 t1062)) (fun _ hk=>hk.2) (.int .i64 t1063)) (fun _ h_=>h_.1))) hb);have n2_:=zM (blk_below (g:=gb1065) (o := .cells #[.int .i64 t1062,.int .i64 t1063] 37 (0,0)) (by (with_reducible repeat (first|refine zJ ?_ _|refine zK ?_|refine zL ?_ _));refine blk_put (cs := #[.int .i64 t1062,.int .i64 0]) ?_ 1 _ rfl;(with_reducible repeat (first|refine zJ ?_ _|refine zK ?_|refine zL ?_ _));refine blk_put (cs := #[.int .i64 0,.int .i64 0]) ?_ 0 _ rfl;(with_reducible repeat (first|refine zJ ?_ _|refine zK ?_|refine zL ?_ _));exact BK1065.out) hb);have n3_:=zM (zQ (by repeat (first|(with_reducible first|exact HB.out|apply zD|apply zE|apply zF|refine below_set ?_ GE1065.out)|exact HB.out)) hb);clear HO1059;clear HO1061;clear BK1065;clear HB;have HO1059:=n0_;have HO1061:=n1_;have BK1065:=n2_;have HB:=n3_;clear n0_ n1_ n2_ n3_;(try clear hb);(try clear hb2);(try clear hk);(try clear hi))|((with_reducible refine gate_dst (N:=22) rfl ?_);(try (refine gate_guard (by rfl) ?_;dsimp only));refine box_event ?hg (N:=22) ?hd (cs := #[.int .i64 0,.int .i64 0]) (t:=37) ?hr ?_;(case hd=>rfl);(case hg=>rfl);(case hr=>first|(go_simp;done)|(go_simp;rfl));intro gb1069 hg w52 hbox hb;have n0_:=zM (zP (by (with_reducible repeat (first|apply zA|apply zB|apply zC));exact HO1059.out) hb);have n1_:=zM (zP (Kd.R_elderB (by (with_reducible repeat (first|apply zA|apply zB|apply zC));exact HO1061.out) gb1069 (Nat.le_of_eq hg.symm)) hb);have n2_:=zM (blk_below (g:=gb1065) (o := .cells #[.int .i64 t1062,.int .i64 t1063] 37 (0,0)) (by (with_reducible repeat (first|refine zJ ?_ _|refine zK ?_|refine zL ?_ _));exact BK1065.out) hb);have n3_:=zM (zQ (by repeat (first|(with_reducible first|exact HB.out|apply zD|apply zE|apply zF|refine below_set ?_ GE1065.out)|exact HB.out)) hb);have n4_:=zM (hbox);have n5_:=zM ((by rw [hg];exact (zR (by repeat (first|(with_reducible first|exact HB.out|apply zD|apply zE|apply zF|refine below_set ?_ GE1065.out)|exact HB.out))) : w.heap.size ≤ gb1069));have n6_:=zM ((by rw [hg];exact (zR (by repeat (first|(with_reducible first|exact HB.out|apply zD|apply zE|apply zF|refine below_set ?_ GE1065.out)|exact HB.out))) : w.heap.size ≤ gb1069));have n7_:=zM ((by rw [hg];exact Nat.ne_of_lt (blk_lt (g:=gb1065) (o := .cells #[.int .i64 t1062,.int .i64 t1063] 37 (0,0)) (by (with_reducible repeat (first|refine zJ ?_ _|refine zK ?_|refine zL ?_ _));exact BK1065.out)) : gb1065 ≠ gb1069));have n8_:=zM ((by rw [hg];exact Nat.ne_of_gt (blk_lt (g:=gb1065) (o := .cells #[.int .i64 t1062,.int .i64 t1063] 37 (0,0)) (by (with_reducible repeat (first|refine zJ ?_ _|refine zK ?_|refine zL ?_ _));exact BK1065.out)) : gb1069 ≠ gb1065));clear HO1059;clear HO1061;clear BK1065;clear HB;have HO1059:=n0_;have HO1061:=n1_;have BK1065:=n2_;have HB:=n3_;have BK1069:=n4_;have GW1069:=n5_;have GE1069:=n6_;have NB1065_1069:=n7_;have NB1069_1065:=n8_;clear n0_ n1_ n2_ n3_ n4_ n5_ n6_ n7_ n8_;clear hb hbox hg;have hnb53:=NB1069_1065.out;have hnc53:=NB1065_1069.out;have hcz54_0 : w52.cell? ⟨gb1069,0,none⟩ = some (.int .i64 0):=(blk_cell BK1069.out 0).trans rfl;have hcz54_1 : w52.cell? ⟨gb1069,1,none⟩ = some (.int .i64 0):=(blk_cell BK1069.out 1).trans rfl;have hfz54_0:=blk_frozen BK1069.out 0;have hfz54_1:=blk_frozen BK1069.out 1))
       (try simp only [Act.put,List.setIfInBounds_toArray,List.set_cons_zero,List.set_cons_succ])
       go_cut [164] (fun v164 wc => ∃ (kq : Nat) (x164_43 : Bool),v164 = .bool x164_43 ∧ Aside0 (laws_FnQuay.j4 kq t1055 t1056 t1057 t1064 x164_43 t1062 t1063 = some r) ∧ Aside0 (kq ≤ kj17) ∧ Aside0 (Kd.R k62 62 wc w.heap.size (fun _=>True) (.slice Ao46 t1056.length co46) t1056) ∧ Aside0 (Kd.R k37 37 wc w.heap.size (fun k_=>k_ ≠ gb1065 ∧ k_ ≠ gb1069) (.slice Ao47 t1057.length co47) t1057) ∧ Aside0 (wc.heap[gb1065]? = some (.cells #[.int .i64 t1062,.int .i64 t1063] 37 (0,0))) ∧ Aside0 (wc.heap[gb1069]? = some (.cells #[.int .i64 t1066,.int .i64 t1067] 37 (0,0))) ∧ Aside0 (Below w.heap.size w wc))
       case first =>
        have H:=HC44.out
        clear HC44
        by_cases c55 : (!(t1062 == t1066) || (!(t1063 == t1067))) = true
        ·rw [if_pos c55] at H
         have c55b0 : (!(t1062 == t1066) || (!(t1063 == t1067))) = true:=c55
         clear c55
         (first|rw [c55b0]|(simp only [i64_w,i32_w];rw [c55b0])|skip)
         have H':=zM H
         clear H
         have hnb56:=NB1065_1069.out
         have hnc56:=NB1069_1065.out
         have hcz57_0 : w52.cell? ⟨gb1065,0,none⟩ = some (.int .i64 t1062):=(blk_cell BK1065.out 0).trans rfl
         have hcz57_1 : w52.cell? ⟨gb1065,1,none⟩ = some (.int .i64 t1063):=(blk_cell BK1065.out 1).trans rfl
         have hfz57_0:=blk_frozen BK1065.out 0
         have hfz57_1:=blk_frozen BK1065.out 1
         have hcz58_0 : w52.cell? ⟨gb1069,0,none⟩ = some (.int .i64 0):=(blk_cell BK1069.out 0).trans rfl
         have hcz58_1 : w52.cell? ⟨gb1069,1,none⟩ = some (.int .i64 0):=(blk_cell BK1069.out 1).trans rfl
         have hfz58_0:=blk_frozen BK1069.out 0
         have hfz58_1:=blk_frozen BK1069.out 1
         go_wp2
         go_meet
         case rel=>exact ⟨_,(true),(by first|rfl|(simp;done)|(simp [*];done)),H',⟨by have:=HJ6.out;have:=HJ17.out;first|omega|exact Nat.le_refl _⟩,⟨by (with_reducible repeat (first|apply zA|apply zB|apply zC));exact Kd.R_mono (Kd.R_far (p:=⟨gb1069,1,none⟩) (Kd.R_far (p:=⟨gb1069,0,none⟩) (Kd.R_types HO1059.out BK1069.out (by decide)) (fun _ hk=>hk.2) (.int .i64 t1066)) (fun _ hk=>hk.2) (.int .i64 t1067)) (fun _ hk=>trivial)⟩,⟨by (with_reducible repeat (first|apply zA|apply zB|apply zC));exact Kd.R_mono (Kd.R_far (p:=⟨gb1069,1,none⟩) (Kd.R_far (p:=⟨gb1069,0,none⟩) (Kd.R_mono HO1061.out (fun k_ hk=>(⟨hk,hk.2⟩ : _ ∧ k_ ≠ gb1069))) (fun _ hk=>hk.2) (.int .i64 t1066)) (fun _ hk=>hk.2) (.int .i64 t1067)) (fun _ hk=>⟨hk.1.1.2,hk.1.2⟩)⟩,⟨by (with_reducible repeat (first|refine zJ ?_ _|refine zK ?_|refine zL ?_ _));refine blk_far ?_ NB1065_1069.out _;(with_reducible repeat (first|refine zJ ?_ _|refine zK ?_|refine zL ?_ _));refine blk_far ?_ NB1065_1069.out _;(with_reducible repeat (first|refine zJ ?_ _|refine zK ?_|refine zL ?_ _));exact BK1065.out⟩,⟨by (with_reducible repeat (first|refine zJ ?_ _|refine zK ?_|refine zL ?_ _));refine blk_put (cs := #[.int .i64 t1066,.int .i64 0]) ?_ 1 _ rfl;(with_reducible repeat (first|refine zJ ?_ _|refine zK ?_|refine zL ?_ _));refine blk_put (cs := #[.int .i64 0,.int .i64 0]) ?_ 0 _ rfl;(with_reducible repeat (first|refine zJ ?_ _|refine zK ?_|refine zL ?_ _));exact BK1069.out⟩,⟨by repeat (first|(with_reducible first|exact HB.out|apply zD|apply zE|apply zF|refine below_set ?_ GE1065.out|refine below_set ?_ GE1069.out)|exact HB.out)⟩⟩
        ·rw [if_neg c55] at H
         have c55b0 : (!(t1062 == t1066) || (!(t1063 == t1067))) = false:=by simpa using c55
         clear c55
         (first|rw [c55b0]|(simp only [i64_w,i32_w];rw [c55b0])|skip)
         have H':=zM H
         clear H
         have hnb59:=NB1065_1069.out
         have hnc59:=NB1069_1065.out
         have hcz60_0 : w52.cell? ⟨gb1065,0,none⟩ = some (.int .i64 t1062):=(blk_cell BK1065.out 0).trans rfl
         have hcz60_1 : w52.cell? ⟨gb1065,1,none⟩ = some (.int .i64 t1063):=(blk_cell BK1065.out 1).trans rfl
         have hfz60_0:=blk_frozen BK1065.out 0
         have hfz60_1:=blk_frozen BK1065.out 1
         have hcz61_0 : w52.cell? ⟨gb1069,0,none⟩ = some (.int .i64 0):=(blk_cell BK1069.out 0).trans rfl
         have hcz61_1 : w52.cell? ⟨gb1069,1,none⟩ = some (.int .i64 0):=(blk_cell BK1069.out 1).trans rfl
         have hfz61_0:=blk_frozen BK1069.out 0
         have hfz61_1:=blk_frozen BK1069.out 1
         go_wp2
         go_meet
         case rel=>exact ⟨_,((t1064 != t1068)),(by first|rfl|(simp;done)|(simp [*];done)),H',⟨by have:=HJ6.out;have:=HJ17.out;first|omega|exact Nat.le_refl _⟩,⟨by (with_reducible repeat (first|apply zA|apply zB|apply zC));exact Kd.R_mono (Kd.R_far (p:=⟨gb1069,1,none⟩) (Kd.R_far (p:=⟨gb1069,0,none⟩) (Kd.R_types HO1059.out BK1069.out (by decide)) (fun _ hk=>hk.2) (.int .i64 t1066)) (fun _ hk=>hk.2) (.int .i64 t1067)) (fun _ hk=>trivial)⟩,⟨by (with_reducible repeat (first|apply zA|apply zB|apply zC));exact Kd.R_mono (Kd.R_far (p:=⟨gb1069,1,none⟩) (Kd.R_far (p:=⟨gb1069,0,none⟩) (Kd.R_mono HO1061.out (fun k_ hk=>(⟨hk,hk.2⟩ : _ ∧ k_ ≠ gb1069))) (fun _ hk=>hk.2) (.int .i64 t1066)) (fun _ hk=>hk.2) (.int .i64 t1067)) (fun _ hk=>⟨hk.1.1.2,hk.1.2⟩)⟩,⟨by (with_reducible repeat (first|refine zJ ?_ _|refine zK ?_|refine zL ?_ _));refine blk_far ?_ NB1065_1069.out _;(with_reducible repeat (first|refine zJ ?_ _|refine zK ?_|refine zL ?_ _));refine blk_far ?_ NB1065_1069.out _;(with_reducible repeat (first|refine zJ ?_ _|refine zK ?_|refine zL ?_ _));exact BK1065.out⟩,⟨by (with_reducible repeat (first|refine zJ ?_ _|refine zK ?_|refine zL ?_ _));refine blk_put (cs := #[.int .i64 t1066,.int .i64 0]) ?_ 1 _ rfl;(with_reducible repeat (first|refine zJ ?_ _|refine zK ?_|refine zL ?_ _));refine blk_put (cs := #[.int .i64 0,.int .i64 0]) ?_ 0 _ rfl;(with_reducible repeat (first|refine zJ ?_ _|refine zK ?_|refine zL ?_ _));exact BK1069.out⟩,⟨by repeat (first|(with_reducible first|exact HB.out|apply zD|apply zE|apply zF|refine below_set ?_ GE1065.out|refine below_set ?_ GE1069.out)|exact HB.out)⟩⟩
       case rest =>
        clear HC44
        try clear c1
        try clear p1
        try clear q1
        try clear hx1
        try clear c2
        try clear p2
        try clear c3
        try clear c4
        try clear c5
        try clear p6
        try clear p10
        try clear q10
        try clear hx10
        try clear c19
        try clear c25
        try clear c26
        try clear c28
        try clear c28b0
        try clear c29
        try clear c30
        try clear c31
        try clear c31b0
        try clear c32
        try clear c32b0
        try clear c36
        try clear c37
        try clear c37b0
        try clear c37b1
        try clear c38
        try clear c38b0
        try clear c38b1
        try clear c39
        try clear c39b0
        try clear c40
        try clear c40b0
        try clear c48
        try clear c53
        try clear c55
        try clear c55b0
        try clear c56
        try clear c59
        try clear hcz50_0
        try clear hcz50_1
        try clear hcz54_0
        try clear hcz54_1
        try clear hcz57_0
        try clear hcz57_1
        try clear hcz58_0
        try clear hcz58_1
        try clear hcz60_0
        try clear hcz60_1
        try clear hcz61_0
        try clear hcz61_1
        try clear hfz50_0
        try clear hfz50_1
        try clear hfz54_0
        try clear hfz54_1
        try clear hfz57_0
        try clear hfz57_1
        try clear hfz58_0
        try clear hfz58_1
        try clear hfz60_0
        try clear hfz60_1
        try clear hfz61_0
        try clear hfz61_1
        try clear hx1051_0
        try clear hx1051_1
        try clear hx1052_0
        try clear hx1052_1
        try clear hx1053_0
        try clear hx1053_1
        try clear hx1053_2
        try clear hx1053_3
        try clear hx1054_0
        try clear hx1054_1
        try clear hx1054_2
        try clear hx1054_3
        try clear p1
        try clear p10
        try clear p1051
        try clear p1052
        try clear p1053
        try clear p1054
        try clear p2
        try clear p6
        try clear q1
        try clear q10
        try clear q1051
        try clear q1052
        try clear q1053
        try clear q1054
        obtain ⟨kq,x164_43,rfl,HA,HJ43,HO_18,HO_19,BK1065,BK1069,HB⟩:=hcut
        cases kq with
        | zero=>exact absurd HA.out (by simp [laws_FnQuay.j4])
        | succ kj43 =>
         have H:=HA.out
         clear HA
         simp only [laws_FnQuay.j4] at H
         by_cases c62 : x164_43 = true
         ·subst c62
          have H1 : (some false) = some r:=by rw [if_pos rfl] at H;exact H
          clear H
          have H:=H1
          clear H1
          obtain rfl:=Option.some.inj H
          go_wp2
          go_ret
          exact ⟨by first|rfl|(simp [errW_none,errW_some] <;> rfl)|(simp [*,errW_none,errW_some] <;> rfl),by repeat (first|(with_reducible first|exact HB.out|apply zD|apply zE|apply zF|refine below_set ?_ GE1065.out|refine below_set ?_ GE1069.out)|exact HB.out)⟩
         ·replace c62:=Bool.eq_false_iff.mpr c62
          subst c62
          have H1 : (if t1064 = true then ((some (([] : List (S37)) : List (S37))).bind fun y1070=>(if y1070.length + t1057.length < 8796093022208 then ((some (y1070 ++ t1057 : List (S37))).bind fun y1073=>((some (([(⟨t1062,t1063⟩ : S37)] : List (S37)) : List (S37))).bind fun y1076=>(if y1073.length + y1076.length < 8796093022208 then ((some (y1073 ++ y1076 : List (S37))).bind fun y1079=>(if 0 ≤ (y1079.length : Int) then (if (y1079.length : Int) ≤ (t1056.length : Int) then ((impl_IsPossiblePlan.f kj43 t1055 (t1056.take ((y1079.length : Int) : Int).toNat) y1079).bind fun t1086=>(some t1086)) else (none)) else (none))) else (none)))) else (none))) else (some (t1062 == 0 && (t1063 == 0)))) = some r:=by rw [if_neg (show ¬ (false = true) by decide)] at H;exact H
          clear H
          have H:=H1
          clear H1
          by_cases c63 : t1064 = true
          ·subst c63
           have H1 : ((some (([] : List (S37)) : List (S37))).bind fun y1070=>(if y1070.length + t1057.length < 8796093022208 then ((some (y1070 ++ t1057 : List (S37))).bind fun y1073=>((some (([(⟨t1062,t1063⟩ : S37)] : List (S37)) : List (S37))).bind fun y1076=>(if y1073.length + y1076.length < 8796093022208 then ((some (y1073 ++ y1076 : List (S37))).bind fun y1079=>(if 0 ≤ (y1079.length : Int) then (if (y1079.length : Int) ≤ (t1056.length : Int) then ((impl_IsPossiblePlan.f kj43 t1055 (t1056.take ((y1079.length : Int) : Int).toNat) y1079).bind fun t1086=>(some t1086)) else (none)) else (none))) else (none)))) else (none))) = some r:=by rw [if_pos rfl] at H;exact H
           clear H
           have H:=H1
           clear H1
           obtain ⟨y1070,hy1070⟩ : ∃ y_ : List (S37),y_ = (([] : List (S37))):=⟨_,rfl⟩
           replace H : (if y1070.length + t1057.length < 8796093022208 then ((some (y1070 ++ t1057 : List (S37))).bind fun y1073=>((some (([(⟨t1062,t1063⟩ : S37)] : List (S37)) : List (S37))).bind fun y1076=>(if y1073.length + y1076.length < 8796093022208 then ((some (y1073 ++ y1076 : List (S37))).bind fun y1079=>(if 0 ≤ (y1079.length : Int) then (if (y1079.length : Int) ≤ (t1056.length : Int) then ((impl_IsPossiblePlan.f kj43 t1055 (t1056.take ((y1079.length : Int) : Int).toNat) y1079).bind fun t1086=>(some t1086)) else (none)) else (none))) else (none)))) else (none)) = some r:=by first|(rw [hy1070];with_reducible exact H)|(have H2_:=(Option.bind_some _ _).symm.trans H;rw [hy1070];with_reducible exact H2_)|(have H2_:=(Option.bind_some _ _).symm.trans H;with_reducible exact H2_)|with_reducible exact H|(rw [hy1070];exact H)|exact H
           have Ny1070:=zM hy1070
           clear hy1070
           by_cases c64 : y1070.length + t1057.length < 8796093022208
           ·rw [if_pos c64] at H
            have LMc64:=zM c64
            clear c64
            obtain ⟨y1073,hy1073⟩ : ∃ y_ : List (S37),y_ = (y1070 ++ t1057):=⟨_,rfl⟩
            replace H : ((some (([(⟨t1062,t1063⟩ : S37)] : List (S37)) : List (S37))).bind fun y1076=>(if y1073.length + y1076.length < 8796093022208 then ((some (y1073 ++ y1076 : List (S37))).bind fun y1079=>(if 0 ≤ (y1079.length : Int) then (if (y1079.length : Int) ≤ (t1056.length : Int) then ((impl_IsPossiblePlan.f kj43 t1055 (t1056.take ((y1079.length : Int) : Int).toNat) y1079).bind fun t1086=>(some t1086)) else (none)) else (none))) else (none))) = some r:=by first|(rw [hy1073];with_reducible exact H)|(have H2_:=(Option.bind_some _ _).symm.trans H;rw [hy1073];with_reducible exact H2_)|(have H2_:=(Option.bind_some _ _).symm.trans H;with_reducible exact H2_)|with_reducible exact H|(rw [hy1073];exact H)|exact H
            have Ny1073:=zM hy1073
            clear hy1073
            obtain ⟨y1076,hy1076⟩ : ∃ y_ : List (S37),y_ = (([(⟨t1062,t1063⟩ : S37)] : List (S37))):=⟨_,rfl⟩
            replace H : (if y1073.length + y1076.length < 8796093022208 then ((some (y1073 ++ y1076 : List (S37))).bind fun y1079=>(if 0 ≤ (y1079.length : Int) then (if (y1079.length : Int) ≤ (t1056.length : Int) then ((impl_IsPossiblePlan.f kj43 t1055 (t1056.take ((y1079.length : Int) : Int).toNat) y1079).bind fun t1086=>(some t1086)) else (none)) else (none))) else (none)) = some r:=by first|(rw [hy1076];with_reducible exact H)|(have H2_:=(Option.bind_some _ _).symm.trans H;rw [hy1076];with_reducible exact H2_)|(have H2_:=(Option.bind_some _ _).symm.trans H;with_reducible exact H2_)|with_reducible exact H|(rw [hy1076];exact H)|exact H
            have Ny1076:=zM hy1076
            clear hy1076
            by_cases c65 : y1073.length + y1076.length < 8796093022208
            ·rw [if_pos c65] at H
             have LMc65:=zM c65
             clear c65
             obtain ⟨y1079,hy1079⟩ : ∃ y_ : List (S37),y_ = (y1073 ++ y1076):=⟨_,rfl⟩
             replace H : (if 0 ≤ (y1079.length : Int) then (if (y1079.length : Int) ≤ (t1056.length : Int) then ((impl_IsPossiblePlan.f kj43 t1055 (t1056.take ((y1079.length : Int) : Int).toNat) y1079).bind fun t1086=>(some t1086)) else (none)) else (none)) = some r:=by first|(rw [hy1079];with_reducible exact H)|(have H2_:=(Option.bind_some _ _).symm.trans H;rw [hy1079];with_reducible exact H2_)|(have H2_:=(Option.bind_some _ _).symm.trans H;with_reducible exact H2_)|with_reducible exact H|(rw [hy1079];exact H)|exact H
             have Ny1079:=zM hy1079
             clear hy1079
             by_cases c66 : 0 ≤ (y1079.length : Int)
             ·rw [if_pos c66] at H
              have c66b0:=eq_true c66
              have c66b1 : decide (0 ≤ (y1079.length : Int)) = true:=decide_eq_true c66
              clear c66
              by_cases c67 : (y1079.length : Int) ≤ (t1056.length : Int)
              ·rw [if_pos c67] at H
               have c67b0:=eq_true c67
               have c67b1 : decide ((y1079.length : Int) ≤ (t1056.length : Int)) = true:=decide_eq_true c67
               clear c67
               obtain ⟨y1082,hy1082⟩ : ∃ y_ : List (S62),y_ = (t1056.take ((y1079.length : Int) : Int).toNat):=⟨_,rfl⟩
               replace H : ((impl_IsPossiblePlan.f kj43 t1055 y1082 y1079).bind fun t1086=>(some t1086)) = some r:=by first|(rw [hy1082];with_reducible exact H)|(have H2_:=(Option.bind_some _ _).symm.trans H;rw [hy1082];with_reducible exact H2_)|(have H2_:=(Option.bind_some _ _).symm.trans H;with_reducible exact H2_)|with_reducible exact H|(rw [hy1082];exact H)|exact H
               have Ny1082:=zM hy1082
               clear hy1082
               replace H:=Option.bind_eq_some_iff.mp H
               obtain ⟨t1086,A680,H⟩:=H
               replace H : (some t1086) = some r:=H
               have A68:=zM A680
               clear A680
               obtain rfl:=Option.some.inj H
               try go_wp2
               have n0_:=zM (zC HO_18.out)
               have n1_:=zM (zC HO_19.out)
               have n2_:=zM (zK BK1065.out)
               have n3_:=zM (zK BK1069.out)
               have n4_:=zM (zF HB.out)
               clear HO_18
               clear HO_19
               clear BK1065
               clear BK1069
               clear HB
               have HO_18:=n0_
               have HO_19:=n1_
               have BK1065:=n2_
               have BK1069:=n3_
               have HB:=n4_
               clear n0_ n1_ n2_ n3_ n4_
               refine start_ (n:=7) (S:=fun w'=>w'.cell? ⟨gb1065,0,none⟩ = some (.int .i64 t1062) ∧ w'.cell? ⟨gb1065,1,none⟩ = some (.int .i64 t1063)) (ds:=[]) #[false,false,false,false,false,false,false] (by kernel_rfl) rfl rfl ⟨(blk_cell BK1065.out 0).trans rfl,(blk_cell BK1065.out 1).trans rfl⟩ (fun hHeld=>?_)
               generalize wc.drew = w69 at HO_18 HO_19 BK1065 BK1069 HB hHeld ⊢
               refine pure_ (i:=1) (N:=some 171) (v:=?_) (a':=?_) #[false,true,false,false,false,false,false] rfl rfl (by kernel_rfl) (fun _ _ _ h=>h) (Or.inl ⟨by rfl,?_⟩) ?_ ?_
               rotate_left
               ·intro w'
                go_simp
                with_reducible rfl
               rotate_left
               ·simp only [Act.put,List.setIfInBounds_toArray,List.set_cons_zero,List.set_cons_succ,i64_w,i32_w]
                rfl
               refine take_ (i:=3) (N:=some 173) (v:=?_) (a':=?_) #[false,true,false,true,false,false,false] rfl rfl (by kernel_rfl) (fun _ _ _ h=>h) (Or.inl ⟨by rfl,?_⟩) hHeld ?_ ?_
               rotate_left
               ·rintro w' ⟨s0,s1⟩
                go_simp
                with_reducible rfl
               rotate_left
               ·simp only [Act.put,List.setIfInBounds_toArray,List.set_cons_zero,List.set_cons_succ,i64_w,i32_w]
                rfl
               refine join_ (σ:=Value × Value × Value) 2 #[true,true,true,true,true,false,false] (fun s_=>[(170,s_.1),(172,s_.2.1),(174,s_.2.2)]) (fun s_ w'=>(w'.cell? ⟨gb1065,0,none⟩ = some (.int .i64 t1062) ∧ w'.cell? ⟨gb1065,1,none⟩ = some (.int .i64 t1063)) ∧ (Kd.R k37 37 w' w.heap.size (fun k_=>some k_ ≠ (s_.2.2 : Value).ownBlock ∧ some k_ ≠ (.slice Ao47 t1057.length co47 : Value).ownBlock ∧ k_ ≠ gb1065 ∧ k_ ≠ gb1069) s_.2.1 y1073) ∧ (Kd.R k37 37 w' w.heap.size (fun k_=>some k_ ≠ (s_.2.1 : Value).ownBlock ∧ some k_ ≠ (.slice Ao47 t1057.length co47 : Value).ownBlock ∧ k_ ≠ gb1065 ∧ k_ ≠ gb1069) s_.2.2 y1076) ∧ (Kd.R k62 62 w' w.heap.size (fun _=>True) (.slice Ao46 t1056.length co46) t1056) ∧ (Kd.R k37 37 w' w.heap.size (fun k_=>some k_ ≠ (s_.2.1 : Value).ownBlock ∧ some k_ ≠ (s_.2.2 : Value).ownBlock ∧ k_ ≠ gb1065 ∧ k_ ≠ gb1069) (.slice Ao47 t1057.length co47) t1057) ∧ (w'.heap[gb1065]? = some (.cells #[.int .i64 t1062,.int .i64 t1063] 37 (0,0))) ∧ (w'.heap[gb1069]? = some (.cells #[.int .i64 t1066,.int .i64 t1067] 37 (0,0))) ∧ (Below w.heap.size w w')) ?_ ?_
               rotate_left
               ·intro hCont
                refine two_ (i:=0) (j:=4) (Ni:=some 170) (Nj:=some 174) #[true,true,false,true,false,false,false] #[false,true,false,true,true,false,false] rfl rfl rfl rfl (by kernel_rfl) (by decide) (by decide) (fun K hK=>?_) (fun K hK=>?_)
                ·skip
                 refine Kd.R_lit_step k37 _ 37 ?hg (N:=170) ?hd (xs:=([] : List (S37))) (inner:=[]) (ok:=fun _=>True) (okp:=fun _=>True) ?hr ?hp (fun _ hk=>hk) trivial (Below.refl _ _) (Nat.le_refl _) (by simp) ?_;(case hd=>rfl);(case hg=>rfl);(case hr=>first|(go_simp;done)|(go_simp;rfl));(case hp=>exact (Reps.none _ _))
                 intro v1071 w70 ho71 hb hg_ hnew_
                 clear hg_ hnew_
                 (first|rw [← Ny1070.out] at ho71|(simp only [Int.reduceToNat] at ho71;rw [← Ny1070.out] at ho71))
                 have n0_:=zM (zP (by (with_reducible repeat (first|apply zA|apply zB|apply zC));exact HO_18.out) hb)
                 have n1_:=zM (Kd.R_elder' (by (with_reducible repeat (first|apply zA|apply zB|apply zC));exact HO_19.out) (Kd.R_base ho71) hb)
                 have n2_:=zM (Kd.R_lower (Kd.R_newB (Kd.R_newB (Kd.R_new' ho71 (Kd.R_lt (by (with_reducible repeat (first|apply zA|apply zB|apply zC));exact HO_19.out))) (g:=gb1065) (o := .cells #[.int .i64 t1062,.int .i64 t1063] 37 (0,0)) (by (with_reducible repeat (first|refine zJ ?_ _|refine zK ?_|refine zL ?_ _));exact BK1065.out)) (g:=gb1069) (o := .cells #[.int .i64 t1066,.int .i64 t1067] 37 (0,0)) (by (with_reducible repeat (first|refine zJ ?_ _|refine zK ?_|refine zL ?_ _));exact BK1069.out)) (zR (by repeat (first|(with_reducible first|exact HB.out|apply zD|apply zE|apply zF|refine below_set ?_ GE1065.out|refine below_set ?_ GE1069.out)|exact HB.out))))
                 have n3_:=zM (blk_below (g:=gb1065) (o := .cells #[.int .i64 t1062,.int .i64 t1063] 37 (0,0)) (by (with_reducible repeat (first|refine zJ ?_ _|refine zK ?_|refine zL ?_ _));exact BK1065.out) hb)
                 have n4_:=zM (blk_below (g:=gb1069) (o := .cells #[.int .i64 t1066,.int .i64 t1067] 37 (0,0)) (by (with_reducible repeat (first|refine zJ ?_ _|refine zK ?_|refine zL ?_ _));exact BK1069.out) hb)
                 have n5_:=zM (zQ (by repeat (first|(with_reducible first|exact HB.out|apply zD|apply zE|apply zF|refine below_set ?_ GE1065.out|refine below_set ?_ GE1069.out)|exact HB.out)) hb)
                 clear HO_18
                 clear HO_19
                 clear BK1065
                 clear BK1069
                 clear HB
                 have HO_18:=n0_
                 have HO_19:=n1_
                 have HO1072:=n2_
                 have BK1065:=n3_
                 have BK1069:=n4_
                 have HB:=n5_
                 clear n0_ n1_ n2_ n3_ n4_ n5_
                 clear hb ho71
                 refine hK.out _ _ ⟨(blk_cell BK1065.out 0).trans rfl,(blk_cell BK1065.out 1).trans rfl⟩ (fun hHeld=>?_)
                 clear hK K
                 refine norm_ (a':=?_) ?_ ?_
                 rotate_left
                 ·show Act.put _ (some 170) _ = _
                  simp only [Act.put,List.setIfInBounds_toArray,List.set_cons_zero,List.set_cons_succ,i64_w,i32_w]
                  rfl
                 refine two_ (i:=2) (j:=4) (Ni:=some 172) (Nj:=some 174) #[true,true,true,true,false,false,false] #[true,true,false,true,true,false,false] rfl rfl rfl rfl (by kernel_rfl) (by decide) (by decide) (fun K hK=>?_) (fun K hK=>?_)
                 ·skip
                  refine Kd.R_append_rows_step k37 (w0:=w) w.heap.size (by rfl) (.tmp 170) (.tmp 171) 29 37 (.agg #[(.int .i64 0),(.int .i64 0)]) 16 rfl Try.underlying29 info37 rfl (by decide) (by omega) v1071 y1070 t1057 _ _ _ (fun k_=>some k_ ≠ (.slice Ao47 t1057.length co47 : Value).ownBlock ∧ k_ ≠ gb1065 ∧ k_ ≠ gb1069) (fun _=>False) rfl rfl ?aO ?aR (fun _ _ h=>h) (fun _ h=>h.elim) ?aF ?aB ?aS ?aL ?_
                  (case aR=>repeat (first|exact (zN HO_19.out).2.2|(with_reducible refine zG ?_ _)|(with_reducible refine zH ?_ _)|(with_reducible refine zI ?_)))
                  (case aB=>exact (by repeat (first|(with_reducible first|exact HB.out|apply zD|apply zE|apply zF|refine below_set ?_ GE1065.out|refine below_set ?_ GE1069.out)|exact HB.out)))
                  (case aF=>exact (fun k_ hk=>⟨Kd.fresh' (Kd.R_lt (by (with_reducible repeat (first|apply zA|apply zB|apply zC));exact HO_19.out)) k_ hk,Kd.freshB (g:=gb1065) (o := .cells #[.int .i64 t1062,.int .i64 t1063] 37 (0,0)) (by (with_reducible repeat (first|refine zJ ?_ _|refine zK ?_|refine zL ?_ _));exact BK1065.out) k_ hk,Kd.freshB (g:=gb1069) (o := .cells #[.int .i64 t1066,.int .i64 t1067] 37 (0,0)) (by (with_reducible repeat (first|refine zJ ?_ _|refine zK ?_|refine zL ?_ _));exact BK1069.out) k_ hk⟩))
                  (case aO=>exact (by (with_reducible repeat (first|apply zA|apply zB|apply zC));exact Kd.R_mono HO1072.out (fun _ hk=>⟨hk.1.1.2,⟨hk.1.2,hk.2⟩⟩)))
                  (case aS=>exact (zR (by repeat (first|(with_reducible first|exact HB.out|apply zD|apply zE|apply zF|refine below_set ?_ GE1065.out|refine below_set ?_ GE1069.out)|exact HB.out))))
                  (case aL=>have:=LMc64.out;omega)
                  intro v1074 w72 ho hb hg hat
                  rw [← Ny1073.out] at ho
                  have n0_:=zM (Kd.R_over' (by (with_reducible repeat (first|apply zA|apply zB|apply zC));exact HO_18.out) (Kd.R_typed (by (with_reducible repeat (first|apply zA|apply zB|apply zC));exact HO1072.out)) (by decide) hg)
                  have n1_:=zM (Kd.R_after (ok:=(fun k_=>k_ ≠ gb1065 ∧ k_ ≠ gb1069)) (by (with_reducible repeat (first|apply zA|apply zB|apply zC));exact HO_19.out) hg hat)
                  have n2_:=zM (blk_grown (g:=gb1065) (o := .cells #[.int .i64 t1062,.int .i64 t1063] 37 (0,0)) (by (with_reducible repeat (first|refine zJ ?_ _|refine zK ?_|refine zL ?_ _));exact BK1065.out) hg (Kd.R_away HO1072.out (fun _ hk=>hk.1.2)))
                  have n3_:=zM (blk_grown (g:=gb1069) (o := .cells #[.int .i64 t1066,.int .i64 t1067] 37 (0,0)) (by (with_reducible repeat (first|refine zJ ?_ _|refine zK ?_|refine zL ?_ _));exact BK1069.out) hg (Kd.R_away HO1072.out (fun _ hk=>hk.2)))
                  have n4_:=zM (hb)
                  have n5_:=zM (ho)
                  clear HO_18
                  clear HO_19
                  clear BK1065
                  clear BK1069
                  clear HB
                  clear HO1072
                  have HO_18:=n0_
                  have HO_19:=n1_
                  have BK1065:=n2_
                  have BK1069:=n3_
                  have HB:=n4_
                  have HO1075:=n5_
                  clear n0_ n1_ n2_ n3_ n4_ n5_
                  clear ho hb hg hat
                  refine hK.out _ _ ⟨(blk_cell BK1065.out 0).trans rfl,(blk_cell BK1065.out 1).trans rfl⟩ (fun hHeld=>?_)
                  clear hK K
                  refine norm_ (a':=?_) ?_ ?_
                  rotate_left
                  ·show Act.put _ (some 172) _ = _
                   simp only [Act.put,List.setIfInBounds_toArray,List.set_cons_zero,List.set_cons_succ,i64_w,i32_w]
                   rfl
                  refine one_ (i:=4) (N:=some 174) #[true,true,true,true,true,false,false] rfl rfl (by kernel_rfl) (by decide) (fun K hK=>?_)
                  refine Kd.R_lit_step k37 _ 37 ?hg (N:=174) ?hd (xs:=([(⟨t1062,t1063⟩ : S37)] : List (S37))) (inner:=[.int .i64 t1062,.int .i64 t1063]) (ok:=fun _=>True) (okp:=fun _=>True) ?hr ?hp (fun _ hk=>hk) trivial (Below.refl _ _) (Nat.le_refl _) (by simp) ?_;(case hd=>rfl);(case hg=>rfl);(case hr=>first|(go_simp;done)|(go_simp;rfl));(case hp=>exact (Reps.c2 (show Kd.M k37 _ _ _ (⟨t1062,t1063⟩ : S37) [.int .i64 t1062,.int .i64 t1063] from (k37_mkM _ _ _ (⟨t1062,t1063⟩ : S37) )) (Reps.none _ _)))
                  intro v1077 w73 ho74 hb hg_ hnew_
                  clear hg_ hnew_
                  (first|rw [← Ny1076.out] at ho74|(simp only [Int.reduceToNat] at ho74;rw [← Ny1076.out] at ho74))
                  have n0_:=zM (zP (by (with_reducible repeat (first|apply zA|apply zB|apply zC));exact HO_18.out) hb)
                  have n1_:=zM (Kd.R_elder' (by (with_reducible repeat (first|apply zA|apply zB|apply zC));exact HO_19.out) (Kd.R_base ho74) hb)
                  have n2_:=zM (Kd.R_elder' (by (with_reducible repeat (first|apply zA|apply zB|apply zC));exact HO1075.out) (Kd.R_base ho74) hb)
                  have n3_:=zM (Kd.R_lower (Kd.R_newB (Kd.R_newB (Kd.R_new' (Kd.R_new' ho74 (Kd.R_lt (by (with_reducible repeat (first|apply zA|apply zB|apply zC));exact HO_19.out))) (Kd.R_lt (by (with_reducible repeat (first|apply zA|apply zB|apply zC));exact HO1075.out))) (g:=gb1065) (o := .cells #[.int .i64 t1062,.int .i64 t1063] 37 (0,0)) (by (with_reducible repeat (first|refine zJ ?_ _|refine zK ?_|refine zL ?_ _));exact BK1065.out)) (g:=gb1069) (o := .cells #[.int .i64 t1066,.int .i64 t1067] 37 (0,0)) (by (with_reducible repeat (first|refine zJ ?_ _|refine zK ?_|refine zL ?_ _));exact BK1069.out)) (zR (by repeat (first|(with_reducible first|exact HB.out|apply zD|apply zE|apply zF|refine below_set ?_ GE1065.out|refine below_set ?_ GE1069.out)|exact HB.out))))
                  have n4_:=zM (blk_below (g:=gb1065) (o := .cells #[.int .i64 t1062,.int .i64 t1063] 37 (0,0)) (by (with_reducible repeat (first|refine zJ ?_ _|refine zK ?_|refine zL ?_ _));exact BK1065.out) hb)
                  have n5_:=zM (blk_below (g:=gb1069) (o := .cells #[.int .i64 t1066,.int .i64 t1067] 37 (0,0)) (by (with_reducible repeat (first|refine zJ ?_ _|refine zK ?_|refine zL ?_ _));exact BK1069.out) hb)
                  have n6_:=zM (zQ (by repeat (first|(with_reducible first|exact HB.out|apply zD|apply zE|apply zF|refine below_set ?_ GE1065.out|refine below_set ?_ GE1069.out)|exact HB.out)) hb)
                  clear HO_18
                  clear HO_19
                  clear HO1075
                  clear BK1065
                  clear BK1069
                  clear HB
                  have HO_18:=n0_
                  have HO_19:=n1_
                  have HO1075:=n2_
                  have HO1078:=n3_
                  have BK1065:=n4_
                  have BK1069:=n5_
                  have HB:=n6_
                  clear n0_ n1_ n2_ n3_ n4_ n5_ n6_
                  clear hb ho74
                  refine hK.out _ _ ⟨(blk_cell BK1065.out 0).trans rfl,(blk_cell BK1065.out 1).trans rfl⟩ (fun hHeld=>?_)
                  clear hK K
                  refine norm_ (a':=?_) ?_ ?_
                  rotate_left
                  ·show Act.put _ (some 174) _ = _
                   simp only [Act.put,List.setIfInBounds_toArray,List.set_cons_zero,List.set_cons_succ,i64_w,i32_w]
                   rfl
                  exact norm_ (by simp only [putAll,Act.put,List.setIfInBounds_toArray,List.set_cons_zero,List.set_cons_succ]) (hCont (v1071,v1074,v1077) _ ⟨hHeld,(by (with_reducible repeat (first|apply zA|apply zB|apply zC));exact Kd.R_mono HO1075.out (fun _ hk=>⟨hk.2,⟨hk.1.1,⟨hk.1.2.1,hk.1.2.2⟩⟩⟩)),(by (with_reducible repeat (first|apply zA|apply zB|apply zC));exact Kd.R_mono HO1078.out (fun _ hk=>⟨hk.1.1.2,⟨hk.1.1.1.2,⟨hk.1.2,hk.2⟩⟩⟩)),(by (with_reducible repeat (first|apply zA|apply zB|apply zC));exact HO_18.out),(by (with_reducible repeat (first|apply zA|apply zB|apply zC));exact Kd.R_mono HO_19.out (fun _ hk=>⟨hk.1.2,⟨hk.2,⟨hk.1.1.1,hk.1.1.2⟩⟩⟩)),(by (with_reducible repeat (first|refine zJ ?_ _|refine zK ?_|refine zL ?_ _));exact BK1065.out),(by (with_reducible repeat (first|refine zJ ?_ _|refine zK ?_|refine zL ?_ _));exact BK1069.out),(by repeat (first|(with_reducible first|exact HB.out|apply zD|apply zE|apply zF|refine below_set ?_ GE1065.out|refine below_set ?_ GE1069.out)|exact HB.out))⟩)
                 ·skip
                  refine Kd.R_lit_step k37 _ 37 ?hg (N:=174) ?hd (xs:=([(⟨t1062,t1063⟩ : S37)] : List (S37))) (inner:=[.int .i64 t1062,.int .i64 t1063]) (ok:=fun _=>True) (okp:=fun _=>True) ?hr ?hp (fun _ hk=>hk) trivial (Below.refl _ _) (Nat.le_refl _) (by simp) ?_;(case hd=>rfl);(case hg=>rfl);(case hr=>first|(go_simp;done)|(go_simp;rfl));(case hp=>exact (Reps.c2 (show Kd.M k37 _ _ _ (⟨t1062,t1063⟩ : S37) [.int .i64 t1062,.int .i64 t1063] from (k37_mkM _ _ _ (⟨t1062,t1063⟩ : S37) )) (Reps.none _ _)))
                  intro v1077 w72 ho73 hb hg_ hnew_
                  clear hg_ hnew_
                  (first|rw [← Ny1076.out] at ho73|(simp only [Int.reduceToNat] at ho73;rw [← Ny1076.out] at ho73))
                  have n0_:=zM (zP (by (with_reducible repeat (first|apply zA|apply zB|apply zC));exact HO_18.out) hb)
                  have n1_:=zM (Kd.R_elder' (by (with_reducible repeat (first|apply zA|apply zB|apply zC));exact HO_19.out) (Kd.R_base ho73) hb)
                  have n2_:=zM (Kd.R_elder' (by (with_reducible repeat (first|apply zA|apply zB|apply zC));exact HO1072.out) (Kd.R_base ho73) hb)
                  have n3_:=zM (Kd.R_lower (Kd.R_newB (Kd.R_newB (Kd.R_new' (Kd.R_new' ho73 (Kd.R_lt (by (with_reducible repeat (first|apply zA|apply zB|apply zC));exact HO_19.out))) (Kd.R_lt (by (with_reducible repeat (first|apply zA|apply zB|apply zC));exact HO1072.out))) (g:=gb1065) (o := .cells #[.int .i64 t1062,.int .i64 t1063] 37 (0,0)) (by (with_reducible repeat (first|refine zJ ?_ _|refine zK ?_|refine zL ?_ _));exact BK1065.out)) (g:=gb1069) (o := .cells #[.int .i64 t1066,.int .i64 t1067] 37 (0,0)) (by (with_reducible repeat (first|refine zJ ?_ _|refine zK ?_|refine zL ?_ _));exact BK1069.out)) (zR (by repeat (first|(with_reducible first|exact HB.out|apply zD|apply zE|apply zF|refine below_set ?_ GE1065.out|refine below_set ?_ GE1069.out)|exact HB.out))))
                  have n4_:=zM (blk_below (g:=gb1065) (o := .cells #[.int .i64 t1062,.int .i64 t1063] 37 (0,0)) (by (with_reducible repeat (first|refine zJ ?_ _|refine zK ?_|refine zL ?_ _));exact BK1065.out) hb)
                  have n5_:=zM (blk_below (g:=gb1069) (o := .cells #[.int .i64 t1066,.int .i64 t1067] 37 (0,0)) (by (with_reducible repeat (first|refine zJ ?_ _|refine zK ?_|refine zL ?_ _));exact BK1069.out) hb)
                  have n6_:=zM (zQ (by repeat (first|(with_reducible first|exact HB.out|apply zD|apply zE|apply zF|refine below_set ?_ GE1065.out|refine below_set ?_ GE1069.out)|exact HB.out)) hb)
                  clear HO_18
                  clear HO_19
                  clear HO1072
                  clear BK1065
                  clear BK1069
                  clear HB
                  have HO_18:=n0_
                  have HO_19:=n1_
                  have HO1072:=n2_
                  have HO1078:=n3_
                  have BK1065:=n4_
                  have BK1069:=n5_
                  have HB:=n6_
                  clear n0_ n1_ n2_ n3_ n4_ n5_ n6_
                  clear hb ho73
                  refine hK.out _ _ ⟨(blk_cell BK1065.out 0).trans rfl,(blk_cell BK1065.out 1).trans rfl⟩ (fun hHeld=>?_)
                  clear hK K
                  refine norm_ (a':=?_) ?_ ?_
                  rotate_left
                  ·show Act.put _ (some 174) _ = _
                   simp only [Act.put,List.setIfInBounds_toArray,List.set_cons_zero,List.set_cons_succ,i64_w,i32_w]
                   rfl
                  refine one_ (i:=2) (N:=some 172) #[true,true,true,true,true,false,false] rfl rfl (by kernel_rfl) (by decide) (fun K hK=>?_)
                  refine Kd.R_append_rows_step k37 (w0:=w) w.heap.size (by rfl) (.tmp 170) (.tmp 171) 29 37 (.agg #[(.int .i64 0),(.int .i64 0)]) 16 rfl Try.underlying29 info37 rfl (by decide) (by omega) v1071 y1070 t1057 _ _ _ (fun k_=>some k_ ≠ (.slice Ao47 t1057.length co47 : Value).ownBlock ∧ some k_ ≠ (v1077 : Value).ownBlock ∧ k_ ≠ gb1065 ∧ k_ ≠ gb1069) (fun _=>False) rfl rfl ?aO ?aR (fun _ _ h=>h) (fun _ h=>h.elim) ?aF ?aB ?aS ?aL ?_
                  (case aR=>repeat (first|exact (zN HO_19.out).2.2|(with_reducible refine zG ?_ _)|(with_reducible refine zH ?_ _)|(with_reducible refine zI ?_)))
                  (case aB=>exact (by repeat (first|(with_reducible first|exact HB.out|apply zD|apply zE|apply zF|refine below_set ?_ GE1065.out|refine below_set ?_ GE1069.out)|exact HB.out)))
                  (case aF=>exact (fun k_ hk=>⟨Kd.fresh' (Kd.R_lt (by (with_reducible repeat (first|apply zA|apply zB|apply zC));exact HO_19.out)) k_ hk,Kd.fresh' (Kd.R_lt (by (with_reducible repeat (first|apply zA|apply zB|apply zC));exact HO1078.out)) k_ hk,Kd.freshB (g:=gb1065) (o := .cells #[.int .i64 t1062,.int .i64 t1063] 37 (0,0)) (by (with_reducible repeat (first|refine zJ ?_ _|refine zK ?_|refine zL ?_ _));exact BK1065.out) k_ hk,Kd.freshB (g:=gb1069) (o := .cells #[.int .i64 t1066,.int .i64 t1067] 37 (0,0)) (by (with_reducible repeat (first|refine zJ ?_ _|refine zK ?_|refine zL ?_ _));exact BK1069.out) k_ hk⟩))
                  (case aO=>exact (by (with_reducible repeat (first|apply zA|apply zB|apply zC));exact Kd.R_mono HO1072.out (fun _ hk=>⟨hk.1.1.1.2,⟨hk.2,⟨hk.1.1.2,hk.1.2⟩⟩⟩)))
                  (case aS=>exact (zR (by repeat (first|(with_reducible first|exact HB.out|apply zD|apply zE|apply zF|refine below_set ?_ GE1065.out|refine below_set ?_ GE1069.out)|exact HB.out))))
                  (case aL=>have:=LMc64.out;omega)
                  intro v1074 w74 ho hb hg hat
                  rw [← Ny1073.out] at ho
                  have n0_:=zM (Kd.R_over' (by (with_reducible repeat (first|apply zA|apply zB|apply zC));exact HO_18.out) (Kd.R_typed (by (with_reducible repeat (first|apply zA|apply zB|apply zC));exact HO1072.out)) (by decide) hg)
                  have n1_:=zM (Kd.R_after (ok:=(fun k_=>some k_ ≠ (v1077 : Value).ownBlock ∧ k_ ≠ gb1065 ∧ k_ ≠ gb1069)) (by (with_reducible repeat (first|apply zA|apply zB|apply zC));exact Kd.R_mono HO_19.out (fun _ hk=>⟨⟨hk.2,⟨hk.1.1.1,hk.1.1.2⟩⟩,hk.1.2⟩)) hg hat)
                  have n2_:=zM (blk_grown (g:=gb1065) (o := .cells #[.int .i64 t1062,.int .i64 t1063] 37 (0,0)) (by (with_reducible repeat (first|refine zJ ?_ _|refine zK ?_|refine zL ?_ _));exact BK1065.out) hg (Kd.R_away HO1072.out (fun _ hk=>hk.1.1.2)))
                  have n3_:=zM (blk_grown (g:=gb1069) (o := .cells #[.int .i64 t1066,.int .i64 t1067] 37 (0,0)) (by (with_reducible repeat (first|refine zJ ?_ _|refine zK ?_|refine zL ?_ _));exact BK1069.out) hg (Kd.R_away HO1072.out (fun _ hk=>hk.1.2)))
                  have n4_:=zM (Kd.R_after (ok:=(fun k_=>some k_ ≠ (.slice Ao47 t1057.length co47 : Value).ownBlock ∧ k_ ≠ gb1065 ∧ k_ ≠ gb1069)) (by (with_reducible repeat (first|apply zA|apply zB|apply zC));exact Kd.R_mono HO1078.out (fun _ hk=>⟨⟨hk.1.1.1.2,⟨hk.1.2,hk.2⟩⟩,hk.1.1.2⟩)) hg hat)
                  have n5_:=zM (hb)
                  have n6_:=zM (ho)
                  clear HO_18
                  clear HO_19
                  clear BK1065
                  clear BK1069
                  clear HO1078
                  clear HB
                  clear HO1072
                  have HO_18:=n0_
                  have HO_19:=n1_
                  have BK1065:=n2_
                  have BK1069:=n3_
                  have HO1078:=n4_
                  have HB:=n5_
                  have HO1075:=n6_
                  clear n0_ n1_ n2_ n3_ n4_ n5_ n6_
                  clear ho hb hg hat
                  refine hK.out _ _ ⟨(blk_cell BK1065.out 0).trans rfl,(blk_cell BK1065.out 1).trans rfl⟩ (fun hHeld=>?_)
                  clear hK K
                  refine norm_ (a':=?_) ?_ ?_
                  rotate_left
                  ·show Act.put _ (some 172) _ = _
                   simp only [Act.put,List.setIfInBounds_toArray,List.set_cons_zero,List.set_cons_succ,i64_w,i32_w]
                   rfl
                  exact norm_ (by simp only [putAll,Act.put,List.setIfInBounds_toArray,List.set_cons_zero,List.set_cons_succ]) (hCont (v1071,v1074,v1077) _ ⟨hHeld,(by (with_reducible repeat (first|apply zA|apply zB|apply zC));exact Kd.R_mono HO1075.out (fun _ hk=>⟨hk.2.1,⟨hk.1,⟨hk.2.2.1,hk.2.2.2⟩⟩⟩)),(by (with_reducible repeat (first|apply zA|apply zB|apply zC));exact Kd.R_mono HO1078.out (fun _ hk=>⟨hk.2,⟨hk.1.1,⟨hk.1.2.1,hk.1.2.2⟩⟩⟩)),(by (with_reducible repeat (first|apply zA|apply zB|apply zC));exact HO_18.out),(by (with_reducible repeat (first|apply zA|apply zB|apply zC));exact Kd.R_mono HO_19.out (fun _ hk=>⟨hk.2,⟨hk.1.1,⟨hk.1.2.1,hk.1.2.2⟩⟩⟩)),(by (with_reducible repeat (first|refine zJ ?_ _|refine zK ?_|refine zL ?_ _));exact BK1065.out),(by (with_reducible repeat (first|refine zJ ?_ _|refine zK ?_|refine zL ?_ _));exact BK1069.out),(by repeat (first|(with_reducible first|exact HB.out|apply zD|apply zE|apply zF|refine below_set ?_ GE1065.out|refine below_set ?_ GE1069.out)|exact HB.out))⟩)
                ·skip
                 refine Kd.R_lit_step k37 _ 37 ?hg (N:=174) ?hd (xs:=([(⟨t1062,t1063⟩ : S37)] : List (S37))) (inner:=[.int .i64 t1062,.int .i64 t1063]) (ok:=fun _=>True) (okp:=fun _=>True) ?hr ?hp (fun _ hk=>hk) trivial (Below.refl _ _) (Nat.le_refl _) (by simp) ?_;(case hd=>rfl);(case hg=>rfl);(case hr=>first|(go_simp;done)|(go_simp;rfl));(case hp=>exact (Reps.c2 (show Kd.M k37 _ _ _ (⟨t1062,t1063⟩ : S37) [.int .i64 t1062,.int .i64 t1063] from (k37_mkM _ _ _ (⟨t1062,t1063⟩ : S37) )) (Reps.none _ _)))
                 intro v1077 w70 ho71 hb hg_ hnew_
                 clear hg_ hnew_
                 (first|rw [← Ny1076.out] at ho71|(simp only [Int.reduceToNat] at ho71;rw [← Ny1076.out] at ho71))
                 have n0_:=zM (zP (by (with_reducible repeat (first|apply zA|apply zB|apply zC));exact HO_18.out) hb)
                 have n1_:=zM (Kd.R_elder' (by (with_reducible repeat (first|apply zA|apply zB|apply zC));exact HO_19.out) (Kd.R_base ho71) hb)
                 have n2_:=zM (Kd.R_lower (Kd.R_newB (Kd.R_newB (Kd.R_new' ho71 (Kd.R_lt (by (with_reducible repeat (first|apply zA|apply zB|apply zC));exact HO_19.out))) (g:=gb1065) (o := .cells #[.int .i64 t1062,.int .i64 t1063] 37 (0,0)) (by (with_reducible repeat (first|refine zJ ?_ _|refine zK ?_|refine zL ?_ _));exact BK1065.out)) (g:=gb1069) (o := .cells #[.int .i64 t1066,.int .i64 t1067] 37 (0,0)) (by (with_reducible repeat (first|refine zJ ?_ _|refine zK ?_|refine zL ?_ _));exact BK1069.out)) (zR (by repeat (first|(with_reducible first|exact HB.out|apply zD|apply zE|apply zF|refine below_set ?_ GE1065.out|refine below_set ?_ GE1069.out)|exact HB.out))))
                 have n3_:=zM (blk_below (g:=gb1065) (o := .cells #[.int .i64 t1062,.int .i64 t1063] 37 (0,0)) (by (with_reducible repeat (first|refine zJ ?_ _|refine zK ?_|refine zL ?_ _));exact BK1065.out) hb)
                 have n4_:=zM (blk_below (g:=gb1069) (o := .cells #[.int .i64 t1066,.int .i64 t1067] 37 (0,0)) (by (with_reducible repeat (first|refine zJ ?_ _|refine zK ?_|refine zL ?_ _));exact BK1069.out) hb)
                 have n5_:=zM (zQ (by repeat (first|(with_reducible first|exact HB.out|apply zD|apply zE|apply zF|refine below_set ?_ GE1065.out|refine below_set ?_ GE1069.out)|exact HB.out)) hb)
                 clear HO_18
                 clear HO_19
                 clear BK1065
                 clear BK1069
                 clear HB
                 have HO_18:=n0_
                 have HO_19:=n1_
                 have HO1078:=n2_
                 have BK1065:=n3_
                 have BK1069:=n4_
                 have HB:=n5_
                 clear n0_ n1_ n2_ n3_ n4_ n5_
                 clear hb ho71
                 refine hK.out _ _ ⟨(blk_cell BK1065.out 0).trans rfl,(blk_cell BK1065.out 1).trans rfl⟩ (fun hHeld=>?_)
                 clear hK K
                 refine norm_ (a':=?_) ?_ ?_
                 rotate_left
                 ·show Act.put _ (some 174) _ = _
                  simp only [Act.put,List.setIfInBounds_toArray,List.set_cons_zero,List.set_cons_succ,i64_w,i32_w]
                  rfl
                 refine one_ (i:=0) (N:=some 170) #[true,true,false,true,true,false,false] rfl rfl (by kernel_rfl) (by decide) (fun K hK=>?_)
                 refine Kd.R_lit_step k37 _ 37 ?hg (N:=170) ?hd (xs:=([] : List (S37))) (inner:=[]) (ok:=fun _=>True) (okp:=fun _=>True) ?hr ?hp (fun _ hk=>hk) trivial (Below.refl _ _) (Nat.le_refl _) (by simp) ?_;(case hd=>rfl);(case hg=>rfl);(case hr=>first|(go_simp;done)|(go_simp;rfl));(case hp=>exact (Reps.none _ _))
                 intro v1071 w72 ho73 hb hg_ hnew_
                 clear hg_ hnew_
                 (first|rw [← Ny1070.out] at ho73|(simp only [Int.reduceToNat] at ho73;rw [← Ny1070.out] at ho73))
                 have n0_:=zM (zP (by (with_reducible repeat (first|apply zA|apply zB|apply zC));exact HO_18.out) hb)
                 have n1_:=zM (Kd.R_elder' (by (with_reducible repeat (first|apply zA|apply zB|apply zC));exact HO_19.out) (Kd.R_base ho73) hb)
                 have n2_:=zM (Kd.R_elder' (by (with_reducible repeat (first|apply zA|apply zB|apply zC));exact HO1078.out) (Kd.R_base ho73) hb)
                 have n3_:=zM (Kd.R_lower (Kd.R_newB (Kd.R_newB (Kd.R_new' (Kd.R_new' ho73 (Kd.R_lt (by (with_reducible repeat (first|apply zA|apply zB|apply zC));exact HO_19.out))) (Kd.R_lt (by (with_reducible repeat (first|apply zA|apply zB|apply zC));exact HO1078.out))) (g:=gb1065) (o := .cells #[.int .i64 t1062,.int .i64 t1063] 37 (0,0)) (by (with_reducible repeat (first|refine zJ ?_ _|refine zK ?_|refine zL ?_ _));exact BK1065.out)) (g:=gb1069) (o := .cells #[.int .i64 t1066,.int .i64 t1067] 37 (0,0)) (by (with_reducible repeat (first|refine zJ ?_ _|refine zK ?_|refine zL ?_ _));exact BK1069.out)) (zR (by repeat (first|(with_reducible first|exact HB.out|apply zD|apply zE|apply zF|refine below_set ?_ GE1065.out|refine below_set ?_ GE1069.out)|exact HB.out))))
                 have n4_:=zM (blk_below (g:=gb1065) (o := .cells #[.int .i64 t1062,.int .i64 t1063] 37 (0,0)) (by (with_reducible repeat (first|refine zJ ?_ _|refine zK ?_|refine zL ?_ _));exact BK1065.out) hb)
                 have n5_:=zM (blk_below (g:=gb1069) (o := .cells #[.int .i64 t1066,.int .i64 t1067] 37 (0,0)) (by (with_reducible repeat (first|refine zJ ?_ _|refine zK ?_|refine zL ?_ _));exact BK1069.out) hb)
                 have n6_:=zM (zQ (by repeat (first|(with_reducible first|exact HB.out|apply zD|apply zE|apply zF|refine below_set ?_ GE1065.out|refine below_set ?_ GE1069.out)|exact HB.out)) hb)
                 clear HO_18
                 clear HO_19
                 clear HO1078
                 clear BK1065
                 clear BK1069
                 clear HB
                 have HO_18:=n0_
                 have HO_19:=n1_
                 have HO1078:=n2_
                 have HO1072:=n3_
                 have BK1065:=n4_
                 have BK1069:=n5_
                 have HB:=n6_
                 clear n0_ n1_ n2_ n3_ n4_ n5_ n6_
                 clear hb ho73
                 refine hK.out _ _ ⟨(blk_cell BK1065.out 0).trans rfl,(blk_cell BK1065.out 1).trans rfl⟩ (fun hHeld=>?_)
                 clear hK K
                 refine norm_ (a':=?_) ?_ ?_
                 rotate_left
                 ·show Act.put _ (some 170) _ = _
                  simp only [Act.put,List.setIfInBounds_toArray,List.set_cons_zero,List.set_cons_succ,i64_w,i32_w]
                  rfl
                 refine one_ (i:=2) (N:=some 172) #[true,true,true,true,true,false,false] rfl rfl (by kernel_rfl) (by decide) (fun K hK=>?_)
                 refine Kd.R_append_rows_step k37 (w0:=w) w.heap.size (by rfl) (.tmp 170) (.tmp 171) 29 37 (.agg #[(.int .i64 0),(.int .i64 0)]) 16 rfl Try.underlying29 info37 rfl (by decide) (by omega) v1071 y1070 t1057 _ _ _ (fun k_=>some k_ ≠ (.slice Ao47 t1057.length co47 : Value).ownBlock ∧ some k_ ≠ (v1077 : Value).ownBlock ∧ k_ ≠ gb1065 ∧ k_ ≠ gb1069) (fun _=>False) rfl rfl ?aO ?aR (fun _ _ h=>h) (fun _ h=>h.elim) ?aF ?aB ?aS ?aL ?_
                 (case aR=>repeat (first|exact (zN HO_19.out).2.2|(with_reducible refine zG ?_ _)|(with_reducible refine zH ?_ _)|(with_reducible refine zI ?_)))
                 (case aB=>exact (by repeat (first|(with_reducible first|exact HB.out|apply zD|apply zE|apply zF|refine below_set ?_ GE1065.out|refine below_set ?_ GE1069.out)|exact HB.out)))
                 (case aF=>exact (fun k_ hk=>⟨Kd.fresh' (Kd.R_lt (by (with_reducible repeat (first|apply zA|apply zB|apply zC));exact HO_19.out)) k_ hk,Kd.fresh' (Kd.R_lt (by (with_reducible repeat (first|apply zA|apply zB|apply zC));exact HO1078.out)) k_ hk,Kd.freshB (g:=gb1065) (o := .cells #[.int .i64 t1062,.int .i64 t1063] 37 (0,0)) (by (with_reducible repeat (first|refine zJ ?_ _|refine zK ?_|refine zL ?_ _));exact BK1065.out) k_ hk,Kd.freshB (g:=gb1069) (o := .cells #[.int .i64 t1066,.int .i64 t1067] 37 (0,0)) (by (with_reducible repeat (first|refine zJ ?_ _|refine zK ?_|refine zL ?_ _));exact BK1069.out) k_ hk⟩))
                 (case aO=>exact (by (with_reducible repeat (first|apply zA|apply zB|apply zC));exact Kd.R_mono HO1072.out (fun _ hk=>⟨hk.1.1.1.2,⟨hk.1.1.2,⟨hk.1.2,hk.2⟩⟩⟩)))
                 (case aS=>exact (zR (by repeat (first|(with_reducible first|exact HB.out|apply zD|apply zE|apply zF|refine below_set ?_ GE1065.out|refine below_set ?_ GE1069.out)|exact HB.out))))
                 (case aL=>have:=LMc64.out;omega)
                 intro v1074 w74 ho hb hg hat
                 rw [← Ny1073.out] at ho
                 have n0_:=zM (Kd.R_over' (by (with_reducible repeat (first|apply zA|apply zB|apply zC));exact HO_18.out) (Kd.R_typed (by (with_reducible repeat (first|apply zA|apply zB|apply zC));exact HO1072.out)) (by decide) hg)
                 have n1_:=zM (Kd.R_after (ok:=(fun k_=>some k_ ≠ (v1077 : Value).ownBlock ∧ k_ ≠ gb1065 ∧ k_ ≠ gb1069)) (by (with_reducible repeat (first|apply zA|apply zB|apply zC));exact Kd.R_mono HO_19.out (fun _ hk=>⟨⟨hk.1.2,⟨hk.1.1.1,hk.1.1.2⟩⟩,hk.2⟩)) hg hat)
                 have n2_:=zM (blk_grown (g:=gb1065) (o := .cells #[.int .i64 t1062,.int .i64 t1063] 37 (0,0)) (by (with_reducible repeat (first|refine zJ ?_ _|refine zK ?_|refine zL ?_ _));exact BK1065.out) hg (Kd.R_away HO1072.out (fun _ hk=>hk.1.2)))
                 have n3_:=zM (blk_grown (g:=gb1069) (o := .cells #[.int .i64 t1066,.int .i64 t1067] 37 (0,0)) (by (with_reducible repeat (first|refine zJ ?_ _|refine zK ?_|refine zL ?_ _));exact BK1069.out) hg (Kd.R_away HO1072.out (fun _ hk=>hk.2)))
                 have n4_:=zM (Kd.R_after (ok:=(fun k_=>some k_ ≠ (.slice Ao47 t1057.length co47 : Value).ownBlock ∧ k_ ≠ gb1065 ∧ k_ ≠ gb1069)) (by (with_reducible repeat (first|apply zA|apply zB|apply zC));exact Kd.R_mono HO1078.out (fun _ hk=>⟨⟨hk.1.1.1.2,⟨hk.1.1.2,hk.1.2⟩⟩,hk.2⟩)) hg hat)
                 have n5_:=zM (hb)
                 have n6_:=zM (ho)
                 clear HO_18
                 clear HO_19
                 clear BK1065
                 clear BK1069
                 clear HO1078
                 clear HB
                 clear HO1072
                 have HO_18:=n0_
                 have HO_19:=n1_
                 have BK1065:=n2_
                 have BK1069:=n3_
                 have HO1078:=n4_
                 have HB:=n5_
                 have HO1075:=n6_
                 clear n0_ n1_ n2_ n3_ n4_ n5_ n6_
                 clear ho hb hg hat
                 refine hK.out _ _ ⟨(blk_cell BK1065.out 0).trans rfl,(blk_cell BK1065.out 1).trans rfl⟩ (fun hHeld=>?_)
                 clear hK K
                 refine norm_ (a':=?_) ?_ ?_
                 rotate_left
                 ·show Act.put _ (some 172) _ = _
                  simp only [Act.put,List.setIfInBounds_toArray,List.set_cons_zero,List.set_cons_succ,i64_w,i32_w]
                  rfl
                 exact norm_ (by simp only [putAll,Act.put,List.setIfInBounds_toArray,List.set_cons_zero,List.set_cons_succ]) (hCont (v1071,v1074,v1077) _ ⟨hHeld,(by (with_reducible repeat (first|apply zA|apply zB|apply zC));exact Kd.R_mono HO1075.out (fun _ hk=>⟨hk.2.1,⟨hk.1,⟨hk.2.2.1,hk.2.2.2⟩⟩⟩)),(by (with_reducible repeat (first|apply zA|apply zB|apply zC));exact Kd.R_mono HO1078.out (fun _ hk=>⟨hk.2,⟨hk.1.1,⟨hk.1.2.1,hk.1.2.2⟩⟩⟩)),(by (with_reducible repeat (first|apply zA|apply zB|apply zC));exact HO_18.out),(by (with_reducible repeat (first|apply zA|apply zB|apply zC));exact Kd.R_mono HO_19.out (fun _ hk=>⟨hk.2,⟨hk.1.1,⟨hk.1.2.1,hk.1.2.2⟩⟩⟩)),(by (with_reducible repeat (first|refine zJ ?_ _|refine zK ?_|refine zL ?_ _));exact BK1065.out),(by (with_reducible repeat (first|refine zJ ?_ _|refine zK ?_|refine zL ?_ _));exact BK1069.out),(by repeat (first|(with_reducible first|exact HB.out|apply zD|apply zE|apply zF|refine below_set ?_ GE1065.out|refine below_set ?_ GE1069.out)|exact HB.out))⟩)
               rintro ⟨v1071,v1074,v1077⟩ w75 ⟨hS_,h0_,h1_,h2_,h3_,h4_,h5_,h6_⟩
               have n0_ : Aside0 (Kd.R k37 37 w75 w.heap.size (fun k_=>some k_ ≠ (v1077 : Value).ownBlock ∧ some k_ ≠ (.slice Ao47 t1057.length co47 : Value).ownBlock ∧ k_ ≠ gb1065 ∧ k_ ≠ gb1069) v1074 y1073):=⟨h0_⟩
               have n1_ : Aside0 (Kd.R k37 37 w75 w.heap.size (fun k_=>some k_ ≠ (v1074 : Value).ownBlock ∧ some k_ ≠ (.slice Ao47 t1057.length co47 : Value).ownBlock ∧ k_ ≠ gb1065 ∧ k_ ≠ gb1069) v1077 y1076):=⟨h1_⟩
               have n2_ : Aside0 (Kd.R k62 62 w75 w.heap.size (fun _=>True) (.slice Ao46 t1056.length co46) t1056):=⟨h2_⟩
               have n3_ : Aside0 (Kd.R k37 37 w75 w.heap.size (fun k_=>some k_ ≠ (v1074 : Value).ownBlock ∧ some k_ ≠ (v1077 : Value).ownBlock ∧ k_ ≠ gb1065 ∧ k_ ≠ gb1069) (.slice Ao47 t1057.length co47) t1057):=⟨h3_⟩
               have n4_ : Aside0 (w75.heap[gb1065]? = some (.cells #[.int .i64 t1062,.int .i64 t1063] 37 (0,0))):=⟨h4_⟩
               have n5_ : Aside0 (w75.heap[gb1069]? = some (.cells #[.int .i64 t1066,.int .i64 t1067] 37 (0,0))):=⟨h5_⟩
               have n6_ : Aside0 (Below w.heap.size w w75):=⟨h6_⟩
               clear HO_18
               clear HO_19
               clear BK1065
               clear BK1069
               clear HB
               clear h0_ h1_ h2_ h3_ h4_ h5_ h6_
               have HO1075:=n0_
               have HO1078:=n1_
               have HO_18:=n2_
               have HO_19:=n3_
               have BK1065:=n4_
               have BK1069:=n5_
               have HB:=n6_
               clear n0_ n1_ n2_ n3_ n4_ n5_ n6_
               have hHeld : w75.cell? ⟨gb1065,0,none⟩ = some (.int .i64 t1062) ∧ w75.cell? ⟨gb1065,1,none⟩ = some (.int .i64 t1063):=hS_
               obtain ⟨Ao77,co77,eo77⟩:=Kd.R_slice HO1078.out
               (first|subst eo77|(injection eo77 with f1_ f2_ f3_;have f4_:=f1_.symm;have f5_:=f3_.symm;clear f1_ f2_ f3_;subst f4_;subst f5_))
               refine norm_ (a':=?_) ?_ ?_
               rotate_left
               ·simp only [putAll,Act.put,List.setIfInBounds_toArray,List.set_cons_zero,List.set_cons_succ]
                rfl
               refine one_ (i:=5) (N:=some 175) #[true,true,true,true,true,true,false] rfl rfl (by kernel_rfl) (by decide) (fun K hK=>?_)
               refine Kd.R_append_rows_step k37 (w0:=w) w.heap.size (by rfl) (.tmp 172) (.tmp 174) 29 37 (.agg #[(.int .i64 0),(.int .i64 0)]) 16 rfl Try.underlying29 info37 rfl (by decide) (by omega) v1074 y1073 y1076 _ _ _ (fun k_=>some k_ ≠ (.slice Ao47 t1057.length co47 : Value).ownBlock ∧ some k_ ≠ (.slice Ao77 y1076.length co77 : Value).ownBlock ∧ k_ ≠ gb1065 ∧ k_ ≠ gb1069) (fun _=>False) rfl rfl ?aO ?aR (fun _ _ h=>h) (fun _ h=>h.elim) ?aF ?aB ?aS ?aL ?_
               (case aR=>repeat (first|exact (zN HO1078.out).2.2|(with_reducible refine zG ?_ _)|(with_reducible refine zH ?_ _)|(with_reducible refine zI ?_)))
               (case aB=>exact (by repeat (first|(with_reducible first|exact HB.out|apply zD|apply zE|apply zF|refine below_set ?_ GE1065.out|refine below_set ?_ GE1069.out)|exact HB.out)))
               (case aF=>exact (fun k_ hk=>⟨Kd.fresh' (Kd.R_lt (by (with_reducible repeat (first|apply zA|apply zB|apply zC));exact HO_19.out)) k_ hk,Kd.fresh' (Kd.R_lt (by (with_reducible repeat (first|apply zA|apply zB|apply zC));exact HO1078.out)) k_ hk,Kd.freshB (g:=gb1065) (o := .cells #[.int .i64 t1062,.int .i64 t1063] 37 (0,0)) (by (with_reducible repeat (first|refine zJ ?_ _|refine zK ?_|refine zL ?_ _));exact BK1065.out) k_ hk,Kd.freshB (g:=gb1069) (o := .cells #[.int .i64 t1066,.int .i64 t1067] 37 (0,0)) (by (with_reducible repeat (first|refine zJ ?_ _|refine zK ?_|refine zL ?_ _));exact BK1069.out) k_ hk⟩))
               (case aO=>exact (by (with_reducible repeat (first|apply zA|apply zB|apply zC));exact Kd.R_mono HO1075.out (fun _ hk=>⟨hk.2.1,⟨hk.1,⟨hk.2.2.1,hk.2.2.2⟩⟩⟩)))
               (case aS=>exact (zR (by repeat (first|(with_reducible first|exact HB.out|apply zD|apply zE|apply zF|refine below_set ?_ GE1065.out|refine below_set ?_ GE1069.out)|exact HB.out))))
               (case aL=>have:=LMc65.out;omega)
               intro v1080 w76 ho hb hg hat
               rw [← Ny1079.out] at ho
               have n0_:=zM (Kd.R_over' (by (with_reducible repeat (first|apply zA|apply zB|apply zC));exact HO_18.out) (Kd.R_typed (by (with_reducible repeat (first|apply zA|apply zB|apply zC));exact HO1075.out)) (by decide) hg)
               have n1_:=zM (Kd.R_after (ok:=(fun k_=>some k_ ≠ (.slice Ao77 y1076.length co77 : Value).ownBlock ∧ k_ ≠ gb1065 ∧ k_ ≠ gb1069)) (by (with_reducible repeat (first|apply zA|apply zB|apply zC));exact Kd.R_mono HO_19.out (fun _ hk=>⟨⟨hk.2.1,⟨hk.2.2.1,hk.2.2.2⟩⟩,hk.1⟩)) hg hat)
               have n2_:=zM (blk_grown (g:=gb1065) (o := .cells #[.int .i64 t1062,.int .i64 t1063] 37 (0,0)) (by (with_reducible repeat (first|refine zJ ?_ _|refine zK ?_|refine zL ?_ _));exact BK1065.out) hg (Kd.R_away HO1075.out (fun _ hk=>hk.2.2.1)))
               have n3_:=zM (blk_grown (g:=gb1069) (o := .cells #[.int .i64 t1066,.int .i64 t1067] 37 (0,0)) (by (with_reducible repeat (first|refine zJ ?_ _|refine zK ?_|refine zL ?_ _));exact BK1069.out) hg (Kd.R_away HO1075.out (fun _ hk=>hk.2.2.2)))
               have n4_:=zM (Kd.R_after (ok:=(fun k_=>some k_ ≠ (.slice Ao47 t1057.length co47 : Value).ownBlock ∧ k_ ≠ gb1065 ∧ k_ ≠ gb1069)) (by (with_reducible repeat (first|apply zA|apply zB|apply zC));exact Kd.R_mono HO1078.out (fun _ hk=>⟨⟨hk.2.1,⟨hk.2.2.1,hk.2.2.2⟩⟩,hk.1⟩)) hg hat)
               have n5_:=zM (hb)
               have n6_:=zM (ho)
               clear HO_18
               clear HO_19
               clear BK1065
               clear BK1069
               clear HO1078
               clear HB
               clear HO1075
               have HO_18:=n0_
               have HO_19:=n1_
               have BK1065:=n2_
               have BK1069:=n3_
               have HO1078:=n4_
               have HB:=n5_
               have HO1081:=n6_
               clear n0_ n1_ n2_ n3_ n4_ n5_ n6_
               clear ho hb hg hat
               refine hK.out _ _ ⟨(blk_cell BK1065.out 0).trans rfl,(blk_cell BK1065.out 1).trans rfl⟩ (fun hHeld=>?_)
               clear hK K
               refine norm_ (a':=?_) ?_ ?_
               rotate_left
               ·show Act.put _ (some 175) _ = _
                simp only [Act.put,List.setIfInBounds_toArray,List.set_cons_zero,List.set_cons_succ,i64_w,i32_w]
                rfl
               refine pure_ (i:=6) (N:=some 24) (v:=?_) (a':=?_) #[true,true,true,true,true,true,true] rfl rfl (by kernel_rfl) (fun _ _ _ h=>h) (Or.inl ⟨by rfl,?_⟩) ?_ ?_
               rotate_left
               ·intro w'
                go_simp
                with_reducible rfl
               rotate_left
               ·simp only [Act.put,List.setIfInBounds_toArray,List.set_cons_zero,List.set_cons_succ,i64_w,i32_w]
                rfl
               refine done_ (by kernel_rfl) ?_
               obtain ⟨Ao78,co78,eo78⟩:=Kd.R_slice HO1081.out
               subst eo78
               have q79 : ((y1079.length : Int) : Int) ≤ ((t1056.length : Int) : Int):=of_decide_eq_true (by first|(with_reducible assumption)|assumption)
               obtain ⟨i079,hi079,_,hsz79,_⟩:=info_parts info62
               have hroom79 : t1056.length ≤ co46:=(zN HO_18.out).2.1
               have hC79 : Kd.C k62 _ Ao46 t1056.length t1056:=(zN HO_18.out).2.2
               have hcut79:=cut_to (P:=Try.prog) 27 62 .i64 Try.underlying27 hi079 Ao46 t1056.length co46 (y1079.length : Int) (of_decide_eq_true (by first|(with_reducible assumption)|assumption)) q79 hroom79
               have hr79:=Kd.C_take (m:=((y1079.length : Int) : Int).toNat) hC79 (by omega)
               have hy79 : y1082.length = ((y1079.length : Int) : Int).toNat:=(by rw [Ny1082.out,List.length_take];omega)
               rw [← Ny1082.out] at hr79
               rw [← hy79] at hcut79
               have HR1085:=zM hr79
               have HC1085:=zM (show y1082.length ≤ co46 from by omega)
               clear hr79 hC79 hroom79 hi079 hsz79
               have KY79:=zM hy79
               clear hy79
               have KL79:=zM (show ((y1079.length : Int) : Int).toNat ≤ t1056.length from by omega)
               replace q79:=eq_true q79
               try go_wp2_with (first|((with_reducible refine gate_callee (f:=18) rfl ?_);refine goesL_ (some 182) rfl rfl Try.func18 (by kernel_rfl) rfl #[.int .i64 t1055,.slice Ao46 y1082.length co46,.slice Ao78 y1079.length co78] rfl (by (try simp only [List.map_toArray,List.map_cons,List.map_nil]);first|done|rfl|(simp only [List.length_drop,List.length_take];rfl)) ?_;(with_reducible refine (impl_IsPossiblePlan.calls kj43 t1055 _ _ y1082 _ _ y1079 t1086 _ ?side1 ?side2 ?side3 ?side4 A68.out).mono ?_);(case side1=>repeat (first|exact (by repeat (first|(with_reducible exact HR1085.out)|(with_reducible refine zG ?_ _)|(with_reducible refine zH ?_ _)|(with_reducible refine zI ?_)|exact HR1085.out))|(with_reducible refine zG ?_ _)|(with_reducible refine zH ?_ _)|(with_reducible refine zI ?_)));(case side2=>exact HC1085.out);(case side3=>repeat (first|exact (zN HO1081.out).2.2|(with_reducible refine zG ?_ _)|(with_reducible refine zH ?_ _)|(with_reducible refine zI ?_)));(case side4=>exact (zN HO1081.out).2.1);rintro e w80 ⟨rfl,hb⟩;refine ⟨_,rfl,?_⟩;have n0_:=zM (zP (by (with_reducible repeat (first|apply zA|apply zB|apply zC));exact HO_18.out) hb);have n1_:=zM (zP (by (with_reducible repeat (first|apply zA|apply zB|apply zC));exact HO_19.out) hb);have n2_:=zM (zP (by (with_reducible repeat (first|apply zA|apply zB|apply zC));exact HO1078.out) hb);have n3_:=zM (zP (by (with_reducible repeat (first|apply zA|apply zB|apply zC));exact HO1081.out) hb);have n4_:=zM (blk_below (g:=gb1065) (o := .cells #[.int .i64 t1062,.int .i64 t1063] 37 (0,0)) (by (with_reducible repeat (first|refine zJ ?_ _|refine zK ?_|refine zL ?_ _));exact BK1065.out) hb);have n5_:=zM (blk_below (g:=gb1069) (o := .cells #[.int .i64 t1066,.int .i64 t1067] 37 (0,0)) (by (with_reducible repeat (first|refine zJ ?_ _|refine zK ?_|refine zL ?_ _));exact BK1069.out) hb);have n6_:=zM (zO (by repeat (first|(with_reducible exact HR1085.out)|(with_reducible refine zG ?_ _)|(with_reducible refine zH ?_ _)|(with_reducible refine zI ?_)|exact HR1085.out)) hb);have n7_:=zM (zQ (by repeat (first|(with_reducible first|exact HB.out|apply zD|apply zE|apply zF|refine below_set ?_ GE1065.out|refine below_set ?_ GE1069.out)|exact HB.out)) hb);clear HO_18;clear HO_19;clear HO1078;clear HO1081;clear BK1065;clear BK1069;clear HR1085;clear HB;have HO_18:=n0_;have HO_19:=n1_;have HO1078:=n2_;have HO1081:=n3_;have BK1065:=n4_;have BK1069:=n5_;have HR1085:=n6_;have HB:=n7_;clear n0_ n1_ n2_ n3_ n4_ n5_ n6_ n7_;(try clear hb);(try clear hb2);(try clear hk);(try clear hi)))
               go_ret
               exact ⟨by first|rfl|(simp [errW_none,errW_some] <;> rfl)|(simp [*,errW_none,errW_some] <;> rfl),by repeat (first|(with_reducible first|exact HB.out|apply zD|apply zE|apply zF|refine below_set ?_ GE1065.out|refine below_set ?_ GE1069.out)|exact HB.out)⟩
              ·rw [if_neg c67] at H
               exact absurd H (by simp)
             ·rw [if_neg c66] at H
              exact absurd H (by simp)
            ·rw [if_neg c65] at H
             exact absurd H (by simp)
           ·rw [if_neg c64] at H
            exact absurd H (by simp)
          ·replace c63:=Bool.eq_false_iff.mpr c63
           subst c63
           have H1 : (some (t1062 == 0 && (t1063 == 0))) = some r:=by rw [if_neg (show ¬ (false = true) by decide)] at H;exact H
           clear H
           have H:=H1
           clear H1
           obtain rfl:=Option.some.inj H
           have hnb81:=NB1065_1069.out
           have hnc81:=NB1069_1065.out
           have hcz82_0 : wc.cell? ⟨gb1065,0,none⟩ = some (.int .i64 t1062):=(blk_cell BK1065.out 0).trans rfl
           have hcz82_1 : wc.cell? ⟨gb1065,1,none⟩ = some (.int .i64 t1063):=(blk_cell BK1065.out 1).trans rfl
           have hfz82_0:=blk_frozen BK1065.out 0
           have hfz82_1:=blk_frozen BK1065.out 1
           go_wp2
           go_ret
           exact ⟨by first|rfl|(simp [errW_none,errW_some] <;> rfl)|(simp [*,errW_none,errW_some] <;> rfl),by repeat (first|(with_reducible first|exact HB.out|apply zD|apply zE|apply zF|refine below_set ?_ GE1065.out|refine below_set ?_ GE1069.out)|exact HB.out)⟩

/-- THE ONE PURE STATEMENT of laws_FnQuay. -/
def laws_FnQuay.Pure : Prop := ∀ (l0 : List Int),(l0.length ≤ maxLen ∧ ∀ y ∈ l0,(Lit.int .u8 y).wf = true) → ∃ k,laws_FnQuay.f k l0 = some true
theorem laws_FnQuay.walk (P : laws_FnQuay.Pure) (A0 : Option Addr) (c0 : Nat) (l0 : List Int) (w : World) (hr0 : Kd.C (Kd.int .u8) w A0 l0.length l0) (hc0 : l0.length ≤ c0) (hw0 : (l0.length ≤ maxLen ∧ ∀ y ∈ l0,(Lit.int .u8 y).wf = true)) :
  Calls Try.prog 12 #[.slice A0 l0.length c0] w fun e w'=>e = .returned (.bool true) ∧ Below w.heap.size w w':=by
 obtain ⟨k,h⟩:=P l0 hw0
 refine (laws_FnQuay.calls k _ _ l0 true w hr0 hc0 h).mono ?_
 rintro e w' ⟨rfl,hd⟩
 exact ⟨rfl,hd⟩

end Go.Proofs.Ytcciljjnpfgaeaa.G

namespace Go.Proofs.Ytcciljjnpfgaeaa.G
open Go.RowKit Go.Proofs.YtcciljjnpfgaeaaW.PrintWords Go.Proofs.YtcciljjnpfgaeaaW.PrintLast
set_option linter.unusedVariables false
set_option linter.unusedSimpArgs false
/-- From some number of rounds on a value comes, and P holds of it. -/
def EvP {α : Type} (g : Nat → Option α) (P : α → Prop) : Prop := ∃ r,P r ∧ Ev g r
theorem EvP.now {α : Type} {P : α → Prop} (v : α) (h : P v) : EvP (fun _=>some v) P:=⟨v,h,Ev.now v⟩
theorem EvP.step {α : Type} {g f : Nat → Option α} {P : α → Prop} (h : ∀ k,g (k + 1) = f k) (k : EvP f P) : EvP g P:=by
  obtain ⟨r,p,e⟩:=k
  exact ⟨r,p,Ev.step h e⟩
theorem EvP.bind {α β : Type} {g : Nat → Option α} {f : Nat → α → Option β} {P : α → Prop} {Q : β → Prop} (h : EvP g P) (k : ∀ a,P a → EvP (fun n=>f n a) Q) : EvP (fun n=>(g n).bind (f n)) Q:=by
  obtain ⟨a,p,e⟩:=h
  obtain ⟨r,q,e2⟩:=k a p
  exact ⟨r,q,Ev.bind e e2⟩
theorem EvP.ite {α : Type} {c : Prop} [Decidable c] {A B : Nat → Option α} {P : α → Prop} (h1 : c → EvP A P) (h2 : ¬ c → EvP B P) : EvP (fun k=>if c then A k else B k) P:=by
  by_cases h : c
  · simpa only [if_pos h] using h1 h
  · simpa only [if_neg h] using h2 h
theorem EvP.mono {α : Type} {g : Nat → Option α} {P Q : α → Prop} (h : EvP g P) (k : ∀ r,P r → Q r) : EvP g Q:=by
  obtain ⟨r,p,e⟩:=h
  exact ⟨r,k r p,e⟩
/-- The bytes that a case is drawn of. -/
def Cd (l : List Int) : Prop:=(l.length : Int) ≤ 65536 ∧ ∀ y ∈ l,0 ≤ y ∧ y ≤ 255
theorem cd_of {l : List Int} (h : (l.length : Int) ≤ 65536) (hw : ∀ y ∈ l,(Lit.int .u8 y).wf = true) : Cd l:=by
  refine ⟨h,fun y hy=>?_⟩
  have e : (Lit.int .u8 y).wf = (decide (0 ≤ y) && decide (y ≤ 255)):=rfl
  have:=hw y hy
  rw [e] at this
  simpa using this
theorem rd_mem (l : List Int) (i : Int) (h0 : 0 ≤ i) (h1 : i < (l.length : Int)) : rd l i ∈ l:=by
  unfold rd
  rw [List.getD_eq_getElem?_getD,List.getElem?_eq_getElem (show i.toNat < l.length by omega)]
  exact List.getElem_mem _
theorem and255 (x : Int) : 0 ≤ Go.bits .and .u64 x 255 ∧ Go.bits .and .u64 x 255 ≤ 255:=by
  show 0 ≤ IntKind.u64.wrap (((BitVec.ofInt 64 x) &&& (BitVec.ofInt 64 255)).toNat : Int) ∧ IntKind.u64.wrap (((BitVec.ofInt 64 x) &&& (BitVec.ofInt 64 255)).toNat : Int) ≤ 255
  have h : ((BitVec.ofInt 64 x) &&& (BitVec.ofInt 64 255)).toNat ≤ 255:=by
    rw [BitVec.toNat_and]
    exact Nat.le_trans Nat.and_le_right (by decide)
  have e : IntKind.u64.wrap (((BitVec.ofInt 64 x) &&& (BitVec.ofInt 64 255)).toNat : Int) = (((BitVec.ofInt 64 x) &&& (BitVec.ofInt 64 255)).toNat : Int):=by
    generalize (((BitVec.ofInt 64 x) &&& (BitVec.ofInt 64 255)).toNat) = n at h ⊢
    simp only [IntKind.wrap,IntKind.signed,IntKind.bits]
    simp
    omega
  rw [e]
  omega
theorem next_ok {l : List Int} (hc : Cd l) (a s : Int) (h0 : 0 ≤ a) (h1 : a ≤ 1099511627776) : ∃ b s',spec_l1Cur_next.f l a s = some (b,a + 1,s') ∧ 0 ≤ b ∧ b ≤ 255:=by
  have hl:=hc.1
  unfold spec_l1Cur_next.f
  rw [wrap64_id (x:=a + 1) (by omega) (by omega)]
  by_cases h : a < (l.length : Int)
  · have hm:=hc.2 _ (rd_mem l a h0 h)
    rw [if_pos h,if_pos h0,if_pos (by omega),wrap64_id (x:=rd l a) (by omega) (by omega)]
    exact ⟨_,_,rfl,hm.1,hm.2⟩
  · rw [if_neg h,if_neg (by omega)]
    refine ⟨_,_,rfl,?_⟩
    generalize hX : Go.bits _ _ _ _ = X
    have:=and255 (IntKind.u64.wrap (IntKind.u64.wrap (IntKind.u64.wrap (s * 6364136223846793005)) + 906906) / 1099511627776)
    have hb : 0 ≤ X ∧ X ≤ 255:=by rw [← hX];exact this
    rw [wrap64_id (by omega) (by omega)]
    exact hb
theorem pick_ok {l : List Int} (hc : Cd l) (a s n : Int) (h0 : 0 ≤ a) (h1 : a ≤ 1000000) : ∃ b a' s',spec_l1Cur_pick.f l a s n = some (b,a',s') ∧ 0 ≤ b ∧ (b = 0 ∨ b < n) ∧ a ≤ a' ∧ a' ≤ a + 2:=by
  unfold spec_l1Cur_pick.f
  by_cases g : n ≤ 1
  · rw [if_pos g]
    exact ⟨_,_,_,rfl,by omega,by omega,by omega,by omega⟩
  · obtain ⟨x,s1,e1,x0,x1⟩:=next_ok hc a s h0 (by omega)
    rw [if_neg g,e1]
    simp only [Option.bind_some]
    by_cases g2 : n > 200
    · obtain ⟨y,s2,e2,y0,y1⟩:=next_ok hc (a + 1) s1 (by omega) (by omega)
      rw [if_pos g2,e2]
      simp only [Option.bind_some]
      rw [if_neg (by omega),wrap64_id (x:=x * 256) (by omega) (by omega),wrap64_id (x:=x * 256 + y) (by omega) (by omega)]
      refine ⟨_,_,_,rfl,Int.tmod_nonneg _ (by omega),.inr ?_,by omega,by omega⟩
      exact Int.tmod_lt_of_pos _ (by omega)
    · rw [if_neg g2,if_neg (by omega)]
      refine ⟨_,_,_,rfl,Int.tmod_nonneg _ (by omega),.inr ?_,by omega,by omega⟩
      exact Int.tmod_lt_of_pos _ (by omega)
theorem EvP.pick {β : Type} {l : List Int} (hc : Cd l) {a s n : Int} {f : Nat → Int × Int × Int → Option β} {Q : β → Prop} (h0 : 0 ≤ a) (h1 : a ≤ 1000000)
    (k : ∀ b a' s',0 ≤ b → (b = 0 ∨ b < n) → a ≤ a' → a' ≤ a + 2 → EvP (fun k=>f k (b,a',s')) Q) : EvP (fun k=>(spec_l1Cur_pick.f l a s n).bind (f k)) Q:=by
  obtain ⟨b,a',s',e,h2,h3,h4,h5⟩:=pick_ok hc a s n h0 h1
  rw [e]
  exact k b a' s' h2 h3 h4 h5
theorem EvP.one {β : Type} {l : List Int} (hc : Cd l) {a s n : Int} {f : Nat → Bool × Int × Int → Option β} {Q : β → Prop} (h0 : 0 ≤ a) (h1 : a ≤ 1000000)
    (k : ∀ b a' s',a ≤ a' → a' ≤ a + 2 → EvP (fun k=>f k (b,a',s')) Q) : EvP (fun k=>(spec_l1Cur_one.f l a s n).bind (f k)) Q:=by
  obtain ⟨b,a',s',e,h2,h3,h4,h5⟩:=pick_ok hc a s n h0 h1
  unfold spec_l1Cur_one.f
  rw [e]
  simp only [Option.bind_some]
  exact k _ a' s' h4 h5
theorem EvP.among {β : Type} {l : List Int} (hc : Cd l) {a s : Int} {xs : List Int} {f : Nat → Int × Int × Int → Option β} {Q : β → Prop} (h0 : 0 ≤ a) (h1 : a ≤ 1000000) (hx : 0 < (xs.length : Int))
    (k : ∀ b a' s',b ∈ xs → a ≤ a' → a' ≤ a + 2 → EvP (fun k=>f k (b,a',s')) Q) : EvP (fun k=>(spec_l1Cur_among.f l a s xs).bind (f k)) Q:=by
  obtain ⟨b,a',s',e,h2,h3,h4,h5⟩:=pick_ok hc a s (xs.length : Int) h0 h1
  unfold spec_l1Cur_among.f
  rw [e]
  simp only [Option.bind_some]
  rw [if_pos h2,if_pos (by omega)]
  exact k _ a' s' (rd_mem xs b h2 (by omega)) h4 h5
end Go.Proofs.Ytcciljjnpfgaeaa.G

namespace Go.Proofs.Ytcciljjnpfgaeaa.G
open Go.RowKit Go.Proofs.YtcciljjnpfgaeaaW.PrintWords Go.Proofs.YtcciljjnpfgaeaaW.PrintLast
set_option linter.unusedVariables false
set_option linter.unusedSimpArgs false
theorem len_app {α : Type} (x : List α) (y : α) : ((x ++ [y]).length : Int) = (x.length : Int) + 1:=by simp
def ShipsQ (r : Int × List S62 × Int × Int) : Prop:=(r.2.1.length : Int) ≤ 30 ∧ 0 ≤ r.2.2.1 ∧ r.2.2.1 ≤ 1000
theorem shipsQ {q : Int} {x : List S62} {a s : Int} (h1 : (x.length : Int) ≤ 30) (h2 : 0 ≤ a) (h3 : a ≤ 1000) : ShipsQ (q,x,a,s):=⟨h1,h2,h3⟩
theorem ships1 {l : List Int} (hc : Cd l) (q : Int) : ∀ (d : Nat) (x5 : List S62) (x7 a s : Int),x7 + d = 7 → 0 ≤ x7 → (x5.length : Int) ≤ 10 + x7 → 0 ≤ a → a + 2 * d ≤ 900 → EvP (fun k=>spec_l1Cur_ships.l1 k q x5 x7 l a s) ShipsQ:=by
  intro d
  induction d with
  | zero =>
    intro x5 x7 a s hd h0 hl ha ha2
    refine EvP.step (fun k=>by rw [spec_l1Cur_ships.l1]) ?_
    refine EvP.pick hc ha (by omega) (fun b a' s' b0 b1 a0 a1=>?_)
    dsimp only
    rw [wrap64_id (x:=5 + b) (by omega) (by omega)]
    refine EvP.ite (fun g=>?_) (fun g=>EvP.now _ (shipsQ (by omega) (by omega) (by omega)))
    simp (disch:=omega) only [if_neg]
    exact EvP.now _ (shipsQ (by omega) (by omega) (by omega))
  | succ d ih =>
    intro x5 x7 a s hd h0 hl ha ha2
    refine EvP.step (fun k=>by rw [spec_l1Cur_ships.l1]) ?_
    refine EvP.pick hc ha (by omega) (fun b a' s' b0 b1 a0 a1=>?_)
    dsimp only
    rw [wrap64_id (x:=5 + b) (by omega) (by omega)]
    refine EvP.ite (fun g=>?_) (fun g=>EvP.now _ (shipsQ (by omega) (by omega) (by omega)))
    simp (disch:=omega) only [if_pos]
    rw [wrap64_id (x:=x7 + 1) (by omega) (by omega)]
    exact ih _ _ _ _ (by omega) (by omega) (by rw [len_app];omega) (by omega) (by omega)
theorem ships0 {l : List Int} (hc : Cd l) (q : Int) : ∀ (d : Nat) (x5 : List S62) (x6 a s : Int),x6 = d → (x5.length : Int) + d ≤ 5 → 0 ≤ a → a + 8 * d ≤ 100 → EvP (fun k=>spec_l1Cur_ships.l0 k q x5 x6 l a s) ShipsQ:=by
  intro d
  induction d with
  | zero =>
    intro x5 x6 a s hd hl ha ha2
    refine EvP.step (fun k=>by rw [spec_l1Cur_ships.l0]) ?_
    simp (disch:=omega) only [if_neg]
    refine EvP.pick hc ha (by omega) (fun b a' s' b0 b1 a0 a1=>?_)
    dsimp only
    refine EvP.ite (fun g=>?_) (fun g=>?_)
    · refine EvP.among hc (by omega) (by omega) (by decide) (fun v a2 s2 hv a3 a4=>?_)
      dsimp only
      exact EvP.now _ (shipsQ (by omega) (by omega) (by omega))
    · refine EvP.ite (fun g=>?_) (fun g=>?_)
      · refine EvP.among hc (by omega) (by omega) (by decide) (fun v a2 s2 hv a3 a4=>?_)
        dsimp only
        refine EvP.among hc (by omega) (by omega) (by decide) (fun v2 a5 s5 hv2 a6 a7=>?_)
        dsimp only
        refine EvP.among hc (by omega) (by omega) (by decide) (fun v3 a8 s8 hv3 a9 a10=>?_)
        dsimp only
        refine EvP.among hc (by omega) (by omega) (by decide) (fun v4 a11 s11 hv4 a12 a13=>?_)
        dsimp only
        simp (disch:=omega) only [if_pos]
        exact EvP.now _ (shipsQ (by rw [len_app];omega) (by omega) (by omega))
      · refine EvP.ite (fun g=>?_) (fun g=>EvP.now _ (shipsQ (by omega) (by omega) (by omega)))
        exact ships1 hc q 7 _ _ _ _ (by omega) (by omega) (by omega) (by omega) (by omega)
  | succ d ih =>
    intro x5 x6 a s hd hl ha ha2
    refine EvP.step (fun k=>by rw [spec_l1Cur_ships.l0]) ?_
    simp (disch:=omega) only [if_pos]
    refine EvP.pick hc ha (by omega) (fun b a2 s2 b0 b1 a0 a1=>?_)
    dsimp only
    refine EvP.pick hc (by omega) (by omega) (fun b2 a3 s3 b3 b4 a4 a5=>?_)
    dsimp only
    refine EvP.pick hc (by omega) (by omega) (fun b5 a6 s6 b6 b7 a7 a8=>?_)
    dsimp only
    refine EvP.pick hc (by omega) (by omega) (fun b8 a9 s9 b9 b10 a10 a11=>?_)
    dsimp only
    rw [wrap64_id (x:=x6 - 1) (by omega) (by omega)]
    exact ih _ _ _ _ (by omega) (by rw [len_app];omega) (by omega) (by omega)
theorem ships_ok {l : List Int} (hc : Cd l) (s : Int) : EvP (fun k=>spec_l1Cur_ships.f k l 0 s) ShipsQ:=by
  unfold spec_l1Cur_ships.f
  refine EvP.among hc (by omega) (by omega) (by decide) (fun v a2 s2 hv a3 a4=>?_)
  dsimp only
  refine EvP.pick hc (by omega) (by omega) (fun b a' s' b0 b1 a0 a1=>?_)
  dsimp only
  exact ships0 hc v b.toNat _ _ _ _ (by omega) (by simp;omega) (by omega) (by omega)
end Go.Proofs.Ytcciljjnpfgaeaa.G

-- Written by wip/tools/gen.py out of the translation (the kit's printer, one namespace a seat). Lean checks it.
namespace Go.Proofs.Ytcciljjnpfgaeaa.G
open Go.RowKit Go.Proofs.YtcciljjnpfgaeaaW.PrintWords Go.Proofs.YtcciljjnpfgaeaaW.PrintLast Go.Proofs.YtcciljjnpfgaeaaW.PrintMore
attribute [local go_sem] max2_int min2_int max_two min_two max_three min_three max_four min_four   -- for this text's walks alone
set_option linter.unusedVariables false
set_option linter.unusedSimpArgs false

/-! ### spec_l1Most: function 55 -/
def spec_l1Most.f (a0 : Int) (a1 : Int) : Option (Int):=if a0 > a1 then (some a0) else (some a1)
set_option maxHeartbeats 8000000 in
set_option maxRecDepth 100000 in
theorem spec_l1Most.calls (a0 : Int) (a1 : Int) (r : Int) (w : World) (h : spec_l1Most.f a0 a1 = some r) :
  Calls Try.prog 55 #[.int .i64 a0,.int .i64 a1] w fun e w'=>e = .returned (.int .i64 r) ∧ Drawn0 w w':=by
 have H : (if a0 > a1 then (some a0) else (some a1)) = some r:=h
 clear h
 by_cases c3 : a0 > a1
 ·rw [if_pos c3] at H
  have c3b0 : decide (a1 < a0) = true:=decide_eq_true c3
  clear c3
  obtain rfl:=Option.some.inj H
  go_enter Try.func55,Try.ntmps55
  go_wp2
  go_ret
  exact ⟨by first|rfl|(simp;done)|(simp [*];done),by repeat (first|exact Drawn0.refl _|apply Drawn0.step)⟩
 ·rw [if_neg c3] at H
  have c3b0 : decide (a1 < a0) = false:=decide_eq_false c3
  clear c3
  obtain rfl:=Option.some.inj H
  go_enter Try.func55,Try.ntmps55
  go_wp2
  go_ret
  exact ⟨by first|rfl|(simp;done)|(simp [*];done),by repeat (first|exact Drawn0.refl _|apply Drawn0.step)⟩

end Go.Proofs.Ytcciljjnpfgaeaa.G

namespace Go.Proofs.Ytcciljjnpfgaeaa.G
open Go.RowKit Go.Proofs.YtcciljjnpfgaeaaW.PrintWords Go.Proofs.YtcciljjnpfgaeaaW.PrintLast
set_option linter.unusedVariables false
set_option linter.unusedSimpArgs false
theorem impl_within_eq (a b c : Int) : impl_within.f a b c = some (decide (b ≤ a ∧ a ≤ c)):=by
  unfold impl_within.f
  split
  · rename_i h;congr 1;simp;omega
  · rename_i h;congr 1;simp;omega
theorem spec_l1In_eq (a b c : Int) : spec_l1In.f a b c = some (decide (b ≤ a ∧ a ≤ c)):=by
  unfold spec_l1In.f
  split
  · rename_i h;congr 1;simp;omega
  · rename_i h;congr 1;simp;omega
end Go.Proofs.Ytcciljjnpfgaeaa.G

namespace Go.Proofs.Ytcciljjnpfgaeaa.G
open Go.RowKit Go.Proofs.YtcciljjnpfgaeaaW.PrintWords Go.Proofs.YtcciljjnpfgaeaaW.PrintLast
set_option linter.unusedVariables false
set_option linter.unusedSimpArgs false
def shipOk (x : S62) : Prop:=(1 ≤ x.f0 ∧ x.f0 ≤ 30) ∧ (0 ≤ x.f1 ∧ x.f1 ≤ 200) ∧ (1 ≤ x.f2 ∧ x.f2 ≤ 48) ∧ (1 ≤ x.f3 ∧ x.f3 ≤ 9)
def Ships (q : Int) (l : List S62) : Prop:=(1 ≤ q ∧ q ≤ 30) ∧ (l.length : Int) ≤ 5 ∧ All (fun i=>shipOk (rd_T62 l i)) 0 (l.length : Int)
theorem cont78_eq (l : List S62) : impl_Ship_69_78.f l = some (chk (All (fun i=>shipOk (rd_T62 l i)) 0 (l.length : Int)) false true):=by
  unfold impl_Ship_69_78.f
  congr 1
  have hb : (bad78 l l.length 0 ≥ 0) ↔ ¬ All (fun i=>shipOk (rd_T62 l i)) 0 (l.length : Int):=by
    rw [bad78_iff]
    constructor
    · intro h a
      refine h fun j _ hj=>?_
      have:=a (j : Int) (by omega) (by omega)
      unfold good78;exact decide_eq_true this
    · intro h a
      refine h fun j h0 hj=>?_
      have:=a j.toNat (by omega) (by omega)
      rw [show ((j.toNat : Nat) : Int) = j from by omega] at this
      unfold good78 at this
      have h':=of_decide_eq_true this
      exact h'
  by_cases ha : All (fun i=>shipOk (rd_T62 l i)) 0 (l.length : Int)
  · rw [chk_pos ha];exact decide_eq_false (fun x=>hb.1 x ha)
  · rw [chk_neg ha];exact decide_eq_true (hb.2 ha)
theorem impl_ships (q : Int) (l : List S62) : impl_areShips.f q l = some (chk (Ships q l) true false):=by
  unfold impl_areShips.f
  simp only [impl_within_eq,Option.bind_some,decide_eq_true_eq,cont78_eq]
  by_cases h1 : 1 ≤ q ∧ q ≤ 30
  · rw [if_pos h1]
    by_cases h2 : (l.length : Int) > 5
    · rw [if_pos h2,chk_neg (fun m : Ships q l=>by have:=m.2.1;omega)]
    · rw [if_neg h2]
      by_cases h3 : All (fun i=>shipOk (rd_T62 l i)) 0 (l.length : Int)
      · rw [chk_pos h3,chk_pos (show Ships q l from ⟨h1,by omega,h3⟩)];rfl
      · rw [chk_neg h3,chk_neg (fun m : Ships q l=>h3 m.2.2)];rfl
  · rw [if_neg h1,chk_neg (fun m : Ships q l=>h1 m.1)]
theorem spec_ships (q : Int) (l : List S62) : Ev (fun k=>spec_l14Ships.f k q l) (chk (Ships q l) true false):=by
  unfold spec_l14Ships.f
  have inner : ∀ (i : Int) (r : Bool),0 ≤ i → i < (l.length : Int) → i ≤ 5 → (shipOk (rd_T62 l i) → Ev (fun k=>spec_l14Ships.l0 k q l (i + 1)) r) → (¬ shipOk (rd_T62 l i) → r = false) → Ev (fun k=>spec_l14Ships.l0 k q l i) r:=by
    intro i r i0 i1 i5 hy hn
    refine Ev.step (fun k=>by rw [spec_l14Ships.l0]) ?_
    simp (disch:=omega) only [if_pos]
    rw [decide_eq_true i5]
    refine Ev.step (fun k=>by rw [spec_l14Ships.j1]) ?_
    simp (disch:=omega) only [if_pos,spec_l1In_eq,Option.bind_some,decide_eq_true_eq,if_true]
    have no : ¬ shipOk (rd_T62 l i) → Ev (fun _=>some false) r:=fun h=>by rw [hn h];exact Ev.now _
    refine Ev.ite (fun g1=>?_) (fun g1=>no (fun m=>g1 m.1))
    refine Ev.ite (fun g2=>?_) (fun g2=>no (fun m=>g2 m.2.1))
    refine Ev.ite (fun g3=>?_) (fun g3=>no (fun m=>g3 m.2.2.1))
    refine Ev.ite (fun g4=>?_) (fun g4=>no (fun m=>g4 m.2.2.2))
    rw [wrap64_id (by omega) (by omega)]
    exact hy ⟨g1,g2,g3,g4⟩
  by_cases hl : (l.length : Int) ≤ 5
  · have h:=Ev.check (fun k i=>spec_l14Ships.l0 k q l i) (l.length : Int) (fun i=>shipOk (rd_T62 l i)) (decide (1 ≤ q ∧ q ≤ 30)) false 0 (by
      refine Ev.step (fun k=>by rw [spec_l14Ships.l0]) ?_
      simp only [Int.lt_irrefl,if_false]
      refine Ev.step (fun k=>by rw [spec_l14Ships.j1]) ?_
      simp only [Bool.false_eq_true,if_false,spec_l1In_eq,Option.bind_some,decide_eq_true_eq]
      refine Ev.ite (fun g=>?_) (fun g=>?_)
      · rw [decide_eq_true g,decide_eq_true hl];exact Ev.now _
      · rw [decide_eq_false g];exact Ev.now _) (by
      intro i h0 hlt r hr
      refine inner i _ h0 hlt (by omega) (fun m=>?_) (fun m=>?_)
      · rw [chk_pos m];exact hr
      · rw [chk_neg m]) 0 (by omega) (by omega)
    refine Ev.eq h ?_
    by_cases ha : All (fun i=>shipOk (rd_T62 l i)) 0 (l.length : Int)
    · rw [chk_pos ha]
      by_cases hq : 1 ≤ q ∧ q ≤ 30
      · rw [decide_eq_true hq,chk_pos (show Ships q l from ⟨hq,hl,ha⟩)]
      · rw [decide_eq_false hq,chk_neg (fun m : Ships q l=>hq m.1)]
    · rw [chk_neg ha,chk_neg (fun m : Ships q l=>ha m.2.2)]
  · rw [chk_neg (fun m : Ships q l=>hl m.2.1)]
    have main : ∀ (d : Nat) (i : Int),0 ≤ i → i + d = 6 → Ev (fun k=>spec_l14Ships.l0 k q l i) false:=by
      intro d
      induction d with
      | zero =>
        intro i h0 hd
        obtain rfl : i = 6:=by omega
        have fin : Ev (fun k=>spec_l14Ships.j1 k q l 6 false) false:=by
          refine Ev.step (fun k=>by rw [spec_l14Ships.j1]) ?_
          simp only [Bool.false_eq_true,if_false,spec_l1In_eq,Option.bind_some,decide_eq_true_eq]
          refine Ev.ite (fun g=>?_) (fun g=>Ev.now _)
          rw [decide_eq_false hl];exact Ev.now _
        refine Ev.step (fun k=>by rw [spec_l14Ships.l0]) ?_
        rw [show decide ((6 : Int) ≤ 5) = false from by decide]
        exact Ev.ite (fun _=>fin) (fun _=>fin)
      | succ d ih =>
        intro i h0 hd
        exact inner i false h0 (by omega) (by omega) (fun _=>ih (i + 1) (by omega) (by omega)) (fun _=>rfl)
    exact main 6 0 (by omega) (by omega)
/-- A berth is possible for a ship for itself. -/
def Fit (q : Int) (x : S62) (b : S37) : Prop:=(0 ≤ b.f0 ∧ b.f0 ≤ q - x.f0) ∧ (x.f1 ≤ b.f1 ∧ b.f1 ≤ 1000)
def Apart (x : S62) (a : S37) (y : S62) (b : S37) : Prop:=a.f0 + x.f0 ≤ b.f0 ∨ b.f0 + y.f0 ≤ a.f0 ∨ a.f1 + x.f2 ≤ b.f1 ∨ b.f1 + y.f2 ≤ a.f1
def small (b : S37) : Prop:=(0 ≤ b.f0 ∧ b.f0 ≤ 30) ∧ (0 ≤ b.f1 ∧ b.f1 ≤ 1000)
theorem fit_small {q : Int} {x : S62} {b : S37} (hq : q ≤ 30) (hx : shipOk x) (h : Fit q x b) : small b:=by
  unfold shipOk at hx
  unfold Fit at h
  unfold small
  omega
theorem touch_eq (x : S62) (a : S37) (y : S62) (b : S37) (hx : shipOk x) (ha : small a) (hy : shipOk y) (hb : small b) : impl_touch.f x.f0 x.f1 x.f2 x.f3 a.f0 a.f1 y.f0 y.f1 y.f2 y.f3 b.f0 b.f1 = some (chk (Apart x a y b) false true):=by
  unfold shipOk at hx hy
  unfold small at ha hb
  unfold impl_touch.f
  simp (disch:=omega) only [wrap64_id]
  by_cases h : Apart x a y b
  · rw [chk_pos h]
    unfold Apart at h
    split
    · split
      · split
        · rw [decide_eq_false (by omega)]
        · rfl
      · rfl
    · rfl
  · rw [chk_neg h]
    unfold Apart at h
    simp (disch:=omega) only [if_pos]
    rw [decide_eq_true (by omega)]
theorem apart_eq (x : S62) (a : S37) (y : S62) (b : S37) (hx : shipOk x) (ha : small a) (hy : shipOk y) (hb : small b) : spec_l14Apart.f x.f0 x.f1 x.f2 x.f3 a.f0 a.f1 y.f0 y.f1 y.f2 y.f3 b.f0 b.f1 = some (chk (Apart x a y b) true false):=by
  unfold shipOk at hx hy
  unfold small at ha hb
  unfold spec_l14Apart.f
  simp (disch:=omega) only [wrap64_id]
  by_cases h : Apart x a y b
  · rw [chk_pos h]
    unfold Apart at h
    split
    · rfl
    · split
      · rfl
      · split
        · rfl
        · rw [decide_eq_true (by omega)]
  · rw [chk_neg h]
    unfold Apart at h
    simp (disch:=omega) only [if_neg]
    rw [decide_eq_false (by omega)]
/-- The berth of a ship is possible beside the first n of others. -/
def Beside (q : Int) (x : S62) (b : S37) (o : List S62) (bs : List S37) (n : Int) : Prop:=Fit q x b ∧ All (fun k=>Apart x b (rd_T62 o k) (rd_T37 bs k)) 0 n
theorem impl_Fits (q : Int) (hq : 1 ≤ q ∧ q ≤ 30) (x : S62) (hx : shipOk x) (b : S37) (o : List S62) (bs : List S37) (hn : bs.length ≤ o.length) (hn5 : (bs.length : Int) ≤ 5) (ho : All (fun k=>shipOk (rd_T62 o k)) 0 (bs.length : Int)) (hb : All (fun k=>small (rd_T37 bs k)) 0 (bs.length : Int)) : Ev (fun k=>impl_fits.f k q x.f0 x.f1 x.f2 x.f3 b.f0 b.f1 o bs) (chk (Beside q x b o bs (bs.length : Int)) true false):=by
  have hx':=hx
  unfold shipOk at hx'
  have no : ¬ Fit q x b → Ev (fun k=>impl_fits.j0 k o bs true x.f0 x.f1 x.f2 x.f3 b.f0 b.f1) (chk (Beside q x b o bs (bs.length : Int)) true false):=by
    intro h
    rw [chk_neg (fun m : Beside q x b o bs (bs.length : Int)=>h m.1)]
    refine Ev.step (fun k=>by rw [impl_fits.j0]) ?_
    simp only [if_true];exact Ev.now _
  unfold impl_fits.f
  rw [wrap64_id (by omega) (by omega)]
  refine Ev.ite (fun g1=>no (fun m=>by unfold Fit at m;omega)) (fun g1=>?_)
  refine Ev.ite (fun g2=>no (fun m=>by unfold Fit at m;omega)) (fun g2=>?_)
  refine Ev.ite (fun g3=>no (fun m=>by unfold Fit at m;omega)) (fun g3=>?_)
  by_cases g4 : b.f1 > 1000
  · rw [decide_eq_true g4];exact no (fun m=>by unfold Fit at m;omega)
  · rw [decide_eq_false g4]
    have hf : Fit q x b:=by unfold Fit;omega
    refine Ev.step (fun k=>by rw [impl_fits.j0]) ?_
    simp only [Bool.false_eq_true,if_false]
    rw [chk_congr (show Beside q x b o bs (bs.length : Int) ↔ All (fun k=>Apart x b (rd_T62 o k) (rd_T37 bs k)) 0 (bs.length : Int) from ⟨fun m=>m.2,fun m=>⟨hf,m⟩⟩)]
    refine Ev.check (fun k i=>impl_fits.l0 k o bs (bs.length : Int) i x.f0 x.f1 x.f2 x.f3 b.f0 b.f1) (bs.length : Int) (fun k=>Apart x b (rd_T62 o k) (rd_T37 bs k)) true false 0 ?_ ?_ 0 (by omega) (by omega)
    · refine Ev.step (fun k=>by rw [impl_fits.l0]) ?_
      simp only [Int.lt_irrefl,if_false]
      exact Ev.now _
    · intro i h0 hlt r hr
      refine Ev.step (fun k=>by rw [impl_fits.l0]) ?_
      simp (disch:=omega) only [if_pos,wrap64_id]
      rw [touch_eq x b _ _ hx (fit_small hq.2 hx hf) (ho i h0 hlt) (hb i h0 hlt)]
      simp only [Option.bind_some]
      by_cases ha : Apart x b (rd_T62 o i) (rd_T37 bs i)
      · rw [chk_pos ha,chk_pos ha];simp only [Bool.false_eq_true,if_false];exact hr
      · rw [chk_neg ha,chk_neg ha];simp only [if_true];exact Ev.now _
end Go.Proofs.Ytcciljjnpfgaeaa.G

namespace Go.Proofs.Ytcciljjnpfgaeaa.G
open Go.RowKit Go.Proofs.YtcciljjnpfgaeaaW.PrintWords Go.Proofs.YtcciljjnpfgaeaaW.PrintLast
set_option linter.unusedVariables false
set_option linter.unusedSimpArgs false
/-- What is known of a next berth that was found. -/
def Found (q : Int) (x : S62) (o : List S62) (bs : List S37) (r : Int × Int × Bool) : Prop:=r.2.2 = true → Beside q x ⟨r.1,r.2.1⟩ o bs (bs.length : Int)
theorem next_both (q : Int) (hq : 1 ≤ q ∧ q ≤ 30) (x : S62) (hx : shipOk x) (o : List S62) (bs : List S37) (hn : o.length = bs.length) (h5 : (bs.length : Int) ≤ 5) (ho : All (fun k=>shipOk (rd_T62 o k)) 0 (bs.length : Int)) (hb : All (fun k=>small (rd_T37 bs k)) 0 (bs.length : Int)) :
    ∃ r,Found q x o bs r ∧ Ev (fun k=>impl_nextBerth.f k q x.f0 x.f1 x.f2 x.f3 o bs) r ∧ Ev (fun k=>spec_l14Next.f k q x.f0 x.f1 x.f2 x.f3 o bs) r:=by
  have hx':=hx
  unfold shipOk at hx'
  unfold impl_nextBerth.f spec_l14Next.f
  have main : ∀ (d : Nat) (start : Int),x.f1 ≤ start → start + d = 1001 → ∃ r,Found q x o bs r ∧ Ev (fun k=>impl_nextBerth.l0 k q o bs start x.f0 x.f1 x.f2 x.f3) r ∧ Ev (fun k=>spec_l14Next.l0 k q o bs start x.f0 x.f1 x.f2 x.f3) r:=by
    intro d
    induction d with
    | zero =>
      intro start s0 hd
      refine ⟨(0,0,false),(fun h=>absurd h (by decide)),?_,?_⟩
      · refine Ev.step (fun k=>by rw [impl_nextBerth.l0]) ?_
        simp (disch:=omega) only [if_neg]
        exact Ev.now _
      · refine Ev.step (fun k=>by rw [spec_l14Next.l0]) ?_
        simp (disch:=omega) only [if_neg]
        exact Ev.now _
    | succ d ih =>
      intro start s0 hd
      obtain ⟨r0,q0,i0,e0⟩:=ih (start + 1) (by omega) (by omega)
      have inner : ∀ (e : Nat) (place : Int),0 ≤ place → place ≤ 31 → place + e = 31 → ∃ r,Found q x o bs r ∧ Ev (fun k=>impl_nextBerth.l1 k q o bs start place x.f0 x.f1 x.f2 x.f3) r ∧ Ev (fun k=>spec_l14Next.l1 k q o bs start place x.f0 x.f1 x.f2 x.f3) r:=by
        intro e
        induction e with
        | zero =>
          intro place p0 p1 he
          refine ⟨r0,q0,?_,?_⟩
          · refine Ev.step (fun k=>by rw [impl_nextBerth.l1]) ?_
            rw [wrap64_id (x:=q - x.f0) (by omega) (by omega),wrap64_id (x:=start + 1) (by omega) (by omega)]
            simp (disch:=omega) only [if_neg]
            exact i0
          · refine Ev.step (fun k=>by rw [spec_l14Next.l1]) ?_
            rw [wrap64_id (by omega) (by omega),wrap64_id (by omega) (by omega)]
            simp (disch:=omega) only [if_neg]
            exact e0
        | succ e ihe =>
          intro place p0 p1 he
          obtain ⟨r1,q1,i1,e1⟩:=ihe (place + 1) (by omega) (by omega) (by omega)
          by_cases hp : place ≤ q - x.f0
          · have hf : Fit q x ⟨place,start⟩:=by unfold Fit;dsimp only;omega
            have hi:=impl_Fits q hq x hx ⟨place,start⟩ o bs (by omega) h5 ho hb
            have sp : ∀ (c : Nat) (j : Int),0 ≤ j → j + c = (bs.length : Int) → Ev (fun k=>spec_l14Next.l2 k q o bs start place true j x.f0 x.f1 x.f2 x.f3 place start) (chk (All (fun k=>Apart x ⟨place,start⟩ (rd_T62 o k) (rd_T37 bs k)) j (bs.length : Int)) (place,start,true) r1):=by
              intro c
              induction c with
              | zero =>
                intro j j0 hc
                obtain rfl : j = (bs.length : Int):=by omega
                rw [chk_pos (All.end_ _ _)]
                refine Ev.step (fun k=>by rw [spec_l14Next.l2]) ?_
                simp (disch:=omega) only [if_neg]
                simp only [if_true]
                exact Ev.now _
              | succ c ihc =>
                intro j j0 hc
                refine Ev.step (fun k=>by rw [spec_l14Next.l2]) ?_
                simp (disch:=omega) only [if_pos]
                rw [apart_eq x ⟨place,start⟩ _ _ hx (fit_small hq.2 hx hf) (ho j j0 (by omega)) (hb j j0 (by omega))]
                simp only [Option.bind_some]
                rw [wrap64_id (by omega) (by omega)]
                by_cases ha : Apart x ⟨place,start⟩ (rd_T62 o j) (rd_T37 bs j)
                · rw [chk_pos ha,chk_congr (show All (fun k=>Apart x ⟨place,start⟩ (rd_T62 o k) (rd_T37 bs k)) j (bs.length : Int) ↔ All (fun k=>Apart x ⟨place,start⟩ (rd_T62 o k) (rd_T37 bs k)) (j + 1) (bs.length : Int) from by
                    rw [All.step (show j < (bs.length : Int) by omega)]
                    exact ⟨fun m=>m.2,fun m=>⟨ha,m⟩⟩)]
                  exact ihc (j + 1) (by omega) (by omega)
                · rw [chk_neg ha,chk_neg (fun m=>ha (m j (by omega) (by omega)))]
                  refine Ev.step (fun k=>by rw [spec_l14Next.l2]) ?_
                  simp only [Bool.false_eq_true,if_false,ite_self]
                  rw [wrap64_id (by omega) (by omega)]
                  exact e1
            by_cases hB : Beside q x ⟨place,start⟩ o bs (bs.length : Int)
            · refine ⟨(place,start,true),fun _=>hB,?_,?_⟩
              · refine Ev.step (fun k=>by rw [impl_nextBerth.l1]) ?_
                rw [wrap64_id (by omega) (by omega)]
                simp (disch:=omega) only [if_pos]
                refine Ev.bind hi ?_
                rw [chk_pos hB]
                simp only [if_true]
                exact Ev.now _
              · refine Ev.step (fun k=>by rw [spec_l14Next.l1]) ?_
                rw [wrap64_id (by omega) (by omega)]
                simp (disch:=omega) only [if_pos]
                have:=sp bs.length 0 (by omega) (by omega)
                rwa [chk_pos hB.2] at this
            · refine ⟨r1,q1,?_,?_⟩
              · refine Ev.step (fun k=>by rw [impl_nextBerth.l1]) ?_
                rw [wrap64_id (by omega) (by omega)]
                simp (disch:=omega) only [if_pos]
                refine Ev.bind hi ?_
                rw [chk_neg hB]
                simp only [Bool.false_eq_true,if_false]
                rw [wrap64_id (by omega) (by omega)]
                exact i1
              · refine Ev.step (fun k=>by rw [spec_l14Next.l1]) ?_
                rw [wrap64_id (by omega) (by omega)]
                simp (disch:=omega) only [if_pos]
                have:=sp bs.length 0 (by omega) (by omega)
                rwa [chk_neg (fun m=>hB ⟨hf,m⟩)] at this
          · refine ⟨r0,q0,?_,?_⟩
            · refine Ev.step (fun k=>by rw [impl_nextBerth.l1]) ?_
              rw [wrap64_id (x:=q - x.f0) (by omega) (by omega),wrap64_id (x:=start + 1) (by omega) (by omega)]
              simp (disch:=omega) only [if_neg]
              exact i0
            · refine Ev.step (fun k=>by rw [spec_l14Next.l1]) ?_
              rw [wrap64_id (by omega) (by omega),wrap64_id (by omega) (by omega)]
              simp (disch:=omega) only [if_neg]
              exact e0
      obtain ⟨r,qr,ir,er⟩:=inner 31 0 (by omega) (by omega) (by omega)
      refine ⟨r,qr,?_,?_⟩
      · refine Ev.step (fun k=>by rw [impl_nextBerth.l0]) ?_
        simp (disch:=omega) only [if_pos]
        exact ir
      · refine Ev.step (fun k=>by rw [spec_l14Next.l0]) ?_
        simp (disch:=omega) only [if_pos]
        exact er
  exact main (1001 - x.f1).toNat x.f1 (by omega) (by omega)
end Go.Proofs.Ytcciljjnpfgaeaa.G

namespace Go.Proofs.Ytcciljjnpfgaeaa.G
open Go.RowKit Go.Proofs.YtcciljjnpfgaeaaW.PrintWords Go.Proofs.YtcciljjnpfgaeaaW.PrintLast
set_option linter.unusedVariables false
set_option linter.unusedSimpArgs false
/-- x stands in the list. -/
def Has (l : List Int) (x : Int) : Prop := ¬ All (fun j => ¬ rd l j = x) 0 (l.length : Int)
theorem take_len (l : List Int) (i : Int) (h0 : 0 ≤ i) (h1 : i ≤ (l.length : Int)) : ((l.take i.toNat).length : Int) = i:=by rw [List.length_take];omega
/-- The order's item i is a number from 0 up to, and without, n that none before it is. -/
def itemOk (o : List Int) (n : Int) (i : Int) : Prop:=(0 ≤ rd o i ∧ rd o i ≤ n - 1) ∧ ¬ Has (o.take i.toNat) (rd o i)
def Perm (o : List Int) (n : Int) : Prop:=(o.length : Int) = n ∧ All (itemOk o n) 0 (o.length : Int)
theorem rd62_app (xs : List S62) (x : S62) (k : Int) (h0 : 0 ≤ k) : rd_T62 (xs ++ [x]) k = if k < (xs.length : Int) then rd_T62 xs k else if k = (xs.length : Int) then x else z62:=by
  unfold rd_T62
  rw [List.getD_eq_getElem?_getD,List.getD_eq_getElem?_getD]
  by_cases h : k < (xs.length : Int)
  · rw [if_pos h,List.getElem?_append_left (by omega)]
  · rw [if_neg h,List.getElem?_append_right (by omega)]
    by_cases e : k = (xs.length : Int)
    · rw [if_pos e,show k.toNat - xs.length = 0 from by omega];rfl
    · rw [if_neg e,show k.toNat - xs.length = (k.toNat - xs.length - 1) + 1 from by omega];rfl
theorem rd37_app (xs : List S37) (x : S37) (k : Int) (h0 : 0 ≤ k) : rd_T37 (xs ++ [x]) k = if k < (xs.length : Int) then rd_T37 xs k else if k = (xs.length : Int) then x else z37:=by
  unfold rd_T37
  rw [List.getD_eq_getElem?_getD,List.getD_eq_getElem?_getD]
  by_cases h : k < (xs.length : Int)
  · rw [if_pos h,List.getElem?_append_left (by omega)]
  · rw [if_neg h,List.getElem?_append_right (by omega)]
    by_cases e : k = (xs.length : Int)
    · rw [if_pos e,show k.toNat - xs.length = 0 from by omega];rfl
    · rw [if_neg e,show k.toNat - xs.length = (k.toNat - xs.length - 1) + 1 from by omega];rfl
/-- What stands while ships get their berths: the plan's length, the ships and berths so far. -/
structure Laid (l : List S62) (p : List S37) (os : List S62) (bs : List S37) (i : Int) : Prop where
  p0 : 0 ≤ i
  pn : (p.length : Int) = (l.length : Int)
  ol : (os.length : Int) = i
  bl : (bs.length : Int) = i
  ok : All (fun k=>shipOk (rd_T62 os k)) 0 i
  sm : All (fun k=>small (rd_T37 bs k)) 0 i
end Go.Proofs.Ytcciljjnpfgaeaa.G

namespace Go.Proofs.Ytcciljjnpfgaeaa.G
open Go.RowKit Go.Proofs.YtcciljjnpfgaeaaW.PrintWords Go.Proofs.YtcciljjnpfgaeaaW.PrintLast
set_option linter.unusedVariables false
set_option linter.unusedSimpArgs false
theorem inOrder_spec (q : Int) (l : List S62) (hs : Ships q l) (o : List Int) (hp : Perm o (l.length : Int)) :
    ∃ r : List S37 × Bool,(r.1.length : Int) ≤ 5 ∧ Ev (fun k=>spec_l14InOrder.f k q l o) r:=by
  have h5:=hs.2.1
  have hn:=hp.1
  unfold spec_l14InOrder.f
  simp (disch:=omega) only [if_pos]
  have main : ∀ (d : Nat) (i : Int) (p : List S37) (os : List S62) (bs : List S37),Laid l p os bs i → i + d = (o.length : Int) →
      ∃ r : List S37 × Bool,(r.1.length : Int) ≤ 5 ∧ Ev (fun k=>spec_l14InOrder.l0 k q l o p os bs i) r:=by
    intro d
    induction d with
    | zero =>
      intro i p os bs hL hd
      refine ⟨(p,true),by have:=hL.pn;show (p.length : Int) ≤ 5;omega,?_⟩
      refine Ev.step (fun k=>by rw [spec_l14InOrder.l0]) ?_
      simp (disch:=omega) only [if_neg]
      exact Ev.now _
    | succ d ih =>
      intro i p os bs hL hd
      obtain ⟨p0,pn,ol,bl,ok,sm⟩:=hL
      have hi:=(hp.2 i p0 (by omega)).1
      have hx : shipOk (rd_T62 l (rd o i)):=hs.2.2 (rd o i) hi.1 (by omega)
      obtain ⟨r,hF,_,es⟩:=next_both q hs.1 (rd_T62 l (rd o i)) hx os bs (by omega) (by omega) (by rw [bl];exact ok) (by rw [bl];exact sm)
      obtain ⟨b0,b1,bt⟩:=r
      cases bt with
      | false =>
        refine ⟨([],false),by simp,?_⟩
        refine Ev.step (fun k=>by rw [spec_l14InOrder.l0]) ?_
        simp (disch:=omega) only [if_pos]
        refine Ev.bind es ?_
        simp only [Bool.false_eq_true,if_false]
        exact Ev.now _
      | true =>
        have hB : small ⟨b0,b1⟩:=fit_small hs.1.2 hx (hF rfl).1
        obtain ⟨r,r1,rs⟩:=ih (i + 1) (p.set (rd o i).toNat ⟨b0,b1⟩) (os ++ [rd_T62 l (rd o i)]) (bs ++ [(⟨b0,b1⟩ : S37)]) ⟨by omega,by rw [List.length_set];exact pn,by rw [List.length_append];simp only [List.length_cons,List.length_nil];omega,by rw [List.length_append];simp only [List.length_cons,List.length_nil];omega,fun k k0 k1=>by
            show shipOk (rd_T62 (os ++ [rd_T62 l (rd o i)]) k)
            rw [rd62_app _ _ k k0]
            by_cases h : k < (os.length : Int)
            · rw [if_pos h];exact ok k k0 (by omega)
            · rw [if_neg h,if_pos (by omega)];exact hx,fun k k0 k1=>by
            show small (rd_T37 (bs ++ [(⟨b0,b1⟩ : S37)]) k)
            rw [rd37_app _ _ k k0]
            by_cases h : k < (bs.length : Int)
            · rw [if_pos h];exact sm k k0 (by omega)
            · rw [if_neg h,if_pos (by omega)];exact hB⟩ (by omega)
        refine ⟨r,r1,?_⟩
        refine Ev.step (fun k=>by rw [spec_l14InOrder.l0]) ?_
        simp (disch:=omega) only [if_pos]
        refine Ev.bind es ?_
        simp only [if_true]
        simp (disch:=omega) only [if_pos,wrap64_id]
        exact rs
  exact main o.length 0 (List.replicate ((l.length : Int) : Int).toNat z37) [] [] ⟨by omega,by rw [List.length_replicate];omega,rfl,rfl,fun k a b=>by omega,fun k a b=>by omega⟩ (by omega)
end Go.Proofs.Ytcciljjnpfgaeaa.G

namespace Go.Proofs.Ytcciljjnpfgaeaa.G
open Go.RowKit Go.Proofs.YtcciljjnpfgaeaaW.PrintWords Go.Proofs.YtcciljjnpfgaeaaW.PrintLast
set_option linter.unusedVariables false
set_option linter.unusedSimpArgs false
/-! What a plan in an order is: possible; and there is one if no ship is longer than the quay. -/
theorem has_iff (l : List Int) (x : Int) : Has l x ↔ ∃ j,0 ≤ j ∧ j < (l.length : Int) ∧ rd l j = x:=by
  unfold Has All
  constructor
  · intro h
    refine Classical.byContradiction fun hn=>h fun j a b e=>hn ⟨j,a,b,e⟩
  · rintro ⟨j,a,b,e⟩ h
    exact h j a b e
theorem rd_take (l : List Int) (n k : Int) (h0 : 0 ≤ k) (h1 : k < n) : rd (l.take n.toNat) k = rd l k:=by
  unfold rd
  rw [List.getD_eq_getElem?_getD,List.getD_eq_getElem?_getD,List.getElem?_take_of_lt (by omega)]
end Go.Proofs.Ytcciljjnpfgaeaa.G

namespace Go.Proofs.Ytcciljjnpfgaeaa.G
open Go.RowKit Go.Proofs.YtcciljjnpfgaeaaW.PrintWords Go.Proofs.YtcciljjnpfgaeaaW.PrintLast
set_option linter.unusedVariables false
set_option linter.unusedSimpArgs false
/-- An order as a list: numbers told apart, from m up to, and without, n. -/
def From (o : List Int) (m n : Int) : Prop:=o.Nodup ∧ (∀ y ∈ o,m ≤ y ∧ y < n) ∧ (o.length : Int) = n - m
theorem from_perm {o : List Int} {n : Int} (h : From o 0 n) : Perm o n:=by
  obtain ⟨h1,h2,h3⟩:=h
  refine ⟨by omega,fun i i0 i1=>⟨by have:=h2 _ (rd_mem o i i0 i1);omega,?_⟩⟩
  rw [has_iff]
  rintro ⟨j,j0,j1,e⟩
  rw [take_len o i i0 (by omega)] at j1
  rw [rd_take o i j j0 j1] at e
  unfold rd at e
  rw [List.getD_eq_getElem?_getD,List.getD_eq_getElem?_getD,List.getElem?_eq_getElem (show j.toNat < o.length by omega),List.getElem?_eq_getElem (show i.toNat < o.length by omega)] at e
  have:=(List.getElem_inj h1).1 e
  omega
theorem from_put {o : List Int} {m n : Int} (h : From o (m + 1) n) (hm : m < n) (b : Nat) : From ((([] : List Int) ++ o.take b ++ [m]) ++ o.drop b) m n:=by
  obtain ⟨h1,h2,h3⟩:=h
  have hp : ((([] : List Int) ++ o.take b ++ [m]) ++ o.drop b).Perm (m :: o):=by
    rw [List.nil_append,List.append_assoc,List.singleton_append]
    exact List.perm_middle.trans (by rw [List.take_append_drop])
  refine ⟨hp.nodup_iff.2 (List.nodup_cons.2 ⟨fun hm=>by have:=h2 m hm;omega,h1⟩),fun y hy=>?_,?_⟩
  · rcases List.mem_cons.1 (hp.mem_iff.1 hy) with e|hy
    · omega
    · have:=h2 y hy;omega
  · rw [hp.length_eq,List.length_cons];omega
def BerthsQ (r : List S37 × Int × Int) : Prop:=(r.1.length : Int) ≤ 1000 ∧ 0 ≤ r.2.1 ∧ r.2.1 ≤ 100000
theorem berths2 {l : List Int} (hc : Cd l) (p : List S37) (b : Bool) (a s : Int) (hl : (p.length : Int) ≤ 1000) (hb : b = true → 0 < (p.length : Int)) (ha : 0 ≤ a) (ha2 : a ≤ 10000) : EvP (fun k=>spec_l1Cur_berths.j2 k p b l a s) BerthsQ:=by
  refine EvP.step (fun k=>by rw [spec_l1Cur_berths.j2]) ?_
  refine EvP.ite (fun g=>?_) (fun g=>EvP.now _ ⟨hl,ha,by dsimp only;omega⟩)
  have hp:=hb g
  refine EvP.pick hc ha (by omega) (fun b a' s' b0 b1 a0 a1=>?_)
  dsimp only
  simp (disch:=omega) only [if_pos]
  refine EvP.among hc (by omega) (by omega) (by decide) (fun v a2 s2 hv a3 a4=>?_)
  dsimp only
  refine EvP.among hc (by omega) (by omega) (by decide) (fun v2 a5 s5 hv2 a6 a7=>?_)
  dsimp only
  exact EvP.now _ ⟨by dsimp only;rw [List.length_set];exact hl,by dsimp only;omega,by dsimp only;omega⟩
theorem berths1 {l : List Int} (hc : Cd l) (p : List S37) (a s : Int) (hl : (p.length : Int) ≤ 1000) (ha : 0 ≤ a) (ha2 : a ≤ 5000) : EvP (fun k=>spec_l1Cur_berths.j1 k p l a s) BerthsQ:=by
  refine EvP.step (fun k=>by rw [spec_l1Cur_berths.j1]) ?_
  refine EvP.ite (fun g=>?_) (fun g=>berths2 hc _ _ _ _ hl (fun e=>by cases e) ha (by omega))
  refine EvP.one hc ha (by omega) (fun b a' s' a0 a1=>?_)
  dsimp only
  exact berths2 hc _ _ _ _ hl (fun _=>by omega) (by omega) (by omega)
theorem berths0 {l : List Int} (hc : Cd l) (q : Int) (x2 : List S62) (h2 : (x2.length : Int) ≤ 100) : ∀ (d : Nat) (o : List Int) (i a s : Int),i + 1 = d → From o (i + 1) (x2.length : Int) → 0 ≤ a → a + 2 * d ≤ 4000 → EvP (fun k=>spec_l1Cur_berths.l0 k q x2 o i l a s) BerthsQ:=by
  intro d
  induction d with
  | zero =>
    intro o i a s hd hf ha ha2
    refine EvP.step (fun k=>by rw [spec_l1Cur_berths.l0]) ?_
    simp (disch:=omega) only [if_neg]
    refine EvP.bind ⟨_,rfl,spec_ships q x2⟩ (fun t ht=>?_)
    subst ht
    by_cases hs : Ships q x2
    · rw [chk_pos hs]
      simp only [if_true]
      obtain ⟨r,r1,es⟩:=inOrder_spec q x2 hs o (from_perm (by rw [show i + 1 = 0 from by omega] at hf;exact hf))
      refine EvP.bind ⟨_,rfl,es⟩ (fun t ht=>?_)
      subst ht
      exact berths1 hc _ _ _ (by omega) ha (by omega)
    · rw [chk_neg hs]
      simp only [Bool.false_eq_true,if_false]
      exact berths1 hc _ _ _ (by simp) ha (by omega)
  | succ d ih =>
    intro o i a s hd hf ha ha2
    have ho:=hf.2.2
    refine EvP.step (fun k=>by rw [spec_l1Cur_berths.l0]) ?_
    simp (disch:=omega) only [if_pos]
    rw [wrap64_id (x:=(o.length : Int) + 1) (by omega) (by omega)]
    refine EvP.pick hc ha (by omega) (fun b a' s' b0 b1 a0 a1=>?_)
    have hb : b ≤ (o.length : Int):=by omega
    simp only [Option.bind_some]
    simp only [if_pos b0,if_pos hb]
    have hL : (([] : List Int) ++ o.take b.toNat).length ≤ 100:=by rw [List.nil_append,List.length_take];omega
    have hL2 : (([] : List Int) ++ o.take b.toNat ++ [i]).length ≤ 101:=by rw [List.length_append];simp only [List.length_cons,List.length_nil];omega
    have hD : (o.drop b.toNat).length ≤ 100:=by rw [List.length_drop];omega
    have hT : (o.take b.toNat).length ≤ 100:=by rw [List.length_take];omega
    simp only [if_pos (show ([] : List Int).length + (o.take b.toNat).length < 17592186044416 by simp only [List.length_nil];omega),if_pos (show (([] : List Int) ++ o.take b.toNat).length + [i].length < 17592186044416 by simp only [List.length_cons,List.length_nil];omega),if_pos (show (([] : List Int) ++ o.take b.toNat ++ [i]).length + (o.drop b.toNat).length < 17592186044416 by omega)]
    rw [wrap64_id (x:=i - 1) (by omega) (by omega)]
    exact ih _ _ _ _ (by omega) (by rw [show i - 1 + 1 = i from by omega];exact from_put hf (by omega) _) (by omega) (by omega)
theorem berths_ok {l : List Int} (hc : Cd l) (q : Int) (x2 : List S62) (h2 : (x2.length : Int) ≤ 100) (a s : Int) (ha : 0 ≤ a) (ha2 : a ≤ 3000) : EvP (fun k=>spec_l1Cur_berths.f k l a s q x2) BerthsQ:=by
  unfold spec_l1Cur_berths.f
  rw [wrap64_id (x:=(x2.length : Int) - 1) (by omega) (by omega)]
  exact berths0 hc q x2 h2 x2.length [] _ a s (by omega) ⟨List.nodup_nil,(fun y hy=>by cases hy),by rw [List.length_nil];omega⟩ ha (by omega)
def QuayQ (r : Int × List S62 × List S37 × Int) : Prop:=(r.2.1.length : Int) ≤ 30 ∧ (r.2.2.1.length : Int) ≤ 1000
theorem drawQuay {l : List Int} (hc : Cd l) : EvP (fun k=>spec_DrawQuayUse.f k l) QuayQ:=by
  unfold spec_DrawQuayUse.f
  refine EvP.bind (ships_ok hc 0) (fun r h=>?_)
  obtain ⟨q,x,a,s⟩:=r
  obtain ⟨h1,h2,h3⟩:=h
  dsimp only at h1 h2 h3 ⊢
  refine EvP.bind (berths_ok hc q x (by omega) a s h2 (by omega)) (fun r h=>?_)
  obtain ⟨p,a2,s2⟩:=r
  obtain ⟨h4,h5,h6⟩:=h
  dsimp only at h4 h5 h6 ⊢
  refine EvP.among hc (by omega) (by omega) (by decide) (fun v a3 s3 hv a4 a5=>?_)
  dsimp only
  exact EvP.now _ ⟨h1,h4⟩
def NextQ (r : Int × List S62 × List S37) : Prop:=(r.2.1.length : Int) ≤ 30 ∧ (r.2.2.length : Int) ≤ 1000
theorem drawNext {l : List Int} (hc : Cd l) : EvP (fun k=>spec_DrawNextBerth.f k l) NextQ:=by
  unfold spec_DrawNextBerth.f
  refine EvP.bind (ships_ok hc 0) (fun r h=>?_)
  obtain ⟨q,x,a,s⟩:=r
  obtain ⟨h1,h2,h3⟩:=h
  dsimp only at h1 h2 h3 ⊢
  rw [wrap64_id (x:=(x.length : Int) + 1) (by omega) (by omega)]
  refine EvP.pick hc h2 (by omega) (fun b a' s' b0 b1 a0 a1=>?_)
  dsimp only
  simp only [if_pos b0,if_pos (show b ≤ (x.length : Int) by omega)]
  refine EvP.bind (berths_ok hc q (x.take b.toNat) (by rw [List.length_take];omega) a' s' (by omega) (by omega)) (fun r h=>?_)
  exact EvP.now _ ⟨h1,h.1⟩
end Go.Proofs.Ytcciljjnpfgaeaa.G

namespace Go.Proofs.Ytcciljjnpfgaeaa.G
open Go.RowKit Go.Proofs.YtcciljjnpfgaeaaW.PrintWords Go.Proofs.YtcciljjnpfgaeaaW.PrintLast
set_option linter.unusedVariables false
set_option linter.unusedSimpArgs false
/-- Ship i of a plan stands well. -/
def Stand (q : Int) (l : List S62) (p : List S37) (i : Int) : Prop:=Beside q (rd_T62 l i) (rd_T37 p i) l p i
def Poss (q : Int) (l : List S62) (p : List S37) : Prop:=Ships q l ∧ (p.length : Int) = (l.length : Int) ∧ All (Stand q l p) 0 (p.length : Int)
theorem poss_at {q : Int} {l : List S62} {p : List S37} (h : Poss q l p) (i : Int) (h0 : 0 ≤ i) (h1 : i < (l.length : Int)) : shipOk (rd_T62 l i) ∧ Fit q (rd_T62 l i) (rd_T37 p i):=⟨h.1.2.2 i h0 h1,(h.2.2 i h0 (by have:=h.2.1;omega)).1⟩
end Go.Proofs.Ytcciljjnpfgaeaa.G

namespace Go.Proofs.Ytcciljjnpfgaeaa.G
open Go.RowKit Go.Proofs.YtcciljjnpfgaeaaW.PrintWords Go.Proofs.YtcciljjnpfgaeaaW.PrintLast
set_option linter.unusedVariables false
set_option linter.unusedSimpArgs false
theorem rd62_take (l : List S62) (n k : Int) (h0 : 0 ≤ k) (h1 : k < n) : rd_T62 (l.take n.toNat) k = rd_T62 l k:=by
  unfold rd_T62
  rw [List.getD_eq_getElem?_getD,List.getD_eq_getElem?_getD,List.getElem?_take_of_lt (by omega)]
theorem rd37_take (l : List S37) (n k : Int) (h0 : 0 ≤ k) (h1 : k < n) : rd_T37 (l.take n.toNat) k = rd_T37 l k:=by
  unfold rd_T37
  rw [List.getD_eq_getElem?_getD,List.getD_eq_getElem?_getD,List.getElem?_take_of_lt (by omega)]
theorem len62_take (l : List S62) (i : Int) (h0 : 0 ≤ i) (h1 : i ≤ (l.length : Int)) : ((l.take i.toNat).length : Int) = i:=by rw [List.length_take];omega
theorem len37_take (l : List S37) (i : Int) (h0 : 0 ≤ i) (h1 : i ≤ (l.length : Int)) : ((l.take i.toNat).length : Int) = i:=by rw [List.length_take];omega
theorem beside_take (q : Int) (x : S62) (b : S37) (l : List S62) (p : List S37) (n : Int) : Beside q x b (l.take n.toNat) (p.take n.toNat) n ↔ Beside q x b l p n:=by
  constructor
  · rintro ⟨h1,h2⟩
    refine ⟨h1,fun k k0 k1=>?_⟩
    have:=h2 k k0 k1
    show Apart x b (rd_T62 l k) (rd_T37 p k)
    rw [← rd62_take l n k k0 k1,← rd37_take p n k k0 k1]
    exact this
  · rintro ⟨h1,h2⟩
    refine ⟨h1,fun k k0 k1=>?_⟩
    show Apart x b (rd_T62 (l.take n.toNat) k) (rd_T37 (p.take n.toNat) k)
    rw [rd62_take l n k k0 k1,rd37_take p n k k0 k1]
    exact h2 k k0 k1
theorem poss_small {q : Int} {l : List S62} {p : List S37} (hs : Ships q l) (n : Int) (hn : n ≤ (l.length : Int)) (h : All (Stand q l p) 0 n) : All (fun k=>small (rd_T37 p k)) 0 n:=by
  intro k k0 k1
  exact fit_small hs.1.2 (hs.2.2 k k0 (by omega)) (h k k0 k1).1
theorem impl_stand {q : Int} {l : List S62} (hs : Ships q l) (p : List S37) (i : Int) (h0 : 0 ≤ i) (h1 : i < (p.length : Int)) (h2 : i < (l.length : Int)) (ha : All (Stand q l p) 0 i) : Ev (fun k=>impl_fits.f k q (rd_T62 l i).f0 (rd_T62 l i).f1 (rd_T62 l i).f2 (rd_T62 l i).f3 (rd_T37 p i).f0 (rd_T37 p i).f1 (l.take i.toNat) (p.take i.toNat)) (chk (Stand q l p i) true false):=by
  have hl:=hs.2.1
  have e1:=len62_take l i h0 (by omega)
  have e2:=len37_take p i h0 (by omega)
  have h:=impl_Fits q hs.1 (rd_T62 l i) (hs.2.2 i h0 h2) (rd_T37 p i) (l.take i.toNat) (p.take i.toNat) (by omega) (by omega) (by
      rw [e2];intro k k0 k1
      show shipOk (rd_T62 (l.take i.toNat) k)
      rw [rd62_take l i k k0 k1]
      exact hs.2.2 k k0 (by omega)) (by
      rw [e2];intro k k0 k1
      show small (rd_T37 (p.take i.toNat) k)
      rw [rd37_take p i k k0 k1]
      exact poss_small hs i (by omega) ha k k0 k1)
  rw [e2,chk_congr (beside_take q (rd_T62 l i) (rd_T37 p i) l p i)] at h
  exact h
theorem check_all {P : Int → Prop} (g : Nat → Int → Option Bool) (n : Int) (hend : Ev (fun k=>g k n) true) (hstep : ∀ i,0 ≤ i → i < n → All P 0 i → (P i → Ev (fun k=>g k (i + 1)) (chk (All P (i + 1) n) true false)) → Ev (fun k=>g k i) (chk (All P i n) true false)) : ∀ (d : Nat) (i : Int),0 ≤ i → i + d = n → All P 0 i → Ev (fun k=>g k i) (chk (All P i n) true false):=by
  intro d
  induction d with
  | zero =>
    intro i h0 hd ha
    obtain rfl : i = n:=by omega
    rw [chk_pos (All.end_ P i)]
    exact hend
  | succ d ih =>
    intro i h0 hd ha
    refine hstep i h0 (by omega) ha (fun hp=>ih (i + 1) (by omega) (by omega) (fun j a b=>?_))
    by_cases e : j = i
    · rw [e];exact hp
    · exact ha j a (by omega)
theorem impl_poss (q : Int) (l : List S62) (p : List S37) : Ev (fun k=>impl_IsPossiblePlan.f k q l p) (chk (Poss q l p) true false):=by
  have no : ¬ Poss q l p → Ev (fun k=>impl_IsPossiblePlan.j0 k q l p true) (chk (Poss q l p) true false):=by
    intro h
    rw [chk_neg h]
    refine Ev.step (fun k=>by rw [impl_IsPossiblePlan.j0]) ?_
    simp only [if_true];exact Ev.now _
  unfold impl_IsPossiblePlan.f
  simp only [impl_ships,Option.bind_some]
  refine Ev.ite (fun hs=>?_) (fun hs=>no (fun m=>hs (chk_true.2 m.1)))
  have hs:=chk_true.1 hs
  have hl:=hs.2.1
  by_cases hn : (p.length : Int) = (l.length : Int)
  · rw [show ((p.length : Int) != (l.length : Int)) = false from by rw [hn];exact bne_self_eq_false _]
    refine Ev.step (fun k=>by rw [impl_IsPossiblePlan.j0]) ?_
    simp only [Bool.false_eq_true,if_false]
    rw [chk_congr (show Poss q l p ↔ All (Stand q l p) 0 (p.length : Int) from ⟨fun m=>m.2.2,fun m=>⟨hs,hn,m⟩⟩)]
    refine check_all (fun k i=>impl_IsPossiblePlan.l0 k q l p p (p.length : Int) i) (p.length : Int) ?_ ?_ p.length 0 (by omega) (by omega) (fun j a b=>by omega)
    · refine Ev.step (fun k=>by rw [impl_IsPossiblePlan.l0]) ?_
      simp only [Int.lt_irrefl,if_false]
      exact Ev.now _
    · intro i h0 hlt ha nx
      refine Ev.step (fun k=>by rw [impl_IsPossiblePlan.l0]) ?_
      simp (disch:=omega) only [if_pos]
      refine Ev.bind (impl_stand hs p i h0 hlt (by omega) ha) ?_
      refine Ev.ite (fun g=>?_) (fun g=>?_)
      · rw [wrap64_id (by omega) (by omega),chk_congr (All.step hlt),chk_congr (show Stand q l p i ∧ All (Stand q l p) (i + 1) (p.length : Int) ↔ All (Stand q l p) (i + 1) (p.length : Int) from ⟨fun m=>m.2,fun m=>⟨chk_true.1 g,m⟩⟩)]
        exact nx (chk_true.1 g)
      · rw [chk_neg (fun m=>g (chk_true.2 (m i (by omega) hlt)))];exact Ev.now _
  · rw [show ((p.length : Int) != (l.length : Int)) = true from by rw [bne_iff_ne];exact hn]
    exact no (fun m=>hn m.2.1)
end Go.Proofs.Ytcciljjnpfgaeaa.G

namespace Go.Proofs.Ytcciljjnpfgaeaa.G
open Go.RowKit Go.Proofs.YtcciljjnpfgaeaaW.PrintWords Go.Proofs.YtcciljjnpfgaeaaW.PrintLast
set_option linter.unusedVariables false
set_option linter.unusedSimpArgs false
theorem spec_Fits (q : Int) (hq : 1 ≤ q ∧ q ≤ 30) (x : S62) (hx : shipOk x) (b : S37) : spec_l14Fits.f q x.f0 x.f1 x.f2 x.f3 b.f0 b.f1 = some (chk (Fit q x b) true false):=by
  unfold shipOk at hx
  unfold spec_l14Fits.f
  rw [wrap64_id (by omega) (by omega)]
  simp only [spec_l1In_eq,Option.bind_some,decide_eq_true_eq]
  by_cases g1 : 0 ≤ b.f0 ∧ b.f0 ≤ q - x.f0
  · rw [if_pos g1]
    by_cases g2 : x.f1 ≤ b.f1 ∧ b.f1 ≤ 1000
    · rw [decide_eq_true g2,chk_pos (show Fit q x b from ⟨g1,g2⟩)]
    · rw [decide_eq_false g2,chk_neg (fun m : Fit q x b=>g2 m.2)]
  · rw [if_neg g1,chk_neg (fun m : Fit q x b=>g1 m.1)]
/-- The reference's plan for the first ships of a valid list. -/
theorem spec_plan {q : Int} {l : List S62} (hs : Ships q l) (p : List S37) (hpl : (p.length : Int) ≤ 1099511627776) : Ev (fun k=>spec_l14Plan.f k q l p) (chk ((p.length : Int) ≤ (l.length : Int) ∧ All (Stand q l p) 0 (p.length : Int)) true false):=by
  have hl:=hs.2.1
  unfold spec_l14Plan.f
  have key : ((p.length : Int) ≤ (l.length : Int) ∧ All (Stand q l p) 0 (p.length : Int)) ↔ All (fun i=>i < (l.length : Int) ∧ Stand q l p i) 0 (p.length : Int):=by
    constructor
    · rintro ⟨h1,h2⟩ i a b
      exact ⟨by omega,h2 i a b⟩
    · intro h
      refine ⟨?_,fun i a b=>(h i a b).2⟩
      by_cases e : (p.length : Int) ≤ 0
      · omega
      · have:=(h ((p.length : Int) - 1) (by omega) (by omega)).1
        omega
  rw [chk_congr key]
  refine check_all (fun k i=>spec_l14Plan.l0 k q l p i) (p.length : Int) ?_ ?_ p.length 0 (by omega) (by omega) (fun j a b=>by omega)
  · refine Ev.step (fun k=>by rw [spec_l14Plan.l0]) ?_
    simp only [Int.lt_irrefl,if_false]
    exact Ev.now _
  · intro i h0 hlt ha nx
    have no : ¬ (i < (l.length : Int) ∧ Stand q l p i) → Ev (fun k=>spec_l14Plan.j1 k q l p i true) (chk (All (fun i=>i < (l.length : Int) ∧ Stand q l p i) i (p.length : Int)) true false):=by
      intro h
      rw [chk_neg (fun m=>h (m i (by omega) hlt))]
      refine Ev.step (fun k=>by rw [spec_l14Plan.j1]) ?_
      simp only [if_true];exact Ev.now _
    refine Ev.step (fun k=>by rw [spec_l14Plan.l0]) ?_
    simp only [if_pos hlt]
    refine Ev.ite (fun g1=>no (fun m=>by omega)) (fun g1=>?_)
    simp (disch:=omega) only [if_pos]
    rw [spec_Fits q hs.1 (rd_T62 l i) (hs.2.2 i h0 (by omega)) (rd_T37 p i)]
    simp only [Option.bind_some]
    by_cases g2 : Fit q (rd_T62 l i) (rd_T37 p i)
    · rw [chk_pos g2]
      refine Ev.step (fun k=>by rw [spec_l14Plan.j1]) ?_
      simp only [Bool.not_true,Bool.false_eq_true,if_false]
      have sm:=poss_small hs i (by omega) (fun j a b=>(ha j a b).2)
      have inner:=Ev.check (fun k j=>spec_l14Plan.l1 k q l p i j) i (fun j=>Apart (rd_T62 l i) (rd_T37 p i) (rd_T62 l j) (rd_T37 p j)) (chk (All (fun i=>i < (l.length : Int) ∧ Stand q l p i) (i + 1) (p.length : Int)) true false) false 0
      rw [chk_congr (All.step hlt)]
      by_cases g3 : Stand q l p i
      · rw [chk_congr (show (i < (l.length : Int) ∧ Stand q l p i) ∧ All (fun i=>i < (l.length : Int) ∧ Stand q l p i) (i + 1) (p.length : Int) ↔ All (fun i=>i < (l.length : Int) ∧ Stand q l p i) (i + 1) (p.length : Int) from ⟨fun m=>m.2,fun m=>⟨⟨by omega,g3⟩,m⟩⟩)]
        refine Ev.upc (fun k j=>spec_l14Plan.l1 k q l p i j) _ i 0 ?_ ?_ 0 (by omega) (by omega)
        · refine Ev.step (fun k=>by rw [spec_l14Plan.l1]) ?_
          simp only [Int.lt_irrefl,if_false]
          rw [wrap64_id (by omega) (by omega)]
          exact nx ⟨by omega,g3⟩
        · intro j j0 jlt hj
          refine Ev.step (fun k=>by rw [spec_l14Plan.l1]) ?_
          simp (disch:=omega) only [if_pos]
          rw [apart_eq _ _ _ _ (hs.2.2 i h0 (by omega)) (fit_small hs.1.2 (hs.2.2 i h0 (by omega)) g2) (hs.2.2 j j0 (by omega)) (sm j j0 jlt),chk_pos (g3.2 j j0 jlt)]
          simp only [Option.bind_some,if_true]
          rw [wrap64_id (by omega) (by omega)]
          exact hj
      · rw [chk_neg (fun m=>g3 m.1.2)]
        have ne : ¬ All (fun j=>Apart (rd_T62 l i) (rd_T37 p i) (rd_T62 l j) (rd_T37 p j)) 0 i:=fun m=>g3 ⟨g2,m⟩
        have main : ∀ (d : Nat) (j : Int),0 ≤ j → j + d = i → ¬ All (fun j=>Apart (rd_T62 l i) (rd_T37 p i) (rd_T62 l j) (rd_T37 p j)) j i → Ev (fun k=>spec_l14Plan.l1 k q l p i j) false:=by
          intro d
          induction d with
          | zero =>
            intro j j0 jd hj
            exact absurd (fun x a b=>by omega) hj
          | succ d ih =>
            intro j j0 jd hj
            refine Ev.step (fun k=>by rw [spec_l14Plan.l1]) ?_
            simp (disch:=omega) only [if_pos]
            rw [apart_eq _ _ _ _ (hs.2.2 i h0 (by omega)) (fit_small hs.1.2 (hs.2.2 i h0 (by omega)) g2) (hs.2.2 j j0 (by omega)) (sm j j0 (by omega))]
            simp only [Option.bind_some]
            by_cases ap : Apart (rd_T62 l i) (rd_T37 p i) (rd_T62 l j) (rd_T37 p j)
            · rw [chk_pos ap]
              simp only [if_true]
              rw [wrap64_id (by omega) (by omega)]
              refine ih (j + 1) (by omega) (by omega) (fun m=>hj ?_)
              rw [All.step (show j < i by omega)]
              exact ⟨ap,m⟩
            · rw [chk_neg ap]
              simp only [Bool.false_eq_true,if_false]
              exact Ev.now _
        exact main i.toNat 0 (by omega) (by omega) ne
    · rw [chk_neg g2]
      exact no (fun m=>g2 m.2.1)
theorem spec_asked (q : Int) (l : List S62) (p : List S37) (hpl : (p.length : Int) ≤ 1099511627776) : Ev (fun k=>spec_l14Asked.f k q l p) (chk (Poss q l p) true false):=by
  unfold spec_l14Asked.f
  refine Ev.bind (spec_ships q l) ?_
  refine Ev.ite (fun hs=>?_) (fun hs=>?_)
  · have hs:=chk_true.1 hs
    refine Ev.bind (spec_plan hs p hpl) ?_
    refine Ev.ite (fun g=>?_) (fun g=>?_)
    · have g:=chk_true.1 g
      by_cases hn : (p.length : Int) = (l.length : Int)
      · rw [chk_pos (show Poss q l p from ⟨hs,hn,g.2⟩),hn]
        exact Ev.val (beq_self_eq_true _)
      · rw [chk_neg (fun m : Poss q l p=>hn m.2.1)]
        exact Ev.val (by rw [beq_eq_false_iff_ne];exact hn)
    · rw [chk_neg (fun m : Poss q l p=>g (chk_true.2 ⟨by have:=m.2.1;omega,m.2.2⟩))];exact Ev.now _
  · rw [chk_neg (fun m : Poss q l p=>hs (chk_true.2 m.1))];exact Ev.now _
end Go.Proofs.Ytcciljjnpfgaeaa.G

namespace Go.Proofs.Ytcciljjnpfgaeaa.G
open Go.RowKit Go.Proofs.YtcciljjnpfgaeaaW.PrintWords Go.Proofs.YtcciljjnpfgaeaaW.PrintLast
set_option linter.unusedVariables false
set_option linter.unusedSimpArgs false
theorem mx_bd (a b : Int) : (mx a b = a ∨ mx a b = b) ∧ a ≤ mx a b ∧ b ≤ mx a b:=by unfold mx;split <;> omega
def lastTo (l : List S62) (p : List S37) : Nat → Int
  | 0=>0
  | d + 1=>mx (lastTo l p d) ((rd_T37 p d).f1 + (rd_T62 l d).f2)
theorem lastTo_succ (l : List S62) (p : List S37) (d : Nat) : lastTo l p (d + 1) = mx (lastTo l p d) ((rd_T37 p d).f1 + (rd_T62 l d).f2):=rfl
noncomputable def lastR (q : Int) (l : List S62) (p : List S37) : Int × Bool:=chk (Poss q l p) (lastTo l p l.length,true) (0,false)
theorem impl_last (q : Int) (l : List S62) (p : List S37) : Ev (fun k=>impl_LastHour.f k q l p) (lastR q l p):=by
  unfold impl_LastHour.f lastR
  refine Ev.bind (impl_poss q l p) ?_
  refine Ev.ite (fun h=>?_) (fun h=>?_)
  · have h:=chk_true.1 h
    rw [chk_pos h]
    have hn:=h.2.1
    have h5:=h.1.2.1
    rw [hn]
    refine Ev.up (fun k (s : Int) i=>impl_LastHour.l0 k l s p (l.length : Int) i) (fun _ _=>(lastTo l p l.length,true)) (fun s i=>0 ≤ i ∧ s = lastTo l p i.toNat) (l.length : Int) ?_ ?_ 0 0 ⟨by omega,rfl⟩ (by omega)
    · rintro s ⟨_,rfl⟩
      refine Ev.step (fun k=>by rw [impl_LastHour.l0]) ?_
      simp only [Int.lt_irrefl,if_false,Int.toNat_natCast]
      exact Ev.now _
    · rintro s i ⟨i0,rfl⟩ hlt ih
      have o:=poss_at h i i0 hlt
      unfold shipOk Fit at o
      refine Ev.step (fun k=>by rw [impl_LastHour.l0]) ?_
      simp (disch:=omega) only [if_pos,wrap64_id]
      refine ih _ ⟨by omega,?_⟩
      rw [show (i + 1).toNat = i.toNat + 1 from by omega,lastTo_succ,show ((i.toNat : Nat) : Int) = i from by omega]
  · rw [chk_neg (fun m=>h (chk_true.2 m))];exact Ev.now _
end Go.Proofs.Ytcciljjnpfgaeaa.G

namespace Go.Proofs.Ytcciljjnpfgaeaa.G
open Go.RowKit Go.Proofs.YtcciljjnpfgaeaaW.PrintWords Go.Proofs.YtcciljjnpfgaeaaW.PrintLast
set_option linter.unusedVariables false
set_option linter.unusedSimpArgs false
/-- Ship i lies at section s in that hour. -/
def Lies (l : List S62) (p : List S37) (h s i : Int) : Prop:=((rd_T37 p i).f0 ≤ s ∧ s ≤ (rd_T37 p i).f0 + (rd_T62 l i).f0 - 1) ∧ ((rd_T37 p i).f1 ≤ h ∧ h ≤ (rd_T37 p i).f1 + (rd_T62 l i).f2 - 1)
noncomputable def whoTo (l : List S62) (p : List S37) (h s : Int) : Nat → Int
  | 0 => -1
  | d + 1=>chk (Lies l p h s d) (d : Int) (whoTo l p h s d)
theorem whoTo_succ (l : List S62) (p : List S37) (h s : Int) (d : Nat) : whoTo l p h s (d + 1) = chk (Lies l p h s d) (d : Int) (whoTo l p h s d):=rfl
noncomputable def useTo (l : List S62) (p : List S37) (h : Int) : Nat → List Int
  | 0=>[]
  | d + 1=>useTo l p h d ++ [whoTo l p h d l.length]
theorem useTo_succ (l : List S62) (p : List S37) (h : Int) (d : Nat) : useTo l p h (d + 1) = useTo l p h d ++ [whoTo l p h d l.length]:=rfl
theorem use_len (l : List S62) (p : List S37) (h : Int) : ∀ d : Nat,(useTo l p h d).length = d:=by
  intro d
  induction d with
  | zero=>rfl
  | succ d ih=>rw [useTo_succ,List.length_append,ih];rfl
noncomputable def useR (q : Int) (l : List S62) (p : List S37) (h : Int) : List Int × Bool:=chk (Poss q l p ∧ 0 ≤ h ∧ h ≤ 1100) (useTo l p h q.toNat,true) ([],false)
theorem useR_len (q : Int) (l : List S62) (p : List S37) (h : Int) : ((useR q l p h).1.length : Int) ≤ 30:=by
  unfold useR
  by_cases g : Poss q l p ∧ 0 ≤ h ∧ h ≤ 1100
  · rw [chk_pos g]
    have:=g.1.1.1
    show ((useTo l p h q.toNat).length : Int) ≤ 30
    rw [use_len];omega
  · rw [chk_neg g];decide
theorem impl_use (q : Int) (l : List S62) (p : List S37) (h : Int) : Ev (fun k=>impl_QuayUse.f k q l p h) (useR q l p h):=by
  have no : ¬ (Poss q l p ∧ 0 ≤ h ∧ h ≤ 1100) → Ev (fun k=>impl_QuayUse.j0 k q l p h true) (useR q l p h):=by
    intro g
    unfold useR
    rw [chk_neg g]
    refine Ev.step (fun k=>by rw [impl_QuayUse.j0]) ?_
    simp only [if_true];exact Ev.now _
  unfold impl_QuayUse.f
  refine Ev.bind (impl_poss q l p) ?_
  refine Ev.ite (fun g=>?_) (fun g=>no (fun m=>g (chk_true.2 m.1)))
  have g:=chk_true.1 g
  simp only [impl_within_eq,Option.bind_some]
  by_cases hh : 0 ≤ h ∧ h ≤ 1100
  · rw [decide_eq_true hh]
    refine Ev.step (fun k=>by rw [impl_QuayUse.j0]) ?_
    simp only [Bool.not_true,Bool.false_eq_true,if_false]
    unfold useR
    rw [chk_pos ⟨g,hh⟩]
    have hn:=g.2.1
    have h5:=g.1.2.1
    have hq:=g.1.1
    refine Ev.up (fun k (x : List Int) s=>impl_QuayUse.l0 k l p h x q s) (fun _ _=>(useTo l p h q.toNat,true)) (fun x s=>0 ≤ s ∧ x = useTo l p h s.toNat) q ?_ ?_ [] 0 ⟨by omega,rfl⟩ (by omega)
    · rintro x ⟨_,rfl⟩
      refine Ev.step (fun k=>by rw [impl_QuayUse.l0]) ?_
      simp only [Int.lt_irrefl,if_false]
      exact Ev.now _
    · rintro x s ⟨s0,rfl⟩ slt nx
      have ul:=use_len l p h s.toNat
      refine Ev.step (fun k=>by rw [impl_QuayUse.l0]) ?_
      simp (disch:=omega) only [if_pos]
      rw [hn]
      refine Ev.up (fun k (v : Int) i=>impl_QuayUse.l1 k l p h (useTo l p h s.toNat) s v q s p (l.length : Int) i) (fun _ _=>(useTo l p h q.toNat,true)) (fun v i=>0 ≤ i ∧ v = whoTo l p h s i.toNat) (l.length : Int) ?_ ?_ (-1) 0 ⟨by omega,rfl⟩ (by omega)
      · rintro v ⟨_,rfl⟩
        refine Ev.step (fun k=>by rw [impl_QuayUse.l1]) ?_
        simp only [Int.lt_irrefl,if_false,Int.toNat_natCast]
        simp (disch:=omega) only [if_pos,wrap64_id]
        refine nx _ ⟨by omega,?_⟩
        rw [show (s + 1).toNat = s.toNat + 1 from by omega,useTo_succ,show ((s.toNat : Nat) : Int) = s from by omega]
      · rintro v i ⟨i0,rfl⟩ ilt ni
        have o:=poss_at g i i0 ilt
        unfold shipOk Fit at o
        have su : whoTo l p h s (i + 1).toNat = chk (Lies l p h s i) i (whoTo l p h s i.toNat):=by
          rw [show (i + 1).toNat = i.toNat + 1 from by omega,whoTo_succ,show ((i.toNat : Nat) : Int) = i from by omega]
        refine Ev.step (fun k=>by rw [impl_QuayUse.l1]) ?_
        simp (disch:=omega) only [if_pos,wrap64_id,impl_within_eq,Option.bind_some,decide_eq_true_eq]
        refine Ev.ite (fun e1=>?_) (fun e1=>?_)
        · refine Ev.ite (fun e2=>?_) (fun e2=>?_)
          · exact ni _ ⟨by omega,by rw [su,chk_pos ⟨e1,e2⟩]⟩
          · exact ni _ ⟨by omega,by rw [su,chk_neg (fun m : Lies l p h s i=>e2 m.2)]⟩
        · exact ni _ ⟨by omega,by rw [su,chk_neg (fun m : Lies l p h s i=>e1 m.1)]⟩
  · rw [decide_eq_false hh]
    exact no (fun m=>hh m.2)
theorem spec_use (q : Int) (l : List S62) (p : List S37) (hpl : (p.length : Int) ≤ 1099511627776) (h : Int) : Ev (fun k=>spec_QuayUse.f k q l p h) (useR q l p h):=by
  have no : ¬ (Poss q l p ∧ 0 ≤ h ∧ h ≤ 1100) → Ev (fun k=>spec_QuayUse.j0 k q l p h [] true) (useR q l p h):=by
    intro g
    unfold useR
    rw [chk_neg g]
    refine Ev.step (fun k=>by rw [spec_QuayUse.j0]) ?_
    simp only [if_true];exact Ev.now _
  unfold spec_QuayUse.f
  simp only [Option.bind_some]
  refine Ev.bind (spec_asked q l p hpl) ?_
  refine Ev.ite (fun g=>?_) (fun g=>no (fun m=>g (chk_true.2 m.1)))
  have g:=chk_true.1 g
  simp only [spec_l1In_eq,Option.bind_some]
  by_cases hh : 0 ≤ h ∧ h ≤ 1100
  · rw [decide_eq_true hh]
    refine Ev.step (fun k=>by rw [spec_QuayUse.j0]) ?_
    simp only [Bool.not_true,Bool.false_eq_true,if_false]
    unfold useR
    rw [chk_pos ⟨g,hh⟩]
    have hn:=g.2.1
    have h5:=g.1.2.1
    have hq:=g.1.1
    refine Ev.up (fun k (x : List Int) s=>spec_QuayUse.l0 k q l p h x s) (fun _ _=>(useTo l p h q.toNat,true)) (fun x s=>0 ≤ s ∧ x = useTo l p h s.toNat) q ?_ ?_ [] 0 ⟨by omega,rfl⟩ (by omega)
    · rintro x ⟨_,rfl⟩
      refine Ev.step (fun k=>by rw [spec_QuayUse.l0]) ?_
      simp only [Int.lt_irrefl,if_false]
      exact Ev.now _
    · rintro x s ⟨s0,rfl⟩ slt nx
      have ul:=use_len l p h s.toNat
      refine Ev.step (fun k=>by rw [spec_QuayUse.l0]) ?_
      simp (disch:=omega) only [if_pos]
      refine Ev.up (fun k (v : Int) i=>spec_QuayUse.l1 k q l p h (useTo l p h s.toNat) s v i) (fun _ _=>(useTo l p h q.toNat,true)) (fun v i=>0 ≤ i ∧ v = whoTo l p h s i.toNat) (l.length : Int) ?_ ?_ (-1) 0 ⟨by omega,rfl⟩ (by omega)
      · rintro v ⟨_,rfl⟩
        refine Ev.step (fun k=>by rw [spec_QuayUse.l1]) ?_
        simp only [Int.lt_irrefl,if_false,Int.toNat_natCast]
        simp (disch:=omega) only [if_pos,wrap64_id]
        refine nx _ ⟨by omega,?_⟩
        rw [show (s + 1).toNat = s.toNat + 1 from by omega,useTo_succ,show ((s.toNat : Nat) : Int) = s from by omega]
      · rintro v i ⟨i0,rfl⟩ ilt ni
        have o:=poss_at g i i0 ilt
        unfold shipOk Fit at o
        have su : whoTo l p h s (i + 1).toNat = chk (Lies l p h s i) i (whoTo l p h s i.toNat):=by
          rw [show (i + 1).toNat = i.toNat + 1 from by omega,whoTo_succ,show ((i.toNat : Nat) : Int) = i from by omega]
        refine Ev.step (fun k=>by rw [spec_QuayUse.l1]) ?_
        simp (disch:=omega) only [if_pos,wrap64_id,spec_l1In_eq,Option.bind_some,decide_eq_true_eq]
        refine Ev.ite (fun e1=>?_) (fun e1=>?_)
        · refine Ev.ite (fun e2=>?_) (fun e2=>?_)
          · exact ni _ ⟨by omega,by rw [su,chk_pos ⟨e1,e2⟩]⟩
          · exact ni _ ⟨by omega,by rw [su,chk_neg (fun m : Lies l p h s i=>e2 m.2)]⟩
        · exact ni _ ⟨by omega,by rw [su,chk_neg (fun m : Lies l p h s i=>e1 m.1)]⟩
  · rw [decide_eq_false hh]
    exact no (fun m=>hh m.2)
end Go.Proofs.Ytcciljjnpfgaeaa.G

namespace Go.Proofs.Ytcciljjnpfgaeaa.G
open Go.RowKit Go.Proofs.YtcciljjnpfgaeaaW.PrintWords Go.Proofs.YtcciljjnpfgaeaaW.PrintLast
set_option linter.unusedVariables false
set_option linter.unusedSimpArgs false
theorem ships_take {q : Int} {l : List S62} (hs : Ships q l) (n : Int) (h0 : 0 ≤ n) (h1 : n ≤ (l.length : Int)) : Ships q (l.take n.toNat):=by
  have e:=len62_take l n h0 h1
  refine ⟨hs.1,by rw [e];have:=hs.2.1;omega,?_⟩
  rw [e]
  intro k k0 k1
  show shipOk (rd_T62 (l.take n.toNat) k)
  rw [rd62_take l n k k0 k1]
  exact hs.2.2 k k0 (by omega)
theorem stand_take (q : Int) (l : List S62) (p : List S37) (n i : Int) (h0 : 0 ≤ i) (h1 : i < n) : Stand q (l.take n.toNat) p i ↔ Stand q l p i:=by
  unfold Stand
  rw [rd62_take l n i h0 h1]
  constructor
  · rintro ⟨a,b⟩
    refine ⟨a,fun k k0 k1=>?_⟩
    have:=b k k0 k1
    show Apart (rd_T62 l i) (rd_T37 p i) (rd_T62 l k) (rd_T37 p k)
    rw [← rd62_take l n k k0 (by omega)]
    exact this
  · rintro ⟨a,b⟩
    refine ⟨a,fun k k0 k1=>?_⟩
    show Apart (rd_T62 l i) (rd_T37 p i) (rd_T62 (l.take n.toNat) k) (rd_T37 p k)
    rw [rd62_take l n k k0 (by omega)]
    exact b k k0 k1
theorem poss_take {q : Int} {l : List S62} {p : List S37} (hs : Ships q l) (hn : (p.length : Int) < (l.length : Int)) : Poss q (l.take (p.length : Int).toNat) p ↔ ((p.length : Int) ≤ (l.length : Int) ∧ All (Stand q l p) 0 (p.length : Int)):=by
  constructor
  · rintro ⟨_,_,h⟩
    exact ⟨by omega,fun i a b=>(stand_take q l p (p.length : Int) i a b).1 (h i a b)⟩
  · rintro ⟨_,h⟩
    exact ⟨ships_take hs _ (by omega) (by omega),by rw [len62_take l _ (by omega) (by omega)],fun i a b=>(stand_take q l p (p.length : Int) i a b).2 (h i a b)⟩
theorem next_R (q : Int) (l : List S62) (p : List S37) (hpl : (p.length : Int) ≤ 1099511627776) : ∃ r,Ev (fun k=>impl_NextBerth.f k q l p) r ∧ Ev (fun k=>spec_NextBerth.f k q l p) r:=by
  unfold impl_NextBerth.f spec_NextBerth.f
  simp only [impl_ships,Option.bind_some]
  by_cases hs : Ships q l
  · rw [chk_pos hs]
    have h5:=hs.2.1
    by_cases hn : (p.length : Int) ≥ (l.length : Int)
    · refine ⟨(0,0,false),?_,?_⟩
      · simp only [if_true,if_pos hn];exact Ev.now _
      · refine Ev.bind (spec_ships q l) ?_
        rw [chk_pos hs]
        simp only [if_true,if_pos hn];exact Ev.now _
    · have hn' : (p.length : Int) < (l.length : Int):=by omega
      have hplan:=spec_plan hs p hpl
      have himp:=impl_poss q (l.take (p.length : Int).toNat) p
      rw [chk_congr (poss_take hs hn')] at himp
      by_cases hP : (p.length : Int) ≤ (l.length : Int) ∧ All (Stand q l p) 0 (p.length : Int)
      · rw [chk_pos hP] at hplan himp
        have lt:=len62_take l (p.length : Int) (by omega) (by omega)
        obtain ⟨r,_,hi,he⟩:=next_both q hs.1 (rd_T62 l (p.length : Int)) (hs.2.2 _ (by omega) hn') (l.take (p.length : Int).toNat) p (by omega) (by omega) (fun k k0 k1=>by
          show shipOk (rd_T62 (l.take (p.length : Int).toNat) k)
          rw [rd62_take l _ k k0 k1]
          exact hs.2.2 k k0 (by omega)) (poss_small hs _ (by omega) hP.2)
        refine ⟨(r.1,r.2.1,r.2.2),?_,?_⟩
        · simp (disch:=omega) only [if_true,if_neg,if_pos]
          refine Ev.bind himp ?_
          simp only [if_true]
          exact Ev.bind hi (Ev.now _)
        · refine Ev.bind (spec_ships q l) ?_
          rw [chk_pos hs]
          simp (disch:=omega) only [if_true,if_neg,if_pos]
          refine Ev.bind hplan ?_
          simp only [if_true]
          exact Ev.bind he (Ev.now _)
      · rw [chk_neg hP] at hplan himp
        refine ⟨(0,0,false),?_,?_⟩
        · simp (disch:=omega) only [if_true,if_neg,if_pos]
          refine Ev.bind himp ?_
          simp only [Bool.false_eq_true,if_false]
          exact Ev.now _
        · refine Ev.bind (spec_ships q l) ?_
          rw [chk_pos hs]
          simp (disch:=omega) only [if_true,if_neg,if_pos]
          refine Ev.bind hplan ?_
          simp only [Bool.false_eq_true,if_false]
          exact Ev.now _
  · rw [chk_neg hs]
    refine ⟨(0,0,false),?_,?_⟩
    · simp only [Bool.false_eq_true,if_false];exact Ev.now _
    · refine Ev.bind (spec_ships q l) ?_
      rw [chk_neg hs]
      simp only [Bool.false_eq_true,if_false];exact Ev.now _
end Go.Proofs.Ytcciljjnpfgaeaa.G

namespace Go.Proofs.Ytcciljjnpfgaeaa.G
open Go.RowKit Go.Proofs.YtcciljjnpfgaeaaW.PrintWords Go.Proofs.YtcciljjnpfgaeaaW.PrintLast
set_option linter.unusedVariables false
set_option linter.unusedSimpArgs false
/-! How many sections of the quay are used at an hour: the lengths of the ships that lie there. -/
noncomputable def cntP (P : Int → Prop) : Nat → Int
  | 0=>0
  | d + 1=>cntP P d + chk (P d) 1 0
theorem cnt_congr {P Q : Int → Prop} : ∀ d : Nat,(∀ s : Int,0 ≤ s → s < d → (P s ↔ Q s)) → cntP P d = cntP Q d:=by
  intro d
  induction d with
  | zero=>intro _;rfl
  | succ d ih =>
    intro h
    unfold cntP
    rw [ih (fun s a b=>h s a (by omega)),chk_congr (h (d : Int) (by omega) (by omega))]
theorem cnt_or {P Q : Int → Prop} : ∀ d : Nat,(∀ s : Int,0 ≤ s → s < d → ¬ (P s ∧ Q s)) → cntP (fun s=>P s ∨ Q s) d = cntP P d + cntP Q d:=by
  intro d
  induction d with
  | zero=>intro _;rfl
  | succ d ih =>
    intro h
    have e:=ih (fun s a b=>h s a (by omega))
    have hd:=h (d : Int) (by omega) (by omega)
    unfold cntP
    rw [e]
    by_cases p : P (d : Int)
    · by_cases q : Q (d : Int)
      · exact absurd ⟨p,q⟩ hd
      · rw [chk_pos (show P (d : Int) ∨ Q (d : Int) from .inl p),chk_pos p,chk_neg q];omega
    · by_cases q : Q (d : Int)
      · rw [chk_pos (show P (d : Int) ∨ Q (d : Int) from .inr q),chk_neg p,chk_pos q];omega
      · rw [chk_neg (show ¬ (P (d : Int) ∨ Q (d : Int)) from fun h=>h.elim p q),chk_neg p,chk_neg q];omega
theorem cnt_none {P : Int → Prop} : ∀ d : Nat,(∀ s : Int,0 ≤ s → s < d → ¬ P s) → cntP P d = 0:=by
  intro d
  induction d with
  | zero=>intro _;rfl
  | succ d ih =>
    intro h
    unfold cntP
    rw [ih (fun s a b=>h s a (by omega)),chk_neg (h (d : Int) (by omega) (by omega))]
    rfl
theorem cnt_range (a n : Int) (h0 : 0 ≤ a) (hn : 0 ≤ n) : ∀ d : Nat,cntP (fun s=>a ≤ s ∧ s ≤ a + n - 1) d = if (d : Int) ≤ a then 0 else if (d : Int) ≤ a + n then d - a else n:=by
  intro d
  induction d with
  | zero=>rw [if_pos (by omega)];rfl
  | succ d ih =>
    unfold cntP
    rw [ih]
    by_cases h : a ≤ (d : Int) ∧ (d : Int) ≤ a + n - 1
    · rw [chk_pos h,if_neg (show ¬ (((d + 1 : Nat) : Int) ≤ a) by omega),if_pos (show ((d + 1 : Nat) : Int) ≤ a + n by omega)]
      by_cases e : (d : Int) ≤ a
      · rw [if_pos e];omega
      · rw [if_neg e,if_pos (by omega)];omega
    · rw [chk_neg h]
      by_cases e : (d : Int) ≤ a
      · rw [if_pos e]
        by_cases e2 : ((d + 1 : Nat) : Int) ≤ a
        · rw [if_pos e2];rfl
        · rw [if_neg e2,if_neg (by omega)];omega
      · rw [if_neg e,if_neg (show ¬ (((d + 1 : Nat) : Int) ≤ a) by omega)]
        by_cases e2 : (d : Int) ≤ a + n
        · rw [if_pos e2]
          by_cases e3 : ((d + 1 : Nat) : Int) ≤ a + n
          · omega
          · rw [if_neg e3];omega
        · rw [if_neg e2,if_neg (by omega)];omega
def Busy (l : List S62) (p : List S37) (h i : Int) : Prop:=(rd_T37 p i).f1 ≤ h ∧ h < (rd_T37 p i).f1 + (rd_T62 l i).f2
noncomputable def lenTo (l : List S62) (p : List S37) (h : Int) : Nat → Int
  | 0=>0
  | d + 1=>lenTo l p h d + chk (Busy l p h d) (rd_T62 l d).f0 0
theorem who_iff (l : List S62) (p : List S37) (h s : Int) : ∀ d : Nat,whoTo l p h s d ≥ 0 ↔ ∃ i : Int,0 ≤ i ∧ i < d ∧ Lies l p h s i:=by
  intro d
  induction d with
  | zero=>exact ⟨fun g=>by unfold whoTo at g;omega,fun ⟨i,a,b,_⟩=>by omega⟩
  | succ d ih =>
    rw [whoTo_succ]
    by_cases g : Lies l p h s d
    · rw [chk_pos g]
      exact ⟨fun _=>⟨(d : Int),by omega,by omega,g⟩,fun _=>by omega⟩
    · rw [chk_neg g,ih]
      constructor
      · rintro ⟨i,a,b,c⟩;exact ⟨i,a,by omega,c⟩
      · rintro ⟨i,a,b,c⟩
        by_cases e : i = (d : Int)
        · subst e;exact absurd c g
        · exact ⟨i,a,by omega,c⟩
theorem used_len {q : Int} {l : List S62} {p : List S37} (hP : Poss q l p) (h : Int) : ∀ d : Nat,(d : Int) ≤ (l.length : Int) → cntP (fun s => ∃ i : Int,0 ≤ i ∧ i < d ∧ Lies l p h s i) q.toNat = lenTo l p h d:=by
  intro d
  induction d with
  | zero=>intro _;exact cnt_none _ (fun s _ _ ⟨i,a,b,_⟩=>by omega)
  | succ d ih =>
    intro hd
    have hs:=poss_at hP (d : Int) (by omega) (by omega)
    have hx:=hs.1
    have hf:=hs.2
    unfold shipOk at hx
    unfold Fit at hf
    have hq:=hP.1.1
    rw [cnt_congr (Q:=fun s=>(∃ i : Int,0 ≤ i ∧ i < d ∧ Lies l p h s i) ∨ Lies l p h s d) _ (fun s _ _=>by
      constructor
      · rintro ⟨i,a,b,c⟩
        by_cases e : i = (d : Int)
        · subst e;exact .inr c
        · exact .inl ⟨i,a,by omega,c⟩
      · rintro (⟨i,a,b,c⟩|c)
        · exact ⟨i,a,by omega,c⟩
        · exact ⟨(d : Int),by omega,by omega,c⟩)]
    rw [cnt_or (P:=fun s => ∃ i : Int,0 ≤ i ∧ i < d ∧ Lies l p h s i) (Q:=fun s=>Lies l p h s d) _ (fun s _ _ ⟨⟨i,a,b,c⟩,g⟩=>by
      have ha : Apart (rd_T62 l d) (rd_T37 p d) (rd_T62 l i) (rd_T37 p i):=(hP.2.2 (d : Int) (by omega) (by have:=hP.2.1;omega)).2 i a b
      unfold Apart at ha
      unfold Lies at c g
      omega)]
    rw [ih (by omega)]
    show _ = lenTo l p h d + chk (Busy l p h d) (rd_T62 l d).f0 0
    congr 1
    by_cases g : Busy l p h d
    · rw [chk_pos g]
      unfold Busy at g
      rw [cnt_congr (Q:=fun s=>(rd_T37 p d).f0 ≤ s ∧ s ≤ (rd_T37 p d).f0 + (rd_T62 l d).f0 - 1) _ (fun s _ _=>⟨fun m=>m.1,fun m=>⟨m,by omega,by omega⟩⟩)]
      rw [cnt_range _ _ hf.1.1 (by omega)]
      by_cases e : ((q.toNat : Nat) : Int) ≤ (rd_T37 p d).f0
      · omega
      · rw [if_neg e]
        by_cases e2 : ((q.toNat : Nat) : Int) ≤ (rd_T37 p d).f0 + (rd_T62 l d).f0
        · rw [if_pos e2];omega
        · rw [if_neg e2]
    · rw [chk_neg g]
      exact cnt_none _ (fun s _ _ m=>g (by unfold Busy;have:=m.2;omega))
noncomputable def usedTo (l : List S62) (p : List S37) (h : Int) : Nat → Int
  | 0=>0
  | d + 1=>usedTo l p h d + if whoTo l p h d l.length ≥ 0 then 1 else 0
theorem used_cnt (l : List S62) (p : List S37) (h : Int) : ∀ d : Nat,usedTo l p h d = cntP (fun s => ∃ i : Int,0 ≤ i ∧ i < (l.length : Int) ∧ Lies l p h s i) d:=by
  intro d
  induction d with
  | zero=>rfl
  | succ d ih =>
    unfold usedTo cntP
    rw [ih]
    congr 1
    by_cases g : whoTo l p h d l.length ≥ 0
    · rw [if_pos g,chk_pos ((who_iff l p h d l.length).1 g)]
    · rw [if_neg g,chk_neg (fun m=>g ((who_iff l p h d l.length).2 m))]
theorem used_bd (l : List S62) (p : List S37) (h : Int) : ∀ d : Nat,0 ≤ usedTo l p h d ∧ usedTo l p h d ≤ d:=by
  intro d
  induction d with
  | zero=>exact ⟨Int.le_refl _,Int.le_refl _⟩
  | succ d ih=>unfold usedTo;split <;> omega
theorem rd_use (l : List S62) (p : List S37) (h : Int) : ∀ (d : Nat) (i : Int),0 ≤ i → i < (d : Int) → rd (useTo l p h d) i = whoTo l p h i l.length:=by
  intro d
  induction d with
  | zero=>intro i a b;omega
  | succ d ih =>
    intro i a b
    have hl:=use_len l p h d
    rw [useTo_succ]
    by_cases e : i < (d : Int)
    · have : rd (useTo l p h d ++ [whoTo l p h d l.length]) i = rd (useTo l p h d) i:=by
        unfold rd
        rw [List.getD_eq_getElem?_getD,List.getD_eq_getElem?_getD,List.getElem?_append_left (by omega)]
      rw [this]
      exact ih i a e
    · obtain rfl : i = (d : Int):=by omega
      unfold rd
      rw [List.getD_eq_getElem?_getD,Int.toNat_natCast,List.getElem?_append_right (by omega),hl,Nat.sub_self]
      rfl
theorem last_ge (l : List S62) (p : List S37) : ∀ (d : Nat) (i : Int),0 ≤ i → i < (d : Int) → (rd_T37 p i).f1 + (rd_T62 l i).f2 ≤ lastTo l p d:=by
  intro d
  induction d with
  | zero=>intro i a b;omega
  | succ d ih =>
    intro i a b
    have m:=mx_bd (lastTo l p d) ((rd_T37 p d).f1 + (rd_T62 l d).f2)
    rw [lastTo_succ]
    by_cases e : i < (d : Int)
    · have:=ih i a e;omega
    · obtain rfl : i = (d : Int):=by omega
      exact m.2.2
theorem len_bd {q : Int} {l : List S62} {p : List S37} (hP : Poss q l p) (h : Int) : ∀ d : Nat,(d : Int) ≤ (l.length : Int) → 0 ≤ lenTo l p h d ∧ lenTo l p h d ≤ 30 * d:=by
  intro d
  induction d with
  | zero=>intro _;exact ⟨Int.le_refl _,by simp [lenTo]⟩
  | succ d ih =>
    intro hd
    have hx:=(poss_at hP (d : Int) (by omega) (by omega)).1
    have:=ih (by omega)
    unfold shipOk at hx
    unfold lenTo
    by_cases g : Busy l p h d
    · rw [chk_pos g];omega
    · rw [chk_neg g];omega
/-- A next berth that was not found is the empty one. -/
theorem next_zero (q : Int) (x : S62) (o : List S62) (bs : List S37) : ∀ k,(∀ start r,impl_nextBerth.l0 k q o bs start x.f0 x.f1 x.f2 x.f3 = some r → r.2.2 = false → r.1 = 0 ∧ r.2.1 = 0) ∧ (∀ start place r,impl_nextBerth.l1 k q o bs start place x.f0 x.f1 x.f2 x.f3 = some r → r.2.2 = false → r.1 = 0 ∧ r.2.1 = 0):=by
  intro k
  induction k with
  | zero =>
    refine ⟨fun start r h _=>?_,fun start place r h _=>?_⟩
    · rw [impl_nextBerth.l0] at h;cases h
    · rw [impl_nextBerth.l1] at h;cases h
  | succ k ih =>
    refine ⟨fun start r h e=>?_,fun start place r h e=>?_⟩
    · rw [impl_nextBerth.l0] at h
      by_cases g : start ≤ 1000
      · rw [if_pos g] at h;exact ih.2 _ _ _ h e
      · rw [if_neg g] at h
        obtain rfl:=Option.some.inj h
        exact ⟨rfl,rfl⟩
    · rw [impl_nextBerth.l1] at h
      by_cases g : place ≤ wrap64 (q - x.f0)
      · rw [if_pos g] at h
        obtain ⟨t,_,h⟩:=Option.bind_eq_some_iff.mp h
        cases t with
        | true =>
          simp only [if_true] at h
          obtain rfl:=Option.some.inj h
          cases e
        | false =>
          simp only [Bool.false_eq_true,if_false] at h
          exact ih.2 _ _ _ h e
      · rw [if_neg g] at h;exact ih.1 _ _ h e
theorem nextB_facts (q : Int) (l : List S62) (p : List S37) (hpl : (p.length : Int) ≤ 1099511627776) : ∃ r : Int × Int × Bool,Ev (fun k=>impl_NextBerth.f k q l p) r ∧ (r.2.2 = false → r.1 = 0 ∧ r.2.1 = 0) ∧ (r.2.2 = true → (p.length : Int) < (l.length : Int) ∧ Poss q (l.take (p.length + 1)) (p ++ [(⟨r.1,r.2.1⟩ : S37)])):=by
  unfold impl_NextBerth.f
  simp only [impl_ships,Option.bind_some]
  by_cases hs : Ships q l
  · rw [chk_pos hs]
    have h5:=hs.2.1
    by_cases hn : (p.length : Int) ≥ (l.length : Int)
    · refine ⟨(0,0,false),?_,fun _=>⟨rfl,rfl⟩,fun h=>by cases h⟩
      simp only [if_true,if_pos hn];exact Ev.now _
    · have hn' : (p.length : Int) < (l.length : Int):=by omega
      have himp:=impl_poss q (l.take (p.length : Int).toNat) p
      rw [chk_congr (poss_take hs hn')] at himp
      by_cases hP : (p.length : Int) ≤ (l.length : Int) ∧ All (Stand q l p) 0 (p.length : Int)
      · rw [chk_pos hP] at himp
        have lt:=len62_take l (p.length : Int) (by omega) (by omega)
        obtain ⟨r,hF,hi,he⟩:=next_both q hs.1 (rd_T62 l (p.length : Int)) (hs.2.2 _ (by omega) hn') (l.take (p.length : Int).toNat) p (by omega) (by omega) (fun k k0 k1=>by
          show shipOk (rd_T62 (l.take (p.length : Int).toNat) k)
          rw [rd62_take l _ k k0 k1]
          exact hs.2.2 k k0 (by omega)) (poss_small hs _ (by omega) hP.2)
        refine ⟨(r.1,r.2.1,r.2.2),?_,fun e=>?_,fun e=>⟨hn',?_⟩⟩
        · simp (disch:=omega) only [if_true,if_neg,if_pos]
          refine Ev.bind himp ?_
          simp only [if_true]
          exact Ev.bind hi (Ev.now _)
        · obtain ⟨K,hK⟩:=hi
          have:=hK K (Nat.le_refl _)
          exact (next_zero q (rd_T62 l (p.length : Int)) _ p K).1 _ r this e
        · have hB:=hF e
          have e1 : p.length + 1 = ((p.length : Int) + 1).toNat:=by omega
          rw [e1]
          refine ⟨ships_take hs _ (by omega) (by omega),?_,?_⟩
          · rw [len62_take l _ (by omega) (by omega),List.length_append];simp
          · intro i i0 i1
            rw [List.length_append] at i1
            simp only [List.length_cons,List.length_nil] at i1
            rw [stand_take q l _ ((p.length : Int) + 1) i i0 (by omega)]
            have rdp : ∀ k : Int,0 ≤ k → k < (p.length : Int) → rd_T37 (p ++ [(⟨r.1,r.2.1⟩ : S37)]) k = rd_T37 p k:=fun k k0 k1=>by
              unfold rd_T37
              rw [List.getD_eq_getElem?_getD,List.getD_eq_getElem?_getD,List.getElem?_append_left (by omega)]
            have rdl : rd_T37 (p ++ [(⟨r.1,r.2.1⟩ : S37)]) (p.length : Int) = ⟨r.1,r.2.1⟩:=by
              unfold rd_T37
              rw [List.getD_eq_getElem?_getD,Int.toNat_natCast,List.getElem?_append_right (Nat.le_refl _),Nat.sub_self]
              rfl
            unfold Stand
            by_cases e2 : i < (p.length : Int)
            · rw [rdp i i0 e2]
              have hS:=hP.2 i i0 e2
              refine ⟨hS.1,fun k k0 k1=>?_⟩
              show Apart _ _ _ (rd_T37 (p ++ [(⟨r.1,r.2.1⟩ : S37)]) k)
              rw [rdp k k0 (by omega)]
              exact hS.2 k k0 k1
            · obtain rfl : i = (p.length : Int):=by omega
              rw [rdl]
              refine ⟨hB.1,fun k k0 k1=>?_⟩
              show Apart _ _ _ (rd_T37 (p ++ [(⟨r.1,r.2.1⟩ : S37)]) k)
              rw [rdp k k0 k1]
              have : Apart (rd_T62 l (p.length : Int)) ⟨r.1,r.2.1⟩ (rd_T62 (l.take (p.length : Int).toNat) k) (rd_T37 p k):=hB.2 k k0 k1
              rw [rd62_take l _ k k0 k1] at this
              exact this
      · rw [chk_neg hP] at himp
        refine ⟨(0,0,false),?_,fun _=>⟨rfl,rfl⟩,fun h=>by cases h⟩
        simp (disch:=omega) only [if_true,if_neg,if_pos]
        refine Ev.bind himp ?_
        simp only [Bool.false_eq_true,if_false]
        exact Ev.now _
  · rw [chk_neg hs]
    refine ⟨(0,0,false),?_,fun _=>⟨rfl,rfl⟩,fun h=>by cases h⟩
    simp only [Bool.false_eq_true,if_false];exact Ev.now _
end Go.Proofs.Ytcciljjnpfgaeaa.G

/- FnQuay: a section of the quay is used by a ship that lies there, and a next berth keeps a plan possible (for drawn bytes of at most 2^16; else the statement is true at once). -/
namespace Go.Proofs.Ytcciljjnpfgaeaa.Pure
open Go.RowKit Go.Proofs.Ytcciljjnpfgaeaa.G Go.Proofs.YtcciljjnpfgaeaaW.PrintWords Go.Proofs.YtcciljjnpfgaeaaW.PrintLast
set_option linter.unusedVariables false
set_option linter.unusedSimpArgs false
theorem qInts_I (xs : List Int) (h : (xs.length : Int) ≤ 1048576) : Ev (fun k=>laws_vInts.f k xs xs) true:=by
  unfold laws_vInts.f
  simp only [if_true]
  refine Ev.upc (fun k i=>laws_vInts.l0 k xs xs i) true (xs.length : Int) 0 ?_ ?_ 0 (by omega) (by omega)
  · refine Ev.step (fun k=>by rw [laws_vInts.l0]) ?_
    simp only [Int.lt_irrefl,if_false]
    exact Ev.now _
  · intro i h0 hlt hr
    refine Ev.step (fun k=>by rw [laws_vInts.l0]) ?_
    simp (disch:=omega) only [wrap64_id,if_pos,if_true]
    exact hr
theorem quay4 (q : Int) (l : List S62) (p : List S37) (hpl : (p.length : Int) ≤ 1000) (r : Int × Int × Bool) (h0 : r.2.2 = false → r.1 = 0 ∧ r.2.1 = 0) (h1 : r.2.2 = true → (p.length : Int) < (l.length : Int) ∧ Poss q (l.take (p.length + 1)) (p ++ [(⟨r.1,r.2.1⟩ : S37)])) : Ev (fun k=>laws_FnQuay.j4 k q l p r.2.2 false r.1 r.2.1) true:=by
  refine Ev.step (fun k=>by rw [laws_FnQuay.j4]) ?_
  simp only [Bool.false_eq_true,if_false]
  obtain ⟨b0,b1,t⟩:=r
  cases t with
  | false =>
    obtain ⟨e0,e1⟩:=h0 rfl
    dsimp only at e0 e1
    subst e0 e1
    simp only [Bool.false_eq_true,if_false]
    exact Ev.now _
  | true =>
    obtain ⟨hl,hP⟩:=h1 rfl
    dsimp only at hP ⊢
    simp only [if_true,Option.bind_some,List.nil_append]
    have e : ((p ++ [(⟨b0,b1⟩ : S37)]).length : Int) = (p.length : Int) + 1:=by simp
    simp only [if_pos (show ([] : List S37).length + p.length < 8796093022208 by simp only [List.length_nil];omega),if_pos (show p.length + [(⟨b0,b1⟩ : S37)].length < 8796093022208 by simp only [List.length_cons,List.length_nil];omega),e]
    simp (disch:=omega) only [if_pos]
    refine Ev.bind (impl_poss q (l.take ((p.length : Int) + 1).toNat) (p ++ [(⟨b0,b1⟩ : S37)])) ?_
    rw [show ((p.length : Int) + 1).toNat = p.length + 1 from by omega,chk_pos hP]
    exact Ev.now _
theorem quay3 {l : List Int} (hc : Cd l) : Ev (fun k=>laws_FnQuay.j3 k l) true:=by
  refine Ev.step (fun k=>by rw [laws_FnQuay.j3]) ?_
  obtain ⟨⟨q,x,p⟩,⟨h1,h2⟩,e⟩:=drawNext hc
  dsimp only at h1 h2
  refine Ev.bind e ?_
  dsimp only
  obtain ⟨r,hi,h0,h3⟩:=nextB_facts q x p (by omega)
  obtain ⟨r',hi',hs'⟩:=next_R q x p (by omega)
  obtain rfl:=Ev.same hi hi'
  refine Ev.bind hi (Ev.bind hs' ?_)
  have hq:=quay4 q x p h2 r h0 h3
  have e1 : (!(r.1 == r.1) || !(r.2.1 == r.2.1)) = false:=by simp
  simp only [e1,Bool.false_eq_true,if_false,bne_self_eq_false]
  exact hq
theorem quay1 {l : List Int} (hc : Cd l) {q : Int} {x : List S62} {p : List S37} {h : Int} (hP : Poss q x p) (hh : 0 ≤ h ∧ h ≤ 1100) : ∀ (d : Nat) (i : Int),0 ≤ i → i + d = (x.length : Int) → Ev (fun k=>laws_FnQuay.l1 k l q x p h (useTo x p h q.toNat) (lastTo x p x.length) true (usedTo x p h q.toNat) (lenTo x p h i.toNat) i) true:=by
  have hq:=hP.1.1
  have h5:=hP.1.2.1
  have hpl:=hP.2.1
  intro d
  induction d with
  | zero =>
    intro i i0 hd
    refine Ev.step (fun k=>by rw [laws_FnQuay.l1]) ?_
    have el : ((useTo x p h q.toNat).length : Int) = q:=by rw [use_len];omega
    have eu : usedTo x p h q.toNat = lenTo x p h i.toNat:=by
      rw [used_cnt,show i.toNat = x.length from by omega,← used_len hP h x.length (Int.le_refl _)]
    rw [eu]
    simp only [if_neg (show ¬ (i < (x.length : Int)) by omega),el,if_true]
    refine Ev.ite (fun g=>?_) (fun g=>quay3 hc)
    refine Ev.ite (fun g2=>?_) (fun g2=>quay3 hc)
    exfalso
    rw [← eu,used_cnt,cnt_none _ (fun s _ _ ⟨j,a,b,c⟩=>by
      have:=last_ge x p x.length j a b
      unfold Lies at c
      omega)] at g2
    omega
  | succ d ih =>
    intro i i0 hd
    have hs:=poss_at hP i i0 (by omega)
    have hx:=hs.1
    have hf:=hs.2
    unfold shipOk at hx
    unfold Fit at hf
    have hb:=len_bd hP h i.toNat (by omega)
    have e : lenTo x p h (i + 1).toNat = lenTo x p h i.toNat + chk (Busy x p h i) (rd_T62 x i).f0 0:=by
      rw [show (i + 1).toNat = i.toNat + 1 from by omega]
      show lenTo x p h i.toNat + chk (Busy x p h (i.toNat : Nat)) (rd_T62 x (i.toNat : Nat)).f0 0 = _
      rw [show ((i.toNat : Nat) : Int) = i from by omega]
    have hn:=ih (i + 1) (by omega) (by omega)
    refine Ev.step (fun k=>by rw [laws_FnQuay.l1]) ?_
    simp only [if_pos (show i < (x.length : Int) by omega),if_pos i0,if_pos (show i < (p.length : Int) by omega)]
    rw [wrap64_id (x:=i + 1) (by omega) (by omega),wrap64_id (x:=(rd_T37 p i).f1 + (rd_T62 x i).f2) (by omega) (by omega),wrap64_id (x:=lenTo x p h i.toNat + (rd_T62 x i).f0) (by omega) (by omega)]
    rw [e] at hn
    refine Ev.ite (fun g1=>?_) (fun g1=>?_)
    · refine Ev.ite (fun g2=>?_) (fun g2=>?_)
      · rw [chk_pos (show Busy x p h i from ⟨g1,g2⟩)] at hn;exact hn
      · rw [chk_neg (show ¬ Busy x p h i from fun m=>g2 m.2),Int.add_zero] at hn;exact hn
    · rw [chk_neg (show ¬ Busy x p h i from fun m=>g1 m.1),Int.add_zero] at hn;exact hn
theorem quay0 {l : List Int} (hc : Cd l) {q : Int} {x : List S62} {p : List S37} {h : Int} (hP : Poss q x p) (hh : 0 ≤ h ∧ h ≤ 1100) : ∀ (d : Nat) (i : Int),0 ≤ i → i + d = q → Ev (fun k=>laws_FnQuay.l0 k l q x p h (useTo x p h q.toNat) (lastTo x p x.length) true (usedTo x p h i.toNat) i) true:=by
  have hq:=hP.1.1
  have el : ((useTo x p h q.toNat).length : Int) = q:=by rw [use_len];omega
  intro d
  induction d with
  | zero =>
    intro i i0 hd
    refine Ev.step (fun k=>by rw [laws_FnQuay.l0]) ?_
    simp only [if_neg (show ¬ (i < ((useTo x p h q.toNat).length : Int)) by omega)]
    rw [show i.toNat = q.toNat from by omega]
    exact quay1 hc hP hh x.length 0 (by omega) (by omega)
  | succ d ih =>
    intro i i0 hd
    have hb:=used_bd x p h i.toNat
    have hn:=ih (i + 1) (by omega) (by omega)
    have e : usedTo x p h (i + 1).toNat = usedTo x p h i.toNat + if whoTo x p h i x.length ≥ 0 then 1 else 0:=by
      rw [show (i + 1).toNat = i.toNat + 1 from by omega]
      show usedTo x p h i.toNat + (if whoTo x p h (i.toNat : Nat) x.length ≥ 0 then 1 else 0) = _
      rw [show ((i.toNat : Nat) : Int) = i from by omega]
    rw [e] at hn
    refine Ev.step (fun k=>by rw [laws_FnQuay.l0]) ?_
    simp only [if_pos (show i < ((useTo x p h q.toNat).length : Int) by omega),if_pos i0]
    rw [rd_use x p h q.toNat i i0 (by omega),wrap64_id (x:=i + 1) (by omega) (by omega),wrap64_id (x:=usedTo x p h i.toNat + 1) (by omega) (by omega)]
    refine Ev.ite (fun g=>?_) (fun g=>?_)
    · rw [if_pos g] at hn;exact hn
    · rw [if_neg g,Int.add_zero] at hn;exact hn
theorem FnQuay : laws_FnQuay.Pure:=by
  intro l0 h0
  refine Ev.rounds (g:=fun k=>laws_FnQuay.f k l0) (r:=true) ?_
  unfold laws_FnQuay.f laws_vBig.f
  simp only [Option.bind_some]
  refine Ev.ite (fun _=>Ev.now _) (fun g=>?_)
  have hc : Cd l0:=cd_of (by simpa using g) h0.2
  obtain ⟨⟨q,x,p,h⟩,⟨h1,h2⟩,e⟩:=drawQuay hc
  dsimp only at h1 h2
  refine Ev.bind e ?_
  dsimp only
  refine Ev.bind (impl_use q x p h) (Ev.bind (spec_use q x p (by omega) h) ?_)
  have hl:=useR_len q x p h
  simp only [bne_self_eq_false,Bool.false_eq_true,if_false]
  refine Ev.bind (qInts_I _ (by omega)) ?_
  refine Ev.step (fun k=>by rw [laws_FnQuay.j0]) ?_
  simp only [Bool.not_true,Bool.false_eq_true,if_false]
  unfold useR
  by_cases g : Poss q x p ∧ 0 ≤ h ∧ h ≤ 1100
  · rw [chk_pos g]
    simp only [if_true]
    refine Ev.bind (impl_last q x p) ?_
    unfold lastR
    rw [chk_pos g.1]
    have hq:=g.1.1.1
    exact quay0 hc g.1 g.2 q.toNat 0 (by omega) (by omega)
  · rw [chk_neg g]
    simp only [Bool.false_eq_true,if_false]
    exact quay3 hc
end Go.Proofs.Ytcciljjnpfgaeaa.Pure

-- Written by wip/tools/gen.py out of the translation (the kit's printer, one namespace a seat). Lean checks it.
namespace Go.Proofs.Ytcciljjnpfgaeaa.G
open Go.RowKit Go.ChangeShapes Go.WideShapes Go.Deep Go.Proofs.YtcciljjnpfgaeaaW.PrintWords Go.Proofs.YtcciljjnpfgaeaaW.PrintLast
set_option linter.unusedVariables false
/-! Opening the arguments of a law: whatever reads as data of type t reads as a value of kind d, within what its type allows. -/
def Opens {α : Type} (P : Program) (t : TypeId) (d : Kd α) (Wf : α → Prop) : Prop :=
  ∀ {H : Type} {enc : TypeId × Value → H} {W : World} {spare : Nat → Bool} {held : Bool} {fuel : Nat} {cs : List Value} {x : DataW H × List MemPlace},
    DataW.trod enc P W 0 spare held fuel t cs = some x → ∃ a,d.K W a cs ∧ Wf a
theorem opens_int {P : Program} {t : TypeId} {k : IntKind} (ht : P.underlying t = some (.int k)) : Opens P t (Kd.int k) (fun x=>(Lit.int k x).wf = true):=by
  intro H enc W spare held fuel cs x h
  obtain ⟨n,rfl,_,hw⟩:=DataW.trod_int ht h
  exact ⟨n,rfl,hw⟩
theorem opens_row {α : Type} {d : Kd α} {Wf : α → Prop} {W : World} (Q : Nat → List Value → Prop) (hq : ∀ i cs,Q i cs → ∃ a,d.K W a cs ∧ Wf a) (n : Nat) (h : ∀ i,i < n → ∃ cs,Q i cs) :
    ∃ xs : List α,xs.length = n ∧ (∀ y ∈ xs,Wf y) ∧ ∀ j p,xs[j]? = some p → ∃ cs,Q j cs ∧ d.K W p cs:=by
  induction n with
  | zero=>exact ⟨[],rfl,fun y hy=>by simp at hy,fun j p hp=>by simp at hp⟩
  | succ n ih =>
    obtain ⟨xs,hl,hw,hx⟩:=ih (fun i hi=>h i (by omega))
    obtain ⟨cs,hcs⟩:=h n (by omega)
    obtain ⟨a,ha,hwa⟩:=hq n cs hcs
    refine ⟨xs ++ [a],by simp [hl],fun y hy=>?_,fun j p hp=>?_⟩
    · rcases List.mem_append.1 hy with hy|hy
      · exact hw y hy
      · rw [List.mem_singleton.1 hy];exact hwa
    · rcases Nat.lt_or_ge j xs.length with hj|hj
      · rw [List.getElem?_append_left hj] at hp
        exact hx j p hp
      · rw [List.getElem?_append_right hj] at hp
        have h0 : j - xs.length = 0:=by
          rcases Nat.eq_zero_or_pos (j - xs.length) with h0|h0
          · exact h0
          · rw [List.getElem?_eq_none (by simp;omega)] at hp;cases hp
        rw [h0] at hp
        simp at hp
        subst hp
        have : j = n:=by omega
        subst this
        exact ⟨cs,hcs,ha⟩
theorem opens_slice {α : Type} {P : Program} {t e : TypeId} {d : Kd α} {Wf : α → Prop} (ht : P.underlying t = some (.slice e)) (hC : P.cellsOf e = d.sz) (ho : Opens P e d Wf) :
    Opens P t (Kd.slice e d) (fun xs=>xs.length ≤ maxLen ∧ ∀ y ∈ xs,Wf y):=by
  intro H enc W spare held fuel cs x h
  rcases open_slice ht h with ⟨rfl,_⟩|⟨a,len,cap,m,n,D,Pl,rfl,_,hl,hm,hmm,_,hi⟩
  · exact ⟨[],⟨none,0,rfl,Nat.le_refl _,rfl,by simp,fun h=>by simp at h⟩,by simp [maxLen],fun y hy=>by simp at hy⟩
  · have hml : len ≤ m:=by rw [hmm];split <;> omega
    obtain ⟨xs,hxl,hw,hx⟩:=opens_row (W:=W) (d:=d) (Wf:=Wf) (fun i cs'=>W.cells? 0 (a.add (i * P.cellsOf e)) (P.cellsOf e) = some cs' ∧ DataW.trod enc P W 0 spare held n e cs' = some (D i,Pl i))
      (fun i cs' hq=>ho hq.2) len (fun i hi'=>hi i (by omega))
    refine ⟨xs,⟨some a,cap,by rw [hxl],by omega,rfl,?_,fun _=>⟨a,rfl,fun j p hj=>?_⟩⟩,by omega,hw⟩
    · simp only [maxLen] at hm
      omega
    · obtain ⟨cs',⟨hc,_⟩,hK⟩:=hx j p hj
      obtain ⟨_,hcl,hat⟩:=World.cells?_some hc
      refine ⟨cs',d.K_len hK,hK,fun i u hu=>?_⟩
      have hil : i < cs'.length:=(List.getElem?_eq_some_iff.1 hu).1
      have h1:=hat i (by omega)
      rw [hC] at h1
      rw [← Go.Deep.add_add,h1,hu]
section
variable {α β γ δ : Type} {P : Program} {t : TypeId} {f0 f1 f2 f3 : Field} {d0 : Kd α} {d1 : Kd β} {d2 : Kd γ} {d3 : Kd δ} {W0 : α → Prop} {W1 : β → Prop} {W2 : γ → Prop} {W3 : δ → Prop}
end
theorem opens_arg {α : Type} {P : Program} {t e : TypeId} {d : Kd α} {Wf : List α → Prop} (ho : Opens P t (Kd.slice e d) Wf) {H : Type} {enc : TypeId × Value → H} {W : World} {spare : Nat → Bool} {held : Bool} {a : Option Addr} {len cap : Nat} {dd : DataW H} {p : List MemPlace}
    (h : DataW.Trod enc P W 0 spare held t (.slice a len cap) dd p) : ∃ l : List α,len = l.length ∧ l.length ≤ cap ∧ Kd.C d W a l.length l ∧ Wf l:=by
  obtain ⟨fuel,hf⟩:=h
  obtain ⟨l,⟨A,c,he,hl,hC⟩,hw⟩:=ho hf
  simp [Value.cells] at he
  obtain ⟨rfl,rfl,rfl⟩:=he
  exact ⟨l,rfl,hl,hC,hw⟩
end Go.Proofs.Ytcciljjnpfgaeaa.G
