/- Texts of the proof of FnTides, joined in build order. -/
import Derived.Test.YtbglkkepfddecaaMgFnTides1
import Derived.Test.YtbglkkepfddecaaMgFnTides2
import Derived.Test.YtbglkkepfddecaaMgFnTides3
import Derived.IntWalk
-- Written by wip/tools/gen.py out of the translation (the kit's printer, one namespace a seat). Lean checks it.
namespace Go.Proofs.Ytbglkkepfddecaa.G
open Go.RowKit Go.Proofs.YtbglkkepfddecaaW.PrintWords Go.Proofs.YtbglkkepfddecaaW.PrintLast Go.Proofs.YtbglkkepfddecaaW.PrintMore
attribute [local go_sem] max2_int min2_int max_two min_two max_three min_three max_four min_four   -- for this text's walks alone
set_option linter.unusedVariables false
set_option linter.unusedSimpArgs false

attribute [local go_sem high] eqA60
/-! ### laws_FnTides: function 12 -/
mutual
def laws_FnTides.j0 : Nat → List Int → List (S60) → Int → Int → List (S60) → Bool → List (S60) → Bool → Option (Bool)
 | 0,_,_,_,_,_,_,_,_=>none
 | k + 1,x0,x3,x4,x5,x6,x7,x8,x67=>if x67 = true then (some false) else (laws_FnTides.l0 k x0 x3 x4 x5 x6 x7 x8 0)
def laws_FnTides.l0 : Nat → List Int → List (S60) → Int → Int → List (S60) → Bool → List (S60) → Int → Option (Bool)
 | 0,_,_,_,_,_,_,_,_=>none
 | k + 1,x0,x3,x4,x5,x6,x7,x8,x10=>if x10 < (x6.length : Int) then (if 0 ≤ x10 then (if x10 < (x8.length : Int) then (if (!(((rd_T60 x6 x10).f0) == ((rd_T60 x8 x10).f0)) || (!(((rd_T60 x6 x10).f1) == ((rd_T60 x8 x10).f1)))) = true then (some false) else (laws_FnTides.l0 k x0 x3 x4 x5 x6 x7 x8 (wrap64 (x10 + 1)))) else (none)) else (none)) else (if x7 = true then ((impl_ShiftTides.f k x6 (wrap64 (-x4)) (wrap64 (-x5))).bind fun bt700=>((impl_MeanHeight.f k x3).bind fun bt704=>((impl_MeanHeight.f k x6).bind fun bt707=>((impl_SteepestChange.f k x3).bind fun bt710=>((impl_SteepestChange.f k x6).bind fun bt714=>(if bt700.2 = true then (if bt704.2.2 = true then (if bt707.2.2 = true then (if bt710.2.2.2 = true then (if bt714.2.2.2 = true then (if (bt700.1.length : Int) = (x3.length : Int) then (if (wrap64 (bt707.1 * bt704.2.1)) = (wrap64 ((wrap64 (bt704.1 + (wrap64 (x5 * bt704.2.1)))) * bt707.2.1)) then (if bt710.1 = bt714.1 then (laws_FnTides.j2 k x0 x3 bt700.1 bt704.1 bt704.2.1 (bt710.2.1 != bt714.2.1)) else (laws_FnTides.j2 k x0 x3 bt700.1 bt704.1 bt704.2.1 true)) else (laws_FnTides.j2 k x0 x3 bt700.1 bt704.1 bt704.2.1 true)) else (laws_FnTides.j2 k x0 x3 bt700.1 bt704.1 bt704.2.1 true)) else (laws_FnTides.j2 k x0 x3 bt700.1 bt704.1 bt704.2.1 true)) else (laws_FnTides.j2 k x0 x3 bt700.1 bt704.1 bt704.2.1 true)) else (laws_FnTides.j2 k x0 x3 bt700.1 bt704.1 bt704.2.1 true)) else (laws_FnTides.j2 k x0 x3 bt700.1 bt704.1 bt704.2.1 true)) else (laws_FnTides.j2 k x0 x3 bt700.1 bt704.1 bt704.2.1 true))))))) else (laws_FnTides.j4 k x0))
def laws_FnTides.j4 : Nat → List Int → Option (Bool)
 | 0,_=>none
 | k + 1,x0=>(spec_DrawTurningHours.f k x0).bind fun bt722=>((impl_TurningHours.f k bt722.1 bt722.2).bind fun bt726=>((impl_TurningHours.f k bt722.1 (!bt722.2)).bind fun bt730=>((spec_TurningHours.f k bt722.1 bt722.2).bind fun bt734=>(if (bt726.2 == bt734.2) = true then (if (bt730.2 == bt734.2) = true then ((laws_rInts.f k bt726.1 bt734.1).bind fun t738=>(if t738 = true then (if bt726.2 = true then (if (wrap64 ((bt726.1.length : Int) + (bt730.1.length : Int))) = (bt722.1.length : Int) then ((impl_IsValidTides.f k bt722.1).bind fun t739=>(some t739)) else (some false)) else (some true)) else (some false))) else (some false)) else (some false)))))
def laws_FnTides.j2 : Nat → List Int → List (S60) → List (S60) → Int → Int → Bool → Option (Bool)
 | 0,_,_,_,_,_,_=>none
 | k + 1,x0,x3,x11,x13,x14,x166=>if x166 = true then (some false) else (laws_FnTides.l1 k x0 x3 x11 x13 x14 0)
def laws_FnTides.l1 : Nat → List Int → List (S60) → List (S60) → Int → Int → Int → Option (Bool)
 | 0,_,_,_,_,_,_=>none
 | k + 1,x0,x3,x11,x13,x14,x27=>if x27 < (x3.length : Int) then (if 0 ≤ x27 then (if x27 < (x11.length : Int) then (if (!(((rd_T60 x11 x27).f0) == ((rd_T60 x3 x27).f0)) || (!(((rd_T60 x11 x27).f1) == ((rd_T60 x3 x27).f1)))) = true then (some false) else ((laws_rLowest.f k x3).bind fun t720=>(if x13 < (wrap64 (t720 * x14)) then (some false) else ((laws_rHighest.f k x3).bind fun t721=>(if x13 > (wrap64 (t721 * x14)) then (some false) else (laws_FnTides.l1 k x0 x3 x11 x13 x14 (wrap64 (x27 + 1)))))))) else (none)) else (none)) else (laws_FnTides.j4 k x0)
end
def laws_FnTides.f (k : Nat) (l0 : List Int) : Option (Bool):=(laws_rBig.f l0).bind fun t684=>(if t684 = true then (some true) else ((spec_DrawShiftTides.f k l0).bind fun bt685=>((impl_ShiftTides.f k bt685.1 bt685.2.1 bt685.2.2).bind fun bt690=>((spec_ShiftTides.f k bt685.1 bt685.2.1 bt685.2.2).bind fun bt694=>(if (bt690.2 != bt694.2) = true then (laws_FnTides.j0 k l0 bt685.1 bt685.2.1 bt685.2.2 bt690.1 bt690.2 bt694.1 true) else (laws_FnTides.j0 k l0 bt685.1 bt685.2.1 bt685.2.2 bt690.1 bt690.2 bt694.1 ((bt690.1.length : Int) != (bt694.1.length : Int))))))))
set_option maxHeartbeats 8000000 in
set_option maxRecDepth 100000 in
theorem laws_FnTides.calls (k : Nat) (A0 : Option Addr) (c0 : Nat) (l0 : List Int) (r : Bool) (w : World) (hr0 : Kd.C (Kd.int .u8) w A0 l0.length l0) (hc0 : l0.length ≤ c0) (h : laws_FnTides.f k l0 = some r) :
  Calls Try.prog 12 #[.slice A0 l0.length c0] w fun e w'=>e = .returned (.bool r) ∧ Below w.heap.size w w':=by
 have hu60:=Try.underlying60
 have HR0:=zM hr0
 have HC0:=zM hc0
 clear hr0 hc0
 have HB:=zM (Below.refl w.heap.size w)
 have H : ((laws_rBig.f l0).bind fun t684=>(if t684 = true then (some true) else ((spec_DrawShiftTides.f k l0).bind fun bt685=>((impl_ShiftTides.f k bt685.1 bt685.2.1 bt685.2.2).bind fun bt690=>((spec_ShiftTides.f k bt685.1 bt685.2.1 bt685.2.2).bind fun bt694=>(if (bt690.2 != bt694.2) = true then (laws_FnTides.j0 k l0 bt685.1 bt685.2.1 bt685.2.2 bt690.1 bt690.2 bt694.1 true) else (laws_FnTides.j0 k l0 bt685.1 bt685.2.1 bt685.2.2 bt690.1 bt690.2 bt694.1 ((bt690.1.length : Int) != (bt694.1.length : Int))))))))) = some r:=h
 clear h
 replace H:=Option.bind_eq_some_iff.mp H
 obtain ⟨t684,A20,H⟩:=H
 replace H : (if t684 = true then (some true) else ((spec_DrawShiftTides.f k l0).bind fun bt685=>((impl_ShiftTides.f k bt685.1 bt685.2.1 bt685.2.2).bind fun bt690=>((spec_ShiftTides.f k bt685.1 bt685.2.1 bt685.2.2).bind fun bt694=>(if (bt690.2 != bt694.2) = true then (laws_FnTides.j0 k l0 bt685.1 bt685.2.1 bt685.2.2 bt690.1 bt690.2 bt694.1 true) else (laws_FnTides.j0 k l0 bt685.1 bt685.2.1 bt685.2.2 bt690.1 bt690.2 bt694.1 ((bt690.1.length : Int) != (bt694.1.length : Int)))))))) = some r:=H
 have A2:=zM A20
 clear A20
 by_cases c3 : t684 = true
 ·as_aux_lemma =>
  subst c3
  have H1 : (some true) = some r:=by rw [if_pos rfl] at H;exact H
  clear H
  have H:=H1
  clear H1
  obtain rfl:=Option.some.inj H
  go_enter Try.func12,Try.ntmps12
  go_wp2_with (first|(go_at_call 43;(with_reducible refine (laws_rBig.calls _ _ l0 true _ ?side1 ?side2 A2.out).mono ?_);(case side1=>repeat (first|exact HR0.out|(with_reducible refine zG ?_ _)|(with_reducible refine zH ?_ _)|(with_reducible refine zI ?_)));(case side2=>exact HC0.out);rintro e w' ⟨rfl,⟨nd,rfl⟩⟩;(try first|exact ⟨rfl,_,World.drewN_drewN _ _ _⟩|exact ⟨rfl,_,Eq.trans (World.drewN_drewN _ _ _) (congrArg (World.drewN _) (Nat.add_assoc _ _ _))⟩)))
  repeat (go_quiet (first|(go_at_call 43;(with_reducible refine (laws_rBig.calls _ _ l0 true _ ?side1 ?side2 A2.out).mono ?_);(case side1=>repeat (first|exact HR0.out|(with_reducible refine zG ?_ _)|(with_reducible refine zH ?_ _)|(with_reducible refine zI ?_)));(case side2=>exact HC0.out);rintro e w' ⟨rfl,⟨nd,rfl⟩⟩;(try first|exact ⟨rfl,_,World.drewN_drewN _ _ _⟩|exact ⟨rfl,_,Eq.trans (World.drewN_drewN _ _ _) (congrArg (World.drewN _) (Nat.add_assoc _ _ _))⟩)));try go_wp2_with (first|(go_at_call 43;(with_reducible refine (laws_rBig.calls _ _ l0 true _ ?side1 ?side2 A2.out).mono ?_);(case side1=>repeat (first|exact HR0.out|(with_reducible refine zG ?_ _)|(with_reducible refine zH ?_ _)|(with_reducible refine zI ?_)));(case side2=>exact HC0.out);rintro e w' ⟨rfl,⟨nd,rfl⟩⟩;(try first|exact ⟨rfl,_,World.drewN_drewN _ _ _⟩|exact ⟨rfl,_,Eq.trans (World.drewN_drewN _ _ _) (congrArg (World.drewN _) (Nat.add_assoc _ _ _))⟩))))
  go_ret
  exact ⟨by first|rfl|(simp [errW_none,errW_some] <;> rfl)|(simp [*,errW_none,errW_some] <;> rfl),by repeat (first|(with_reducible first|exact HB.out|apply zD|apply zE|apply zF)|exact HB.out)⟩
 ·as_aux_lemma =>
  replace c3:=Bool.eq_false_iff.mpr c3
  subst c3
  have H1 : ((spec_DrawShiftTides.f k l0).bind fun bt685=>((impl_ShiftTides.f k bt685.1 bt685.2.1 bt685.2.2).bind fun bt690=>((spec_ShiftTides.f k bt685.1 bt685.2.1 bt685.2.2).bind fun bt694=>(if (bt690.2 != bt694.2) = true then (laws_FnTides.j0 k l0 bt685.1 bt685.2.1 bt685.2.2 bt690.1 bt690.2 bt694.1 true) else (laws_FnTides.j0 k l0 bt685.1 bt685.2.1 bt685.2.2 bt690.1 bt690.2 bt694.1 ((bt690.1.length : Int) != (bt694.1.length : Int))))))) = some r:=by rw [if_neg (show ¬ (false = true) by decide)] at H;exact H
  clear H
  have H:=H1
  clear H1
  replace H:=Option.bind_eq_some_iff.mp H
  obtain ⟨⟨t685,t686,t687⟩,A40,H⟩:=H
  replace H : ((impl_ShiftTides.f k t685 t686 t687).bind fun bt690=>((spec_ShiftTides.f k t685 t686 t687).bind fun bt694=>(if (bt690.2 != bt694.2) = true then (laws_FnTides.j0 k l0 t685 t686 t687 bt690.1 bt690.2 bt694.1 true) else (laws_FnTides.j0 k l0 t685 t686 t687 bt690.1 bt690.2 bt694.1 ((bt690.1.length : Int) != (bt694.1.length : Int)))))) = some r:=H
  have A4:=zM A40
  clear A40
  replace H:=Option.bind_eq_some_iff.mp H
  obtain ⟨⟨t690,t691⟩,A50,H⟩:=H
  replace H : ((spec_ShiftTides.f k t685 t686 t687).bind fun bt694=>(if (t691 != bt694.2) = true then (laws_FnTides.j0 k l0 t685 t686 t687 t690 t691 bt694.1 true) else (laws_FnTides.j0 k l0 t685 t686 t687 t690 t691 bt694.1 ((t690.length : Int) != (bt694.1.length : Int))))) = some r:=H
  have A5:=zM A50
  clear A50
  replace H:=Option.bind_eq_some_iff.mp H
  obtain ⟨⟨t694,t695⟩,A60,H⟩:=H
  replace H : (if (t691 != t695) = true then (laws_FnTides.j0 k l0 t685 t686 t687 t690 t691 t694 true) else (laws_FnTides.j0 k l0 t685 t686 t687 t690 t691 t694 ((t690.length : Int) != (t694.length : Int)))) = some r:=H
  have A6:=zM A60
  clear A60
  have HC7:=zM H
  clear H
  go_enter Try.func12,Try.ntmps12
  go_upto_region 6 with (first|(go_at_call 43;(with_reducible refine (laws_rBig.calls _ _ l0 false _ ?side1 ?side2 A2.out).mono ?_);(case side1=>repeat (first|exact HR0.out|(with_reducible refine zG ?_ _)|(with_reducible refine zH ?_ _)|(with_reducible refine zI ?_)));(case side2=>exact HC0.out);rintro e w' ⟨rfl,⟨nd,rfl⟩⟩;(try first|exact ⟨rfl,_,World.drewN_drewN _ _ _⟩|exact ⟨rfl,_,Eq.trans (World.drewN_drewN _ _ _) (congrArg (World.drewN _) (Nat.add_assoc _ _ _))⟩))|(go_at_call 44;(with_reducible refine (spec_DrawShiftTides.calls k _ _ l0 t685 t686 t687 _ ?side1 ?side2 A4.out).mono ?_);(case side1=>repeat (first|exact HR0.out|(with_reducible refine zG ?_ _)|(with_reducible refine zH ?_ _)|(with_reducible refine zI ?_)));(case side2=>exact HC0.out);rintro e w8 ⟨v688,rfl,ho0,hb⟩;have n0_:=zM (Kd.R_lower ho0 (zR (by repeat (first|(with_reducible first|exact HB.out|apply zD|apply zE|apply zF)|exact HB.out))));have n1_:=zM (zQ (by repeat (first|(with_reducible first|exact HB.out|apply zD|apply zE|apply zF)|exact HB.out)) hb);clear HB;have HO689:=n0_;have HB:=n1_;clear n0_ n1_;(try clear hb);(try clear hb2);(try clear hk);(try clear hi);(try clear ho0);obtain ⟨Ao9,co9,eo9⟩:=Kd.R_slice HO689.out;subst eo9)|(go_at_call 20;(with_reducible refine (impl_ShiftTides.calls k _ _ t685 t686 t687 t690 t691 _ ?side1 ?side2 A5.out).mono ?_);(case side1=>repeat (first|exact (zN HO689.out).2.2|(with_reducible refine zG ?_ _)|(with_reducible refine zH ?_ _)|(with_reducible refine zI ?_)));(case side2=>exact (zN HO689.out).2.1);rintro e w10 ⟨v692,rfl,ho0,hb⟩;have n0_:=zM (Kd.R_elder' (by (with_reducible repeat (first|apply zA|apply zB|apply zC));exact HO689.out) (Kd.R_base ho0) hb);have n1_:=zM (Kd.R_lower (Kd.R_new' ho0 (Kd.R_lt (by (with_reducible repeat (first|apply zA|apply zB|apply zC));exact HO689.out))) (zR (by repeat (first|(with_reducible first|exact HB.out|apply zD|apply zE|apply zF)|exact HB.out))));have n2_:=zM (zQ (by repeat (first|(with_reducible first|exact HB.out|apply zD|apply zE|apply zF)|exact HB.out)) hb);clear HO689;clear HB;have HO689:=n0_;have HO693:=n1_;have HB:=n2_;clear n0_ n1_ n2_;(try clear hb);(try clear hb2);(try clear hk);(try clear hi);(try clear ho0))|(go_at_call 19;(with_reducible refine (spec_ShiftTides.calls k _ _ t685 t686 t687 t694 t695 _ ?side1 ?side2 A6.out).mono ?_);(case side1=>repeat (first|exact (zN HO689.out).2.2|(with_reducible refine zG ?_ _)|(with_reducible refine zH ?_ _)|(with_reducible refine zI ?_)));(case side2=>exact (zN HO689.out).2.1);rintro e w11 ⟨v696,rfl,ho0,hb⟩;have n0_:=zM (Kd.R_elder' (by (with_reducible repeat (first|apply zA|apply zB|apply zC));exact HO689.out) (Kd.R_base ho0) hb);have n1_:=zM (Kd.R_elder' (by (with_reducible repeat (first|apply zA|apply zB|apply zC));exact HO693.out) (Kd.R_base ho0) hb);have n2_:=zM (Kd.R_lower (Kd.R_new' (Kd.R_new' ho0 (Kd.R_lt (by (with_reducible repeat (first|apply zA|apply zB|apply zC));exact HO689.out))) (Kd.R_lt (by (with_reducible repeat (first|apply zA|apply zB|apply zC));exact HO693.out))) (zR (by repeat (first|(with_reducible first|exact HB.out|apply zD|apply zE|apply zF)|exact HB.out))));have n3_:=zM (zQ (by repeat (first|(with_reducible first|exact HB.out|apply zD|apply zE|apply zF)|exact HB.out)) hb);clear HO689;clear HO693;clear HB;have HO689:=n0_;have HO693:=n1_;have HO697:=n2_;have HB:=n3_;clear n0_ n1_ n2_ n3_;(try clear hb);(try clear hb2);(try clear hk);(try clear hi);(try clear ho0)))
  repeat (go_quiet (first|(go_at_call 43;(with_reducible refine (laws_rBig.calls _ _ l0 false _ ?side1 ?side2 A2.out).mono ?_);(case side1=>repeat (first|exact HR0.out|(with_reducible refine zG ?_ _)|(with_reducible refine zH ?_ _)|(with_reducible refine zI ?_)));(case side2=>exact HC0.out);rintro e w' ⟨rfl,⟨nd,rfl⟩⟩;(try first|exact ⟨rfl,_,World.drewN_drewN _ _ _⟩|exact ⟨rfl,_,Eq.trans (World.drewN_drewN _ _ _) (congrArg (World.drewN _) (Nat.add_assoc _ _ _))⟩))|(go_at_call 44;(with_reducible refine (spec_DrawShiftTides.calls k _ _ l0 t685 t686 t687 _ ?side1 ?side2 A4.out).mono ?_);(case side1=>repeat (first|exact HR0.out|(with_reducible refine zG ?_ _)|(with_reducible refine zH ?_ _)|(with_reducible refine zI ?_)));(case side2=>exact HC0.out);rintro e w8 ⟨v688,rfl,ho0,hb⟩;have n0_:=zM (Kd.R_lower ho0 (zR (by repeat (first|(with_reducible first|exact HB.out|apply zD|apply zE|apply zF)|exact HB.out))));have n1_:=zM (zQ (by repeat (first|(with_reducible first|exact HB.out|apply zD|apply zE|apply zF)|exact HB.out)) hb);clear HB;have HO689:=n0_;have HB:=n1_;clear n0_ n1_;(try clear hb);(try clear hb2);(try clear hk);(try clear hi);(try clear ho0);obtain ⟨Ao9,co9,eo9⟩:=Kd.R_slice HO689.out;subst eo9)|(go_at_call 20;(with_reducible refine (impl_ShiftTides.calls k _ _ t685 t686 t687 t690 t691 _ ?side1 ?side2 A5.out).mono ?_);(case side1=>repeat (first|exact (zN HO689.out).2.2|(with_reducible refine zG ?_ _)|(with_reducible refine zH ?_ _)|(with_reducible refine zI ?_)));(case side2=>exact (zN HO689.out).2.1);rintro e w10 ⟨v692,rfl,ho0,hb⟩;have n0_:=zM (Kd.R_elder' (by (with_reducible repeat (first|apply zA|apply zB|apply zC));exact HO689.out) (Kd.R_base ho0) hb);have n1_:=zM (Kd.R_lower (Kd.R_new' ho0 (Kd.R_lt (by (with_reducible repeat (first|apply zA|apply zB|apply zC));exact HO689.out))) (zR (by repeat (first|(with_reducible first|exact HB.out|apply zD|apply zE|apply zF)|exact HB.out))));have n2_:=zM (zQ (by repeat (first|(with_reducible first|exact HB.out|apply zD|apply zE|apply zF)|exact HB.out)) hb);clear HO689;clear HB;have HO689:=n0_;have HO693:=n1_;have HB:=n2_;clear n0_ n1_ n2_;(try clear hb);(try clear hb2);(try clear hk);(try clear hi);(try clear ho0))|(go_at_call 19;(with_reducible refine (spec_ShiftTides.calls k _ _ t685 t686 t687 t694 t695 _ ?side1 ?side2 A6.out).mono ?_);(case side1=>repeat (first|exact (zN HO689.out).2.2|(with_reducible refine zG ?_ _)|(with_reducible refine zH ?_ _)|(with_reducible refine zI ?_)));(case side2=>exact (zN HO689.out).2.1);rintro e w11 ⟨v696,rfl,ho0,hb⟩;have n0_:=zM (Kd.R_elder' (by (with_reducible repeat (first|apply zA|apply zB|apply zC));exact HO689.out) (Kd.R_base ho0) hb);have n1_:=zM (Kd.R_elder' (by (with_reducible repeat (first|apply zA|apply zB|apply zC));exact HO693.out) (Kd.R_base ho0) hb);have n2_:=zM (Kd.R_lower (Kd.R_new' (Kd.R_new' ho0 (Kd.R_lt (by (with_reducible repeat (first|apply zA|apply zB|apply zC));exact HO689.out))) (Kd.R_lt (by (with_reducible repeat (first|apply zA|apply zB|apply zC));exact HO693.out))) (zR (by repeat (first|(with_reducible first|exact HB.out|apply zD|apply zE|apply zF)|exact HB.out))));have n3_:=zM (zQ (by repeat (first|(with_reducible first|exact HB.out|apply zD|apply zE|apply zF)|exact HB.out)) hb);clear HO689;clear HO693;clear HB;have HO689:=n0_;have HO693:=n1_;have HO697:=n2_;have HB:=n3_;clear n0_ n1_ n2_ n3_;(try clear hb);(try clear hb2);(try clear hk);(try clear hi);(try clear ho0)));go_upto_region 6 with (first|(go_at_call 43;(with_reducible refine (laws_rBig.calls _ _ l0 false _ ?side1 ?side2 A2.out).mono ?_);(case side1=>repeat (first|exact HR0.out|(with_reducible refine zG ?_ _)|(with_reducible refine zH ?_ _)|(with_reducible refine zI ?_)));(case side2=>exact HC0.out);rintro e w' ⟨rfl,⟨nd,rfl⟩⟩;(try first|exact ⟨rfl,_,World.drewN_drewN _ _ _⟩|exact ⟨rfl,_,Eq.trans (World.drewN_drewN _ _ _) (congrArg (World.drewN _) (Nat.add_assoc _ _ _))⟩))|(go_at_call 44;(with_reducible refine (spec_DrawShiftTides.calls k _ _ l0 t685 t686 t687 _ ?side1 ?side2 A4.out).mono ?_);(case side1=>repeat (first|exact HR0.out|(with_reducible refine zG ?_ _)|(with_reducible refine zH ?_ _)|(with_reducible refine zI ?_)));(case side2=>exact HC0.out);rintro e w8 ⟨v688,rfl,ho0,hb⟩;have n0_:=zM (Kd.R_lower ho0 (zR (by repeat (first|(with_reducible first|exact HB.out|apply zD|apply zE|apply zF)|exact HB.out))));have n1_:=zM (zQ (by repeat (first|(with_reducible first|exact HB.out|apply zD|apply zE|apply zF)|exact HB.out)) hb);clear HB;have HO689:=n0_;have HB:=n1_;clear n0_ n1_;(try clear hb);(try clear hb2);(try clear hk);(try clear hi);(try clear ho0);obtain ⟨Ao9,co9,eo9⟩:=Kd.R_slice HO689.out;subst eo9)|(go_at_call 20;(with_reducible refine (impl_ShiftTides.calls k _ _ t685 t686 t687 t690 t691 _ ?side1 ?side2 A5.out).mono ?_);(case side1=>repeat (first|exact (zN HO689.out).2.2|(with_reducible refine zG ?_ _)|(with_reducible refine zH ?_ _)|(with_reducible refine zI ?_)));(case side2=>exact (zN HO689.out).2.1);rintro e w10 ⟨v692,rfl,ho0,hb⟩;have n0_:=zM (Kd.R_elder' (by (with_reducible repeat (first|apply zA|apply zB|apply zC));exact HO689.out) (Kd.R_base ho0) hb);have n1_:=zM (Kd.R_lower (Kd.R_new' ho0 (Kd.R_lt (by (with_reducible repeat (first|apply zA|apply zB|apply zC));exact HO689.out))) (zR (by repeat (first|(with_reducible first|exact HB.out|apply zD|apply zE|apply zF)|exact HB.out))));have n2_:=zM (zQ (by repeat (first|(with_reducible first|exact HB.out|apply zD|apply zE|apply zF)|exact HB.out)) hb);clear HO689;clear HB;have HO689:=n0_;have HO693:=n1_;have HB:=n2_;clear n0_ n1_ n2_;(try clear hb);(try clear hb2);(try clear hk);(try clear hi);(try clear ho0))|(go_at_call 19;(with_reducible refine (spec_ShiftTides.calls k _ _ t685 t686 t687 t694 t695 _ ?side1 ?side2 A6.out).mono ?_);(case side1=>repeat (first|exact (zN HO689.out).2.2|(with_reducible refine zG ?_ _)|(with_reducible refine zH ?_ _)|(with_reducible refine zI ?_)));(case side2=>exact (zN HO689.out).2.1);rintro e w11 ⟨v696,rfl,ho0,hb⟩;have n0_:=zM (Kd.R_elder' (by (with_reducible repeat (first|apply zA|apply zB|apply zC));exact HO689.out) (Kd.R_base ho0) hb);have n1_:=zM (Kd.R_elder' (by (with_reducible repeat (first|apply zA|apply zB|apply zC));exact HO693.out) (Kd.R_base ho0) hb);have n2_:=zM (Kd.R_lower (Kd.R_new' (Kd.R_new' ho0 (Kd.R_lt (by (with_reducible repeat (first|apply zA|apply zB|apply zC));exact HO689.out))) (Kd.R_lt (by (with_reducible repeat (first|apply zA|apply zB|apply zC));exact HO693.out))) (zR (by repeat (first|(with_reducible first|exact HB.out|apply zD|apply zE|apply zF)|exact HB.out))));have n3_:=zM (zQ (by repeat (first|(with_reducible first|exact HB.out|apply zD|apply zE|apply zF)|exact HB.out)) hb);clear HO689;clear HO693;clear HB;have HO689:=n0_;have HO693:=n1_;have HO697:=n2_;have HB:=n3_;clear n0_ n1_ n2_ n3_;(try clear hb);(try clear hb2);(try clear hk);(try clear hi);(try clear ho0))))
  (try simp only [Act.put,List.setIfInBounds_toArray,List.set_cons_zero,List.set_cons_succ])
  go_cut [67] (fun v67 wc => ∃ (kq : Nat) (x67_6 : Bool),v67 = .bool x67_6 ∧ Aside0 (laws_FnTides.j0 kq l0 t685 t686 t687 t690 t691 t694 x67_6 = some r) ∧ Aside0 (kq ≤ k) ∧ Aside0 (Kd.R k60 60 wc w.heap.size (fun k_=>some k_ ≠ (v692 : Value).ownBlock ∧ some k_ ≠ (v696 : Value).ownBlock) (.slice Ao9 t685.length co9) t685) ∧ Aside0 (Kd.R k60 60 wc w.heap.size (fun k_=>some k_ ≠ ((.slice Ao9 t685.length co9) : Value).ownBlock ∧ some k_ ≠ (v696 : Value).ownBlock) v692 t690) ∧ Aside0 (Kd.R k60 60 wc w.heap.size (fun k_=>some k_ ≠ ((.slice Ao9 t685.length co9) : Value).ownBlock ∧ some k_ ≠ (v692 : Value).ownBlock) v696 t694) ∧ Aside0 (Below w.heap.size w wc))
  case first =>
   have H:=HC7.out
   clear HC7
   by_cases c12 : (t691 != t695) = true
   ·as_aux_lemma =>
    rw [if_pos c12] at H
    have c12b0 : (t691 != t695) = true:=c12
    (try (have c12b1 : decide (t691 = t695) = false:=by simpa using c12))
    (try (have c12b2 : (t691 == t695) = false:=by simpa using c12))
    (try (have c12b3 : ¬ (t691 = t695):=by simpa using c12))
    clear c12
    (first|rw [c12b0]|(simp only [i64_w,i32_w];rw [c12b0])|skip)
    have H':=zM H
    clear H
    go_wp2
    repeat (go_quiet (fail);try go_wp2)
    go_meet
    case rel=>exact ⟨_,(true),(by first|rfl|(simp;done)|(simp [*];done)),H',⟨by first|omega|exact Nat.le_refl _⟩,⟨by (with_reducible repeat (first|apply zA|apply zB|apply zC));exact Kd.R_mono HO689.out (fun _ hk=>⟨hk.1.2,hk.2⟩)⟩,⟨by (with_reducible repeat (first|apply zA|apply zB|apply zC));exact Kd.R_mono HO693.out (fun _ hk=>⟨hk.1.2,hk.2⟩)⟩,⟨by (with_reducible repeat (first|apply zA|apply zB|apply zC));exact Kd.R_mono HO697.out (fun _ hk=>⟨hk.1.2,hk.2⟩)⟩,⟨by repeat (first|(with_reducible first|exact HB.out|apply zD|apply zE|apply zF)|exact HB.out)⟩⟩
   ·as_aux_lemma =>
    rw [if_neg c12] at H
    have c12b0 : (t691 != t695) = false:=by simpa using c12
    (try (have c12b1 : decide (t691 = t695) = true:=by simpa using c12))
    (try (have c12b2 : (t691 == t695) = true:=by simpa using c12))
    clear c12
    (first|rw [c12b0]|(simp only [i64_w,i32_w];rw [c12b0])|skip)
    have H':=zM H
    clear H
    obtain ⟨Ao13,co13,eo13⟩:=Kd.R_slice HO693.out
    subst eo13
    obtain ⟨Ao14,co14,eo14⟩:=Kd.R_slice HO697.out
    subst eo14
    go_wp2
    repeat (go_quiet (fail);try go_wp2)
    go_meet
    case rel=>exact ⟨_,(((t690.length : Int) != (t694.length : Int))),(by first|rfl|(simp;done)|(simp [*];done)),H',⟨by first|omega|exact Nat.le_refl _⟩,⟨by (with_reducible repeat (first|apply zA|apply zB|apply zC));exact Kd.R_mono HO689.out (fun _ hk=>⟨hk.1.2,hk.2⟩)⟩,⟨by (with_reducible repeat (first|apply zA|apply zB|apply zC));exact Kd.R_mono HO693.out (fun _ hk=>⟨hk.1.2,hk.2⟩)⟩,⟨by (with_reducible repeat (first|apply zA|apply zB|apply zC));exact Kd.R_mono HO697.out (fun _ hk=>⟨hk.1.2,hk.2⟩)⟩,⟨by repeat (first|(with_reducible first|exact HB.out|apply zD|apply zE|apply zF)|exact HB.out)⟩⟩
  case rest =>
   clear HC7
   try clear c1
   try clear p2
   try clear c3
   try clear c12
   try clear c12b0
   try clear c12b1
   try clear c12b2
   obtain ⟨kq,x67_6,rfl,HA,HJ6,HO_3,HO_6,HO_8,HB⟩:=hcut
   cases kq with
   | zero=>exact absurd HA.out (by simp [laws_FnTides.j0])
   | succ kj6 =>
    have H:=HA.out
    clear HA
    simp only [laws_FnTides.j0] at H
    by_cases c15 : x67_6 = true
    ·as_aux_lemma =>
     subst c15
     have H1 : (some false) = some r:=by rw [if_pos rfl] at H;exact H
     clear H
     have H:=H1
     clear H1
     obtain rfl:=Option.some.inj H
     go_wp2
     repeat (go_quiet (fail);try go_wp2)
     go_ret
     exact ⟨by first|rfl|(simp [errW_none,errW_some] <;> rfl)|(simp [*,errW_none,errW_some] <;> rfl),by repeat (first|(with_reducible first|exact HB.out|apply zD|apply zE|apply zF)|exact HB.out)⟩
    ·as_aux_lemma =>
     replace c15:=Bool.eq_false_iff.mpr c15
     subst c15
     have H1 : (laws_FnTides.l0 kj6 l0 t685 t686 t687 t690 t691 t694 0) = some r:=by rw [if_neg (show ¬ (false = true) by decide)] at H;exact H
     clear H
     have H:=H1
     clear H1
     have H':=zM H
     clear H
     go_wp2
     repeat (go_quiet (fail);try go_wp2)
     go_loopg [10] kj6 (fun kq v10 w' => ∃ (x10_2 : Int),v10 = .int .i64 x10_2 ∧ Aside0 (laws_FnTides.l0 kq l0 t685 t686 t687 t690 t691 t694 x10_2 = some r) ∧ Aside0 (kq ≤ kj6) ∧ Aside0 (Kd.R k60 60 w' w.heap.size (fun k_=>some k_ ≠ (v692 : Value).ownBlock ∧ some k_ ≠ (v696 : Value).ownBlock) (.slice Ao9 t685.length co9) t685) ∧ Aside0 (Kd.R k60 60 w' w.heap.size (fun k_=>some k_ ≠ ((.slice Ao9 t685.length co9) : Value).ownBlock ∧ some k_ ≠ (v696 : Value).ownBlock) v692 t690) ∧ Aside0 (Kd.R k60 60 w' w.heap.size (fun k_=>some k_ ≠ ((.slice Ao9 t685.length co9) : Value).ownBlock ∧ some k_ ≠ (v692 : Value).ownBlock) v696 t694) ∧ Aside0 (Below w.heap.size w w'))
     case atStart=>exact ⟨(0),(by first|rfl|(simp;done)|(simp [*];done)),H',⟨Nat.le_refl _⟩,⟨by (with_reducible repeat (first|apply zA|apply zB|apply zC));exact HO_3.out⟩,⟨by (with_reducible repeat (first|apply zA|apply zB|apply zC));exact HO_6.out⟩,⟨by (with_reducible repeat (first|apply zA|apply zB|apply zC));exact HO_8.out⟩,⟨by repeat (first|(with_reducible first|exact HB.out|apply zD|apply zE|apply zF)|exact HB.out)⟩⟩
     case round =>
      clear H'
      try clear c1
      try clear p2
      try clear c3
      try clear c12
      try clear c12b0
      try clear c12b1
      try clear c12b2
      try clear c15
      try clear p2
      obtain ⟨x10_2,rfl,HA,HK2,HO_3,HO_6,HO_8,HB⟩:=hrel
      cases gk with
      | zero=>exact absurd HA.out (by simp [laws_FnTides.l0])
      | succ k2 =>
       have H:=HA.out
       clear HA
       simp only [laws_FnTides.l0] at H
       by_cases c16 : x10_2 < (t690.length : Int)
       ·as_aux_lemma =>
        rw [if_pos c16] at H
        have c16b0 : decide (x10_2 < (t690.length : Int)) = true:=decide_eq_true c16
        clear c16
        by_cases c17 : 0 ≤ x10_2
        ·as_aux_lemma =>
         rw [if_pos c17] at H
         have c17b0 : decide (0 ≤ x10_2) = true:=decide_eq_true c17
         clear c17
         by_cases c18 : x10_2 < (t694.length : Int)
         ·as_aux_lemma =>
          rw [if_pos c18] at H
          have c18b0 : decide (x10_2 < (t694.length : Int)) = true:=decide_eq_true c18
          clear c18
          by_cases c19 : (!(((rd_T60 t690 x10_2).f0) == ((rd_T60 t694 x10_2).f0)) || (!(((rd_T60 t690 x10_2).f1) == ((rd_T60 t694 x10_2).f1)))) = true
          ·as_aux_lemma =>
           rw [if_pos c19] at H
           have c19b0 : (!(((rd_T60 t690 x10_2).f0) == ((rd_T60 t694 x10_2).f0)) || (!(((rd_T60 t690 x10_2).f1) == ((rd_T60 t694 x10_2).f1)))) = true:=c19
           clear c19
           obtain rfl:=Option.some.inj H
           obtain ⟨Ao20,co20,eo20⟩:=Kd.R_slice HO_6.out
           subst eo20
           have p698 : 0 ≤ (x10_2 : Int):=of_decide_eq_true (by first|(with_reducible assumption)|assumption)
           have q698 : x10_2 < (t690.length : Int):=of_decide_eq_true (by first|(with_reducible assumption)|assumption)
           obtain ⟨ad698,e698,hx698_0,hx698_1⟩:=at_T60 (zN HO_6.out).2.2 x10_2 p698 q698
           cases e698
           replace p698:=eq_true p698
           replace q698:=eq_true q698
           obtain ⟨Ao21,co21,eo21⟩:=Kd.R_slice HO_8.out
           subst eo21
           have p699 : 0 ≤ (x10_2 : Int):=of_decide_eq_true (by first|(with_reducible assumption)|assumption)
           have q699 : x10_2 < (t694.length : Int):=of_decide_eq_true (by first|(with_reducible assumption)|assumption)
           obtain ⟨ad699,e699,hx699_0,hx699_1⟩:=at_T60 (zN HO_8.out).2.2 x10_2 p699 q699
           cases e699
           replace p699:=eq_true p699
           replace q699:=eq_true q699
           go_wp2
           repeat (go_quiet (fail);try go_wp2)
           go_ret
           exact ⟨by first|rfl|(simp [errW_none,errW_some] <;> rfl)|(simp [*,errW_none,errW_some] <;> rfl),by repeat (first|(with_reducible first|exact HB.out|apply zD|apply zE|apply zF)|exact HB.out)⟩
          ·as_aux_lemma =>
           rw [if_neg c19] at H
           have c19b0 : (!(((rd_T60 t690 x10_2).f0) == ((rd_T60 t694 x10_2).f0)) || (!(((rd_T60 t690 x10_2).f1) == ((rd_T60 t694 x10_2).f1)))) = false:=by simpa using c19
           clear c19
           have H':=zM H
           clear H
           obtain ⟨Ao22,co22,eo22⟩:=Kd.R_slice HO_6.out
           subst eo22
           have p698 : 0 ≤ (x10_2 : Int):=of_decide_eq_true (by first|(with_reducible assumption)|assumption)
           have q698 : x10_2 < (t690.length : Int):=of_decide_eq_true (by first|(with_reducible assumption)|assumption)
           obtain ⟨ad698,e698,hx698_0,hx698_1⟩:=at_T60 (zN HO_6.out).2.2 x10_2 p698 q698
           cases e698
           replace p698:=eq_true p698
           replace q698:=eq_true q698
           obtain ⟨Ao23,co23,eo23⟩:=Kd.R_slice HO_8.out
           subst eo23
           have p699 : 0 ≤ (x10_2 : Int):=of_decide_eq_true (by first|(with_reducible assumption)|assumption)
           have q699 : x10_2 < (t694.length : Int):=of_decide_eq_true (by first|(with_reducible assumption)|assumption)
           obtain ⟨ad699,e699,hx699_0,hx699_1⟩:=at_T60 (zN HO_8.out).2.2 x10_2 p699 q699
           cases e699
           replace p699:=eq_true p699
           replace q699:=eq_true q699
           go_wp2
           repeat (go_quiet (fail);try go_wp2)
           go_roundg k2
           case measure=>have:=HJ6.out;have:=HK2.out;omega
           case rel=>exact ⟨(wrap64 (x10_2 + 1)),(by first|rfl|(simp;done)|(simp [*];done)),H',⟨by have:=HJ6.out;have:=HK2.out;omega⟩,⟨by (with_reducible repeat (first|apply zA|apply zB|apply zC));exact HO_3.out⟩,⟨by (with_reducible repeat (first|apply zA|apply zB|apply zC));exact HO_6.out⟩,⟨by (with_reducible repeat (first|apply zA|apply zB|apply zC));exact HO_8.out⟩,⟨by repeat (first|(with_reducible first|exact HB.out|apply zD|apply zE|apply zF)|exact HB.out)⟩⟩
         ·as_aux_lemma =>
          rw [if_neg c18] at H
          exact absurd H (by simp)
        ·as_aux_lemma =>
         rw [if_neg c17] at H
         exact absurd H (by simp)
       ·as_aux_lemma =>
        rw [if_neg c16] at H
        have c16b0 : decide (x10_2 < (t690.length : Int)) = false:=decide_eq_false c16
        clear c16
        have HC24:=zM H
        clear H
        obtain ⟨Ao25,co25,eo25⟩:=Kd.R_slice HO_6.out
        subst eo25
        go_upto_if 83 with (fail)
        repeat (go_quiet (fail);go_upto_if 83 with (fail))
        go_cut [] (fun wc => ∃ (kq : Nat),Aside0 (laws_FnTides.j4 kq l0 = some r) ∧ Aside0 (kq ≤ k2) ∧ Aside0 (Below w.heap.size w wc))
        case first =>
         have H:=HC24.out
         clear HC24
         by_cases c26 : t691 = true
         ·as_aux_lemma =>
          subst c26
          have H1 : ((impl_ShiftTides.f k2 t690 (wrap64 (-t686)) (wrap64 (-t687))).bind fun bt700=>((impl_MeanHeight.f k2 t685).bind fun bt704=>((impl_MeanHeight.f k2 t690).bind fun bt707=>((impl_SteepestChange.f k2 t685).bind fun bt710=>((impl_SteepestChange.f k2 t690).bind fun bt714=>(if bt700.2 = true then (if bt704.2.2 = true then (if bt707.2.2 = true then (if bt710.2.2.2 = true then (if bt714.2.2.2 = true then (if (bt700.1.length : Int) = (t685.length : Int) then (if (wrap64 (bt707.1 * bt704.2.1)) = (wrap64 ((wrap64 (bt704.1 + (wrap64 (t687 * bt704.2.1)))) * bt707.2.1)) then (if bt710.1 = bt714.1 then (laws_FnTides.j2 k2 l0 t685 bt700.1 bt704.1 bt704.2.1 (bt710.2.1 != bt714.2.1)) else (laws_FnTides.j2 k2 l0 t685 bt700.1 bt704.1 bt704.2.1 true)) else (laws_FnTides.j2 k2 l0 t685 bt700.1 bt704.1 bt704.2.1 true)) else (laws_FnTides.j2 k2 l0 t685 bt700.1 bt704.1 bt704.2.1 true)) else (laws_FnTides.j2 k2 l0 t685 bt700.1 bt704.1 bt704.2.1 true)) else (laws_FnTides.j2 k2 l0 t685 bt700.1 bt704.1 bt704.2.1 true)) else (laws_FnTides.j2 k2 l0 t685 bt700.1 bt704.1 bt704.2.1 true)) else (laws_FnTides.j2 k2 l0 t685 bt700.1 bt704.1 bt704.2.1 true)) else (laws_FnTides.j2 k2 l0 t685 bt700.1 bt704.1 bt704.2.1 true))))))) = some r:=by rw [if_pos rfl] at H;exact H
          clear H
          have H:=H1
          clear H1
          replace H:=Option.bind_eq_some_iff.mp H
          obtain ⟨⟨t700,t701⟩,A270,H⟩:=H
          replace H : ((impl_MeanHeight.f k2 t685).bind fun bt704=>((impl_MeanHeight.f k2 t690).bind fun bt707=>((impl_SteepestChange.f k2 t685).bind fun bt710=>((impl_SteepestChange.f k2 t690).bind fun bt714=>(if t701 = true then (if bt704.2.2 = true then (if bt707.2.2 = true then (if bt710.2.2.2 = true then (if bt714.2.2.2 = true then (if (t700.length : Int) = (t685.length : Int) then (if (wrap64 (bt707.1 * bt704.2.1)) = (wrap64 ((wrap64 (bt704.1 + (wrap64 (t687 * bt704.2.1)))) * bt707.2.1)) then (if bt710.1 = bt714.1 then (laws_FnTides.j2 k2 l0 t685 t700 bt704.1 bt704.2.1 (bt710.2.1 != bt714.2.1)) else (laws_FnTides.j2 k2 l0 t685 t700 bt704.1 bt704.2.1 true)) else (laws_FnTides.j2 k2 l0 t685 t700 bt704.1 bt704.2.1 true)) else (laws_FnTides.j2 k2 l0 t685 t700 bt704.1 bt704.2.1 true)) else (laws_FnTides.j2 k2 l0 t685 t700 bt704.1 bt704.2.1 true)) else (laws_FnTides.j2 k2 l0 t685 t700 bt704.1 bt704.2.1 true)) else (laws_FnTides.j2 k2 l0 t685 t700 bt704.1 bt704.2.1 true)) else (laws_FnTides.j2 k2 l0 t685 t700 bt704.1 bt704.2.1 true)) else (laws_FnTides.j2 k2 l0 t685 t700 bt704.1 bt704.2.1 true)))))) = some r:=H
          have A27:=zM A270
          clear A270
          replace H:=Option.bind_eq_some_iff.mp H
          obtain ⟨⟨t704,t705,t706⟩,A280,H⟩:=H
          replace H : ((impl_MeanHeight.f k2 t690).bind fun bt707=>((impl_SteepestChange.f k2 t685).bind fun bt710=>((impl_SteepestChange.f k2 t690).bind fun bt714=>(if t701 = true then (if t706 = true then (if bt707.2.2 = true then (if bt710.2.2.2 = true then (if bt714.2.2.2 = true then (if (t700.length : Int) = (t685.length : Int) then (if (wrap64 (bt707.1 * t705)) = (wrap64 ((wrap64 (t704 + (wrap64 (t687 * t705)))) * bt707.2.1)) then (if bt710.1 = bt714.1 then (laws_FnTides.j2 k2 l0 t685 t700 t704 t705 (bt710.2.1 != bt714.2.1)) else (laws_FnTides.j2 k2 l0 t685 t700 t704 t705 true)) else (laws_FnTides.j2 k2 l0 t685 t700 t704 t705 true)) else (laws_FnTides.j2 k2 l0 t685 t700 t704 t705 true)) else (laws_FnTides.j2 k2 l0 t685 t700 t704 t705 true)) else (laws_FnTides.j2 k2 l0 t685 t700 t704 t705 true)) else (laws_FnTides.j2 k2 l0 t685 t700 t704 t705 true)) else (laws_FnTides.j2 k2 l0 t685 t700 t704 t705 true)) else (laws_FnTides.j2 k2 l0 t685 t700 t704 t705 true))))) = some r:=H
          have A28:=zM A280
          clear A280
          replace H:=Option.bind_eq_some_iff.mp H
          obtain ⟨⟨t707,t708,t709⟩,A290,H⟩:=H
          replace H : ((impl_SteepestChange.f k2 t685).bind fun bt710=>((impl_SteepestChange.f k2 t690).bind fun bt714=>(if t701 = true then (if t706 = true then (if t709 = true then (if bt710.2.2.2 = true then (if bt714.2.2.2 = true then (if (t700.length : Int) = (t685.length : Int) then (if (wrap64 (t707 * t705)) = (wrap64 ((wrap64 (t704 + (wrap64 (t687 * t705)))) * t708)) then (if bt710.1 = bt714.1 then (laws_FnTides.j2 k2 l0 t685 t700 t704 t705 (bt710.2.1 != bt714.2.1)) else (laws_FnTides.j2 k2 l0 t685 t700 t704 t705 true)) else (laws_FnTides.j2 k2 l0 t685 t700 t704 t705 true)) else (laws_FnTides.j2 k2 l0 t685 t700 t704 t705 true)) else (laws_FnTides.j2 k2 l0 t685 t700 t704 t705 true)) else (laws_FnTides.j2 k2 l0 t685 t700 t704 t705 true)) else (laws_FnTides.j2 k2 l0 t685 t700 t704 t705 true)) else (laws_FnTides.j2 k2 l0 t685 t700 t704 t705 true)) else (laws_FnTides.j2 k2 l0 t685 t700 t704 t705 true)))) = some r:=H
          have A29:=zM A290
          clear A290
          replace H:=Option.bind_eq_some_iff.mp H
          obtain ⟨⟨t710,t711,t712,t713⟩,A300,H⟩:=H
          replace H : ((impl_SteepestChange.f k2 t690).bind fun bt714=>(if t701 = true then (if t706 = true then (if t709 = true then (if t713 = true then (if bt714.2.2.2 = true then (if (t700.length : Int) = (t685.length : Int) then (if (wrap64 (t707 * t705)) = (wrap64 ((wrap64 (t704 + (wrap64 (t687 * t705)))) * t708)) then (if t710 = bt714.1 then (laws_FnTides.j2 k2 l0 t685 t700 t704 t705 (t711 != bt714.2.1)) else (laws_FnTides.j2 k2 l0 t685 t700 t704 t705 true)) else (laws_FnTides.j2 k2 l0 t685 t700 t704 t705 true)) else (laws_FnTides.j2 k2 l0 t685 t700 t704 t705 true)) else (laws_FnTides.j2 k2 l0 t685 t700 t704 t705 true)) else (laws_FnTides.j2 k2 l0 t685 t700 t704 t705 true)) else (laws_FnTides.j2 k2 l0 t685 t700 t704 t705 true)) else (laws_FnTides.j2 k2 l0 t685 t700 t704 t705 true)) else (laws_FnTides.j2 k2 l0 t685 t700 t704 t705 true))) = some r:=H
          have A30:=zM A300
          clear A300
          replace H:=Option.bind_eq_some_iff.mp H
          obtain ⟨⟨t714,t715,t716,t717⟩,A310,H⟩:=H
          replace H : (if t701 = true then (if t706 = true then (if t709 = true then (if t713 = true then (if t717 = true then (if (t700.length : Int) = (t685.length : Int) then (if (wrap64 (t707 * t705)) = (wrap64 ((wrap64 (t704 + (wrap64 (t687 * t705)))) * t708)) then (if t710 = t714 then (laws_FnTides.j2 k2 l0 t685 t700 t704 t705 (t711 != t715)) else (laws_FnTides.j2 k2 l0 t685 t700 t704 t705 true)) else (laws_FnTides.j2 k2 l0 t685 t700 t704 t705 true)) else (laws_FnTides.j2 k2 l0 t685 t700 t704 t705 true)) else (laws_FnTides.j2 k2 l0 t685 t700 t704 t705 true)) else (laws_FnTides.j2 k2 l0 t685 t700 t704 t705 true)) else (laws_FnTides.j2 k2 l0 t685 t700 t704 t705 true)) else (laws_FnTides.j2 k2 l0 t685 t700 t704 t705 true)) else (laws_FnTides.j2 k2 l0 t685 t700 t704 t705 true)) = some r:=H
          have A31:=zM A310
          clear A310
          have HC32:=zM H
          clear H
          go_upto_region 19 with (first|(go_at_call 20;(with_reducible refine (impl_ShiftTides.calls k2 _ _ t690 (wrap64 (-t686)) (wrap64 (-t687)) t700 t701 _ ?side1 ?side2 A27.out).mono ?_);(case side1=>repeat (first|exact (zN HO_6.out).2.2|(with_reducible refine zG ?_ _)|(with_reducible refine zH ?_ _)|(with_reducible refine zI ?_)));(case side2=>exact (zN HO_6.out).2.1);rintro e w33 ⟨v702,rfl,ho0,hb⟩;have n0_:=zM (Kd.R_elder' (by (with_reducible repeat (first|apply zA|apply zB|apply zC));exact HO_3.out) (Kd.R_base ho0) hb);have n1_:=zM (Kd.R_elder' (by (with_reducible repeat (first|apply zA|apply zB|apply zC));exact HO_6.out) (Kd.R_base ho0) hb);have n2_:=zM (Kd.R_elder' (by (with_reducible repeat (first|apply zA|apply zB|apply zC));exact HO_8.out) (Kd.R_base ho0) hb);have n3_:=zM (Kd.R_lower (Kd.R_new' (Kd.R_new' (Kd.R_new' ho0 (Kd.R_lt (by (with_reducible repeat (first|apply zA|apply zB|apply zC));exact HO_3.out))) (Kd.R_lt (by (with_reducible repeat (first|apply zA|apply zB|apply zC));exact HO_6.out))) (Kd.R_lt (by (with_reducible repeat (first|apply zA|apply zB|apply zC));exact HO_8.out))) (zR (by repeat (first|(with_reducible first|exact HB.out|apply zD|apply zE|apply zF)|exact HB.out))));have n4_:=zM (zQ (by repeat (first|(with_reducible first|exact HB.out|apply zD|apply zE|apply zF)|exact HB.out)) hb);clear HO_3;clear HO_6;clear HO_8;clear HB;have HO_3:=n0_;have HO_6:=n1_;have HO_8:=n2_;have HO703:=n3_;have HB:=n4_;clear n0_ n1_ n2_ n3_ n4_;(try clear hb);(try clear hb2);(try clear hk);(try clear hi);(try clear ho0))|(go_at_call 24;(with_reducible refine (impl_MeanHeight.calls k2 _ _ t685 t704 t705 t706 _ ?side1 ?side2 A28.out).mono ?_);(case side1=>repeat (first|exact (zN HO_3.out).2.2|(with_reducible refine zG ?_ _)|(with_reducible refine zH ?_ _)|(with_reducible refine zI ?_)));(case side2=>exact (zN HO_3.out).2.1);rintro e w34 ⟨rfl,hb⟩;have n0_:=zM (zP (by (with_reducible repeat (first|apply zA|apply zB|apply zC));exact HO_3.out) hb);have n1_:=zM (zP (by (with_reducible repeat (first|apply zA|apply zB|apply zC));exact HO_6.out) hb);have n2_:=zM (zP (by (with_reducible repeat (first|apply zA|apply zB|apply zC));exact HO_8.out) hb);have n3_:=zM (zP (by (with_reducible repeat (first|apply zA|apply zB|apply zC));exact HO703.out) hb);have n4_:=zM (zQ (by repeat (first|(with_reducible first|exact HB.out|apply zD|apply zE|apply zF)|exact HB.out)) hb);clear HO_3;clear HO_6;clear HO_8;clear HO703;clear HB;have HO_3:=n0_;have HO_6:=n1_;have HO_8:=n2_;have HO703:=n3_;have HB:=n4_;clear n0_ n1_ n2_ n3_ n4_;(try clear hb);(try clear hb2);(try clear hk);(try clear hi))|(go_at_call 24;(with_reducible refine (impl_MeanHeight.calls k2 _ _ t690 t707 t708 t709 _ ?side1 ?side2 A29.out).mono ?_);(case side1=>repeat (first|exact (zN HO_6.out).2.2|(with_reducible refine zG ?_ _)|(with_reducible refine zH ?_ _)|(with_reducible refine zI ?_)));(case side2=>exact (zN HO_6.out).2.1);rintro e w35 ⟨rfl,hb⟩;have n0_:=zM (zP (by (with_reducible repeat (first|apply zA|apply zB|apply zC));exact HO_3.out) hb);have n1_:=zM (zP (by (with_reducible repeat (first|apply zA|apply zB|apply zC));exact HO_6.out) hb);have n2_:=zM (zP (by (with_reducible repeat (first|apply zA|apply zB|apply zC));exact HO_8.out) hb);have n3_:=zM (zP (by (with_reducible repeat (first|apply zA|apply zB|apply zC));exact HO703.out) hb);have n4_:=zM (zQ (by repeat (first|(with_reducible first|exact HB.out|apply zD|apply zE|apply zF)|exact HB.out)) hb);clear HO_3;clear HO_6;clear HO_8;clear HO703;clear HB;have HO_3:=n0_;have HO_6:=n1_;have HO_8:=n2_;have HO703:=n3_;have HB:=n4_;clear n0_ n1_ n2_ n3_ n4_;(try clear hb);(try clear hb2);(try clear hk);(try clear hi))|(go_at_call 28;(with_reducible refine (impl_SteepestChange.calls k2 _ _ t685 t710 t711 t712 t713 _ ?side1 ?side2 A30.out).mono ?_);(case side1=>repeat (first|exact (zN HO_3.out).2.2|(with_reducible refine zG ?_ _)|(with_reducible refine zH ?_ _)|(with_reducible refine zI ?_)));(case side2=>exact (zN HO_3.out).2.1);rintro e w36 ⟨rfl,hb⟩;have n0_:=zM (zP (by (with_reducible repeat (first|apply zA|apply zB|apply zC));exact HO_3.out) hb);have n1_:=zM (zP (by (with_reducible repeat (first|apply zA|apply zB|apply zC));exact HO_6.out) hb);have n2_:=zM (zP (by (with_reducible repeat (first|apply zA|apply zB|apply zC));exact HO_8.out) hb);have n3_:=zM (zP (by (with_reducible repeat (first|apply zA|apply zB|apply zC));exact HO703.out) hb);have n4_:=zM (zQ (by repeat (first|(with_reducible first|exact HB.out|apply zD|apply zE|apply zF)|exact HB.out)) hb);clear HO_3;clear HO_6;clear HO_8;clear HO703;clear HB;have HO_3:=n0_;have HO_6:=n1_;have HO_8:=n2_;have HO703:=n3_;have HB:=n4_;clear n0_ n1_ n2_ n3_ n4_;(try clear hb);(try clear hb2);(try clear hk);(try clear hi))|(go_at_call 28;(with_reducible refine (impl_SteepestChange.calls k2 _ _ t690 t714 t715 t716 t717 _ ?side1 ?side2 A31.out).mono ?_);(case side1=>repeat (first|exact (zN HO_6.out).2.2|(with_reducible refine zG ?_ _)|(with_reducible refine zH ?_ _)|(with_reducible refine zI ?_)));(case side2=>exact (zN HO_6.out).2.1);rintro e w37 ⟨rfl,hb⟩;have n0_:=zM (zP (by (with_reducible repeat (first|apply zA|apply zB|apply zC));exact HO_3.out) hb);have n1_:=zM (zP (by (with_reducible repeat (first|apply zA|apply zB|apply zC));exact HO_6.out) hb);have n2_:=zM (zP (by (with_reducible repeat (first|apply zA|apply zB|apply zC));exact HO_8.out) hb);have n3_:=zM (zP (by (with_reducible repeat (first|apply zA|apply zB|apply zC));exact HO703.out) hb);have n4_:=zM (zQ (by repeat (first|(with_reducible first|exact HB.out|apply zD|apply zE|apply zF)|exact HB.out)) hb);clear HO_3;clear HO_6;clear HO_8;clear HO703;clear HB;have HO_3:=n0_;have HO_6:=n1_;have HO_8:=n2_;have HO703:=n3_;have HB:=n4_;clear n0_ n1_ n2_ n3_ n4_;(try clear hb);(try clear hb2);(try clear hk);(try clear hi)))
          repeat (go_quiet (first|(go_at_call 20;(with_reducible refine (impl_ShiftTides.calls k2 _ _ t690 (wrap64 (-t686)) (wrap64 (-t687)) t700 t701 _ ?side1 ?side2 A27.out).mono ?_);(case side1=>repeat (first|exact (zN HO_6.out).2.2|(with_reducible refine zG ?_ _)|(with_reducible refine zH ?_ _)|(with_reducible refine zI ?_)));(case side2=>exact (zN HO_6.out).2.1);rintro e w33 ⟨v702,rfl,ho0,hb⟩;have n0_:=zM (Kd.R_elder' (by (with_reducible repeat (first|apply zA|apply zB|apply zC));exact HO_3.out) (Kd.R_base ho0) hb);have n1_:=zM (Kd.R_elder' (by (with_reducible repeat (first|apply zA|apply zB|apply zC));exact HO_6.out) (Kd.R_base ho0) hb);have n2_:=zM (Kd.R_elder' (by (with_reducible repeat (first|apply zA|apply zB|apply zC));exact HO_8.out) (Kd.R_base ho0) hb);have n3_:=zM (Kd.R_lower (Kd.R_new' (Kd.R_new' (Kd.R_new' ho0 (Kd.R_lt (by (with_reducible repeat (first|apply zA|apply zB|apply zC));exact HO_3.out))) (Kd.R_lt (by (with_reducible repeat (first|apply zA|apply zB|apply zC));exact HO_6.out))) (Kd.R_lt (by (with_reducible repeat (first|apply zA|apply zB|apply zC));exact HO_8.out))) (zR (by repeat (first|(with_reducible first|exact HB.out|apply zD|apply zE|apply zF)|exact HB.out))));have n4_:=zM (zQ (by repeat (first|(with_reducible first|exact HB.out|apply zD|apply zE|apply zF)|exact HB.out)) hb);clear HO_3;clear HO_6;clear HO_8;clear HB;have HO_3:=n0_;have HO_6:=n1_;have HO_8:=n2_;have HO703:=n3_;have HB:=n4_;clear n0_ n1_ n2_ n3_ n4_;(try clear hb);(try clear hb2);(try clear hk);(try clear hi);(try clear ho0))|(go_at_call 24;(with_reducible refine (impl_MeanHeight.calls k2 _ _ t685 t704 t705 t706 _ ?side1 ?side2 A28.out).mono ?_);(case side1=>repeat (first|exact (zN HO_3.out).2.2|(with_reducible refine zG ?_ _)|(with_reducible refine zH ?_ _)|(with_reducible refine zI ?_)));(case side2=>exact (zN HO_3.out).2.1);rintro e w34 ⟨rfl,hb⟩;have n0_:=zM (zP (by (with_reducible repeat (first|apply zA|apply zB|apply zC));exact HO_3.out) hb);have n1_:=zM (zP (by (with_reducible repeat (first|apply zA|apply zB|apply zC));exact HO_6.out) hb);have n2_:=zM (zP (by (with_reducible repeat (first|apply zA|apply zB|apply zC));exact HO_8.out) hb);have n3_:=zM (zP (by (with_reducible repeat (first|apply zA|apply zB|apply zC));exact HO703.out) hb);have n4_:=zM (zQ (by repeat (first|(with_reducible first|exact HB.out|apply zD|apply zE|apply zF)|exact HB.out)) hb);clear HO_3;clear HO_6;clear HO_8;clear HO703;clear HB;have HO_3:=n0_;have HO_6:=n1_;have HO_8:=n2_;have HO703:=n3_;have HB:=n4_;clear n0_ n1_ n2_ n3_ n4_;(try clear hb);(try clear hb2);(try clear hk);(try clear hi))|(go_at_call 24;(with_reducible refine (impl_MeanHeight.calls k2 _ _ t690 t707 t708 t709 _ ?side1 ?side2 A29.out).mono ?_);(case side1=>repeat (first|exact (zN HO_6.out).2.2|(with_reducible refine zG ?_ _)|(with_reducible refine zH ?_ _)|(with_reducible refine zI ?_)));(case side2=>exact (zN HO_6.out).2.1);rintro e w35 ⟨rfl,hb⟩;have n0_:=zM (zP (by (with_reducible repeat (first|apply zA|apply zB|apply zC));exact HO_3.out) hb);have n1_:=zM (zP (by (with_reducible repeat (first|apply zA|apply zB|apply zC));exact HO_6.out) hb);have n2_:=zM (zP (by (with_reducible repeat (first|apply zA|apply zB|apply zC));exact HO_8.out) hb);have n3_:=zM (zP (by (with_reducible repeat (first|apply zA|apply zB|apply zC));exact HO703.out) hb);have n4_:=zM (zQ (by repeat (first|(with_reducible first|exact HB.out|apply zD|apply zE|apply zF)|exact HB.out)) hb);clear HO_3;clear HO_6;clear HO_8;clear HO703;clear HB;have HO_3:=n0_;have HO_6:=n1_;have HO_8:=n2_;have HO703:=n3_;have HB:=n4_;clear n0_ n1_ n2_ n3_ n4_;(try clear hb);(try clear hb2);(try clear hk);(try clear hi))|(go_at_call 28;(with_reducible refine (impl_SteepestChange.calls k2 _ _ t685 t710 t711 t712 t713 _ ?side1 ?side2 A30.out).mono ?_);(case side1=>repeat (first|exact (zN HO_3.out).2.2|(with_reducible refine zG ?_ _)|(with_reducible refine zH ?_ _)|(with_reducible refine zI ?_)));(case side2=>exact (zN HO_3.out).2.1);rintro e w36 ⟨rfl,hb⟩;have n0_:=zM (zP (by (with_reducible repeat (first|apply zA|apply zB|apply zC));exact HO_3.out) hb);have n1_:=zM (zP (by (with_reducible repeat (first|apply zA|apply zB|apply zC));exact HO_6.out) hb);have n2_:=zM (zP (by (with_reducible repeat (first|apply zA|apply zB|apply zC));exact HO_8.out) hb);have n3_:=zM (zP (by (with_reducible repeat (first|apply zA|apply zB|apply zC));exact HO703.out) hb);have n4_:=zM (zQ (by repeat (first|(with_reducible first|exact HB.out|apply zD|apply zE|apply zF)|exact HB.out)) hb);clear HO_3;clear HO_6;clear HO_8;clear HO703;clear HB;have HO_3:=n0_;have HO_6:=n1_;have HO_8:=n2_;have HO703:=n3_;have HB:=n4_;clear n0_ n1_ n2_ n3_ n4_;(try clear hb);(try clear hb2);(try clear hk);(try clear hi))|(go_at_call 28;(with_reducible refine (impl_SteepestChange.calls k2 _ _ t690 t714 t715 t716 t717 _ ?side1 ?side2 A31.out).mono ?_);(case side1=>repeat (first|exact (zN HO_6.out).2.2|(with_reducible refine zG ?_ _)|(with_reducible refine zH ?_ _)|(with_reducible refine zI ?_)));(case side2=>exact (zN HO_6.out).2.1);rintro e w37 ⟨rfl,hb⟩;have n0_:=zM (zP (by (with_reducible repeat (first|apply zA|apply zB|apply zC));exact HO_3.out) hb);have n1_:=zM (zP (by (with_reducible repeat (first|apply zA|apply zB|apply zC));exact HO_6.out) hb);have n2_:=zM (zP (by (with_reducible repeat (first|apply zA|apply zB|apply zC));exact HO_8.out) hb);have n3_:=zM (zP (by (with_reducible repeat (first|apply zA|apply zB|apply zC));exact HO703.out) hb);have n4_:=zM (zQ (by repeat (first|(with_reducible first|exact HB.out|apply zD|apply zE|apply zF)|exact HB.out)) hb);clear HO_3;clear HO_6;clear HO_8;clear HO703;clear HB;have HO_3:=n0_;have HO_6:=n1_;have HO_8:=n2_;have HO703:=n3_;have HB:=n4_;clear n0_ n1_ n2_ n3_ n4_;(try clear hb);(try clear hb2);(try clear hk);(try clear hi)));go_upto_region 19 with (first|(go_at_call 20;(with_reducible refine (impl_ShiftTides.calls k2 _ _ t690 (wrap64 (-t686)) (wrap64 (-t687)) t700 t701 _ ?side1 ?side2 A27.out).mono ?_);(case side1=>repeat (first|exact (zN HO_6.out).2.2|(with_reducible refine zG ?_ _)|(with_reducible refine zH ?_ _)|(with_reducible refine zI ?_)));(case side2=>exact (zN HO_6.out).2.1);rintro e w33 ⟨v702,rfl,ho0,hb⟩;have n0_:=zM (Kd.R_elder' (by (with_reducible repeat (first|apply zA|apply zB|apply zC));exact HO_3.out) (Kd.R_base ho0) hb);have n1_:=zM (Kd.R_elder' (by (with_reducible repeat (first|apply zA|apply zB|apply zC));exact HO_6.out) (Kd.R_base ho0) hb);have n2_:=zM (Kd.R_elder' (by (with_reducible repeat (first|apply zA|apply zB|apply zC));exact HO_8.out) (Kd.R_base ho0) hb);have n3_:=zM (Kd.R_lower (Kd.R_new' (Kd.R_new' (Kd.R_new' ho0 (Kd.R_lt (by (with_reducible repeat (first|apply zA|apply zB|apply zC));exact HO_3.out))) (Kd.R_lt (by (with_reducible repeat (first|apply zA|apply zB|apply zC));exact HO_6.out))) (Kd.R_lt (by (with_reducible repeat (first|apply zA|apply zB|apply zC));exact HO_8.out))) (zR (by repeat (first|(with_reducible first|exact HB.out|apply zD|apply zE|apply zF)|exact HB.out))));have n4_:=zM (zQ (by repeat (first|(with_reducible first|exact HB.out|apply zD|apply zE|apply zF)|exact HB.out)) hb);clear HO_3;clear HO_6;clear HO_8;clear HB;have HO_3:=n0_;have HO_6:=n1_;have HO_8:=n2_;have HO703:=n3_;have HB:=n4_;clear n0_ n1_ n2_ n3_ n4_;(try clear hb);(try clear hb2);(try clear hk);(try clear hi);(try clear ho0))|(go_at_call 24;(with_reducible refine (impl_MeanHeight.calls k2 _ _ t685 t704 t705 t706 _ ?side1 ?side2 A28.out).mono ?_);(case side1=>repeat (first|exact (zN HO_3.out).2.2|(with_reducible refine zG ?_ _)|(with_reducible refine zH ?_ _)|(with_reducible refine zI ?_)));(case side2=>exact (zN HO_3.out).2.1);rintro e w34 ⟨rfl,hb⟩;have n0_:=zM (zP (by (with_reducible repeat (first|apply zA|apply zB|apply zC));exact HO_3.out) hb);have n1_:=zM (zP (by (with_reducible repeat (first|apply zA|apply zB|apply zC));exact HO_6.out) hb);have n2_:=zM (zP (by (with_reducible repeat (first|apply zA|apply zB|apply zC));exact HO_8.out) hb);have n3_:=zM (zP (by (with_reducible repeat (first|apply zA|apply zB|apply zC));exact HO703.out) hb);have n4_:=zM (zQ (by repeat (first|(with_reducible first|exact HB.out|apply zD|apply zE|apply zF)|exact HB.out)) hb);clear HO_3;clear HO_6;clear HO_8;clear HO703;clear HB;have HO_3:=n0_;have HO_6:=n1_;have HO_8:=n2_;have HO703:=n3_;have HB:=n4_;clear n0_ n1_ n2_ n3_ n4_;(try clear hb);(try clear hb2);(try clear hk);(try clear hi))|(go_at_call 24;(with_reducible refine (impl_MeanHeight.calls k2 _ _ t690 t707 t708 t709 _ ?side1 ?side2 A29.out).mono ?_);(case side1=>repeat (first|exact (zN HO_6.out).2.2|(with_reducible refine zG ?_ _)|(with_reducible refine zH ?_ _)|(with_reducible refine zI ?_)));(case side2=>exact (zN HO_6.out).2.1);rintro e w35 ⟨rfl,hb⟩;have n0_:=zM (zP (by (with_reducible repeat (first|apply zA|apply zB|apply zC));exact HO_3.out) hb);have n1_:=zM (zP (by (with_reducible repeat (first|apply zA|apply zB|apply zC));exact HO_6.out) hb);have n2_:=zM (zP (by (with_reducible repeat (first|apply zA|apply zB|apply zC));exact HO_8.out) hb);have n3_:=zM (zP (by (with_reducible repeat (first|apply zA|apply zB|apply zC));exact HO703.out) hb);have n4_:=zM (zQ (by repeat (first|(with_reducible first|exact HB.out|apply zD|apply zE|apply zF)|exact HB.out)) hb);clear HO_3;clear HO_6;clear HO_8;clear HO703;clear HB;have HO_3:=n0_;have HO_6:=n1_;have HO_8:=n2_;have HO703:=n3_;have HB:=n4_;clear n0_ n1_ n2_ n3_ n4_;(try clear hb);(try clear hb2);(try clear hk);(try clear hi))|(go_at_call 28;(with_reducible refine (impl_SteepestChange.calls k2 _ _ t685 t710 t711 t712 t713 _ ?side1 ?side2 A30.out).mono ?_);(case side1=>repeat (first|exact (zN HO_3.out).2.2|(with_reducible refine zG ?_ _)|(with_reducible refine zH ?_ _)|(with_reducible refine zI ?_)));(case side2=>exact (zN HO_3.out).2.1);rintro e w36 ⟨rfl,hb⟩;have n0_:=zM (zP (by (with_reducible repeat (first|apply zA|apply zB|apply zC));exact HO_3.out) hb);have n1_:=zM (zP (by (with_reducible repeat (first|apply zA|apply zB|apply zC));exact HO_6.out) hb);have n2_:=zM (zP (by (with_reducible repeat (first|apply zA|apply zB|apply zC));exact HO_8.out) hb);have n3_:=zM (zP (by (with_reducible repeat (first|apply zA|apply zB|apply zC));exact HO703.out) hb);have n4_:=zM (zQ (by repeat (first|(with_reducible first|exact HB.out|apply zD|apply zE|apply zF)|exact HB.out)) hb);clear HO_3;clear HO_6;clear HO_8;clear HO703;clear HB;have HO_3:=n0_;have HO_6:=n1_;have HO_8:=n2_;have HO703:=n3_;have HB:=n4_;clear n0_ n1_ n2_ n3_ n4_;(try clear hb);(try clear hb2);(try clear hk);(try clear hi))|(go_at_call 28;(with_reducible refine (impl_SteepestChange.calls k2 _ _ t690 t714 t715 t716 t717 _ ?side1 ?side2 A31.out).mono ?_);(case side1=>repeat (first|exact (zN HO_6.out).2.2|(with_reducible refine zG ?_ _)|(with_reducible refine zH ?_ _)|(with_reducible refine zI ?_)));(case side2=>exact (zN HO_6.out).2.1);rintro e w37 ⟨rfl,hb⟩;have n0_:=zM (zP (by (with_reducible repeat (first|apply zA|apply zB|apply zC));exact HO_3.out) hb);have n1_:=zM (zP (by (with_reducible repeat (first|apply zA|apply zB|apply zC));exact HO_6.out) hb);have n2_:=zM (zP (by (with_reducible repeat (first|apply zA|apply zB|apply zC));exact HO_8.out) hb);have n3_:=zM (zP (by (with_reducible repeat (first|apply zA|apply zB|apply zC));exact HO703.out) hb);have n4_:=zM (zQ (by repeat (first|(with_reducible first|exact HB.out|apply zD|apply zE|apply zF)|exact HB.out)) hb);clear HO_3;clear HO_6;clear HO_8;clear HO703;clear HB;have HO_3:=n0_;have HO_6:=n1_;have HO_8:=n2_;have HO703:=n3_;have HB:=n4_;clear n0_ n1_ n2_ n3_ n4_;(try clear hb);(try clear hb2);(try clear hk);(try clear hi))))
          (try simp only [Act.put,List.setIfInBounds_toArray,List.set_cons_zero,List.set_cons_succ])
          go_cut [166] (fun v166 wc => ∃ (kq : Nat) (x166_31 : Bool),v166 = .bool x166_31 ∧ Aside0 (laws_FnTides.j2 kq l0 t685 t700 t704 t705 x166_31 = some r) ∧ Aside0 (kq ≤ k2) ∧ Aside0 (Kd.R k60 60 wc w.heap.size (fun k_=>some k_ ≠ (v702 : Value).ownBlock) (.slice Ao9 t685.length co9) t685) ∧ Aside0 (Kd.R k60 60 wc w.heap.size (fun k_=>some k_ ≠ ((.slice Ao9 t685.length co9) : Value).ownBlock) v702 t700) ∧ Aside0 (Below w.heap.size w wc))
          case first =>
           have H:=HC32.out
           clear HC32
           by_cases c38 : t701 = true
           ·as_aux_lemma =>
            subst c38
            have H1 : (if t706 = true then (if t709 = true then (if t713 = true then (if t717 = true then (if (t700.length : Int) = (t685.length : Int) then (if (wrap64 (t707 * t705)) = (wrap64 ((wrap64 (t704 + (wrap64 (t687 * t705)))) * t708)) then (if t710 = t714 then (laws_FnTides.j2 k2 l0 t685 t700 t704 t705 (t711 != t715)) else (laws_FnTides.j2 k2 l0 t685 t700 t704 t705 true)) else (laws_FnTides.j2 k2 l0 t685 t700 t704 t705 true)) else (laws_FnTides.j2 k2 l0 t685 t700 t704 t705 true)) else (laws_FnTides.j2 k2 l0 t685 t700 t704 t705 true)) else (laws_FnTides.j2 k2 l0 t685 t700 t704 t705 true)) else (laws_FnTides.j2 k2 l0 t685 t700 t704 t705 true)) else (laws_FnTides.j2 k2 l0 t685 t700 t704 t705 true)) = some r:=by rw [if_pos rfl] at H;exact H
            clear H
            have H:=H1
            clear H1
            by_cases c39 : t706 = true
            ·as_aux_lemma =>
             subst c39
             have H1 : (if t709 = true then (if t713 = true then (if t717 = true then (if (t700.length : Int) = (t685.length : Int) then (if (wrap64 (t707 * t705)) = (wrap64 ((wrap64 (t704 + (wrap64 (t687 * t705)))) * t708)) then (if t710 = t714 then (laws_FnTides.j2 k2 l0 t685 t700 t704 t705 (t711 != t715)) else (laws_FnTides.j2 k2 l0 t685 t700 t704 t705 true)) else (laws_FnTides.j2 k2 l0 t685 t700 t704 t705 true)) else (laws_FnTides.j2 k2 l0 t685 t700 t704 t705 true)) else (laws_FnTides.j2 k2 l0 t685 t700 t704 t705 true)) else (laws_FnTides.j2 k2 l0 t685 t700 t704 t705 true)) else (laws_FnTides.j2 k2 l0 t685 t700 t704 t705 true)) = some r:=by rw [if_pos rfl] at H;exact H
             clear H
             have H:=H1
             clear H1
             by_cases c40 : t709 = true
             ·as_aux_lemma =>
              subst c40
              have H1 : (if t713 = true then (if t717 = true then (if (t700.length : Int) = (t685.length : Int) then (if (wrap64 (t707 * t705)) = (wrap64 ((wrap64 (t704 + (wrap64 (t687 * t705)))) * t708)) then (if t710 = t714 then (laws_FnTides.j2 k2 l0 t685 t700 t704 t705 (t711 != t715)) else (laws_FnTides.j2 k2 l0 t685 t700 t704 t705 true)) else (laws_FnTides.j2 k2 l0 t685 t700 t704 t705 true)) else (laws_FnTides.j2 k2 l0 t685 t700 t704 t705 true)) else (laws_FnTides.j2 k2 l0 t685 t700 t704 t705 true)) else (laws_FnTides.j2 k2 l0 t685 t700 t704 t705 true)) = some r:=by rw [if_pos rfl] at H;exact H
              clear H
              have H:=H1
              clear H1
              by_cases c41 : t713 = true
              ·as_aux_lemma =>
               subst c41
               have H1 : (if t717 = true then (if (t700.length : Int) = (t685.length : Int) then (if (wrap64 (t707 * t705)) = (wrap64 ((wrap64 (t704 + (wrap64 (t687 * t705)))) * t708)) then (if t710 = t714 then (laws_FnTides.j2 k2 l0 t685 t700 t704 t705 (t711 != t715)) else (laws_FnTides.j2 k2 l0 t685 t700 t704 t705 true)) else (laws_FnTides.j2 k2 l0 t685 t700 t704 t705 true)) else (laws_FnTides.j2 k2 l0 t685 t700 t704 t705 true)) else (laws_FnTides.j2 k2 l0 t685 t700 t704 t705 true)) = some r:=by rw [if_pos rfl] at H;exact H
               clear H
               have H:=H1
               clear H1
               by_cases c42 : t717 = true
               ·as_aux_lemma =>
                subst c42
                have H1 : (if (t700.length : Int) = (t685.length : Int) then (if (wrap64 (t707 * t705)) = (wrap64 ((wrap64 (t704 + (wrap64 (t687 * t705)))) * t708)) then (if t710 = t714 then (laws_FnTides.j2 k2 l0 t685 t700 t704 t705 (t711 != t715)) else (laws_FnTides.j2 k2 l0 t685 t700 t704 t705 true)) else (laws_FnTides.j2 k2 l0 t685 t700 t704 t705 true)) else (laws_FnTides.j2 k2 l0 t685 t700 t704 t705 true)) = some r:=by rw [if_pos rfl] at H;exact H
                clear H
                have H:=H1
                clear H1
                by_cases c43 : (t700.length : Int) = (t685.length : Int)
                ·as_aux_lemma =>
                 rw [if_pos c43] at H
                 have c43b0 : ((t700.length : Int) == (t685.length : Int)) = true:=beq_iff_eq.mpr c43
                 have c43b1 : ((t700.length : Int) != (t685.length : Int)) = false:=bne_eq_false_iff_eq.mpr c43
                 have c43b2 : (t700.length == t685.length) = true:=by first|simpa using c43|(simp at c43 ⊢;omega)
                 clear c43
                 (first|rw [c43b0]|(simp only [i64_w,i32_w];rw [c43b0])|skip)
                 by_cases c44 : (wrap64 (t707 * t705)) = (wrap64 ((wrap64 (t704 + (wrap64 (t687 * t705)))) * t708))
                 ·as_aux_lemma =>
                  rw [if_pos c44] at H
                  have c44b0 : ((wrap64 (t707 * t705)) == (wrap64 ((wrap64 (t704 + (wrap64 (t687 * t705)))) * t708))) = true:=beq_iff_eq.mpr c44
                  have c44b1 : ((wrap64 (t707 * t705)) != (wrap64 ((wrap64 (t704 + (wrap64 (t687 * t705)))) * t708))) = false:=bne_eq_false_iff_eq.mpr c44
                  clear c44
                  by_cases c45 : t710 = t714
                  ·as_aux_lemma =>
                   rw [if_pos c45] at H
                   have c45b0 : (t710 == t714) = true:=beq_iff_eq.mpr c45
                   have c45b1 : (t710 != t714) = false:=bne_eq_false_iff_eq.mpr c45
                   clear c45
                   have H':=zM H
                   clear H
                   obtain ⟨Ao46,co46,eo46⟩:=Kd.R_slice HO703.out
                   subst eo46
                   go_wp2
                   repeat (go_quiet (fail);try go_wp2)
                   go_meet
                   case rel=>exact ⟨_,((t711 != t715)),(by first|rfl|(simp;done)|(simp [*];done)),H',⟨by have:=HJ6.out;have:=HK2.out;first|omega|exact Nat.le_refl _⟩,⟨by (with_reducible repeat (first|apply zA|apply zB|apply zC));exact Kd.R_mono HO_3.out (fun _ hk=>hk.2)⟩,⟨by (with_reducible repeat (first|apply zA|apply zB|apply zC));exact Kd.R_mono HO703.out (fun _ hk=>hk.1.1.2)⟩,⟨by repeat (first|(with_reducible first|exact HB.out|apply zD|apply zE|apply zF)|exact HB.out)⟩⟩
                  ·as_aux_lemma =>
                   rw [if_neg c45] at H
                   have c45b0 : (t710 == t714) = false:=beq_eq_false_iff_ne.mpr c45
                   have c45b1 : (t710 != t714) = true:=bne_iff_ne.mpr c45
                   have H':=zM H
                   clear H
                   obtain ⟨Ao47,co47,eo47⟩:=Kd.R_slice HO703.out
                   subst eo47
                   go_wp2
                   repeat (go_quiet (fail);try go_wp2)
                   go_meet
                   case rel=>exact ⟨_,(true),(by first|rfl|(simp;done)|(simp [*];done)),H',⟨by have:=HJ6.out;have:=HK2.out;first|omega|exact Nat.le_refl _⟩,⟨by (with_reducible repeat (first|apply zA|apply zB|apply zC));exact Kd.R_mono HO_3.out (fun _ hk=>hk.2)⟩,⟨by (with_reducible repeat (first|apply zA|apply zB|apply zC));exact Kd.R_mono HO703.out (fun _ hk=>hk.1.1.2)⟩,⟨by repeat (first|(with_reducible first|exact HB.out|apply zD|apply zE|apply zF)|exact HB.out)⟩⟩
                 ·as_aux_lemma =>
                  rw [if_neg c44] at H
                  have c44b0 : ((wrap64 (t707 * t705)) == (wrap64 ((wrap64 (t704 + (wrap64 (t687 * t705)))) * t708))) = false:=beq_eq_false_iff_ne.mpr c44
                  have c44b1 : ((wrap64 (t707 * t705)) != (wrap64 ((wrap64 (t704 + (wrap64 (t687 * t705)))) * t708))) = true:=bne_iff_ne.mpr c44
                  have H':=zM H
                  clear H
                  obtain ⟨Ao48,co48,eo48⟩:=Kd.R_slice HO703.out
                  subst eo48
                  go_wp2
                  repeat (go_quiet (fail);try go_wp2)
                  go_meet
                  case rel=>exact ⟨_,(true),(by first|rfl|(simp;done)|(simp [*];done)),H',⟨by have:=HJ6.out;have:=HK2.out;first|omega|exact Nat.le_refl _⟩,⟨by (with_reducible repeat (first|apply zA|apply zB|apply zC));exact Kd.R_mono HO_3.out (fun _ hk=>hk.2)⟩,⟨by (with_reducible repeat (first|apply zA|apply zB|apply zC));exact Kd.R_mono HO703.out (fun _ hk=>hk.1.1.2)⟩,⟨by repeat (first|(with_reducible first|exact HB.out|apply zD|apply zE|apply zF)|exact HB.out)⟩⟩
                ·as_aux_lemma =>
                 rw [if_neg c43] at H
                 have c43b0 : ((t700.length : Int) == (t685.length : Int)) = false:=beq_eq_false_iff_ne.mpr c43
                 have c43b1 : ((t700.length : Int) != (t685.length : Int)) = true:=bne_iff_ne.mpr c43
                 have c43b2 : (t700.length == t685.length) = false:=by first|simpa using c43|(simp at c43 ⊢;omega)
                 (first|rw [c43b0]|(simp only [i64_w,i32_w];rw [c43b0])|skip)
                 have H':=zM H
                 clear H
                 obtain ⟨Ao49,co49,eo49⟩:=Kd.R_slice HO703.out
                 subst eo49
                 go_wp2
                 repeat (go_quiet (fail);try go_wp2)
                 go_meet
                 case rel=>exact ⟨_,(true),(by first|rfl|(simp;done)|(simp [*];done)),H',⟨by have:=HJ6.out;have:=HK2.out;first|omega|exact Nat.le_refl _⟩,⟨by (with_reducible repeat (first|apply zA|apply zB|apply zC));exact Kd.R_mono HO_3.out (fun _ hk=>hk.2)⟩,⟨by (with_reducible repeat (first|apply zA|apply zB|apply zC));exact Kd.R_mono HO703.out (fun _ hk=>hk.1.1.2)⟩,⟨by repeat (first|(with_reducible first|exact HB.out|apply zD|apply zE|apply zF)|exact HB.out)⟩⟩
               ·as_aux_lemma =>
                replace c42:=Bool.eq_false_iff.mpr c42
                subst c42
                have H1 : (laws_FnTides.j2 k2 l0 t685 t700 t704 t705 true) = some r:=by rw [if_neg (show ¬ (false = true) by decide)] at H;exact H
                clear H
                have H:=H1
                clear H1
                have H':=zM H
                clear H
                go_wp2
                repeat (go_quiet (fail);try go_wp2)
                go_meet
                case rel=>exact ⟨_,(true),(by first|rfl|(simp;done)|(simp [*];done)),H',⟨by have:=HJ6.out;have:=HK2.out;first|omega|exact Nat.le_refl _⟩,⟨by (with_reducible repeat (first|apply zA|apply zB|apply zC));exact Kd.R_mono HO_3.out (fun _ hk=>hk.2)⟩,⟨by (with_reducible repeat (first|apply zA|apply zB|apply zC));exact Kd.R_mono HO703.out (fun _ hk=>hk.1.1.2)⟩,⟨by repeat (first|(with_reducible first|exact HB.out|apply zD|apply zE|apply zF)|exact HB.out)⟩⟩
              ·as_aux_lemma =>
               replace c41:=Bool.eq_false_iff.mpr c41
               subst c41
               have H1 : (laws_FnTides.j2 k2 l0 t685 t700 t704 t705 true) = some r:=by rw [if_neg (show ¬ (false = true) by decide)] at H;exact H
               clear H
               have H:=H1
               clear H1
               have H':=zM H
               clear H
               go_wp2
               repeat (go_quiet (fail);try go_wp2)
               go_meet
               case rel=>exact ⟨_,(true),(by first|rfl|(simp;done)|(simp [*];done)),H',⟨by have:=HJ6.out;have:=HK2.out;first|omega|exact Nat.le_refl _⟩,⟨by (with_reducible repeat (first|apply zA|apply zB|apply zC));exact Kd.R_mono HO_3.out (fun _ hk=>hk.2)⟩,⟨by (with_reducible repeat (first|apply zA|apply zB|apply zC));exact Kd.R_mono HO703.out (fun _ hk=>hk.1.1.2)⟩,⟨by repeat (first|(with_reducible first|exact HB.out|apply zD|apply zE|apply zF)|exact HB.out)⟩⟩
             ·as_aux_lemma =>
              replace c40:=Bool.eq_false_iff.mpr c40
              subst c40
              have H1 : (laws_FnTides.j2 k2 l0 t685 t700 t704 t705 true) = some r:=by rw [if_neg (show ¬ (false = true) by decide)] at H;exact H
              clear H
              have H:=H1
              clear H1
              have H':=zM H
              clear H
              go_wp2
              repeat (go_quiet (fail);try go_wp2)
              go_meet
              case rel=>exact ⟨_,(true),(by first|rfl|(simp;done)|(simp [*];done)),H',⟨by have:=HJ6.out;have:=HK2.out;first|omega|exact Nat.le_refl _⟩,⟨by (with_reducible repeat (first|apply zA|apply zB|apply zC));exact Kd.R_mono HO_3.out (fun _ hk=>hk.2)⟩,⟨by (with_reducible repeat (first|apply zA|apply zB|apply zC));exact Kd.R_mono HO703.out (fun _ hk=>hk.1.1.2)⟩,⟨by repeat (first|(with_reducible first|exact HB.out|apply zD|apply zE|apply zF)|exact HB.out)⟩⟩
            ·as_aux_lemma =>
             replace c39:=Bool.eq_false_iff.mpr c39
             subst c39
             have H1 : (laws_FnTides.j2 k2 l0 t685 t700 t704 t705 true) = some r:=by rw [if_neg (show ¬ (false = true) by decide)] at H;exact H
             clear H
             have H:=H1
             clear H1
             have H':=zM H
             clear H
             go_wp2
             repeat (go_quiet (fail);try go_wp2)
             go_meet
             case rel=>exact ⟨_,(true),(by first|rfl|(simp;done)|(simp [*];done)),H',⟨by have:=HJ6.out;have:=HK2.out;first|omega|exact Nat.le_refl _⟩,⟨by (with_reducible repeat (first|apply zA|apply zB|apply zC));exact Kd.R_mono HO_3.out (fun _ hk=>hk.2)⟩,⟨by (with_reducible repeat (first|apply zA|apply zB|apply zC));exact Kd.R_mono HO703.out (fun _ hk=>hk.1.1.2)⟩,⟨by repeat (first|(with_reducible first|exact HB.out|apply zD|apply zE|apply zF)|exact HB.out)⟩⟩
           ·as_aux_lemma =>
            replace c38:=Bool.eq_false_iff.mpr c38
            subst c38
            have H1 : (laws_FnTides.j2 k2 l0 t685 t700 t704 t705 true) = some r:=by rw [if_neg (show ¬ (false = true) by decide)] at H;exact H
            clear H
            have H:=H1
            clear H1
            have H':=zM H
            clear H
            go_wp2
            repeat (go_quiet (fail);try go_wp2)
            go_meet
            case rel=>exact ⟨_,(true),(by first|rfl|(simp;done)|(simp [*];done)),H',⟨by have:=HJ6.out;have:=HK2.out;first|omega|exact Nat.le_refl _⟩,⟨by (with_reducible repeat (first|apply zA|apply zB|apply zC));exact Kd.R_mono HO_3.out (fun _ hk=>hk.2)⟩,⟨by (with_reducible repeat (first|apply zA|apply zB|apply zC));exact Kd.R_mono HO703.out (fun _ hk=>hk.1.1.2)⟩,⟨by repeat (first|(with_reducible first|exact HB.out|apply zD|apply zE|apply zF)|exact HB.out)⟩⟩
          case rest =>
           clear HC32
           try clear c1
           try clear c2
           try clear p2
           try clear c3
           try clear c4
           try clear p6
           try clear q6
           try clear hx6
           try clear c12
           try clear c12b0
           try clear c12b1
           try clear c12b2
           try clear c15
           try clear c16
           try clear c16b0
           try clear c17
           try clear c17b0
           try clear c18
           try clear c18b0
           try clear c19
           try clear c19b0
           try clear c26
           try clear c38
           try clear c39
           try clear c40
           try clear c41
           try clear c42
           try clear c43
           try clear c43b0
           try clear c43b1
           try clear c43b2
           try clear c44
           try clear c44b0
           try clear c44b1
           try clear c45
           try clear c45b0
           try clear c45b1
           try clear hx698_0
           try clear hx698_1
           try clear hx699_0
           try clear hx699_1
           try clear p2
           try clear p698
           try clear p699
           try clear q698
           try clear q699
           obtain ⟨kq,x166_31,rfl,HA,HJ31,HO_3,HO_11,HB⟩:=hcut
           cases kq with
           | zero=>exact absurd HA.out (by simp [laws_FnTides.j2])
           | succ kj31 =>
            have H:=HA.out
            clear HA
            simp only [laws_FnTides.j2] at H
            by_cases c50 : x166_31 = true
            ·as_aux_lemma =>
             subst c50
             have H1 : (some false) = some r:=by rw [if_pos rfl] at H;exact H
             clear H
             have H:=H1
             clear H1
             obtain rfl:=Option.some.inj H
             go_wp2
             repeat (go_quiet (fail);try go_wp2)
             go_ret
             exact ⟨by first|rfl|(simp [errW_none,errW_some] <;> rfl)|(simp [*,errW_none,errW_some] <;> rfl),by repeat (first|(with_reducible first|exact HB.out|apply zD|apply zE|apply zF)|exact HB.out)⟩
            ·as_aux_lemma =>
             replace c50:=Bool.eq_false_iff.mpr c50
             subst c50
             have H1 : (laws_FnTides.l1 kj31 l0 t685 t700 t704 t705 0) = some r:=by rw [if_neg (show ¬ (false = true) by decide)] at H;exact H
             clear H
             have H:=H1
             clear H1
             have H':=zM H
             clear H
             go_wp2
             repeat (go_quiet (fail);try go_wp2)
             go_loopg [27] kj31 (fun kq v27 w' => ∃ (x27_4 : Int),v27 = .int .i64 x27_4 ∧ Aside0 (laws_FnTides.l1 kq l0 t685 t700 t704 t705 x27_4 = some r) ∧ Aside0 (kq ≤ kj31) ∧ Aside0 (Kd.R k60 60 w' w.heap.size (fun k_=>some k_ ≠ (v702 : Value).ownBlock) (.slice Ao9 t685.length co9) t685) ∧ Aside0 (Kd.R k60 60 w' w.heap.size (fun k_=>some k_ ≠ ((.slice Ao9 t685.length co9) : Value).ownBlock) v702 t700) ∧ Aside0 (Below w.heap.size w w'))
             case atStart=>exact ⟨(0),(by first|rfl|(simp;done)|(simp [*];done)),H',⟨Nat.le_refl _⟩,⟨by (with_reducible repeat (first|apply zA|apply zB|apply zC));exact HO_3.out⟩,⟨by (with_reducible repeat (first|apply zA|apply zB|apply zC));exact HO_11.out⟩,⟨by repeat (first|(with_reducible first|exact HB.out|apply zD|apply zE|apply zF)|exact HB.out)⟩⟩
             case round =>
              clear H'
              try clear c1
              try clear c2
              try clear p2
              try clear c3
              try clear c4
              try clear c5
              try clear p6
              try clear q6
              try clear hx6
              try clear c12
              try clear c12b0
              try clear c12b1
              try clear c12b2
              try clear c15
              try clear c16
              try clear c16b0
              try clear c17
              try clear c17b0
              try clear c18
              try clear c18b0
              try clear c19
              try clear c19b0
              try clear c26
              try clear c38
              try clear c39
              try clear c40
              try clear c41
              try clear c42
              try clear c43
              try clear c43b0
              try clear c43b1
              try clear c43b2
              try clear c44
              try clear c44b0
              try clear c44b1
              try clear c45
              try clear c45b0
              try clear c45b1
              try clear c50
              try clear hx698_0
              try clear hx698_1
              try clear hx699_0
              try clear hx699_1
              try clear p2
              try clear p6
              try clear p698
              try clear p699
              try clear q6
              try clear q698
              try clear q699
              obtain ⟨x27_4,rfl,HA,HK4,HO_3,HO_11,HB⟩:=hrel
              cases gk with
              | zero=>exact absurd HA.out (by simp [laws_FnTides.l1])
              | succ k4 =>
               have H:=HA.out
               clear HA
               simp only [laws_FnTides.l1] at H
               by_cases c51 : x27_4 < (t685.length : Int)
               ·as_aux_lemma =>
                rw [if_pos c51] at H
                have c51b0 : decide (x27_4 < (t685.length : Int)) = true:=decide_eq_true c51
                clear c51
                by_cases c52 : 0 ≤ x27_4
                ·as_aux_lemma =>
                 rw [if_pos c52] at H
                 have c52b0 : decide (0 ≤ x27_4) = true:=decide_eq_true c52
                 clear c52
                 by_cases c53 : x27_4 < (t700.length : Int)
                 ·as_aux_lemma =>
                  rw [if_pos c53] at H
                  have c53b0 : decide (x27_4 < (t700.length : Int)) = true:=decide_eq_true c53
                  clear c53
                  by_cases c54 : (!(((rd_T60 t700 x27_4).f0) == ((rd_T60 t685 x27_4).f0)) || (!(((rd_T60 t700 x27_4).f1) == ((rd_T60 t685 x27_4).f1)))) = true
                  ·as_aux_lemma =>
                   rw [if_pos c54] at H
                   have c54b0 : (!(((rd_T60 t700 x27_4).f0) == ((rd_T60 t685 x27_4).f0)) || (!(((rd_T60 t700 x27_4).f1) == ((rd_T60 t685 x27_4).f1)))) = true:=c54
                   clear c54
                   obtain rfl:=Option.some.inj H
                   obtain ⟨Ao55,co55,eo55⟩:=Kd.R_slice HO_11.out
                   subst eo55
                   have p718 : 0 ≤ (x27_4 : Int):=of_decide_eq_true (by first|(with_reducible assumption)|assumption)
                   have q718 : x27_4 < (t700.length : Int):=of_decide_eq_true (by first|(with_reducible assumption)|assumption)
                   obtain ⟨ad718,e718,hx718_0,hx718_1⟩:=at_T60 (zN HO_11.out).2.2 x27_4 p718 q718
                   cases e718
                   replace p718:=eq_true p718
                   replace q718:=eq_true q718
                   have p719 : 0 ≤ (x27_4 : Int):=of_decide_eq_true (by first|(with_reducible assumption)|assumption)
                   have q719 : x27_4 < (t685.length : Int):=of_decide_eq_true (by first|(with_reducible assumption)|assumption)
                   obtain ⟨ad719,e719,hx719_0,hx719_1⟩:=at_T60 (zN HO_3.out).2.2 x27_4 p719 q719
                   cases e719
                   replace p719:=eq_true p719
                   replace q719:=eq_true q719
                   go_wp2
                   repeat (go_quiet (fail);try go_wp2)
                   go_ret
                   exact ⟨by first|rfl|(simp [errW_none,errW_some] <;> rfl)|(simp [*,errW_none,errW_some] <;> rfl),by repeat (first|(with_reducible first|exact HB.out|apply zD|apply zE|apply zF)|exact HB.out)⟩
                  ·as_aux_lemma =>
                   rw [if_neg c54] at H
                   have c54b0 : (!(((rd_T60 t700 x27_4).f0) == ((rd_T60 t685 x27_4).f0)) || (!(((rd_T60 t700 x27_4).f1) == ((rd_T60 t685 x27_4).f1)))) = false:=by simpa using c54
                   clear c54
                   replace H:=Option.bind_eq_some_iff.mp H
                   obtain ⟨t720,A560,H⟩:=H
                   replace H : (if t704 < (wrap64 (t720 * t705)) then (some false) else ((laws_rHighest.f k4 t685).bind fun t721=>(if t704 > (wrap64 (t721 * t705)) then (some false) else (laws_FnTides.l1 k4 l0 t685 t700 t704 t705 (wrap64 (x27_4 + 1)))))) = some r:=H
                   have A56:=zM A560
                   clear A560
                   by_cases c57 : t704 < (wrap64 (t720 * t705))
                   ·as_aux_lemma =>
                    rw [if_pos c57] at H
                    have c57b0 : decide (t704 < (wrap64 (t720 * t705))) = true:=decide_eq_true c57
                    clear c57
                    obtain rfl:=Option.some.inj H
                    obtain ⟨Ao58,co58,eo58⟩:=Kd.R_slice HO_11.out
                    subst eo58
                    have p718 : 0 ≤ (x27_4 : Int):=of_decide_eq_true (by first|(with_reducible assumption)|assumption)
                    have q718 : x27_4 < (t700.length : Int):=of_decide_eq_true (by first|(with_reducible assumption)|assumption)
                    obtain ⟨ad718,e718,hx718_0,hx718_1⟩:=at_T60 (zN HO_11.out).2.2 x27_4 p718 q718
                    cases e718
                    replace p718:=eq_true p718
                    replace q718:=eq_true q718
                    have p719 : 0 ≤ (x27_4 : Int):=of_decide_eq_true (by first|(with_reducible assumption)|assumption)
                    have q719 : x27_4 < (t685.length : Int):=of_decide_eq_true (by first|(with_reducible assumption)|assumption)
                    obtain ⟨ad719,e719,hx719_0,hx719_1⟩:=at_T60 (zN HO_3.out).2.2 x27_4 p719 q719
                    cases e719
                    replace p719:=eq_true p719
                    replace q719:=eq_true q719
                    go_wp2_with (first|(go_at_call 45;(with_reducible refine (laws_rLowest.calls k4 _ _ t685 t720 _ ?side1 ?side2 A56.out).mono ?_);(case side1=>repeat (first|exact (zN HO_3.out).2.2|(with_reducible refine zG ?_ _)|(with_reducible refine zH ?_ _)|(with_reducible refine zI ?_)));(case side2=>exact (zN HO_3.out).2.1);rintro e w' ⟨rfl,⟨nd,rfl⟩⟩;(try first|exact ⟨rfl,_,World.drewN_drewN _ _ _⟩|exact ⟨rfl,_,Eq.trans (World.drewN_drewN _ _ _) (congrArg (World.drewN _) (Nat.add_assoc _ _ _))⟩)))
                    repeat (go_quiet (first|(go_at_call 45;(with_reducible refine (laws_rLowest.calls k4 _ _ t685 t720 _ ?side1 ?side2 A56.out).mono ?_);(case side1=>repeat (first|exact (zN HO_3.out).2.2|(with_reducible refine zG ?_ _)|(with_reducible refine zH ?_ _)|(with_reducible refine zI ?_)));(case side2=>exact (zN HO_3.out).2.1);rintro e w' ⟨rfl,⟨nd,rfl⟩⟩;(try first|exact ⟨rfl,_,World.drewN_drewN _ _ _⟩|exact ⟨rfl,_,Eq.trans (World.drewN_drewN _ _ _) (congrArg (World.drewN _) (Nat.add_assoc _ _ _))⟩)));try go_wp2_with (first|(go_at_call 45;(with_reducible refine (laws_rLowest.calls k4 _ _ t685 t720 _ ?side1 ?side2 A56.out).mono ?_);(case side1=>repeat (first|exact (zN HO_3.out).2.2|(with_reducible refine zG ?_ _)|(with_reducible refine zH ?_ _)|(with_reducible refine zI ?_)));(case side2=>exact (zN HO_3.out).2.1);rintro e w' ⟨rfl,⟨nd,rfl⟩⟩;(try first|exact ⟨rfl,_,World.drewN_drewN _ _ _⟩|exact ⟨rfl,_,Eq.trans (World.drewN_drewN _ _ _) (congrArg (World.drewN _) (Nat.add_assoc _ _ _))⟩))))
                    go_ret
                    exact ⟨by first|rfl|(simp [errW_none,errW_some] <;> rfl)|(simp [*,errW_none,errW_some] <;> rfl),by repeat (first|(with_reducible first|exact HB.out|apply zD|apply zE|apply zF)|exact HB.out)⟩
                   ·as_aux_lemma =>
                    rw [if_neg c57] at H
                    have c57b0 : decide (t704 < (wrap64 (t720 * t705))) = false:=decide_eq_false c57
                    clear c57
                    replace H:=Option.bind_eq_some_iff.mp H
                    obtain ⟨t721,A590,H⟩:=H
                    replace H : (if t704 > (wrap64 (t721 * t705)) then (some false) else (laws_FnTides.l1 k4 l0 t685 t700 t704 t705 (wrap64 (x27_4 + 1)))) = some r:=H
                    have A59:=zM A590
                    clear A590
                    by_cases c60 : t704 > (wrap64 (t721 * t705))
                    ·as_aux_lemma =>
                     rw [if_pos c60] at H
                     have c60b0 : decide ((wrap64 (t721 * t705)) < t704) = true:=decide_eq_true c60
                     clear c60
                     obtain rfl:=Option.some.inj H
                     obtain ⟨Ao61,co61,eo61⟩:=Kd.R_slice HO_11.out
                     subst eo61
                     have p718 : 0 ≤ (x27_4 : Int):=of_decide_eq_true (by first|(with_reducible assumption)|assumption)
                     have q718 : x27_4 < (t700.length : Int):=of_decide_eq_true (by first|(with_reducible assumption)|assumption)
                     obtain ⟨ad718,e718,hx718_0,hx718_1⟩:=at_T60 (zN HO_11.out).2.2 x27_4 p718 q718
                     cases e718
                     replace p718:=eq_true p718
                     replace q718:=eq_true q718
                     have p719 : 0 ≤ (x27_4 : Int):=of_decide_eq_true (by first|(with_reducible assumption)|assumption)
                     have q719 : x27_4 < (t685.length : Int):=of_decide_eq_true (by first|(with_reducible assumption)|assumption)
                     obtain ⟨ad719,e719,hx719_0,hx719_1⟩:=at_T60 (zN HO_3.out).2.2 x27_4 p719 q719
                     cases e719
                     replace p719:=eq_true p719
                     replace q719:=eq_true q719
                     go_wp2_with (first|(go_at_call 45;(with_reducible refine (laws_rLowest.calls k4 _ _ t685 t720 _ ?side1 ?side2 A56.out).mono ?_);(case side1=>repeat (first|exact (zN HO_3.out).2.2|(with_reducible refine zG ?_ _)|(with_reducible refine zH ?_ _)|(with_reducible refine zI ?_)));(case side2=>exact (zN HO_3.out).2.1);rintro e w' ⟨rfl,⟨nd,rfl⟩⟩;(try first|exact ⟨rfl,_,World.drewN_drewN _ _ _⟩|exact ⟨rfl,_,Eq.trans (World.drewN_drewN _ _ _) (congrArg (World.drewN _) (Nat.add_assoc _ _ _))⟩))|(go_at_call 46;(with_reducible refine (laws_rHighest.calls k4 _ _ t685 t721 _ ?side1 ?side2 A59.out).mono ?_);(case side1=>repeat (first|exact (zN HO_3.out).2.2|(with_reducible refine zG ?_ _)|(with_reducible refine zH ?_ _)|(with_reducible refine zI ?_)));(case side2=>exact (zN HO_3.out).2.1);rintro e w' ⟨rfl,⟨nd,rfl⟩⟩;(try first|exact ⟨rfl,_,World.drewN_drewN _ _ _⟩|exact ⟨rfl,_,Eq.trans (World.drewN_drewN _ _ _) (congrArg (World.drewN _) (Nat.add_assoc _ _ _))⟩)))
                     repeat (go_quiet (first|(go_at_call 45;(with_reducible refine (laws_rLowest.calls k4 _ _ t685 t720 _ ?side1 ?side2 A56.out).mono ?_);(case side1=>repeat (first|exact (zN HO_3.out).2.2|(with_reducible refine zG ?_ _)|(with_reducible refine zH ?_ _)|(with_reducible refine zI ?_)));(case side2=>exact (zN HO_3.out).2.1);rintro e w' ⟨rfl,⟨nd,rfl⟩⟩;(try first|exact ⟨rfl,_,World.drewN_drewN _ _ _⟩|exact ⟨rfl,_,Eq.trans (World.drewN_drewN _ _ _) (congrArg (World.drewN _) (Nat.add_assoc _ _ _))⟩))|(go_at_call 46;(with_reducible refine (laws_rHighest.calls k4 _ _ t685 t721 _ ?side1 ?side2 A59.out).mono ?_);(case side1=>repeat (first|exact (zN HO_3.out).2.2|(with_reducible refine zG ?_ _)|(with_reducible refine zH ?_ _)|(with_reducible refine zI ?_)));(case side2=>exact (zN HO_3.out).2.1);rintro e w' ⟨rfl,⟨nd,rfl⟩⟩;(try first|exact ⟨rfl,_,World.drewN_drewN _ _ _⟩|exact ⟨rfl,_,Eq.trans (World.drewN_drewN _ _ _) (congrArg (World.drewN _) (Nat.add_assoc _ _ _))⟩)));try go_wp2_with (first|(go_at_call 45;(with_reducible refine (laws_rLowest.calls k4 _ _ t685 t720 _ ?side1 ?side2 A56.out).mono ?_);(case side1=>repeat (first|exact (zN HO_3.out).2.2|(with_reducible refine zG ?_ _)|(with_reducible refine zH ?_ _)|(with_reducible refine zI ?_)));(case side2=>exact (zN HO_3.out).2.1);rintro e w' ⟨rfl,⟨nd,rfl⟩⟩;(try first|exact ⟨rfl,_,World.drewN_drewN _ _ _⟩|exact ⟨rfl,_,Eq.trans (World.drewN_drewN _ _ _) (congrArg (World.drewN _) (Nat.add_assoc _ _ _))⟩))|(go_at_call 46;(with_reducible refine (laws_rHighest.calls k4 _ _ t685 t721 _ ?side1 ?side2 A59.out).mono ?_);(case side1=>repeat (first|exact (zN HO_3.out).2.2|(with_reducible refine zG ?_ _)|(with_reducible refine zH ?_ _)|(with_reducible refine zI ?_)));(case side2=>exact (zN HO_3.out).2.1);rintro e w' ⟨rfl,⟨nd,rfl⟩⟩;(try first|exact ⟨rfl,_,World.drewN_drewN _ _ _⟩|exact ⟨rfl,_,Eq.trans (World.drewN_drewN _ _ _) (congrArg (World.drewN _) (Nat.add_assoc _ _ _))⟩))))
                     go_ret
                     exact ⟨by first|rfl|(simp [errW_none,errW_some] <;> rfl)|(simp [*,errW_none,errW_some] <;> rfl),by repeat (first|(with_reducible first|exact HB.out|apply zD|apply zE|apply zF)|exact HB.out)⟩
                    ·as_aux_lemma =>
                     rw [if_neg c60] at H
                     have c60b0 : decide ((wrap64 (t721 * t705)) < t704) = false:=decide_eq_false c60
                     clear c60
                     have H':=zM H
                     clear H
                     obtain ⟨Ao62,co62,eo62⟩:=Kd.R_slice HO_11.out
                     subst eo62
                     have p718 : 0 ≤ (x27_4 : Int):=of_decide_eq_true (by first|(with_reducible assumption)|assumption)
                     have q718 : x27_4 < (t700.length : Int):=of_decide_eq_true (by first|(with_reducible assumption)|assumption)
                     obtain ⟨ad718,e718,hx718_0,hx718_1⟩:=at_T60 (zN HO_11.out).2.2 x27_4 p718 q718
                     cases e718
                     replace p718:=eq_true p718
                     replace q718:=eq_true q718
                     have p719 : 0 ≤ (x27_4 : Int):=of_decide_eq_true (by first|(with_reducible assumption)|assumption)
                     have q719 : x27_4 < (t685.length : Int):=of_decide_eq_true (by first|(with_reducible assumption)|assumption)
                     obtain ⟨ad719,e719,hx719_0,hx719_1⟩:=at_T60 (zN HO_3.out).2.2 x27_4 p719 q719
                     cases e719
                     replace p719:=eq_true p719
                     replace q719:=eq_true q719
                     go_wp2_with (first|(go_at_call 45;(with_reducible refine (laws_rLowest.calls k4 _ _ t685 t720 _ ?side1 ?side2 A56.out).mono ?_);(case side1=>repeat (first|exact (zN HO_3.out).2.2|(with_reducible refine zG ?_ _)|(with_reducible refine zH ?_ _)|(with_reducible refine zI ?_)));(case side2=>exact (zN HO_3.out).2.1);rintro e w' ⟨rfl,⟨nd,rfl⟩⟩;(try first|exact ⟨rfl,_,World.drewN_drewN _ _ _⟩|exact ⟨rfl,_,Eq.trans (World.drewN_drewN _ _ _) (congrArg (World.drewN _) (Nat.add_assoc _ _ _))⟩))|(go_at_call 46;(with_reducible refine (laws_rHighest.calls k4 _ _ t685 t721 _ ?side1 ?side2 A59.out).mono ?_);(case side1=>repeat (first|exact (zN HO_3.out).2.2|(with_reducible refine zG ?_ _)|(with_reducible refine zH ?_ _)|(with_reducible refine zI ?_)));(case side2=>exact (zN HO_3.out).2.1);rintro e w' ⟨rfl,⟨nd,rfl⟩⟩;(try first|exact ⟨rfl,_,World.drewN_drewN _ _ _⟩|exact ⟨rfl,_,Eq.trans (World.drewN_drewN _ _ _) (congrArg (World.drewN _) (Nat.add_assoc _ _ _))⟩)))
                     repeat (go_quiet (first|(go_at_call 45;(with_reducible refine (laws_rLowest.calls k4 _ _ t685 t720 _ ?side1 ?side2 A56.out).mono ?_);(case side1=>repeat (first|exact (zN HO_3.out).2.2|(with_reducible refine zG ?_ _)|(with_reducible refine zH ?_ _)|(with_reducible refine zI ?_)));(case side2=>exact (zN HO_3.out).2.1);rintro e w' ⟨rfl,⟨nd,rfl⟩⟩;(try first|exact ⟨rfl,_,World.drewN_drewN _ _ _⟩|exact ⟨rfl,_,Eq.trans (World.drewN_drewN _ _ _) (congrArg (World.drewN _) (Nat.add_assoc _ _ _))⟩))|(go_at_call 46;(with_reducible refine (laws_rHighest.calls k4 _ _ t685 t721 _ ?side1 ?side2 A59.out).mono ?_);(case side1=>repeat (first|exact (zN HO_3.out).2.2|(with_reducible refine zG ?_ _)|(with_reducible refine zH ?_ _)|(with_reducible refine zI ?_)));(case side2=>exact (zN HO_3.out).2.1);rintro e w' ⟨rfl,⟨nd,rfl⟩⟩;(try first|exact ⟨rfl,_,World.drewN_drewN _ _ _⟩|exact ⟨rfl,_,Eq.trans (World.drewN_drewN _ _ _) (congrArg (World.drewN _) (Nat.add_assoc _ _ _))⟩)));try go_wp2_with (first|(go_at_call 45;(with_reducible refine (laws_rLowest.calls k4 _ _ t685 t720 _ ?side1 ?side2 A56.out).mono ?_);(case side1=>repeat (first|exact (zN HO_3.out).2.2|(with_reducible refine zG ?_ _)|(with_reducible refine zH ?_ _)|(with_reducible refine zI ?_)));(case side2=>exact (zN HO_3.out).2.1);rintro e w' ⟨rfl,⟨nd,rfl⟩⟩;(try first|exact ⟨rfl,_,World.drewN_drewN _ _ _⟩|exact ⟨rfl,_,Eq.trans (World.drewN_drewN _ _ _) (congrArg (World.drewN _) (Nat.add_assoc _ _ _))⟩))|(go_at_call 46;(with_reducible refine (laws_rHighest.calls k4 _ _ t685 t721 _ ?side1 ?side2 A59.out).mono ?_);(case side1=>repeat (first|exact (zN HO_3.out).2.2|(with_reducible refine zG ?_ _)|(with_reducible refine zH ?_ _)|(with_reducible refine zI ?_)));(case side2=>exact (zN HO_3.out).2.1);rintro e w' ⟨rfl,⟨nd,rfl⟩⟩;(try first|exact ⟨rfl,_,World.drewN_drewN _ _ _⟩|exact ⟨rfl,_,Eq.trans (World.drewN_drewN _ _ _) (congrArg (World.drewN _) (Nat.add_assoc _ _ _))⟩))))
                     go_roundg k4
                     case measure=>have:=HJ6.out;have:=HK2.out;have:=HJ31.out;have:=HK4.out;omega
                     case rel=>exact ⟨(wrap64 (x27_4 + 1)),(by first|rfl|(simp;done)|(simp [*];done)),H',⟨by have:=HJ6.out;have:=HK2.out;have:=HJ31.out;have:=HK4.out;omega⟩,⟨by (with_reducible repeat (first|apply zA|apply zB|apply zC));exact HO_3.out⟩,⟨by (with_reducible repeat (first|apply zA|apply zB|apply zC));exact HO_11.out⟩,⟨by repeat (first|(with_reducible first|exact HB.out|apply zD|apply zE|apply zF)|exact HB.out)⟩⟩
                 ·as_aux_lemma =>
                  rw [if_neg c53] at H
                  exact absurd H (by simp)
                ·as_aux_lemma =>
                 rw [if_neg c52] at H
                 exact absurd H (by simp)
               ·as_aux_lemma =>
                rw [if_neg c51] at H
                have c51b0 : decide (x27_4 < (t685.length : Int)) = false:=decide_eq_false c51
                clear c51
                have H':=zM H
                clear H
                go_wp2
                repeat (go_quiet (fail);try go_wp2)
                go_meet
                case rel=>exact ⟨_,H',⟨by have:=HJ6.out;have:=HK2.out;have:=HJ31.out;have:=HK4.out;first|omega|exact Nat.le_refl _⟩,⟨by repeat (first|(with_reducible first|exact HB.out|apply zD|apply zE|apply zF)|exact HB.out)⟩⟩
         ·as_aux_lemma =>
          replace c26:=Bool.eq_false_iff.mpr c26
          subst c26
          have H1 : (laws_FnTides.j4 k2 l0) = some r:=by rw [if_neg (show ¬ (false = true) by decide)] at H;exact H
          clear H
          have H:=H1
          clear H1
          have H':=zM H
          clear H
          go_wp2
          repeat (go_quiet (fail);try go_wp2)
          go_meet
          case rel=>exact ⟨_,H',⟨by have:=HJ6.out;have:=HK2.out;first|omega|exact Nat.le_refl _⟩,⟨by repeat (first|(with_reducible first|exact HB.out|apply zD|apply zE|apply zF)|exact HB.out)⟩⟩
        case rest =>
         clear HC24
         try clear c1
         try clear c2
         try clear p2
         try clear c3
         try clear c4
         try clear c5
         try clear c6
         try clear p6
         try clear q6
         try clear hx6
         try clear p7
         try clear q7
         try clear hx7
         try clear c12
         try clear c12b0
         try clear c12b1
         try clear c12b2
         try clear c15
         try clear c16
         try clear c16b0
         try clear c17
         try clear c17b0
         try clear c18
         try clear c18b0
         try clear c19
         try clear c19b0
         try clear c26
         try clear c38
         try clear c39
         try clear c40
         try clear c41
         try clear c42
         try clear c43
         try clear c43b0
         try clear c43b1
         try clear c43b2
         try clear c44
         try clear c44b0
         try clear c44b1
         try clear c45
         try clear c45b0
         try clear c45b1
         try clear c50
         try clear c51
         try clear c51b0
         try clear c52
         try clear c52b0
         try clear c53
         try clear c53b0
         try clear c54
         try clear c54b0
         try clear c57
         try clear c57b0
         try clear c60
         try clear c60b0
         try clear hx698_0
         try clear hx698_1
         try clear hx699_0
         try clear hx699_1
         try clear hx718_0
         try clear hx718_1
         try clear hx719_0
         try clear hx719_1
         try clear p2
         try clear p6
         try clear p698
         try clear p699
         try clear p718
         try clear p719
         try clear q6
         try clear q698
         try clear q699
         try clear q718
         try clear q719
         obtain ⟨kq,HA,HJ23,HB⟩:=hcut
         cases kq with
         | zero=>exact absurd HA.out (by simp [laws_FnTides.j4])
         | succ kj23 =>
          have H:=HA.out
          clear HA
          simp only [laws_FnTides.j4] at H
          replace H:=Option.bind_eq_some_iff.mp H
          obtain ⟨⟨t722,t723⟩,A630,H⟩:=H
          replace H : ((impl_TurningHours.f kj23 t722 t723).bind fun bt726=>((impl_TurningHours.f kj23 t722 (!t723)).bind fun bt730=>((spec_TurningHours.f kj23 t722 t723).bind fun bt734=>(if (bt726.2 == bt734.2) = true then (if (bt730.2 == bt734.2) = true then ((laws_rInts.f kj23 bt726.1 bt734.1).bind fun t738=>(if t738 = true then (if bt726.2 = true then (if (wrap64 ((bt726.1.length : Int) + (bt730.1.length : Int))) = (t722.length : Int) then ((impl_IsValidTides.f kj23 t722).bind fun t739=>(some t739)) else (some false)) else (some true)) else (some false))) else (some false)) else (some false))))) = some r:=H
          have A63:=zM A630
          clear A630
          replace H:=Option.bind_eq_some_iff.mp H
          obtain ⟨⟨t726,t727⟩,A640,H⟩:=H
          replace H : ((impl_TurningHours.f kj23 t722 (!t723)).bind fun bt730=>((spec_TurningHours.f kj23 t722 t723).bind fun bt734=>(if (t727 == bt734.2) = true then (if (bt730.2 == bt734.2) = true then ((laws_rInts.f kj23 t726 bt734.1).bind fun t738=>(if t738 = true then (if t727 = true then (if (wrap64 ((t726.length : Int) + (bt730.1.length : Int))) = (t722.length : Int) then ((impl_IsValidTides.f kj23 t722).bind fun t739=>(some t739)) else (some false)) else (some true)) else (some false))) else (some false)) else (some false)))) = some r:=H
          have A64:=zM A640
          clear A640
          replace H:=Option.bind_eq_some_iff.mp H
          obtain ⟨⟨t730,t731⟩,A650,H⟩:=H
          replace H : ((spec_TurningHours.f kj23 t722 t723).bind fun bt734=>(if (t727 == bt734.2) = true then (if (t731 == bt734.2) = true then ((laws_rInts.f kj23 t726 bt734.1).bind fun t738=>(if t738 = true then (if t727 = true then (if (wrap64 ((t726.length : Int) + (t730.length : Int))) = (t722.length : Int) then ((impl_IsValidTides.f kj23 t722).bind fun t739=>(some t739)) else (some false)) else (some true)) else (some false))) else (some false)) else (some false))) = some r:=H
          have A65:=zM A650
          clear A650
          replace H:=Option.bind_eq_some_iff.mp H
          obtain ⟨⟨t734,t735⟩,A660,H⟩:=H
          replace H : (if (t727 == t735) = true then (if (t731 == t735) = true then ((laws_rInts.f kj23 t726 t734).bind fun t738=>(if t738 = true then (if t727 = true then (if (wrap64 ((t726.length : Int) + (t730.length : Int))) = (t722.length : Int) then ((impl_IsValidTides.f kj23 t722).bind fun t739=>(some t739)) else (some false)) else (some true)) else (some false))) else (some false)) else (some false)) = some r:=H
          have A66:=zM A660
          clear A660
          by_cases c67 : (t727 == t735) = true
          ·as_aux_lemma =>
           rw [if_pos c67] at H
           have c67b0 : (t727 == t735) = true:=c67
           (try (have c67b1 : decide (t727 = t735) = true:=by simpa using c67))
           (try (have c67b2 : (t727 == t735) = true:=by simpa using c67))
           clear c67
           by_cases c68 : (t731 == t735) = true
           ·as_aux_lemma =>
            rw [if_pos c68] at H
            have c68b0 : (t731 == t735) = true:=c68
            (try (have c68b1 : decide (t731 = t735) = true:=by simpa using c68))
            (try (have c68b2 : (t731 == t735) = true:=by simpa using c68))
            clear c68
            replace H:=Option.bind_eq_some_iff.mp H
            obtain ⟨t738,A690,H⟩:=H
            replace H : (if t738 = true then (if t727 = true then (if (wrap64 ((t726.length : Int) + (t730.length : Int))) = (t722.length : Int) then ((impl_IsValidTides.f kj23 t722).bind fun t739=>(some t739)) else (some false)) else (some true)) else (some false)) = some r:=H
            have A69:=zM A690
            clear A690
            by_cases c70 : t738 = true
            ·as_aux_lemma =>
             subst c70
             have H1 : (if t727 = true then (if (wrap64 ((t726.length : Int) + (t730.length : Int))) = (t722.length : Int) then ((impl_IsValidTides.f kj23 t722).bind fun t739=>(some t739)) else (some false)) else (some true)) = some r:=by rw [if_pos rfl] at H;exact H
             clear H
             have H:=H1
             clear H1
             by_cases c71 : t727 = true
             ·as_aux_lemma =>
              subst c71
              have H1 : (if (wrap64 ((t726.length : Int) + (t730.length : Int))) = (t722.length : Int) then ((impl_IsValidTides.f kj23 t722).bind fun t739=>(some t739)) else (some false)) = some r:=by rw [if_pos rfl] at H;exact H
              clear H
              have H:=H1
              clear H1
              by_cases c72 : (wrap64 ((t726.length : Int) + (t730.length : Int))) = (t722.length : Int)
              ·as_aux_lemma =>
               rw [if_pos c72] at H
               have c72b0 : ((wrap64 ((t726.length : Int) + (t730.length : Int))) == (t722.length : Int)) = true:=beq_iff_eq.mpr c72
               have c72b1 : ((wrap64 ((t726.length : Int) + (t730.length : Int))) != (t722.length : Int)) = false:=bne_eq_false_iff_eq.mpr c72
               clear c72
               replace H:=Option.bind_eq_some_iff.mp H
               obtain ⟨t739,A730,H⟩:=H
               replace H : (some t739) = some r:=H
               have A73:=zM A730
               clear A730
               obtain rfl:=Option.some.inj H
               go_wp2_with (first|(go_at_call 47;(with_reducible refine (spec_DrawTurningHours.calls kj23 _ _ l0 t722 t723 _ ?side1 ?side2 A63.out).mono ?_);(case side1=>repeat (first|exact (zO HR0.out HB.out)|(with_reducible refine zG ?_ _)|(with_reducible refine zH ?_ _)|(with_reducible refine zI ?_)));(case side2=>exact HC0.out);rintro e w74 ⟨v724,rfl,ho0,hb⟩;have n0_:=zM (Kd.R_lower ho0 (zR (by repeat (first|(with_reducible first|exact HB.out|apply zD|apply zE|apply zF)|exact HB.out))));have n1_:=zM (zQ (by repeat (first|(with_reducible first|exact HB.out|apply zD|apply zE|apply zF)|exact HB.out)) hb);clear HB;have HO725:=n0_;have HB:=n1_;clear n0_ n1_;(try clear hb);(try clear hb2);(try clear hk);(try clear hi);(try clear ho0);obtain ⟨Ao75,co75,eo75⟩:=Kd.R_slice HO725.out;subst eo75)|(go_at_call 30;(with_reducible refine (impl_TurningHours.calls kj23 _ _ t722 t723 t726 true _ ?side1 ?side2 A64.out).mono ?_);(case side1=>repeat (first|exact (zN HO725.out).2.2|(with_reducible refine zG ?_ _)|(with_reducible refine zH ?_ _)|(with_reducible refine zI ?_)));(case side2=>exact (zN HO725.out).2.1);rintro e w76 ⟨v728,rfl,ho0,hb⟩;have n0_:=zM (zP (by (with_reducible repeat (first|apply zA|apply zB|apply zC));exact HO725.out) hb);have n1_:=zM (Kd.R_lower ho0 (zR (by repeat (first|(with_reducible first|exact HB.out|apply zD|apply zE|apply zF)|exact HB.out))));have n2_:=zM (zQ (by repeat (first|(with_reducible first|exact HB.out|apply zD|apply zE|apply zF)|exact HB.out)) hb);clear HO725;clear HB;have HO725:=n0_;have HO729:=n1_;have HB:=n2_;clear n0_ n1_ n2_;(try clear hb);(try clear hb2);(try clear hk);(try clear hi);(try clear ho0))|(go_at_call 30;(with_reducible refine (impl_TurningHours.calls kj23 _ _ t722 (!t723) t730 t731 _ ?side1 ?side2 A65.out).mono ?_);(case side1=>repeat (first|exact (zN HO725.out).2.2|(with_reducible refine zG ?_ _)|(with_reducible refine zH ?_ _)|(with_reducible refine zI ?_)));(case side2=>exact (zN HO725.out).2.1);rintro e w77 ⟨v732,rfl,ho0,hb⟩;have n0_:=zM (zP (by (with_reducible repeat (first|apply zA|apply zB|apply zC));exact HO725.out) hb);have n1_:=zM (Kd.R_elder' (by (with_reducible repeat (first|apply zA|apply zB|apply zC));exact HO729.out) (Kd.R_base ho0) hb);have n2_:=zM (Kd.R_lower (Kd.R_new' ho0 (Kd.R_lt (by (with_reducible repeat (first|apply zA|apply zB|apply zC));exact HO729.out))) (zR (by repeat (first|(with_reducible first|exact HB.out|apply zD|apply zE|apply zF)|exact HB.out))));have n3_:=zM (zQ (by repeat (first|(with_reducible first|exact HB.out|apply zD|apply zE|apply zF)|exact HB.out)) hb);clear HO725;clear HO729;clear HB;have HO725:=n0_;have HO729:=n1_;have HO733:=n2_;have HB:=n3_;clear n0_ n1_ n2_ n3_;(try clear hb);(try clear hb2);(try clear hk);(try clear hi);(try clear ho0))|(go_at_call 29;(with_reducible refine (spec_TurningHours.calls kj23 _ _ t722 t723 t734 t735 _ ?side1 ?side2 A66.out).mono ?_);(case side1=>repeat (first|exact (zN HO725.out).2.2|(with_reducible refine zG ?_ _)|(with_reducible refine zH ?_ _)|(with_reducible refine zI ?_)));(case side2=>exact (zN HO725.out).2.1);rintro e w78 ⟨v736,rfl,ho0,hb⟩;have n0_:=zM (zP (by (with_reducible repeat (first|apply zA|apply zB|apply zC));exact HO725.out) hb);have n1_:=zM (Kd.R_elder' (by (with_reducible repeat (first|apply zA|apply zB|apply zC));exact HO729.out) (Kd.R_base ho0) hb);have n2_:=zM (Kd.R_elder' (by (with_reducible repeat (first|apply zA|apply zB|apply zC));exact HO733.out) (Kd.R_base ho0) hb);have n3_:=zM (Kd.R_lower (Kd.R_new' (Kd.R_new' ho0 (Kd.R_lt (by (with_reducible repeat (first|apply zA|apply zB|apply zC));exact HO729.out))) (Kd.R_lt (by (with_reducible repeat (first|apply zA|apply zB|apply zC));exact HO733.out))) (zR (by repeat (first|(with_reducible first|exact HB.out|apply zD|apply zE|apply zF)|exact HB.out))));have n4_:=zM (zQ (by repeat (first|(with_reducible first|exact HB.out|apply zD|apply zE|apply zF)|exact HB.out)) hb);clear HO725;clear HO729;clear HO733;clear HB;have HO725:=n0_;have HO729:=n1_;have HO733:=n2_;have HO737:=n3_;have HB:=n4_;clear n0_ n1_ n2_ n3_ n4_;(try clear hb);(try clear hb2);(try clear hk);(try clear hi);(try clear ho0);obtain ⟨Ao79,co79,eo79⟩:=Kd.R_slice HO729.out;subst eo79;obtain ⟨Ao80,co80,eo80⟩:=Kd.R_slice HO737.out;subst eo80)|(go_at_call 48;(with_reducible refine (laws_rInts.calls kj23 _ _ t726 _ _ t734 true _ ?side1 ?side2 ?side3 ?side4 A69.out).mono ?_);(case side1=>repeat (first|exact (zN HO729.out).2.2|(with_reducible refine zG ?_ _)|(with_reducible refine zH ?_ _)|(with_reducible refine zI ?_)));(case side2=>exact (zN HO729.out).2.1);(case side3=>repeat (first|exact (zN HO737.out).2.2|(with_reducible refine zG ?_ _)|(with_reducible refine zH ?_ _)|(with_reducible refine zI ?_)));(case side4=>exact (zN HO737.out).2.1);rintro e w' ⟨rfl,⟨nd,rfl⟩⟩;(try first|exact ⟨rfl,_,World.drewN_drewN _ _ _⟩|exact ⟨rfl,_,Eq.trans (World.drewN_drewN _ _ _) (congrArg (World.drewN _) (Nat.add_assoc _ _ _))⟩);obtain ⟨Ao81,co81,eo81⟩:=Kd.R_slice HO733.out;subst eo81)|(go_at_call 17;(with_reducible refine (impl_IsValidTides.calls kj23 _ _ t722 t739 _ ?side1 ?side2 A73.out).mono ?_);(case side1=>repeat (first|exact (zN HO725.out).2.2|(with_reducible refine zG ?_ _)|(with_reducible refine zH ?_ _)|(with_reducible refine zI ?_)));(case side2=>exact (zN HO725.out).2.1);rintro e w82 ⟨rfl,hb⟩;have n0_:=zM (zP (by (with_reducible repeat (first|apply zA|apply zB|apply zC));exact HO725.out) hb);have n1_:=zM (zP (by (with_reducible repeat (first|apply zA|apply zB|apply zC));exact HO729.out) hb);have n2_:=zM (zP (by (with_reducible repeat (first|apply zA|apply zB|apply zC));exact HO733.out) hb);have n3_:=zM (zP (by (with_reducible repeat (first|apply zA|apply zB|apply zC));exact HO737.out) hb);have n4_:=zM (zQ (by repeat (first|(with_reducible first|exact HB.out|apply zD|apply zE|apply zF)|exact HB.out)) hb);clear HO725;clear HO729;clear HO733;clear HO737;clear HB;have HO725:=n0_;have HO729:=n1_;have HO733:=n2_;have HO737:=n3_;have HB:=n4_;clear n0_ n1_ n2_ n3_ n4_;(try clear hb);(try clear hb2);(try clear hk);(try clear hi)))
               repeat (go_quiet (first|(go_at_call 47;(with_reducible refine (spec_DrawTurningHours.calls kj23 _ _ l0 t722 t723 _ ?side1 ?side2 A63.out).mono ?_);(case side1=>repeat (first|exact (zO HR0.out HB.out)|(with_reducible refine zG ?_ _)|(with_reducible refine zH ?_ _)|(with_reducible refine zI ?_)));(case side2=>exact HC0.out);rintro e w74 ⟨v724,rfl,ho0,hb⟩;have n0_:=zM (Kd.R_lower ho0 (zR (by repeat (first|(with_reducible first|exact HB.out|apply zD|apply zE|apply zF)|exact HB.out))));have n1_:=zM (zQ (by repeat (first|(with_reducible first|exact HB.out|apply zD|apply zE|apply zF)|exact HB.out)) hb);clear HB;have HO725:=n0_;have HB:=n1_;clear n0_ n1_;(try clear hb);(try clear hb2);(try clear hk);(try clear hi);(try clear ho0);obtain ⟨Ao75,co75,eo75⟩:=Kd.R_slice HO725.out;subst eo75)|(go_at_call 30;(with_reducible refine (impl_TurningHours.calls kj23 _ _ t722 t723 t726 true _ ?side1 ?side2 A64.out).mono ?_);(case side1=>repeat (first|exact (zN HO725.out).2.2|(with_reducible refine zG ?_ _)|(with_reducible refine zH ?_ _)|(with_reducible refine zI ?_)));(case side2=>exact (zN HO725.out).2.1);rintro e w76 ⟨v728,rfl,ho0,hb⟩;have n0_:=zM (zP (by (with_reducible repeat (first|apply zA|apply zB|apply zC));exact HO725.out) hb);have n1_:=zM (Kd.R_lower ho0 (zR (by repeat (first|(with_reducible first|exact HB.out|apply zD|apply zE|apply zF)|exact HB.out))));have n2_:=zM (zQ (by repeat (first|(with_reducible first|exact HB.out|apply zD|apply zE|apply zF)|exact HB.out)) hb);clear HO725;clear HB;have HO725:=n0_;have HO729:=n1_;have HB:=n2_;clear n0_ n1_ n2_;(try clear hb);(try clear hb2);(try clear hk);(try clear hi);(try clear ho0))|(go_at_call 30;(with_reducible refine (impl_TurningHours.calls kj23 _ _ t722 (!t723) t730 t731 _ ?side1 ?side2 A65.out).mono ?_);(case side1=>repeat (first|exact (zN HO725.out).2.2|(with_reducible refine zG ?_ _)|(with_reducible refine zH ?_ _)|(with_reducible refine zI ?_)));(case side2=>exact (zN HO725.out).2.1);rintro e w77 ⟨v732,rfl,ho0,hb⟩;have n0_:=zM (zP (by (with_reducible repeat (first|apply zA|apply zB|apply zC));exact HO725.out) hb);have n1_:=zM (Kd.R_elder' (by (with_reducible repeat (first|apply zA|apply zB|apply zC));exact HO729.out) (Kd.R_base ho0) hb);have n2_:=zM (Kd.R_lower (Kd.R_new' ho0 (Kd.R_lt (by (with_reducible repeat (first|apply zA|apply zB|apply zC));exact HO729.out))) (zR (by repeat (first|(with_reducible first|exact HB.out|apply zD|apply zE|apply zF)|exact HB.out))));have n3_:=zM (zQ (by repeat (first|(with_reducible first|exact HB.out|apply zD|apply zE|apply zF)|exact HB.out)) hb);clear HO725;clear HO729;clear HB;have HO725:=n0_;have HO729:=n1_;have HO733:=n2_;have HB:=n3_;clear n0_ n1_ n2_ n3_;(try clear hb);(try clear hb2);(try clear hk);(try clear hi);(try clear ho0))|(go_at_call 29;(with_reducible refine (spec_TurningHours.calls kj23 _ _ t722 t723 t734 t735 _ ?side1 ?side2 A66.out).mono ?_);(case side1=>repeat (first|exact (zN HO725.out).2.2|(with_reducible refine zG ?_ _)|(with_reducible refine zH ?_ _)|(with_reducible refine zI ?_)));(case side2=>exact (zN HO725.out).2.1);rintro e w78 ⟨v736,rfl,ho0,hb⟩;have n0_:=zM (zP (by (with_reducible repeat (first|apply zA|apply zB|apply zC));exact HO725.out) hb);have n1_:=zM (Kd.R_elder' (by (with_reducible repeat (first|apply zA|apply zB|apply zC));exact HO729.out) (Kd.R_base ho0) hb);have n2_:=zM (Kd.R_elder' (by (with_reducible repeat (first|apply zA|apply zB|apply zC));exact HO733.out) (Kd.R_base ho0) hb);have n3_:=zM (Kd.R_lower (Kd.R_new' (Kd.R_new' ho0 (Kd.R_lt (by (with_reducible repeat (first|apply zA|apply zB|apply zC));exact HO729.out))) (Kd.R_lt (by (with_reducible repeat (first|apply zA|apply zB|apply zC));exact HO733.out))) (zR (by repeat (first|(with_reducible first|exact HB.out|apply zD|apply zE|apply zF)|exact HB.out))));have n4_:=zM (zQ (by repeat (first|(with_reducible first|exact HB.out|apply zD|apply zE|apply zF)|exact HB.out)) hb);clear HO725;clear HO729;clear HO733;clear HB;have HO725:=n0_;have HO729:=n1_;have HO733:=n2_;have HO737:=n3_;have HB:=n4_;clear n0_ n1_ n2_ n3_ n4_;(try clear hb);(try clear hb2);(try clear hk);(try clear hi);(try clear ho0);obtain ⟨Ao79,co79,eo79⟩:=Kd.R_slice HO729.out;subst eo79;obtain ⟨Ao80,co80,eo80⟩:=Kd.R_slice HO737.out;subst eo80)|(go_at_call 48;(with_reducible refine (laws_rInts.calls kj23 _ _ t726 _ _ t734 true _ ?side1 ?side2 ?side3 ?side4 A69.out).mono ?_);(case side1=>repeat (first|exact (zN HO729.out).2.2|(with_reducible refine zG ?_ _)|(with_reducible refine zH ?_ _)|(with_reducible refine zI ?_)));(case side2=>exact (zN HO729.out).2.1);(case side3=>repeat (first|exact (zN HO737.out).2.2|(with_reducible refine zG ?_ _)|(with_reducible refine zH ?_ _)|(with_reducible refine zI ?_)));(case side4=>exact (zN HO737.out).2.1);rintro e w' ⟨rfl,⟨nd,rfl⟩⟩;(try first|exact ⟨rfl,_,World.drewN_drewN _ _ _⟩|exact ⟨rfl,_,Eq.trans (World.drewN_drewN _ _ _) (congrArg (World.drewN _) (Nat.add_assoc _ _ _))⟩);obtain ⟨Ao81,co81,eo81⟩:=Kd.R_slice HO733.out;subst eo81)|(go_at_call 17;(with_reducible refine (impl_IsValidTides.calls kj23 _ _ t722 t739 _ ?side1 ?side2 A73.out).mono ?_);(case side1=>repeat (first|exact (zN HO725.out).2.2|(with_reducible refine zG ?_ _)|(with_reducible refine zH ?_ _)|(with_reducible refine zI ?_)));(case side2=>exact (zN HO725.out).2.1);rintro e w82 ⟨rfl,hb⟩;have n0_:=zM (zP (by (with_reducible repeat (first|apply zA|apply zB|apply zC));exact HO725.out) hb);have n1_:=zM (zP (by (with_reducible repeat (first|apply zA|apply zB|apply zC));exact HO729.out) hb);have n2_:=zM (zP (by (with_reducible repeat (first|apply zA|apply zB|apply zC));exact HO733.out) hb);have n3_:=zM (zP (by (with_reducible repeat (first|apply zA|apply zB|apply zC));exact HO737.out) hb);have n4_:=zM (zQ (by repeat (first|(with_reducible first|exact HB.out|apply zD|apply zE|apply zF)|exact HB.out)) hb);clear HO725;clear HO729;clear HO733;clear HO737;clear HB;have HO725:=n0_;have HO729:=n1_;have HO733:=n2_;have HO737:=n3_;have HB:=n4_;clear n0_ n1_ n2_ n3_ n4_;(try clear hb);(try clear hb2);(try clear hk);(try clear hi)));try go_wp2_with (first|(go_at_call 47;(with_reducible refine (spec_DrawTurningHours.calls kj23 _ _ l0 t722 t723 _ ?side1 ?side2 A63.out).mono ?_);(case side1=>repeat (first|exact (zO HR0.out HB.out)|(with_reducible refine zG ?_ _)|(with_reducible refine zH ?_ _)|(with_reducible refine zI ?_)));(case side2=>exact HC0.out);rintro e w74 ⟨v724,rfl,ho0,hb⟩;have n0_:=zM (Kd.R_lower ho0 (zR (by repeat (first|(with_reducible first|exact HB.out|apply zD|apply zE|apply zF)|exact HB.out))));have n1_:=zM (zQ (by repeat (first|(with_reducible first|exact HB.out|apply zD|apply zE|apply zF)|exact HB.out)) hb);clear HB;have HO725:=n0_;have HB:=n1_;clear n0_ n1_;(try clear hb);(try clear hb2);(try clear hk);(try clear hi);(try clear ho0);obtain ⟨Ao75,co75,eo75⟩:=Kd.R_slice HO725.out;subst eo75)|(go_at_call 30;(with_reducible refine (impl_TurningHours.calls kj23 _ _ t722 t723 t726 true _ ?side1 ?side2 A64.out).mono ?_);(case side1=>repeat (first|exact (zN HO725.out).2.2|(with_reducible refine zG ?_ _)|(with_reducible refine zH ?_ _)|(with_reducible refine zI ?_)));(case side2=>exact (zN HO725.out).2.1);rintro e w76 ⟨v728,rfl,ho0,hb⟩;have n0_:=zM (zP (by (with_reducible repeat (first|apply zA|apply zB|apply zC));exact HO725.out) hb);have n1_:=zM (Kd.R_lower ho0 (zR (by repeat (first|(with_reducible first|exact HB.out|apply zD|apply zE|apply zF)|exact HB.out))));have n2_:=zM (zQ (by repeat (first|(with_reducible first|exact HB.out|apply zD|apply zE|apply zF)|exact HB.out)) hb);clear HO725;clear HB;have HO725:=n0_;have HO729:=n1_;have HB:=n2_;clear n0_ n1_ n2_;(try clear hb);(try clear hb2);(try clear hk);(try clear hi);(try clear ho0))|(go_at_call 30;(with_reducible refine (impl_TurningHours.calls kj23 _ _ t722 (!t723) t730 t731 _ ?side1 ?side2 A65.out).mono ?_);(case side1=>repeat (first|exact (zN HO725.out).2.2|(with_reducible refine zG ?_ _)|(with_reducible refine zH ?_ _)|(with_reducible refine zI ?_)));(case side2=>exact (zN HO725.out).2.1);rintro e w77 ⟨v732,rfl,ho0,hb⟩;have n0_:=zM (zP (by (with_reducible repeat (first|apply zA|apply zB|apply zC));exact HO725.out) hb);have n1_:=zM (Kd.R_elder' (by (with_reducible repeat (first|apply zA|apply zB|apply zC));exact HO729.out) (Kd.R_base ho0) hb);have n2_:=zM (Kd.R_lower (Kd.R_new' ho0 (Kd.R_lt (by (with_reducible repeat (first|apply zA|apply zB|apply zC));exact HO729.out))) (zR (by repeat (first|(with_reducible first|exact HB.out|apply zD|apply zE|apply zF)|exact HB.out))));have n3_:=zM (zQ (by repeat (first|(with_reducible first|exact HB.out|apply zD|apply zE|apply zF)|exact HB.out)) hb);clear HO725;clear HO729;clear HB;have HO725:=n0_;have HO729:=n1_;have HO733:=n2_;have HB:=n3_;clear n0_ n1_ n2_ n3_;(try clear hb);(try clear hb2);(try clear hk);(try clear hi);(try clear ho0))|(go_at_call 29;(with_reducible refine (spec_TurningHours.calls kj23 _ _ t722 t723 t734 t735 _ ?side1 ?side2 A66.out).mono ?_);(case side1=>repeat (first|exact (zN HO725.out).2.2|(with_reducible refine zG ?_ _)|(with_reducible refine zH ?_ _)|(with_reducible refine zI ?_)));(case side2=>exact (zN HO725.out).2.1);rintro e w78 ⟨v736,rfl,ho0,hb⟩;have n0_:=zM (zP (by (with_reducible repeat (first|apply zA|apply zB|apply zC));exact HO725.out) hb);have n1_:=zM (Kd.R_elder' (by (with_reducible repeat (first|apply zA|apply zB|apply zC));exact HO729.out) (Kd.R_base ho0) hb);have n2_:=zM (Kd.R_elder' (by (with_reducible repeat (first|apply zA|apply zB|apply zC));exact HO733.out) (Kd.R_base ho0) hb);have n3_:=zM (Kd.R_lower (Kd.R_new' (Kd.R_new' ho0 (Kd.R_lt (by (with_reducible repeat (first|apply zA|apply zB|apply zC));exact HO729.out))) (Kd.R_lt (by (with_reducible repeat (first|apply zA|apply zB|apply zC));exact HO733.out))) (zR (by repeat (first|(with_reducible first|exact HB.out|apply zD|apply zE|apply zF)|exact HB.out))));have n4_:=zM (zQ (by repeat (first|(with_reducible first|exact HB.out|apply zD|apply zE|apply zF)|exact HB.out)) hb);clear HO725;clear HO729;clear HO733;clear HB;have HO725:=n0_;have HO729:=n1_;have HO733:=n2_;have HO737:=n3_;have HB:=n4_;clear n0_ n1_ n2_ n3_ n4_;(try clear hb);(try clear hb2);(try clear hk);(try clear hi);(try clear ho0);obtain ⟨Ao79,co79,eo79⟩:=Kd.R_slice HO729.out;subst eo79;obtain ⟨Ao80,co80,eo80⟩:=Kd.R_slice HO737.out;subst eo80)|(go_at_call 48;(with_reducible refine (laws_rInts.calls kj23 _ _ t726 _ _ t734 true _ ?side1 ?side2 ?side3 ?side4 A69.out).mono ?_);(case side1=>repeat (first|exact (zN HO729.out).2.2|(with_reducible refine zG ?_ _)|(with_reducible refine zH ?_ _)|(with_reducible refine zI ?_)));(case side2=>exact (zN HO729.out).2.1);(case side3=>repeat (first|exact (zN HO737.out).2.2|(with_reducible refine zG ?_ _)|(with_reducible refine zH ?_ _)|(with_reducible refine zI ?_)));(case side4=>exact (zN HO737.out).2.1);rintro e w' ⟨rfl,⟨nd,rfl⟩⟩;(try first|exact ⟨rfl,_,World.drewN_drewN _ _ _⟩|exact ⟨rfl,_,Eq.trans (World.drewN_drewN _ _ _) (congrArg (World.drewN _) (Nat.add_assoc _ _ _))⟩);obtain ⟨Ao81,co81,eo81⟩:=Kd.R_slice HO733.out;subst eo81)|(go_at_call 17;(with_reducible refine (impl_IsValidTides.calls kj23 _ _ t722 t739 _ ?side1 ?side2 A73.out).mono ?_);(case side1=>repeat (first|exact (zN HO725.out).2.2|(with_reducible refine zG ?_ _)|(with_reducible refine zH ?_ _)|(with_reducible refine zI ?_)));(case side2=>exact (zN HO725.out).2.1);rintro e w82 ⟨rfl,hb⟩;have n0_:=zM (zP (by (with_reducible repeat (first|apply zA|apply zB|apply zC));exact HO725.out) hb);have n1_:=zM (zP (by (with_reducible repeat (first|apply zA|apply zB|apply zC));exact HO729.out) hb);have n2_:=zM (zP (by (with_reducible repeat (first|apply zA|apply zB|apply zC));exact HO733.out) hb);have n3_:=zM (zP (by (with_reducible repeat (first|apply zA|apply zB|apply zC));exact HO737.out) hb);have n4_:=zM (zQ (by repeat (first|(with_reducible first|exact HB.out|apply zD|apply zE|apply zF)|exact HB.out)) hb);clear HO725;clear HO729;clear HO733;clear HO737;clear HB;have HO725:=n0_;have HO729:=n1_;have HO733:=n2_;have HO737:=n3_;have HB:=n4_;clear n0_ n1_ n2_ n3_ n4_;(try clear hb);(try clear hb2);(try clear hk);(try clear hi))))
               go_ret
               exact ⟨by first|rfl|(simp [errW_none,errW_some] <;> rfl)|(simp [*,errW_none,errW_some] <;> rfl),by repeat (first|(with_reducible first|exact HB.out|apply zD|apply zE|apply zF)|exact HB.out)⟩
              ·as_aux_lemma =>
               rw [if_neg c72] at H
               have c72b0 : ((wrap64 ((t726.length : Int) + (t730.length : Int))) == (t722.length : Int)) = false:=beq_eq_false_iff_ne.mpr c72
               have c72b1 : ((wrap64 ((t726.length : Int) + (t730.length : Int))) != (t722.length : Int)) = true:=bne_iff_ne.mpr c72
               obtain rfl:=Option.some.inj H
               go_wp2_with (first|(go_at_call 47;(with_reducible refine (spec_DrawTurningHours.calls kj23 _ _ l0 t722 t723 _ ?side1 ?side2 A63.out).mono ?_);(case side1=>repeat (first|exact (zO HR0.out HB.out)|(with_reducible refine zG ?_ _)|(with_reducible refine zH ?_ _)|(with_reducible refine zI ?_)));(case side2=>exact HC0.out);rintro e w83 ⟨v724,rfl,ho0,hb⟩;have n0_:=zM (Kd.R_lower ho0 (zR (by repeat (first|(with_reducible first|exact HB.out|apply zD|apply zE|apply zF)|exact HB.out))));have n1_:=zM (zQ (by repeat (first|(with_reducible first|exact HB.out|apply zD|apply zE|apply zF)|exact HB.out)) hb);clear HB;have HO725:=n0_;have HB:=n1_;clear n0_ n1_;(try clear hb);(try clear hb2);(try clear hk);(try clear hi);(try clear ho0);obtain ⟨Ao84,co84,eo84⟩:=Kd.R_slice HO725.out;subst eo84)|(go_at_call 30;(with_reducible refine (impl_TurningHours.calls kj23 _ _ t722 t723 t726 true _ ?side1 ?side2 A64.out).mono ?_);(case side1=>repeat (first|exact (zN HO725.out).2.2|(with_reducible refine zG ?_ _)|(with_reducible refine zH ?_ _)|(with_reducible refine zI ?_)));(case side2=>exact (zN HO725.out).2.1);rintro e w85 ⟨v728,rfl,ho0,hb⟩;have n0_:=zM (zP (by (with_reducible repeat (first|apply zA|apply zB|apply zC));exact HO725.out) hb);have n1_:=zM (Kd.R_lower ho0 (zR (by repeat (first|(with_reducible first|exact HB.out|apply zD|apply zE|apply zF)|exact HB.out))));have n2_:=zM (zQ (by repeat (first|(with_reducible first|exact HB.out|apply zD|apply zE|apply zF)|exact HB.out)) hb);clear HO725;clear HB;have HO725:=n0_;have HO729:=n1_;have HB:=n2_;clear n0_ n1_ n2_;(try clear hb);(try clear hb2);(try clear hk);(try clear hi);(try clear ho0))|(go_at_call 30;(with_reducible refine (impl_TurningHours.calls kj23 _ _ t722 (!t723) t730 t731 _ ?side1 ?side2 A65.out).mono ?_);(case side1=>repeat (first|exact (zN HO725.out).2.2|(with_reducible refine zG ?_ _)|(with_reducible refine zH ?_ _)|(with_reducible refine zI ?_)));(case side2=>exact (zN HO725.out).2.1);rintro e w86 ⟨v732,rfl,ho0,hb⟩;have n0_:=zM (zP (by (with_reducible repeat (first|apply zA|apply zB|apply zC));exact HO725.out) hb);have n1_:=zM (Kd.R_elder' (by (with_reducible repeat (first|apply zA|apply zB|apply zC));exact HO729.out) (Kd.R_base ho0) hb);have n2_:=zM (Kd.R_lower (Kd.R_new' ho0 (Kd.R_lt (by (with_reducible repeat (first|apply zA|apply zB|apply zC));exact HO729.out))) (zR (by repeat (first|(with_reducible first|exact HB.out|apply zD|apply zE|apply zF)|exact HB.out))));have n3_:=zM (zQ (by repeat (first|(with_reducible first|exact HB.out|apply zD|apply zE|apply zF)|exact HB.out)) hb);clear HO725;clear HO729;clear HB;have HO725:=n0_;have HO729:=n1_;have HO733:=n2_;have HB:=n3_;clear n0_ n1_ n2_ n3_;(try clear hb);(try clear hb2);(try clear hk);(try clear hi);(try clear ho0))|(go_at_call 29;(with_reducible refine (spec_TurningHours.calls kj23 _ _ t722 t723 t734 t735 _ ?side1 ?side2 A66.out).mono ?_);(case side1=>repeat (first|exact (zN HO725.out).2.2|(with_reducible refine zG ?_ _)|(with_reducible refine zH ?_ _)|(with_reducible refine zI ?_)));(case side2=>exact (zN HO725.out).2.1);rintro e w87 ⟨v736,rfl,ho0,hb⟩;have n0_:=zM (zP (by (with_reducible repeat (first|apply zA|apply zB|apply zC));exact HO725.out) hb);have n1_:=zM (Kd.R_elder' (by (with_reducible repeat (first|apply zA|apply zB|apply zC));exact HO729.out) (Kd.R_base ho0) hb);have n2_:=zM (Kd.R_elder' (by (with_reducible repeat (first|apply zA|apply zB|apply zC));exact HO733.out) (Kd.R_base ho0) hb);have n3_:=zM (Kd.R_lower (Kd.R_new' (Kd.R_new' ho0 (Kd.R_lt (by (with_reducible repeat (first|apply zA|apply zB|apply zC));exact HO729.out))) (Kd.R_lt (by (with_reducible repeat (first|apply zA|apply zB|apply zC));exact HO733.out))) (zR (by repeat (first|(with_reducible first|exact HB.out|apply zD|apply zE|apply zF)|exact HB.out))));have n4_:=zM (zQ (by repeat (first|(with_reducible first|exact HB.out|apply zD|apply zE|apply zF)|exact HB.out)) hb);clear HO725;clear HO729;clear HO733;clear HB;have HO725:=n0_;have HO729:=n1_;have HO733:=n2_;have HO737:=n3_;have HB:=n4_;clear n0_ n1_ n2_ n3_ n4_;(try clear hb);(try clear hb2);(try clear hk);(try clear hi);(try clear ho0);obtain ⟨Ao88,co88,eo88⟩:=Kd.R_slice HO729.out;subst eo88;obtain ⟨Ao89,co89,eo89⟩:=Kd.R_slice HO737.out;subst eo89)|(go_at_call 48;(with_reducible refine (laws_rInts.calls kj23 _ _ t726 _ _ t734 true _ ?side1 ?side2 ?side3 ?side4 A69.out).mono ?_);(case side1=>repeat (first|exact (zN HO729.out).2.2|(with_reducible refine zG ?_ _)|(with_reducible refine zH ?_ _)|(with_reducible refine zI ?_)));(case side2=>exact (zN HO729.out).2.1);(case side3=>repeat (first|exact (zN HO737.out).2.2|(with_reducible refine zG ?_ _)|(with_reducible refine zH ?_ _)|(with_reducible refine zI ?_)));(case side4=>exact (zN HO737.out).2.1);rintro e w' ⟨rfl,⟨nd,rfl⟩⟩;(try first|exact ⟨rfl,_,World.drewN_drewN _ _ _⟩|exact ⟨rfl,_,Eq.trans (World.drewN_drewN _ _ _) (congrArg (World.drewN _) (Nat.add_assoc _ _ _))⟩);obtain ⟨Ao90,co90,eo90⟩:=Kd.R_slice HO733.out;subst eo90))
               repeat (go_quiet (first|(go_at_call 47;(with_reducible refine (spec_DrawTurningHours.calls kj23 _ _ l0 t722 t723 _ ?side1 ?side2 A63.out).mono ?_);(case side1=>repeat (first|exact (zO HR0.out HB.out)|(with_reducible refine zG ?_ _)|(with_reducible refine zH ?_ _)|(with_reducible refine zI ?_)));(case side2=>exact HC0.out);rintro e w83 ⟨v724,rfl,ho0,hb⟩;have n0_:=zM (Kd.R_lower ho0 (zR (by repeat (first|(with_reducible first|exact HB.out|apply zD|apply zE|apply zF)|exact HB.out))));have n1_:=zM (zQ (by repeat (first|(with_reducible first|exact HB.out|apply zD|apply zE|apply zF)|exact HB.out)) hb);clear HB;have HO725:=n0_;have HB:=n1_;clear n0_ n1_;(try clear hb);(try clear hb2);(try clear hk);(try clear hi);(try clear ho0);obtain ⟨Ao84,co84,eo84⟩:=Kd.R_slice HO725.out;subst eo84)|(go_at_call 30;(with_reducible refine (impl_TurningHours.calls kj23 _ _ t722 t723 t726 true _ ?side1 ?side2 A64.out).mono ?_);(case side1=>repeat (first|exact (zN HO725.out).2.2|(with_reducible refine zG ?_ _)|(with_reducible refine zH ?_ _)|(with_reducible refine zI ?_)));(case side2=>exact (zN HO725.out).2.1);rintro e w85 ⟨v728,rfl,ho0,hb⟩;have n0_:=zM (zP (by (with_reducible repeat (first|apply zA|apply zB|apply zC));exact HO725.out) hb);have n1_:=zM (Kd.R_lower ho0 (zR (by repeat (first|(with_reducible first|exact HB.out|apply zD|apply zE|apply zF)|exact HB.out))));have n2_:=zM (zQ (by repeat (first|(with_reducible first|exact HB.out|apply zD|apply zE|apply zF)|exact HB.out)) hb);clear HO725;clear HB;have HO725:=n0_;have HO729:=n1_;have HB:=n2_;clear n0_ n1_ n2_;(try clear hb);(try clear hb2);(try clear hk);(try clear hi);(try clear ho0))|(go_at_call 30;(with_reducible refine (impl_TurningHours.calls kj23 _ _ t722 (!t723) t730 t731 _ ?side1 ?side2 A65.out).mono ?_);(case side1=>repeat (first|exact (zN HO725.out).2.2|(with_reducible refine zG ?_ _)|(with_reducible refine zH ?_ _)|(with_reducible refine zI ?_)));(case side2=>exact (zN HO725.out).2.1);rintro e w86 ⟨v732,rfl,ho0,hb⟩;have n0_:=zM (zP (by (with_reducible repeat (first|apply zA|apply zB|apply zC));exact HO725.out) hb);have n1_:=zM (Kd.R_elder' (by (with_reducible repeat (first|apply zA|apply zB|apply zC));exact HO729.out) (Kd.R_base ho0) hb);have n2_:=zM (Kd.R_lower (Kd.R_new' ho0 (Kd.R_lt (by (with_reducible repeat (first|apply zA|apply zB|apply zC));exact HO729.out))) (zR (by repeat (first|(with_reducible first|exact HB.out|apply zD|apply zE|apply zF)|exact HB.out))));have n3_:=zM (zQ (by repeat (first|(with_reducible first|exact HB.out|apply zD|apply zE|apply zF)|exact HB.out)) hb);clear HO725;clear HO729;clear HB;have HO725:=n0_;have HO729:=n1_;have HO733:=n2_;have HB:=n3_;clear n0_ n1_ n2_ n3_;(try clear hb);(try clear hb2);(try clear hk);(try clear hi);(try clear ho0))|(go_at_call 29;(with_reducible refine (spec_TurningHours.calls kj23 _ _ t722 t723 t734 t735 _ ?side1 ?side2 A66.out).mono ?_);(case side1=>repeat (first|exact (zN HO725.out).2.2|(with_reducible refine zG ?_ _)|(with_reducible refine zH ?_ _)|(with_reducible refine zI ?_)));(case side2=>exact (zN HO725.out).2.1);rintro e w87 ⟨v736,rfl,ho0,hb⟩;have n0_:=zM (zP (by (with_reducible repeat (first|apply zA|apply zB|apply zC));exact HO725.out) hb);have n1_:=zM (Kd.R_elder' (by (with_reducible repeat (first|apply zA|apply zB|apply zC));exact HO729.out) (Kd.R_base ho0) hb);have n2_:=zM (Kd.R_elder' (by (with_reducible repeat (first|apply zA|apply zB|apply zC));exact HO733.out) (Kd.R_base ho0) hb);have n3_:=zM (Kd.R_lower (Kd.R_new' (Kd.R_new' ho0 (Kd.R_lt (by (with_reducible repeat (first|apply zA|apply zB|apply zC));exact HO729.out))) (Kd.R_lt (by (with_reducible repeat (first|apply zA|apply zB|apply zC));exact HO733.out))) (zR (by repeat (first|(with_reducible first|exact HB.out|apply zD|apply zE|apply zF)|exact HB.out))));have n4_:=zM (zQ (by repeat (first|(with_reducible first|exact HB.out|apply zD|apply zE|apply zF)|exact HB.out)) hb);clear HO725;clear HO729;clear HO733;clear HB;have HO725:=n0_;have HO729:=n1_;have HO733:=n2_;have HO737:=n3_;have HB:=n4_;clear n0_ n1_ n2_ n3_ n4_;(try clear hb);(try clear hb2);(try clear hk);(try clear hi);(try clear ho0);obtain ⟨Ao88,co88,eo88⟩:=Kd.R_slice HO729.out;subst eo88;obtain ⟨Ao89,co89,eo89⟩:=Kd.R_slice HO737.out;subst eo89)|(go_at_call 48;(with_reducible refine (laws_rInts.calls kj23 _ _ t726 _ _ t734 true _ ?side1 ?side2 ?side3 ?side4 A69.out).mono ?_);(case side1=>repeat (first|exact (zN HO729.out).2.2|(with_reducible refine zG ?_ _)|(with_reducible refine zH ?_ _)|(with_reducible refine zI ?_)));(case side2=>exact (zN HO729.out).2.1);(case side3=>repeat (first|exact (zN HO737.out).2.2|(with_reducible refine zG ?_ _)|(with_reducible refine zH ?_ _)|(with_reducible refine zI ?_)));(case side4=>exact (zN HO737.out).2.1);rintro e w' ⟨rfl,⟨nd,rfl⟩⟩;(try first|exact ⟨rfl,_,World.drewN_drewN _ _ _⟩|exact ⟨rfl,_,Eq.trans (World.drewN_drewN _ _ _) (congrArg (World.drewN _) (Nat.add_assoc _ _ _))⟩);obtain ⟨Ao90,co90,eo90⟩:=Kd.R_slice HO733.out;subst eo90));try go_wp2_with (first|(go_at_call 47;(with_reducible refine (spec_DrawTurningHours.calls kj23 _ _ l0 t722 t723 _ ?side1 ?side2 A63.out).mono ?_);(case side1=>repeat (first|exact (zO HR0.out HB.out)|(with_reducible refine zG ?_ _)|(with_reducible refine zH ?_ _)|(with_reducible refine zI ?_)));(case side2=>exact HC0.out);rintro e w83 ⟨v724,rfl,ho0,hb⟩;have n0_:=zM (Kd.R_lower ho0 (zR (by repeat (first|(with_reducible first|exact HB.out|apply zD|apply zE|apply zF)|exact HB.out))));have n1_:=zM (zQ (by repeat (first|(with_reducible first|exact HB.out|apply zD|apply zE|apply zF)|exact HB.out)) hb);clear HB;have HO725:=n0_;have HB:=n1_;clear n0_ n1_;(try clear hb);(try clear hb2);(try clear hk);(try clear hi);(try clear ho0);obtain ⟨Ao84,co84,eo84⟩:=Kd.R_slice HO725.out;subst eo84)|(go_at_call 30;(with_reducible refine (impl_TurningHours.calls kj23 _ _ t722 t723 t726 true _ ?side1 ?side2 A64.out).mono ?_);(case side1=>repeat (first|exact (zN HO725.out).2.2|(with_reducible refine zG ?_ _)|(with_reducible refine zH ?_ _)|(with_reducible refine zI ?_)));(case side2=>exact (zN HO725.out).2.1);rintro e w85 ⟨v728,rfl,ho0,hb⟩;have n0_:=zM (zP (by (with_reducible repeat (first|apply zA|apply zB|apply zC));exact HO725.out) hb);have n1_:=zM (Kd.R_lower ho0 (zR (by repeat (first|(with_reducible first|exact HB.out|apply zD|apply zE|apply zF)|exact HB.out))));have n2_:=zM (zQ (by repeat (first|(with_reducible first|exact HB.out|apply zD|apply zE|apply zF)|exact HB.out)) hb);clear HO725;clear HB;have HO725:=n0_;have HO729:=n1_;have HB:=n2_;clear n0_ n1_ n2_;(try clear hb);(try clear hb2);(try clear hk);(try clear hi);(try clear ho0))|(go_at_call 30;(with_reducible refine (impl_TurningHours.calls kj23 _ _ t722 (!t723) t730 t731 _ ?side1 ?side2 A65.out).mono ?_);(case side1=>repeat (first|exact (zN HO725.out).2.2|(with_reducible refine zG ?_ _)|(with_reducible refine zH ?_ _)|(with_reducible refine zI ?_)));(case side2=>exact (zN HO725.out).2.1);rintro e w86 ⟨v732,rfl,ho0,hb⟩;have n0_:=zM (zP (by (with_reducible repeat (first|apply zA|apply zB|apply zC));exact HO725.out) hb);have n1_:=zM (Kd.R_elder' (by (with_reducible repeat (first|apply zA|apply zB|apply zC));exact HO729.out) (Kd.R_base ho0) hb);have n2_:=zM (Kd.R_lower (Kd.R_new' ho0 (Kd.R_lt (by (with_reducible repeat (first|apply zA|apply zB|apply zC));exact HO729.out))) (zR (by repeat (first|(with_reducible first|exact HB.out|apply zD|apply zE|apply zF)|exact HB.out))));have n3_:=zM (zQ (by repeat (first|(with_reducible first|exact HB.out|apply zD|apply zE|apply zF)|exact HB.out)) hb);clear HO725;clear HO729;clear HB;have HO725:=n0_;have HO729:=n1_;have HO733:=n2_;have HB:=n3_;clear n0_ n1_ n2_ n3_;(try clear hb);(try clear hb2);(try clear hk);(try clear hi);(try clear ho0))|(go_at_call 29;(with_reducible refine (spec_TurningHours.calls kj23 _ _ t722 t723 t734 t735 _ ?side1 ?side2 A66.out).mono ?_);(case side1=>repeat (first|exact (zN HO725.out).2.2|(with_reducible refine zG ?_ _)|(with_reducible refine zH ?_ _)|(with_reducible refine zI ?_)));(case side2=>exact (zN HO725.out).2.1);rintro e w87 ⟨v736,rfl,ho0,hb⟩;have n0_:=zM (zP (by (with_reducible repeat (first|apply zA|apply zB|apply zC));exact HO725.out) hb);have n1_:=zM (Kd.R_elder' (by (with_reducible repeat (first|apply zA|apply zB|apply zC));exact HO729.out) (Kd.R_base ho0) hb);have n2_:=zM (Kd.R_elder' (by (with_reducible repeat (first|apply zA|apply zB|apply zC));exact HO733.out) (Kd.R_base ho0) hb);have n3_:=zM (Kd.R_lower (Kd.R_new' (Kd.R_new' ho0 (Kd.R_lt (by (with_reducible repeat (first|apply zA|apply zB|apply zC));exact HO729.out))) (Kd.R_lt (by (with_reducible repeat (first|apply zA|apply zB|apply zC));exact HO733.out))) (zR (by repeat (first|(with_reducible first|exact HB.out|apply zD|apply zE|apply zF)|exact HB.out))));have n4_:=zM (zQ (by repeat (first|(with_reducible first|exact HB.out|apply zD|apply zE|apply zF)|exact HB.out)) hb);clear HO725;clear HO729;clear HO733;clear HB;have HO725:=n0_;have HO729:=n1_;have HO733:=n2_;have HO737:=n3_;have HB:=n4_;clear n0_ n1_ n2_ n3_ n4_;(try clear hb);(try clear hb2);(try clear hk);(try clear hi);(try clear ho0);obtain ⟨Ao88,co88,eo88⟩:=Kd.R_slice HO729.out;subst eo88;obtain ⟨Ao89,co89,eo89⟩:=Kd.R_slice HO737.out;subst eo89)|(go_at_call 48;(with_reducible refine (laws_rInts.calls kj23 _ _ t726 _ _ t734 true _ ?side1 ?side2 ?side3 ?side4 A69.out).mono ?_);(case side1=>repeat (first|exact (zN HO729.out).2.2|(with_reducible refine zG ?_ _)|(with_reducible refine zH ?_ _)|(with_reducible refine zI ?_)));(case side2=>exact (zN HO729.out).2.1);(case side3=>repeat (first|exact (zN HO737.out).2.2|(with_reducible refine zG ?_ _)|(with_reducible refine zH ?_ _)|(with_reducible refine zI ?_)));(case side4=>exact (zN HO737.out).2.1);rintro e w' ⟨rfl,⟨nd,rfl⟩⟩;(try first|exact ⟨rfl,_,World.drewN_drewN _ _ _⟩|exact ⟨rfl,_,Eq.trans (World.drewN_drewN _ _ _) (congrArg (World.drewN _) (Nat.add_assoc _ _ _))⟩);obtain ⟨Ao90,co90,eo90⟩:=Kd.R_slice HO733.out;subst eo90)))
               go_ret
               exact ⟨by first|rfl|(simp [errW_none,errW_some] <;> rfl)|(simp [*,errW_none,errW_some] <;> rfl),by repeat (first|(with_reducible first|exact HB.out|apply zD|apply zE|apply zF)|exact HB.out)⟩
             ·as_aux_lemma =>
              replace c71:=Bool.eq_false_iff.mpr c71
              subst c71
              have H1 : (some true) = some r:=by rw [if_neg (show ¬ (false = true) by decide)] at H;exact H
              clear H
              have H:=H1
              clear H1
              obtain rfl:=Option.some.inj H
              go_wp2_with (first|(go_at_call 47;(with_reducible refine (spec_DrawTurningHours.calls kj23 _ _ l0 t722 t723 _ ?side1 ?side2 A63.out).mono ?_);(case side1=>repeat (first|exact (zO HR0.out HB.out)|(with_reducible refine zG ?_ _)|(with_reducible refine zH ?_ _)|(with_reducible refine zI ?_)));(case side2=>exact HC0.out);rintro e w91 ⟨v724,rfl,ho0,hb⟩;have n0_:=zM (Kd.R_lower ho0 (zR (by repeat (first|(with_reducible first|exact HB.out|apply zD|apply zE|apply zF)|exact HB.out))));have n1_:=zM (zQ (by repeat (first|(with_reducible first|exact HB.out|apply zD|apply zE|apply zF)|exact HB.out)) hb);clear HB;have HO725:=n0_;have HB:=n1_;clear n0_ n1_;(try clear hb);(try clear hb2);(try clear hk);(try clear hi);(try clear ho0);obtain ⟨Ao92,co92,eo92⟩:=Kd.R_slice HO725.out;subst eo92)|(go_at_call 30;(with_reducible refine (impl_TurningHours.calls kj23 _ _ t722 t723 t726 false _ ?side1 ?side2 A64.out).mono ?_);(case side1=>repeat (first|exact (zN HO725.out).2.2|(with_reducible refine zG ?_ _)|(with_reducible refine zH ?_ _)|(with_reducible refine zI ?_)));(case side2=>exact (zN HO725.out).2.1);rintro e w93 ⟨v728,rfl,ho0,hb⟩;have n0_:=zM (zP (by (with_reducible repeat (first|apply zA|apply zB|apply zC));exact HO725.out) hb);have n1_:=zM (Kd.R_lower ho0 (zR (by repeat (first|(with_reducible first|exact HB.out|apply zD|apply zE|apply zF)|exact HB.out))));have n2_:=zM (zQ (by repeat (first|(with_reducible first|exact HB.out|apply zD|apply zE|apply zF)|exact HB.out)) hb);clear HO725;clear HB;have HO725:=n0_;have HO729:=n1_;have HB:=n2_;clear n0_ n1_ n2_;(try clear hb);(try clear hb2);(try clear hk);(try clear hi);(try clear ho0))|(go_at_call 30;(with_reducible refine (impl_TurningHours.calls kj23 _ _ t722 (!t723) t730 t731 _ ?side1 ?side2 A65.out).mono ?_);(case side1=>repeat (first|exact (zN HO725.out).2.2|(with_reducible refine zG ?_ _)|(with_reducible refine zH ?_ _)|(with_reducible refine zI ?_)));(case side2=>exact (zN HO725.out).2.1);rintro e w94 ⟨v732,rfl,ho0,hb⟩;have n0_:=zM (zP (by (with_reducible repeat (first|apply zA|apply zB|apply zC));exact HO725.out) hb);have n1_:=zM (Kd.R_elder' (by (with_reducible repeat (first|apply zA|apply zB|apply zC));exact HO729.out) (Kd.R_base ho0) hb);have n2_:=zM (Kd.R_lower (Kd.R_new' ho0 (Kd.R_lt (by (with_reducible repeat (first|apply zA|apply zB|apply zC));exact HO729.out))) (zR (by repeat (first|(with_reducible first|exact HB.out|apply zD|apply zE|apply zF)|exact HB.out))));have n3_:=zM (zQ (by repeat (first|(with_reducible first|exact HB.out|apply zD|apply zE|apply zF)|exact HB.out)) hb);clear HO725;clear HO729;clear HB;have HO725:=n0_;have HO729:=n1_;have HO733:=n2_;have HB:=n3_;clear n0_ n1_ n2_ n3_;(try clear hb);(try clear hb2);(try clear hk);(try clear hi);(try clear ho0))|(go_at_call 29;(with_reducible refine (spec_TurningHours.calls kj23 _ _ t722 t723 t734 t735 _ ?side1 ?side2 A66.out).mono ?_);(case side1=>repeat (first|exact (zN HO725.out).2.2|(with_reducible refine zG ?_ _)|(with_reducible refine zH ?_ _)|(with_reducible refine zI ?_)));(case side2=>exact (zN HO725.out).2.1);rintro e w95 ⟨v736,rfl,ho0,hb⟩;have n0_:=zM (zP (by (with_reducible repeat (first|apply zA|apply zB|apply zC));exact HO725.out) hb);have n1_:=zM (Kd.R_elder' (by (with_reducible repeat (first|apply zA|apply zB|apply zC));exact HO729.out) (Kd.R_base ho0) hb);have n2_:=zM (Kd.R_elder' (by (with_reducible repeat (first|apply zA|apply zB|apply zC));exact HO733.out) (Kd.R_base ho0) hb);have n3_:=zM (Kd.R_lower (Kd.R_new' (Kd.R_new' ho0 (Kd.R_lt (by (with_reducible repeat (first|apply zA|apply zB|apply zC));exact HO729.out))) (Kd.R_lt (by (with_reducible repeat (first|apply zA|apply zB|apply zC));exact HO733.out))) (zR (by repeat (first|(with_reducible first|exact HB.out|apply zD|apply zE|apply zF)|exact HB.out))));have n4_:=zM (zQ (by repeat (first|(with_reducible first|exact HB.out|apply zD|apply zE|apply zF)|exact HB.out)) hb);clear HO725;clear HO729;clear HO733;clear HB;have HO725:=n0_;have HO729:=n1_;have HO733:=n2_;have HO737:=n3_;have HB:=n4_;clear n0_ n1_ n2_ n3_ n4_;(try clear hb);(try clear hb2);(try clear hk);(try clear hi);(try clear ho0);obtain ⟨Ao96,co96,eo96⟩:=Kd.R_slice HO729.out;subst eo96;obtain ⟨Ao97,co97,eo97⟩:=Kd.R_slice HO737.out;subst eo97)|(go_at_call 48;(with_reducible refine (laws_rInts.calls kj23 _ _ t726 _ _ t734 true _ ?side1 ?side2 ?side3 ?side4 A69.out).mono ?_);(case side1=>repeat (first|exact (zN HO729.out).2.2|(with_reducible refine zG ?_ _)|(with_reducible refine zH ?_ _)|(with_reducible refine zI ?_)));(case side2=>exact (zN HO729.out).2.1);(case side3=>repeat (first|exact (zN HO737.out).2.2|(with_reducible refine zG ?_ _)|(with_reducible refine zH ?_ _)|(with_reducible refine zI ?_)));(case side4=>exact (zN HO737.out).2.1);rintro e w' ⟨rfl,⟨nd,rfl⟩⟩;(try first|exact ⟨rfl,_,World.drewN_drewN _ _ _⟩|exact ⟨rfl,_,Eq.trans (World.drewN_drewN _ _ _) (congrArg (World.drewN _) (Nat.add_assoc _ _ _))⟩)))
              repeat (go_quiet (first|(go_at_call 47;(with_reducible refine (spec_DrawTurningHours.calls kj23 _ _ l0 t722 t723 _ ?side1 ?side2 A63.out).mono ?_);(case side1=>repeat (first|exact (zO HR0.out HB.out)|(with_reducible refine zG ?_ _)|(with_reducible refine zH ?_ _)|(with_reducible refine zI ?_)));(case side2=>exact HC0.out);rintro e w91 ⟨v724,rfl,ho0,hb⟩;have n0_:=zM (Kd.R_lower ho0 (zR (by repeat (first|(with_reducible first|exact HB.out|apply zD|apply zE|apply zF)|exact HB.out))));have n1_:=zM (zQ (by repeat (first|(with_reducible first|exact HB.out|apply zD|apply zE|apply zF)|exact HB.out)) hb);clear HB;have HO725:=n0_;have HB:=n1_;clear n0_ n1_;(try clear hb);(try clear hb2);(try clear hk);(try clear hi);(try clear ho0);obtain ⟨Ao92,co92,eo92⟩:=Kd.R_slice HO725.out;subst eo92)|(go_at_call 30;(with_reducible refine (impl_TurningHours.calls kj23 _ _ t722 t723 t726 false _ ?side1 ?side2 A64.out).mono ?_);(case side1=>repeat (first|exact (zN HO725.out).2.2|(with_reducible refine zG ?_ _)|(with_reducible refine zH ?_ _)|(with_reducible refine zI ?_)));(case side2=>exact (zN HO725.out).2.1);rintro e w93 ⟨v728,rfl,ho0,hb⟩;have n0_:=zM (zP (by (with_reducible repeat (first|apply zA|apply zB|apply zC));exact HO725.out) hb);have n1_:=zM (Kd.R_lower ho0 (zR (by repeat (first|(with_reducible first|exact HB.out|apply zD|apply zE|apply zF)|exact HB.out))));have n2_:=zM (zQ (by repeat (first|(with_reducible first|exact HB.out|apply zD|apply zE|apply zF)|exact HB.out)) hb);clear HO725;clear HB;have HO725:=n0_;have HO729:=n1_;have HB:=n2_;clear n0_ n1_ n2_;(try clear hb);(try clear hb2);(try clear hk);(try clear hi);(try clear ho0))|(go_at_call 30;(with_reducible refine (impl_TurningHours.calls kj23 _ _ t722 (!t723) t730 t731 _ ?side1 ?side2 A65.out).mono ?_);(case side1=>repeat (first|exact (zN HO725.out).2.2|(with_reducible refine zG ?_ _)|(with_reducible refine zH ?_ _)|(with_reducible refine zI ?_)));(case side2=>exact (zN HO725.out).2.1);rintro e w94 ⟨v732,rfl,ho0,hb⟩;have n0_:=zM (zP (by (with_reducible repeat (first|apply zA|apply zB|apply zC));exact HO725.out) hb);have n1_:=zM (Kd.R_elder' (by (with_reducible repeat (first|apply zA|apply zB|apply zC));exact HO729.out) (Kd.R_base ho0) hb);have n2_:=zM (Kd.R_lower (Kd.R_new' ho0 (Kd.R_lt (by (with_reducible repeat (first|apply zA|apply zB|apply zC));exact HO729.out))) (zR (by repeat (first|(with_reducible first|exact HB.out|apply zD|apply zE|apply zF)|exact HB.out))));have n3_:=zM (zQ (by repeat (first|(with_reducible first|exact HB.out|apply zD|apply zE|apply zF)|exact HB.out)) hb);clear HO725;clear HO729;clear HB;have HO725:=n0_;have HO729:=n1_;have HO733:=n2_;have HB:=n3_;clear n0_ n1_ n2_ n3_;(try clear hb);(try clear hb2);(try clear hk);(try clear hi);(try clear ho0))|(go_at_call 29;(with_reducible refine (spec_TurningHours.calls kj23 _ _ t722 t723 t734 t735 _ ?side1 ?side2 A66.out).mono ?_);(case side1=>repeat (first|exact (zN HO725.out).2.2|(with_reducible refine zG ?_ _)|(with_reducible refine zH ?_ _)|(with_reducible refine zI ?_)));(case side2=>exact (zN HO725.out).2.1);rintro e w95 ⟨v736,rfl,ho0,hb⟩;have n0_:=zM (zP (by (with_reducible repeat (first|apply zA|apply zB|apply zC));exact HO725.out) hb);have n1_:=zM (Kd.R_elder' (by (with_reducible repeat (first|apply zA|apply zB|apply zC));exact HO729.out) (Kd.R_base ho0) hb);have n2_:=zM (Kd.R_elder' (by (with_reducible repeat (first|apply zA|apply zB|apply zC));exact HO733.out) (Kd.R_base ho0) hb);have n3_:=zM (Kd.R_lower (Kd.R_new' (Kd.R_new' ho0 (Kd.R_lt (by (with_reducible repeat (first|apply zA|apply zB|apply zC));exact HO729.out))) (Kd.R_lt (by (with_reducible repeat (first|apply zA|apply zB|apply zC));exact HO733.out))) (zR (by repeat (first|(with_reducible first|exact HB.out|apply zD|apply zE|apply zF)|exact HB.out))));have n4_:=zM (zQ (by repeat (first|(with_reducible first|exact HB.out|apply zD|apply zE|apply zF)|exact HB.out)) hb);clear HO725;clear HO729;clear HO733;clear HB;have HO725:=n0_;have HO729:=n1_;have HO733:=n2_;have HO737:=n3_;have HB:=n4_;clear n0_ n1_ n2_ n3_ n4_;(try clear hb);(try clear hb2);(try clear hk);(try clear hi);(try clear ho0);obtain ⟨Ao96,co96,eo96⟩:=Kd.R_slice HO729.out;subst eo96;obtain ⟨Ao97,co97,eo97⟩:=Kd.R_slice HO737.out;subst eo97)|(go_at_call 48;(with_reducible refine (laws_rInts.calls kj23 _ _ t726 _ _ t734 true _ ?side1 ?side2 ?side3 ?side4 A69.out).mono ?_);(case side1=>repeat (first|exact (zN HO729.out).2.2|(with_reducible refine zG ?_ _)|(with_reducible refine zH ?_ _)|(with_reducible refine zI ?_)));(case side2=>exact (zN HO729.out).2.1);(case side3=>repeat (first|exact (zN HO737.out).2.2|(with_reducible refine zG ?_ _)|(with_reducible refine zH ?_ _)|(with_reducible refine zI ?_)));(case side4=>exact (zN HO737.out).2.1);rintro e w' ⟨rfl,⟨nd,rfl⟩⟩;(try first|exact ⟨rfl,_,World.drewN_drewN _ _ _⟩|exact ⟨rfl,_,Eq.trans (World.drewN_drewN _ _ _) (congrArg (World.drewN _) (Nat.add_assoc _ _ _))⟩)));try go_wp2_with (first|(go_at_call 47;(with_reducible refine (spec_DrawTurningHours.calls kj23 _ _ l0 t722 t723 _ ?side1 ?side2 A63.out).mono ?_);(case side1=>repeat (first|exact (zO HR0.out HB.out)|(with_reducible refine zG ?_ _)|(with_reducible refine zH ?_ _)|(with_reducible refine zI ?_)));(case side2=>exact HC0.out);rintro e w91 ⟨v724,rfl,ho0,hb⟩;have n0_:=zM (Kd.R_lower ho0 (zR (by repeat (first|(with_reducible first|exact HB.out|apply zD|apply zE|apply zF)|exact HB.out))));have n1_:=zM (zQ (by repeat (first|(with_reducible first|exact HB.out|apply zD|apply zE|apply zF)|exact HB.out)) hb);clear HB;have HO725:=n0_;have HB:=n1_;clear n0_ n1_;(try clear hb);(try clear hb2);(try clear hk);(try clear hi);(try clear ho0);obtain ⟨Ao92,co92,eo92⟩:=Kd.R_slice HO725.out;subst eo92)|(go_at_call 30;(with_reducible refine (impl_TurningHours.calls kj23 _ _ t722 t723 t726 false _ ?side1 ?side2 A64.out).mono ?_);(case side1=>repeat (first|exact (zN HO725.out).2.2|(with_reducible refine zG ?_ _)|(with_reducible refine zH ?_ _)|(with_reducible refine zI ?_)));(case side2=>exact (zN HO725.out).2.1);rintro e w93 ⟨v728,rfl,ho0,hb⟩;have n0_:=zM (zP (by (with_reducible repeat (first|apply zA|apply zB|apply zC));exact HO725.out) hb);have n1_:=zM (Kd.R_lower ho0 (zR (by repeat (first|(with_reducible first|exact HB.out|apply zD|apply zE|apply zF)|exact HB.out))));have n2_:=zM (zQ (by repeat (first|(with_reducible first|exact HB.out|apply zD|apply zE|apply zF)|exact HB.out)) hb);clear HO725;clear HB;have HO725:=n0_;have HO729:=n1_;have HB:=n2_;clear n0_ n1_ n2_;(try clear hb);(try clear hb2);(try clear hk);(try clear hi);(try clear ho0))|(go_at_call 30;(with_reducible refine (impl_TurningHours.calls kj23 _ _ t722 (!t723) t730 t731 _ ?side1 ?side2 A65.out).mono ?_);(case side1=>repeat (first|exact (zN HO725.out).2.2|(with_reducible refine zG ?_ _)|(with_reducible refine zH ?_ _)|(with_reducible refine zI ?_)));(case side2=>exact (zN HO725.out).2.1);rintro e w94 ⟨v732,rfl,ho0,hb⟩;have n0_:=zM (zP (by (with_reducible repeat (first|apply zA|apply zB|apply zC));exact HO725.out) hb);have n1_:=zM (Kd.R_elder' (by (with_reducible repeat (first|apply zA|apply zB|apply zC));exact HO729.out) (Kd.R_base ho0) hb);have n2_:=zM (Kd.R_lower (Kd.R_new' ho0 (Kd.R_lt (by (with_reducible repeat (first|apply zA|apply zB|apply zC));exact HO729.out))) (zR (by repeat (first|(with_reducible first|exact HB.out|apply zD|apply zE|apply zF)|exact HB.out))));have n3_:=zM (zQ (by repeat (first|(with_reducible first|exact HB.out|apply zD|apply zE|apply zF)|exact HB.out)) hb);clear HO725;clear HO729;clear HB;have HO725:=n0_;have HO729:=n1_;have HO733:=n2_;have HB:=n3_;clear n0_ n1_ n2_ n3_;(try clear hb);(try clear hb2);(try clear hk);(try clear hi);(try clear ho0))|(go_at_call 29;(with_reducible refine (spec_TurningHours.calls kj23 _ _ t722 t723 t734 t735 _ ?side1 ?side2 A66.out).mono ?_);(case side1=>repeat (first|exact (zN HO725.out).2.2|(with_reducible refine zG ?_ _)|(with_reducible refine zH ?_ _)|(with_reducible refine zI ?_)));(case side2=>exact (zN HO725.out).2.1);rintro e w95 ⟨v736,rfl,ho0,hb⟩;have n0_:=zM (zP (by (with_reducible repeat (first|apply zA|apply zB|apply zC));exact HO725.out) hb);have n1_:=zM (Kd.R_elder' (by (with_reducible repeat (first|apply zA|apply zB|apply zC));exact HO729.out) (Kd.R_base ho0) hb);have n2_:=zM (Kd.R_elder' (by (with_reducible repeat (first|apply zA|apply zB|apply zC));exact HO733.out) (Kd.R_base ho0) hb);have n3_:=zM (Kd.R_lower (Kd.R_new' (Kd.R_new' ho0 (Kd.R_lt (by (with_reducible repeat (first|apply zA|apply zB|apply zC));exact HO729.out))) (Kd.R_lt (by (with_reducible repeat (first|apply zA|apply zB|apply zC));exact HO733.out))) (zR (by repeat (first|(with_reducible first|exact HB.out|apply zD|apply zE|apply zF)|exact HB.out))));have n4_:=zM (zQ (by repeat (first|(with_reducible first|exact HB.out|apply zD|apply zE|apply zF)|exact HB.out)) hb);clear HO725;clear HO729;clear HO733;clear HB;have HO725:=n0_;have HO729:=n1_;have HO733:=n2_;have HO737:=n3_;have HB:=n4_;clear n0_ n1_ n2_ n3_ n4_;(try clear hb);(try clear hb2);(try clear hk);(try clear hi);(try clear ho0);obtain ⟨Ao96,co96,eo96⟩:=Kd.R_slice HO729.out;subst eo96;obtain ⟨Ao97,co97,eo97⟩:=Kd.R_slice HO737.out;subst eo97)|(go_at_call 48;(with_reducible refine (laws_rInts.calls kj23 _ _ t726 _ _ t734 true _ ?side1 ?side2 ?side3 ?side4 A69.out).mono ?_);(case side1=>repeat (first|exact (zN HO729.out).2.2|(with_reducible refine zG ?_ _)|(with_reducible refine zH ?_ _)|(with_reducible refine zI ?_)));(case side2=>exact (zN HO729.out).2.1);(case side3=>repeat (first|exact (zN HO737.out).2.2|(with_reducible refine zG ?_ _)|(with_reducible refine zH ?_ _)|(with_reducible refine zI ?_)));(case side4=>exact (zN HO737.out).2.1);rintro e w' ⟨rfl,⟨nd,rfl⟩⟩;(try first|exact ⟨rfl,_,World.drewN_drewN _ _ _⟩|exact ⟨rfl,_,Eq.trans (World.drewN_drewN _ _ _) (congrArg (World.drewN _) (Nat.add_assoc _ _ _))⟩))))
              go_ret
              exact ⟨by first|rfl|(simp [errW_none,errW_some] <;> rfl)|(simp [*,errW_none,errW_some] <;> rfl),by repeat (first|(with_reducible first|exact HB.out|apply zD|apply zE|apply zF)|exact HB.out)⟩
            ·as_aux_lemma =>
             replace c70:=Bool.eq_false_iff.mpr c70
             subst c70
             have H1 : (some false) = some r:=by rw [if_neg (show ¬ (false = true) by decide)] at H;exact H
             clear H
             have H:=H1
             clear H1
             obtain rfl:=Option.some.inj H
             go_wp2_with (first|(go_at_call 47;(with_reducible refine (spec_DrawTurningHours.calls kj23 _ _ l0 t722 t723 _ ?side1 ?side2 A63.out).mono ?_);(case side1=>repeat (first|exact (zO HR0.out HB.out)|(with_reducible refine zG ?_ _)|(with_reducible refine zH ?_ _)|(with_reducible refine zI ?_)));(case side2=>exact HC0.out);rintro e w98 ⟨v724,rfl,ho0,hb⟩;have n0_:=zM (Kd.R_lower ho0 (zR (by repeat (first|(with_reducible first|exact HB.out|apply zD|apply zE|apply zF)|exact HB.out))));have n1_:=zM (zQ (by repeat (first|(with_reducible first|exact HB.out|apply zD|apply zE|apply zF)|exact HB.out)) hb);clear HB;have HO725:=n0_;have HB:=n1_;clear n0_ n1_;(try clear hb);(try clear hb2);(try clear hk);(try clear hi);(try clear ho0);obtain ⟨Ao99,co99,eo99⟩:=Kd.R_slice HO725.out;subst eo99)|(go_at_call 30;(with_reducible refine (impl_TurningHours.calls kj23 _ _ t722 t723 t726 t727 _ ?side1 ?side2 A64.out).mono ?_);(case side1=>repeat (first|exact (zN HO725.out).2.2|(with_reducible refine zG ?_ _)|(with_reducible refine zH ?_ _)|(with_reducible refine zI ?_)));(case side2=>exact (zN HO725.out).2.1);rintro e w100 ⟨v728,rfl,ho0,hb⟩;have n0_:=zM (zP (by (with_reducible repeat (first|apply zA|apply zB|apply zC));exact HO725.out) hb);have n1_:=zM (Kd.R_lower ho0 (zR (by repeat (first|(with_reducible first|exact HB.out|apply zD|apply zE|apply zF)|exact HB.out))));have n2_:=zM (zQ (by repeat (first|(with_reducible first|exact HB.out|apply zD|apply zE|apply zF)|exact HB.out)) hb);clear HO725;clear HB;have HO725:=n0_;have HO729:=n1_;have HB:=n2_;clear n0_ n1_ n2_;(try clear hb);(try clear hb2);(try clear hk);(try clear hi);(try clear ho0))|(go_at_call 30;(with_reducible refine (impl_TurningHours.calls kj23 _ _ t722 (!t723) t730 t731 _ ?side1 ?side2 A65.out).mono ?_);(case side1=>repeat (first|exact (zN HO725.out).2.2|(with_reducible refine zG ?_ _)|(with_reducible refine zH ?_ _)|(with_reducible refine zI ?_)));(case side2=>exact (zN HO725.out).2.1);rintro e w101 ⟨v732,rfl,ho0,hb⟩;have n0_:=zM (zP (by (with_reducible repeat (first|apply zA|apply zB|apply zC));exact HO725.out) hb);have n1_:=zM (Kd.R_elder' (by (with_reducible repeat (first|apply zA|apply zB|apply zC));exact HO729.out) (Kd.R_base ho0) hb);have n2_:=zM (Kd.R_lower (Kd.R_new' ho0 (Kd.R_lt (by (with_reducible repeat (first|apply zA|apply zB|apply zC));exact HO729.out))) (zR (by repeat (first|(with_reducible first|exact HB.out|apply zD|apply zE|apply zF)|exact HB.out))));have n3_:=zM (zQ (by repeat (first|(with_reducible first|exact HB.out|apply zD|apply zE|apply zF)|exact HB.out)) hb);clear HO725;clear HO729;clear HB;have HO725:=n0_;have HO729:=n1_;have HO733:=n2_;have HB:=n3_;clear n0_ n1_ n2_ n3_;(try clear hb);(try clear hb2);(try clear hk);(try clear hi);(try clear ho0))|(go_at_call 29;(with_reducible refine (spec_TurningHours.calls kj23 _ _ t722 t723 t734 t735 _ ?side1 ?side2 A66.out).mono ?_);(case side1=>repeat (first|exact (zN HO725.out).2.2|(with_reducible refine zG ?_ _)|(with_reducible refine zH ?_ _)|(with_reducible refine zI ?_)));(case side2=>exact (zN HO725.out).2.1);rintro e w102 ⟨v736,rfl,ho0,hb⟩;have n0_:=zM (zP (by (with_reducible repeat (first|apply zA|apply zB|apply zC));exact HO725.out) hb);have n1_:=zM (Kd.R_elder' (by (with_reducible repeat (first|apply zA|apply zB|apply zC));exact HO729.out) (Kd.R_base ho0) hb);have n2_:=zM (Kd.R_elder' (by (with_reducible repeat (first|apply zA|apply zB|apply zC));exact HO733.out) (Kd.R_base ho0) hb);have n3_:=zM (Kd.R_lower (Kd.R_new' (Kd.R_new' ho0 (Kd.R_lt (by (with_reducible repeat (first|apply zA|apply zB|apply zC));exact HO729.out))) (Kd.R_lt (by (with_reducible repeat (first|apply zA|apply zB|apply zC));exact HO733.out))) (zR (by repeat (first|(with_reducible first|exact HB.out|apply zD|apply zE|apply zF)|exact HB.out))));have n4_:=zM (zQ (by repeat (first|(with_reducible first|exact HB.out|apply zD|apply zE|apply zF)|exact HB.out)) hb);clear HO725;clear HO729;clear HO733;clear HB;have HO725:=n0_;have HO729:=n1_;have HO733:=n2_;have HO737:=n3_;have HB:=n4_;clear n0_ n1_ n2_ n3_ n4_;(try clear hb);(try clear hb2);(try clear hk);(try clear hi);(try clear ho0);obtain ⟨Ao103,co103,eo103⟩:=Kd.R_slice HO729.out;subst eo103;obtain ⟨Ao104,co104,eo104⟩:=Kd.R_slice HO737.out;subst eo104)|(go_at_call 48;(with_reducible refine (laws_rInts.calls kj23 _ _ t726 _ _ t734 false _ ?side1 ?side2 ?side3 ?side4 A69.out).mono ?_);(case side1=>repeat (first|exact (zN HO729.out).2.2|(with_reducible refine zG ?_ _)|(with_reducible refine zH ?_ _)|(with_reducible refine zI ?_)));(case side2=>exact (zN HO729.out).2.1);(case side3=>repeat (first|exact (zN HO737.out).2.2|(with_reducible refine zG ?_ _)|(with_reducible refine zH ?_ _)|(with_reducible refine zI ?_)));(case side4=>exact (zN HO737.out).2.1);rintro e w' ⟨rfl,⟨nd,rfl⟩⟩;(try first|exact ⟨rfl,_,World.drewN_drewN _ _ _⟩|exact ⟨rfl,_,Eq.trans (World.drewN_drewN _ _ _) (congrArg (World.drewN _) (Nat.add_assoc _ _ _))⟩)))
             repeat (go_quiet (first|(go_at_call 47;(with_reducible refine (spec_DrawTurningHours.calls kj23 _ _ l0 t722 t723 _ ?side1 ?side2 A63.out).mono ?_);(case side1=>repeat (first|exact (zO HR0.out HB.out)|(with_reducible refine zG ?_ _)|(with_reducible refine zH ?_ _)|(with_reducible refine zI ?_)));(case side2=>exact HC0.out);rintro e w98 ⟨v724,rfl,ho0,hb⟩;have n0_:=zM (Kd.R_lower ho0 (zR (by repeat (first|(with_reducible first|exact HB.out|apply zD|apply zE|apply zF)|exact HB.out))));have n1_:=zM (zQ (by repeat (first|(with_reducible first|exact HB.out|apply zD|apply zE|apply zF)|exact HB.out)) hb);clear HB;have HO725:=n0_;have HB:=n1_;clear n0_ n1_;(try clear hb);(try clear hb2);(try clear hk);(try clear hi);(try clear ho0);obtain ⟨Ao99,co99,eo99⟩:=Kd.R_slice HO725.out;subst eo99)|(go_at_call 30;(with_reducible refine (impl_TurningHours.calls kj23 _ _ t722 t723 t726 t727 _ ?side1 ?side2 A64.out).mono ?_);(case side1=>repeat (first|exact (zN HO725.out).2.2|(with_reducible refine zG ?_ _)|(with_reducible refine zH ?_ _)|(with_reducible refine zI ?_)));(case side2=>exact (zN HO725.out).2.1);rintro e w100 ⟨v728,rfl,ho0,hb⟩;have n0_:=zM (zP (by (with_reducible repeat (first|apply zA|apply zB|apply zC));exact HO725.out) hb);have n1_:=zM (Kd.R_lower ho0 (zR (by repeat (first|(with_reducible first|exact HB.out|apply zD|apply zE|apply zF)|exact HB.out))));have n2_:=zM (zQ (by repeat (first|(with_reducible first|exact HB.out|apply zD|apply zE|apply zF)|exact HB.out)) hb);clear HO725;clear HB;have HO725:=n0_;have HO729:=n1_;have HB:=n2_;clear n0_ n1_ n2_;(try clear hb);(try clear hb2);(try clear hk);(try clear hi);(try clear ho0))|(go_at_call 30;(with_reducible refine (impl_TurningHours.calls kj23 _ _ t722 (!t723) t730 t731 _ ?side1 ?side2 A65.out).mono ?_);(case side1=>repeat (first|exact (zN HO725.out).2.2|(with_reducible refine zG ?_ _)|(with_reducible refine zH ?_ _)|(with_reducible refine zI ?_)));(case side2=>exact (zN HO725.out).2.1);rintro e w101 ⟨v732,rfl,ho0,hb⟩;have n0_:=zM (zP (by (with_reducible repeat (first|apply zA|apply zB|apply zC));exact HO725.out) hb);have n1_:=zM (Kd.R_elder' (by (with_reducible repeat (first|apply zA|apply zB|apply zC));exact HO729.out) (Kd.R_base ho0) hb);have n2_:=zM (Kd.R_lower (Kd.R_new' ho0 (Kd.R_lt (by (with_reducible repeat (first|apply zA|apply zB|apply zC));exact HO729.out))) (zR (by repeat (first|(with_reducible first|exact HB.out|apply zD|apply zE|apply zF)|exact HB.out))));have n3_:=zM (zQ (by repeat (first|(with_reducible first|exact HB.out|apply zD|apply zE|apply zF)|exact HB.out)) hb);clear HO725;clear HO729;clear HB;have HO725:=n0_;have HO729:=n1_;have HO733:=n2_;have HB:=n3_;clear n0_ n1_ n2_ n3_;(try clear hb);(try clear hb2);(try clear hk);(try clear hi);(try clear ho0))|(go_at_call 29;(with_reducible refine (spec_TurningHours.calls kj23 _ _ t722 t723 t734 t735 _ ?side1 ?side2 A66.out).mono ?_);(case side1=>repeat (first|exact (zN HO725.out).2.2|(with_reducible refine zG ?_ _)|(with_reducible refine zH ?_ _)|(with_reducible refine zI ?_)));(case side2=>exact (zN HO725.out).2.1);rintro e w102 ⟨v736,rfl,ho0,hb⟩;have n0_:=zM (zP (by (with_reducible repeat (first|apply zA|apply zB|apply zC));exact HO725.out) hb);have n1_:=zM (Kd.R_elder' (by (with_reducible repeat (first|apply zA|apply zB|apply zC));exact HO729.out) (Kd.R_base ho0) hb);have n2_:=zM (Kd.R_elder' (by (with_reducible repeat (first|apply zA|apply zB|apply zC));exact HO733.out) (Kd.R_base ho0) hb);have n3_:=zM (Kd.R_lower (Kd.R_new' (Kd.R_new' ho0 (Kd.R_lt (by (with_reducible repeat (first|apply zA|apply zB|apply zC));exact HO729.out))) (Kd.R_lt (by (with_reducible repeat (first|apply zA|apply zB|apply zC));exact HO733.out))) (zR (by repeat (first|(with_reducible first|exact HB.out|apply zD|apply zE|apply zF)|exact HB.out))));have n4_:=zM (zQ (by repeat (first|(with_reducible first|exact HB.out|apply zD|apply zE|apply zF)|exact HB.out)) hb);clear HO725;clear HO729;clear HO733;clear HB;have HO725:=n0_;have HO729:=n1_;have HO733:=n2_;have HO737:=n3_;have HB:=n4_;clear n0_ n1_ n2_ n3_ n4_;(try clear hb);(try clear hb2);(try clear hk);(try clear hi);(try clear ho0);obtain ⟨Ao103,co103,eo103⟩:=Kd.R_slice HO729.out;subst eo103;obtain ⟨Ao104,co104,eo104⟩:=Kd.R_slice HO737.out;subst eo104)|(go_at_call 48;(with_reducible refine (laws_rInts.calls kj23 _ _ t726 _ _ t734 false _ ?side1 ?side2 ?side3 ?side4 A69.out).mono ?_);(case side1=>repeat (first|exact (zN HO729.out).2.2|(with_reducible refine zG ?_ _)|(with_reducible refine zH ?_ _)|(with_reducible refine zI ?_)));(case side2=>exact (zN HO729.out).2.1);(case side3=>repeat (first|exact (zN HO737.out).2.2|(with_reducible refine zG ?_ _)|(with_reducible refine zH ?_ _)|(with_reducible refine zI ?_)));(case side4=>exact (zN HO737.out).2.1);rintro e w' ⟨rfl,⟨nd,rfl⟩⟩;(try first|exact ⟨rfl,_,World.drewN_drewN _ _ _⟩|exact ⟨rfl,_,Eq.trans (World.drewN_drewN _ _ _) (congrArg (World.drewN _) (Nat.add_assoc _ _ _))⟩)));try go_wp2_with (first|(go_at_call 47;(with_reducible refine (spec_DrawTurningHours.calls kj23 _ _ l0 t722 t723 _ ?side1 ?side2 A63.out).mono ?_);(case side1=>repeat (first|exact (zO HR0.out HB.out)|(with_reducible refine zG ?_ _)|(with_reducible refine zH ?_ _)|(with_reducible refine zI ?_)));(case side2=>exact HC0.out);rintro e w98 ⟨v724,rfl,ho0,hb⟩;have n0_:=zM (Kd.R_lower ho0 (zR (by repeat (first|(with_reducible first|exact HB.out|apply zD|apply zE|apply zF)|exact HB.out))));have n1_:=zM (zQ (by repeat (first|(with_reducible first|exact HB.out|apply zD|apply zE|apply zF)|exact HB.out)) hb);clear HB;have HO725:=n0_;have HB:=n1_;clear n0_ n1_;(try clear hb);(try clear hb2);(try clear hk);(try clear hi);(try clear ho0);obtain ⟨Ao99,co99,eo99⟩:=Kd.R_slice HO725.out;subst eo99)|(go_at_call 30;(with_reducible refine (impl_TurningHours.calls kj23 _ _ t722 t723 t726 t727 _ ?side1 ?side2 A64.out).mono ?_);(case side1=>repeat (first|exact (zN HO725.out).2.2|(with_reducible refine zG ?_ _)|(with_reducible refine zH ?_ _)|(with_reducible refine zI ?_)));(case side2=>exact (zN HO725.out).2.1);rintro e w100 ⟨v728,rfl,ho0,hb⟩;have n0_:=zM (zP (by (with_reducible repeat (first|apply zA|apply zB|apply zC));exact HO725.out) hb);have n1_:=zM (Kd.R_lower ho0 (zR (by repeat (first|(with_reducible first|exact HB.out|apply zD|apply zE|apply zF)|exact HB.out))));have n2_:=zM (zQ (by repeat (first|(with_reducible first|exact HB.out|apply zD|apply zE|apply zF)|exact HB.out)) hb);clear HO725;clear HB;have HO725:=n0_;have HO729:=n1_;have HB:=n2_;clear n0_ n1_ n2_;(try clear hb);(try clear hb2);(try clear hk);(try clear hi);(try clear ho0))|(go_at_call 30;(with_reducible refine (impl_TurningHours.calls kj23 _ _ t722 (!t723) t730 t731 _ ?side1 ?side2 A65.out).mono ?_);(case side1=>repeat (first|exact (zN HO725.out).2.2|(with_reducible refine zG ?_ _)|(with_reducible refine zH ?_ _)|(with_reducible refine zI ?_)));(case side2=>exact (zN HO725.out).2.1);rintro e w101 ⟨v732,rfl,ho0,hb⟩;have n0_:=zM (zP (by (with_reducible repeat (first|apply zA|apply zB|apply zC));exact HO725.out) hb);have n1_:=zM (Kd.R_elder' (by (with_reducible repeat (first|apply zA|apply zB|apply zC));exact HO729.out) (Kd.R_base ho0) hb);have n2_:=zM (Kd.R_lower (Kd.R_new' ho0 (Kd.R_lt (by (with_reducible repeat (first|apply zA|apply zB|apply zC));exact HO729.out))) (zR (by repeat (first|(with_reducible first|exact HB.out|apply zD|apply zE|apply zF)|exact HB.out))));have n3_:=zM (zQ (by repeat (first|(with_reducible first|exact HB.out|apply zD|apply zE|apply zF)|exact HB.out)) hb);clear HO725;clear HO729;clear HB;have HO725:=n0_;have HO729:=n1_;have HO733:=n2_;have HB:=n3_;clear n0_ n1_ n2_ n3_;(try clear hb);(try clear hb2);(try clear hk);(try clear hi);(try clear ho0))|(go_at_call 29;(with_reducible refine (spec_TurningHours.calls kj23 _ _ t722 t723 t734 t735 _ ?side1 ?side2 A66.out).mono ?_);(case side1=>repeat (first|exact (zN HO725.out).2.2|(with_reducible refine zG ?_ _)|(with_reducible refine zH ?_ _)|(with_reducible refine zI ?_)));(case side2=>exact (zN HO725.out).2.1);rintro e w102 ⟨v736,rfl,ho0,hb⟩;have n0_:=zM (zP (by (with_reducible repeat (first|apply zA|apply zB|apply zC));exact HO725.out) hb);have n1_:=zM (Kd.R_elder' (by (with_reducible repeat (first|apply zA|apply zB|apply zC));exact HO729.out) (Kd.R_base ho0) hb);have n2_:=zM (Kd.R_elder' (by (with_reducible repeat (first|apply zA|apply zB|apply zC));exact HO733.out) (Kd.R_base ho0) hb);have n3_:=zM (Kd.R_lower (Kd.R_new' (Kd.R_new' ho0 (Kd.R_lt (by (with_reducible repeat (first|apply zA|apply zB|apply zC));exact HO729.out))) (Kd.R_lt (by (with_reducible repeat (first|apply zA|apply zB|apply zC));exact HO733.out))) (zR (by repeat (first|(with_reducible first|exact HB.out|apply zD|apply zE|apply zF)|exact HB.out))));have n4_:=zM (zQ (by repeat (first|(with_reducible first|exact HB.out|apply zD|apply zE|apply zF)|exact HB.out)) hb);clear HO725;clear HO729;clear HO733;clear HB;have HO725:=n0_;have HO729:=n1_;have HO733:=n2_;have HO737:=n3_;have HB:=n4_;clear n0_ n1_ n2_ n3_ n4_;(try clear hb);(try clear hb2);(try clear hk);(try clear hi);(try clear ho0);obtain ⟨Ao103,co103,eo103⟩:=Kd.R_slice HO729.out;subst eo103;obtain ⟨Ao104,co104,eo104⟩:=Kd.R_slice HO737.out;subst eo104)|(go_at_call 48;(with_reducible refine (laws_rInts.calls kj23 _ _ t726 _ _ t734 false _ ?side1 ?side2 ?side3 ?side4 A69.out).mono ?_);(case side1=>repeat (first|exact (zN HO729.out).2.2|(with_reducible refine zG ?_ _)|(with_reducible refine zH ?_ _)|(with_reducible refine zI ?_)));(case side2=>exact (zN HO729.out).2.1);(case side3=>repeat (first|exact (zN HO737.out).2.2|(with_reducible refine zG ?_ _)|(with_reducible refine zH ?_ _)|(with_reducible refine zI ?_)));(case side4=>exact (zN HO737.out).2.1);rintro e w' ⟨rfl,⟨nd,rfl⟩⟩;(try first|exact ⟨rfl,_,World.drewN_drewN _ _ _⟩|exact ⟨rfl,_,Eq.trans (World.drewN_drewN _ _ _) (congrArg (World.drewN _) (Nat.add_assoc _ _ _))⟩))))
             go_ret
             exact ⟨by first|rfl|(simp [errW_none,errW_some] <;> rfl)|(simp [*,errW_none,errW_some] <;> rfl),by repeat (first|(with_reducible first|exact HB.out|apply zD|apply zE|apply zF)|exact HB.out)⟩
           ·as_aux_lemma =>
            rw [if_neg c68] at H
            have c68b0 : (t731 == t735) = false:=by simpa using c68
            (try (have c68b1 : decide (t731 = t735) = false:=by simpa using c68))
            (try (have c68b2 : (t731 == t735) = false:=by simpa using c68))
            (try (have c68b3 : ¬ (t731 = t735):=by simpa using c68))
            clear c68
            obtain rfl:=Option.some.inj H
            go_wp2_with (first|(go_at_call 47;(with_reducible refine (spec_DrawTurningHours.calls kj23 _ _ l0 t722 t723 _ ?side1 ?side2 A63.out).mono ?_);(case side1=>repeat (first|exact (zO HR0.out HB.out)|(with_reducible refine zG ?_ _)|(with_reducible refine zH ?_ _)|(with_reducible refine zI ?_)));(case side2=>exact HC0.out);rintro e w105 ⟨v724,rfl,ho0,hb⟩;have n0_:=zM (Kd.R_lower ho0 (zR (by repeat (first|(with_reducible first|exact HB.out|apply zD|apply zE|apply zF)|exact HB.out))));have n1_:=zM (zQ (by repeat (first|(with_reducible first|exact HB.out|apply zD|apply zE|apply zF)|exact HB.out)) hb);clear HB;have HO725:=n0_;have HB:=n1_;clear n0_ n1_;(try clear hb);(try clear hb2);(try clear hk);(try clear hi);(try clear ho0);obtain ⟨Ao106,co106,eo106⟩:=Kd.R_slice HO725.out;subst eo106)|(go_at_call 30;(with_reducible refine (impl_TurningHours.calls kj23 _ _ t722 t723 t726 t727 _ ?side1 ?side2 A64.out).mono ?_);(case side1=>repeat (first|exact (zN HO725.out).2.2|(with_reducible refine zG ?_ _)|(with_reducible refine zH ?_ _)|(with_reducible refine zI ?_)));(case side2=>exact (zN HO725.out).2.1);rintro e w107 ⟨v728,rfl,ho0,hb⟩;have n0_:=zM (zP (by (with_reducible repeat (first|apply zA|apply zB|apply zC));exact HO725.out) hb);have n1_:=zM (Kd.R_lower ho0 (zR (by repeat (first|(with_reducible first|exact HB.out|apply zD|apply zE|apply zF)|exact HB.out))));have n2_:=zM (zQ (by repeat (first|(with_reducible first|exact HB.out|apply zD|apply zE|apply zF)|exact HB.out)) hb);clear HO725;clear HB;have HO725:=n0_;have HO729:=n1_;have HB:=n2_;clear n0_ n1_ n2_;(try clear hb);(try clear hb2);(try clear hk);(try clear hi);(try clear ho0))|(go_at_call 30;(with_reducible refine (impl_TurningHours.calls kj23 _ _ t722 (!t723) t730 t731 _ ?side1 ?side2 A65.out).mono ?_);(case side1=>repeat (first|exact (zN HO725.out).2.2|(with_reducible refine zG ?_ _)|(with_reducible refine zH ?_ _)|(with_reducible refine zI ?_)));(case side2=>exact (zN HO725.out).2.1);rintro e w108 ⟨v732,rfl,ho0,hb⟩;have n0_:=zM (zP (by (with_reducible repeat (first|apply zA|apply zB|apply zC));exact HO725.out) hb);have n1_:=zM (Kd.R_elder' (by (with_reducible repeat (first|apply zA|apply zB|apply zC));exact HO729.out) (Kd.R_base ho0) hb);have n2_:=zM (Kd.R_lower (Kd.R_new' ho0 (Kd.R_lt (by (with_reducible repeat (first|apply zA|apply zB|apply zC));exact HO729.out))) (zR (by repeat (first|(with_reducible first|exact HB.out|apply zD|apply zE|apply zF)|exact HB.out))));have n3_:=zM (zQ (by repeat (first|(with_reducible first|exact HB.out|apply zD|apply zE|apply zF)|exact HB.out)) hb);clear HO725;clear HO729;clear HB;have HO725:=n0_;have HO729:=n1_;have HO733:=n2_;have HB:=n3_;clear n0_ n1_ n2_ n3_;(try clear hb);(try clear hb2);(try clear hk);(try clear hi);(try clear ho0))|(go_at_call 29;(with_reducible refine (spec_TurningHours.calls kj23 _ _ t722 t723 t734 t735 _ ?side1 ?side2 A66.out).mono ?_);(case side1=>repeat (first|exact (zN HO725.out).2.2|(with_reducible refine zG ?_ _)|(with_reducible refine zH ?_ _)|(with_reducible refine zI ?_)));(case side2=>exact (zN HO725.out).2.1);rintro e w109 ⟨v736,rfl,ho0,hb⟩;have n0_:=zM (zP (by (with_reducible repeat (first|apply zA|apply zB|apply zC));exact HO725.out) hb);have n1_:=zM (Kd.R_elder' (by (with_reducible repeat (first|apply zA|apply zB|apply zC));exact HO729.out) (Kd.R_base ho0) hb);have n2_:=zM (Kd.R_elder' (by (with_reducible repeat (first|apply zA|apply zB|apply zC));exact HO733.out) (Kd.R_base ho0) hb);have n3_:=zM (Kd.R_lower (Kd.R_new' (Kd.R_new' ho0 (Kd.R_lt (by (with_reducible repeat (first|apply zA|apply zB|apply zC));exact HO729.out))) (Kd.R_lt (by (with_reducible repeat (first|apply zA|apply zB|apply zC));exact HO733.out))) (zR (by repeat (first|(with_reducible first|exact HB.out|apply zD|apply zE|apply zF)|exact HB.out))));have n4_:=zM (zQ (by repeat (first|(with_reducible first|exact HB.out|apply zD|apply zE|apply zF)|exact HB.out)) hb);clear HO725;clear HO729;clear HO733;clear HB;have HO725:=n0_;have HO729:=n1_;have HO733:=n2_;have HO737:=n3_;have HB:=n4_;clear n0_ n1_ n2_ n3_ n4_;(try clear hb);(try clear hb2);(try clear hk);(try clear hi);(try clear ho0)))
            repeat (go_quiet (first|(go_at_call 47;(with_reducible refine (spec_DrawTurningHours.calls kj23 _ _ l0 t722 t723 _ ?side1 ?side2 A63.out).mono ?_);(case side1=>repeat (first|exact (zO HR0.out HB.out)|(with_reducible refine zG ?_ _)|(with_reducible refine zH ?_ _)|(with_reducible refine zI ?_)));(case side2=>exact HC0.out);rintro e w105 ⟨v724,rfl,ho0,hb⟩;have n0_:=zM (Kd.R_lower ho0 (zR (by repeat (first|(with_reducible first|exact HB.out|apply zD|apply zE|apply zF)|exact HB.out))));have n1_:=zM (zQ (by repeat (first|(with_reducible first|exact HB.out|apply zD|apply zE|apply zF)|exact HB.out)) hb);clear HB;have HO725:=n0_;have HB:=n1_;clear n0_ n1_;(try clear hb);(try clear hb2);(try clear hk);(try clear hi);(try clear ho0);obtain ⟨Ao106,co106,eo106⟩:=Kd.R_slice HO725.out;subst eo106)|(go_at_call 30;(with_reducible refine (impl_TurningHours.calls kj23 _ _ t722 t723 t726 t727 _ ?side1 ?side2 A64.out).mono ?_);(case side1=>repeat (first|exact (zN HO725.out).2.2|(with_reducible refine zG ?_ _)|(with_reducible refine zH ?_ _)|(with_reducible refine zI ?_)));(case side2=>exact (zN HO725.out).2.1);rintro e w107 ⟨v728,rfl,ho0,hb⟩;have n0_:=zM (zP (by (with_reducible repeat (first|apply zA|apply zB|apply zC));exact HO725.out) hb);have n1_:=zM (Kd.R_lower ho0 (zR (by repeat (first|(with_reducible first|exact HB.out|apply zD|apply zE|apply zF)|exact HB.out))));have n2_:=zM (zQ (by repeat (first|(with_reducible first|exact HB.out|apply zD|apply zE|apply zF)|exact HB.out)) hb);clear HO725;clear HB;have HO725:=n0_;have HO729:=n1_;have HB:=n2_;clear n0_ n1_ n2_;(try clear hb);(try clear hb2);(try clear hk);(try clear hi);(try clear ho0))|(go_at_call 30;(with_reducible refine (impl_TurningHours.calls kj23 _ _ t722 (!t723) t730 t731 _ ?side1 ?side2 A65.out).mono ?_);(case side1=>repeat (first|exact (zN HO725.out).2.2|(with_reducible refine zG ?_ _)|(with_reducible refine zH ?_ _)|(with_reducible refine zI ?_)));(case side2=>exact (zN HO725.out).2.1);rintro e w108 ⟨v732,rfl,ho0,hb⟩;have n0_:=zM (zP (by (with_reducible repeat (first|apply zA|apply zB|apply zC));exact HO725.out) hb);have n1_:=zM (Kd.R_elder' (by (with_reducible repeat (first|apply zA|apply zB|apply zC));exact HO729.out) (Kd.R_base ho0) hb);have n2_:=zM (Kd.R_lower (Kd.R_new' ho0 (Kd.R_lt (by (with_reducible repeat (first|apply zA|apply zB|apply zC));exact HO729.out))) (zR (by repeat (first|(with_reducible first|exact HB.out|apply zD|apply zE|apply zF)|exact HB.out))));have n3_:=zM (zQ (by repeat (first|(with_reducible first|exact HB.out|apply zD|apply zE|apply zF)|exact HB.out)) hb);clear HO725;clear HO729;clear HB;have HO725:=n0_;have HO729:=n1_;have HO733:=n2_;have HB:=n3_;clear n0_ n1_ n2_ n3_;(try clear hb);(try clear hb2);(try clear hk);(try clear hi);(try clear ho0))|(go_at_call 29;(with_reducible refine (spec_TurningHours.calls kj23 _ _ t722 t723 t734 t735 _ ?side1 ?side2 A66.out).mono ?_);(case side1=>repeat (first|exact (zN HO725.out).2.2|(with_reducible refine zG ?_ _)|(with_reducible refine zH ?_ _)|(with_reducible refine zI ?_)));(case side2=>exact (zN HO725.out).2.1);rintro e w109 ⟨v736,rfl,ho0,hb⟩;have n0_:=zM (zP (by (with_reducible repeat (first|apply zA|apply zB|apply zC));exact HO725.out) hb);have n1_:=zM (Kd.R_elder' (by (with_reducible repeat (first|apply zA|apply zB|apply zC));exact HO729.out) (Kd.R_base ho0) hb);have n2_:=zM (Kd.R_elder' (by (with_reducible repeat (first|apply zA|apply zB|apply zC));exact HO733.out) (Kd.R_base ho0) hb);have n3_:=zM (Kd.R_lower (Kd.R_new' (Kd.R_new' ho0 (Kd.R_lt (by (with_reducible repeat (first|apply zA|apply zB|apply zC));exact HO729.out))) (Kd.R_lt (by (with_reducible repeat (first|apply zA|apply zB|apply zC));exact HO733.out))) (zR (by repeat (first|(with_reducible first|exact HB.out|apply zD|apply zE|apply zF)|exact HB.out))));have n4_:=zM (zQ (by repeat (first|(with_reducible first|exact HB.out|apply zD|apply zE|apply zF)|exact HB.out)) hb);clear HO725;clear HO729;clear HO733;clear HB;have HO725:=n0_;have HO729:=n1_;have HO733:=n2_;have HO737:=n3_;have HB:=n4_;clear n0_ n1_ n2_ n3_ n4_;(try clear hb);(try clear hb2);(try clear hk);(try clear hi);(try clear ho0)));try go_wp2_with (first|(go_at_call 47;(with_reducible refine (spec_DrawTurningHours.calls kj23 _ _ l0 t722 t723 _ ?side1 ?side2 A63.out).mono ?_);(case side1=>repeat (first|exact (zO HR0.out HB.out)|(with_reducible refine zG ?_ _)|(with_reducible refine zH ?_ _)|(with_reducible refine zI ?_)));(case side2=>exact HC0.out);rintro e w105 ⟨v724,rfl,ho0,hb⟩;have n0_:=zM (Kd.R_lower ho0 (zR (by repeat (first|(with_reducible first|exact HB.out|apply zD|apply zE|apply zF)|exact HB.out))));have n1_:=zM (zQ (by repeat (first|(with_reducible first|exact HB.out|apply zD|apply zE|apply zF)|exact HB.out)) hb);clear HB;have HO725:=n0_;have HB:=n1_;clear n0_ n1_;(try clear hb);(try clear hb2);(try clear hk);(try clear hi);(try clear ho0);obtain ⟨Ao106,co106,eo106⟩:=Kd.R_slice HO725.out;subst eo106)|(go_at_call 30;(with_reducible refine (impl_TurningHours.calls kj23 _ _ t722 t723 t726 t727 _ ?side1 ?side2 A64.out).mono ?_);(case side1=>repeat (first|exact (zN HO725.out).2.2|(with_reducible refine zG ?_ _)|(with_reducible refine zH ?_ _)|(with_reducible refine zI ?_)));(case side2=>exact (zN HO725.out).2.1);rintro e w107 ⟨v728,rfl,ho0,hb⟩;have n0_:=zM (zP (by (with_reducible repeat (first|apply zA|apply zB|apply zC));exact HO725.out) hb);have n1_:=zM (Kd.R_lower ho0 (zR (by repeat (first|(with_reducible first|exact HB.out|apply zD|apply zE|apply zF)|exact HB.out))));have n2_:=zM (zQ (by repeat (first|(with_reducible first|exact HB.out|apply zD|apply zE|apply zF)|exact HB.out)) hb);clear HO725;clear HB;have HO725:=n0_;have HO729:=n1_;have HB:=n2_;clear n0_ n1_ n2_;(try clear hb);(try clear hb2);(try clear hk);(try clear hi);(try clear ho0))|(go_at_call 30;(with_reducible refine (impl_TurningHours.calls kj23 _ _ t722 (!t723) t730 t731 _ ?side1 ?side2 A65.out).mono ?_);(case side1=>repeat (first|exact (zN HO725.out).2.2|(with_reducible refine zG ?_ _)|(with_reducible refine zH ?_ _)|(with_reducible refine zI ?_)));(case side2=>exact (zN HO725.out).2.1);rintro e w108 ⟨v732,rfl,ho0,hb⟩;have n0_:=zM (zP (by (with_reducible repeat (first|apply zA|apply zB|apply zC));exact HO725.out) hb);have n1_:=zM (Kd.R_elder' (by (with_reducible repeat (first|apply zA|apply zB|apply zC));exact HO729.out) (Kd.R_base ho0) hb);have n2_:=zM (Kd.R_lower (Kd.R_new' ho0 (Kd.R_lt (by (with_reducible repeat (first|apply zA|apply zB|apply zC));exact HO729.out))) (zR (by repeat (first|(with_reducible first|exact HB.out|apply zD|apply zE|apply zF)|exact HB.out))));have n3_:=zM (zQ (by repeat (first|(with_reducible first|exact HB.out|apply zD|apply zE|apply zF)|exact HB.out)) hb);clear HO725;clear HO729;clear HB;have HO725:=n0_;have HO729:=n1_;have HO733:=n2_;have HB:=n3_;clear n0_ n1_ n2_ n3_;(try clear hb);(try clear hb2);(try clear hk);(try clear hi);(try clear ho0))|(go_at_call 29;(with_reducible refine (spec_TurningHours.calls kj23 _ _ t722 t723 t734 t735 _ ?side1 ?side2 A66.out).mono ?_);(case side1=>repeat (first|exact (zN HO725.out).2.2|(with_reducible refine zG ?_ _)|(with_reducible refine zH ?_ _)|(with_reducible refine zI ?_)));(case side2=>exact (zN HO725.out).2.1);rintro e w109 ⟨v736,rfl,ho0,hb⟩;have n0_:=zM (zP (by (with_reducible repeat (first|apply zA|apply zB|apply zC));exact HO725.out) hb);have n1_:=zM (Kd.R_elder' (by (with_reducible repeat (first|apply zA|apply zB|apply zC));exact HO729.out) (Kd.R_base ho0) hb);have n2_:=zM (Kd.R_elder' (by (with_reducible repeat (first|apply zA|apply zB|apply zC));exact HO733.out) (Kd.R_base ho0) hb);have n3_:=zM (Kd.R_lower (Kd.R_new' (Kd.R_new' ho0 (Kd.R_lt (by (with_reducible repeat (first|apply zA|apply zB|apply zC));exact HO729.out))) (Kd.R_lt (by (with_reducible repeat (first|apply zA|apply zB|apply zC));exact HO733.out))) (zR (by repeat (first|(with_reducible first|exact HB.out|apply zD|apply zE|apply zF)|exact HB.out))));have n4_:=zM (zQ (by repeat (first|(with_reducible first|exact HB.out|apply zD|apply zE|apply zF)|exact HB.out)) hb);clear HO725;clear HO729;clear HO733;clear HB;have HO725:=n0_;have HO729:=n1_;have HO733:=n2_;have HO737:=n3_;have HB:=n4_;clear n0_ n1_ n2_ n3_ n4_;(try clear hb);(try clear hb2);(try clear hk);(try clear hi);(try clear ho0))))
            go_ret
            exact ⟨by first|rfl|(simp [errW_none,errW_some] <;> rfl)|(simp [*,errW_none,errW_some] <;> rfl),by repeat (first|(with_reducible first|exact HB.out|apply zD|apply zE|apply zF)|exact HB.out)⟩
          ·as_aux_lemma =>
           rw [if_neg c67] at H
           have c67b0 : (t727 == t735) = false:=by simpa using c67
           (try (have c67b1 : decide (t727 = t735) = false:=by simpa using c67))
           (try (have c67b2 : (t727 == t735) = false:=by simpa using c67))
           (try (have c67b3 : ¬ (t727 = t735):=by simpa using c67))
           clear c67
           obtain rfl:=Option.some.inj H
           go_wp2_with (first|(go_at_call 47;(with_reducible refine (spec_DrawTurningHours.calls kj23 _ _ l0 t722 t723 _ ?side1 ?side2 A63.out).mono ?_);(case side1=>repeat (first|exact (zO HR0.out HB.out)|(with_reducible refine zG ?_ _)|(with_reducible refine zH ?_ _)|(with_reducible refine zI ?_)));(case side2=>exact HC0.out);rintro e w110 ⟨v724,rfl,ho0,hb⟩;have n0_:=zM (Kd.R_lower ho0 (zR (by repeat (first|(with_reducible first|exact HB.out|apply zD|apply zE|apply zF)|exact HB.out))));have n1_:=zM (zQ (by repeat (first|(with_reducible first|exact HB.out|apply zD|apply zE|apply zF)|exact HB.out)) hb);clear HB;have HO725:=n0_;have HB:=n1_;clear n0_ n1_;(try clear hb);(try clear hb2);(try clear hk);(try clear hi);(try clear ho0);obtain ⟨Ao111,co111,eo111⟩:=Kd.R_slice HO725.out;subst eo111)|(go_at_call 30;(with_reducible refine (impl_TurningHours.calls kj23 _ _ t722 t723 t726 t727 _ ?side1 ?side2 A64.out).mono ?_);(case side1=>repeat (first|exact (zN HO725.out).2.2|(with_reducible refine zG ?_ _)|(with_reducible refine zH ?_ _)|(with_reducible refine zI ?_)));(case side2=>exact (zN HO725.out).2.1);rintro e w112 ⟨v728,rfl,ho0,hb⟩;have n0_:=zM (zP (by (with_reducible repeat (first|apply zA|apply zB|apply zC));exact HO725.out) hb);have n1_:=zM (Kd.R_lower ho0 (zR (by repeat (first|(with_reducible first|exact HB.out|apply zD|apply zE|apply zF)|exact HB.out))));have n2_:=zM (zQ (by repeat (first|(with_reducible first|exact HB.out|apply zD|apply zE|apply zF)|exact HB.out)) hb);clear HO725;clear HB;have HO725:=n0_;have HO729:=n1_;have HB:=n2_;clear n0_ n1_ n2_;(try clear hb);(try clear hb2);(try clear hk);(try clear hi);(try clear ho0))|(go_at_call 30;(with_reducible refine (impl_TurningHours.calls kj23 _ _ t722 (!t723) t730 t731 _ ?side1 ?side2 A65.out).mono ?_);(case side1=>repeat (first|exact (zN HO725.out).2.2|(with_reducible refine zG ?_ _)|(with_reducible refine zH ?_ _)|(with_reducible refine zI ?_)));(case side2=>exact (zN HO725.out).2.1);rintro e w113 ⟨v732,rfl,ho0,hb⟩;have n0_:=zM (zP (by (with_reducible repeat (first|apply zA|apply zB|apply zC));exact HO725.out) hb);have n1_:=zM (Kd.R_elder' (by (with_reducible repeat (first|apply zA|apply zB|apply zC));exact HO729.out) (Kd.R_base ho0) hb);have n2_:=zM (Kd.R_lower (Kd.R_new' ho0 (Kd.R_lt (by (with_reducible repeat (first|apply zA|apply zB|apply zC));exact HO729.out))) (zR (by repeat (first|(with_reducible first|exact HB.out|apply zD|apply zE|apply zF)|exact HB.out))));have n3_:=zM (zQ (by repeat (first|(with_reducible first|exact HB.out|apply zD|apply zE|apply zF)|exact HB.out)) hb);clear HO725;clear HO729;clear HB;have HO725:=n0_;have HO729:=n1_;have HO733:=n2_;have HB:=n3_;clear n0_ n1_ n2_ n3_;(try clear hb);(try clear hb2);(try clear hk);(try clear hi);(try clear ho0))|(go_at_call 29;(with_reducible refine (spec_TurningHours.calls kj23 _ _ t722 t723 t734 t735 _ ?side1 ?side2 A66.out).mono ?_);(case side1=>repeat (first|exact (zN HO725.out).2.2|(with_reducible refine zG ?_ _)|(with_reducible refine zH ?_ _)|(with_reducible refine zI ?_)));(case side2=>exact (zN HO725.out).2.1);rintro e w114 ⟨v736,rfl,ho0,hb⟩;have n0_:=zM (zP (by (with_reducible repeat (first|apply zA|apply zB|apply zC));exact HO725.out) hb);have n1_:=zM (Kd.R_elder' (by (with_reducible repeat (first|apply zA|apply zB|apply zC));exact HO729.out) (Kd.R_base ho0) hb);have n2_:=zM (Kd.R_elder' (by (with_reducible repeat (first|apply zA|apply zB|apply zC));exact HO733.out) (Kd.R_base ho0) hb);have n3_:=zM (Kd.R_lower (Kd.R_new' (Kd.R_new' ho0 (Kd.R_lt (by (with_reducible repeat (first|apply zA|apply zB|apply zC));exact HO729.out))) (Kd.R_lt (by (with_reducible repeat (first|apply zA|apply zB|apply zC));exact HO733.out))) (zR (by repeat (first|(with_reducible first|exact HB.out|apply zD|apply zE|apply zF)|exact HB.out))));have n4_:=zM (zQ (by repeat (first|(with_reducible first|exact HB.out|apply zD|apply zE|apply zF)|exact HB.out)) hb);clear HO725;clear HO729;clear HO733;clear HB;have HO725:=n0_;have HO729:=n1_;have HO733:=n2_;have HO737:=n3_;have HB:=n4_;clear n0_ n1_ n2_ n3_ n4_;(try clear hb);(try clear hb2);(try clear hk);(try clear hi);(try clear ho0)))
           repeat (go_quiet (first|(go_at_call 47;(with_reducible refine (spec_DrawTurningHours.calls kj23 _ _ l0 t722 t723 _ ?side1 ?side2 A63.out).mono ?_);(case side1=>repeat (first|exact (zO HR0.out HB.out)|(with_reducible refine zG ?_ _)|(with_reducible refine zH ?_ _)|(with_reducible refine zI ?_)));(case side2=>exact HC0.out);rintro e w110 ⟨v724,rfl,ho0,hb⟩;have n0_:=zM (Kd.R_lower ho0 (zR (by repeat (first|(with_reducible first|exact HB.out|apply zD|apply zE|apply zF)|exact HB.out))));have n1_:=zM (zQ (by repeat (first|(with_reducible first|exact HB.out|apply zD|apply zE|apply zF)|exact HB.out)) hb);clear HB;have HO725:=n0_;have HB:=n1_;clear n0_ n1_;(try clear hb);(try clear hb2);(try clear hk);(try clear hi);(try clear ho0);obtain ⟨Ao111,co111,eo111⟩:=Kd.R_slice HO725.out;subst eo111)|(go_at_call 30;(with_reducible refine (impl_TurningHours.calls kj23 _ _ t722 t723 t726 t727 _ ?side1 ?side2 A64.out).mono ?_);(case side1=>repeat (first|exact (zN HO725.out).2.2|(with_reducible refine zG ?_ _)|(with_reducible refine zH ?_ _)|(with_reducible refine zI ?_)));(case side2=>exact (zN HO725.out).2.1);rintro e w112 ⟨v728,rfl,ho0,hb⟩;have n0_:=zM (zP (by (with_reducible repeat (first|apply zA|apply zB|apply zC));exact HO725.out) hb);have n1_:=zM (Kd.R_lower ho0 (zR (by repeat (first|(with_reducible first|exact HB.out|apply zD|apply zE|apply zF)|exact HB.out))));have n2_:=zM (zQ (by repeat (first|(with_reducible first|exact HB.out|apply zD|apply zE|apply zF)|exact HB.out)) hb);clear HO725;clear HB;have HO725:=n0_;have HO729:=n1_;have HB:=n2_;clear n0_ n1_ n2_;(try clear hb);(try clear hb2);(try clear hk);(try clear hi);(try clear ho0))|(go_at_call 30;(with_reducible refine (impl_TurningHours.calls kj23 _ _ t722 (!t723) t730 t731 _ ?side1 ?side2 A65.out).mono ?_);(case side1=>repeat (first|exact (zN HO725.out).2.2|(with_reducible refine zG ?_ _)|(with_reducible refine zH ?_ _)|(with_reducible refine zI ?_)));(case side2=>exact (zN HO725.out).2.1);rintro e w113 ⟨v732,rfl,ho0,hb⟩;have n0_:=zM (zP (by (with_reducible repeat (first|apply zA|apply zB|apply zC));exact HO725.out) hb);have n1_:=zM (Kd.R_elder' (by (with_reducible repeat (first|apply zA|apply zB|apply zC));exact HO729.out) (Kd.R_base ho0) hb);have n2_:=zM (Kd.R_lower (Kd.R_new' ho0 (Kd.R_lt (by (with_reducible repeat (first|apply zA|apply zB|apply zC));exact HO729.out))) (zR (by repeat (first|(with_reducible first|exact HB.out|apply zD|apply zE|apply zF)|exact HB.out))));have n3_:=zM (zQ (by repeat (first|(with_reducible first|exact HB.out|apply zD|apply zE|apply zF)|exact HB.out)) hb);clear HO725;clear HO729;clear HB;have HO725:=n0_;have HO729:=n1_;have HO733:=n2_;have HB:=n3_;clear n0_ n1_ n2_ n3_;(try clear hb);(try clear hb2);(try clear hk);(try clear hi);(try clear ho0))|(go_at_call 29;(with_reducible refine (spec_TurningHours.calls kj23 _ _ t722 t723 t734 t735 _ ?side1 ?side2 A66.out).mono ?_);(case side1=>repeat (first|exact (zN HO725.out).2.2|(with_reducible refine zG ?_ _)|(with_reducible refine zH ?_ _)|(with_reducible refine zI ?_)));(case side2=>exact (zN HO725.out).2.1);rintro e w114 ⟨v736,rfl,ho0,hb⟩;have n0_:=zM (zP (by (with_reducible repeat (first|apply zA|apply zB|apply zC));exact HO725.out) hb);have n1_:=zM (Kd.R_elder' (by (with_reducible repeat (first|apply zA|apply zB|apply zC));exact HO729.out) (Kd.R_base ho0) hb);have n2_:=zM (Kd.R_elder' (by (with_reducible repeat (first|apply zA|apply zB|apply zC));exact HO733.out) (Kd.R_base ho0) hb);have n3_:=zM (Kd.R_lower (Kd.R_new' (Kd.R_new' ho0 (Kd.R_lt (by (with_reducible repeat (first|apply zA|apply zB|apply zC));exact HO729.out))) (Kd.R_lt (by (with_reducible repeat (first|apply zA|apply zB|apply zC));exact HO733.out))) (zR (by repeat (first|(with_reducible first|exact HB.out|apply zD|apply zE|apply zF)|exact HB.out))));have n4_:=zM (zQ (by repeat (first|(with_reducible first|exact HB.out|apply zD|apply zE|apply zF)|exact HB.out)) hb);clear HO725;clear HO729;clear HO733;clear HB;have HO725:=n0_;have HO729:=n1_;have HO733:=n2_;have HO737:=n3_;have HB:=n4_;clear n0_ n1_ n2_ n3_ n4_;(try clear hb);(try clear hb2);(try clear hk);(try clear hi);(try clear ho0)));try go_wp2_with (first|(go_at_call 47;(with_reducible refine (spec_DrawTurningHours.calls kj23 _ _ l0 t722 t723 _ ?side1 ?side2 A63.out).mono ?_);(case side1=>repeat (first|exact (zO HR0.out HB.out)|(with_reducible refine zG ?_ _)|(with_reducible refine zH ?_ _)|(with_reducible refine zI ?_)));(case side2=>exact HC0.out);rintro e w110 ⟨v724,rfl,ho0,hb⟩;have n0_:=zM (Kd.R_lower ho0 (zR (by repeat (first|(with_reducible first|exact HB.out|apply zD|apply zE|apply zF)|exact HB.out))));have n1_:=zM (zQ (by repeat (first|(with_reducible first|exact HB.out|apply zD|apply zE|apply zF)|exact HB.out)) hb);clear HB;have HO725:=n0_;have HB:=n1_;clear n0_ n1_;(try clear hb);(try clear hb2);(try clear hk);(try clear hi);(try clear ho0);obtain ⟨Ao111,co111,eo111⟩:=Kd.R_slice HO725.out;subst eo111)|(go_at_call 30;(with_reducible refine (impl_TurningHours.calls kj23 _ _ t722 t723 t726 t727 _ ?side1 ?side2 A64.out).mono ?_);(case side1=>repeat (first|exact (zN HO725.out).2.2|(with_reducible refine zG ?_ _)|(with_reducible refine zH ?_ _)|(with_reducible refine zI ?_)));(case side2=>exact (zN HO725.out).2.1);rintro e w112 ⟨v728,rfl,ho0,hb⟩;have n0_:=zM (zP (by (with_reducible repeat (first|apply zA|apply zB|apply zC));exact HO725.out) hb);have n1_:=zM (Kd.R_lower ho0 (zR (by repeat (first|(with_reducible first|exact HB.out|apply zD|apply zE|apply zF)|exact HB.out))));have n2_:=zM (zQ (by repeat (first|(with_reducible first|exact HB.out|apply zD|apply zE|apply zF)|exact HB.out)) hb);clear HO725;clear HB;have HO725:=n0_;have HO729:=n1_;have HB:=n2_;clear n0_ n1_ n2_;(try clear hb);(try clear hb2);(try clear hk);(try clear hi);(try clear ho0))|(go_at_call 30;(with_reducible refine (impl_TurningHours.calls kj23 _ _ t722 (!t723) t730 t731 _ ?side1 ?side2 A65.out).mono ?_);(case side1=>repeat (first|exact (zN HO725.out).2.2|(with_reducible refine zG ?_ _)|(with_reducible refine zH ?_ _)|(with_reducible refine zI ?_)));(case side2=>exact (zN HO725.out).2.1);rintro e w113 ⟨v732,rfl,ho0,hb⟩;have n0_:=zM (zP (by (with_reducible repeat (first|apply zA|apply zB|apply zC));exact HO725.out) hb);have n1_:=zM (Kd.R_elder' (by (with_reducible repeat (first|apply zA|apply zB|apply zC));exact HO729.out) (Kd.R_base ho0) hb);have n2_:=zM (Kd.R_lower (Kd.R_new' ho0 (Kd.R_lt (by (with_reducible repeat (first|apply zA|apply zB|apply zC));exact HO729.out))) (zR (by repeat (first|(with_reducible first|exact HB.out|apply zD|apply zE|apply zF)|exact HB.out))));have n3_:=zM (zQ (by repeat (first|(with_reducible first|exact HB.out|apply zD|apply zE|apply zF)|exact HB.out)) hb);clear HO725;clear HO729;clear HB;have HO725:=n0_;have HO729:=n1_;have HO733:=n2_;have HB:=n3_;clear n0_ n1_ n2_ n3_;(try clear hb);(try clear hb2);(try clear hk);(try clear hi);(try clear ho0))|(go_at_call 29;(with_reducible refine (spec_TurningHours.calls kj23 _ _ t722 t723 t734 t735 _ ?side1 ?side2 A66.out).mono ?_);(case side1=>repeat (first|exact (zN HO725.out).2.2|(with_reducible refine zG ?_ _)|(with_reducible refine zH ?_ _)|(with_reducible refine zI ?_)));(case side2=>exact (zN HO725.out).2.1);rintro e w114 ⟨v736,rfl,ho0,hb⟩;have n0_:=zM (zP (by (with_reducible repeat (first|apply zA|apply zB|apply zC));exact HO725.out) hb);have n1_:=zM (Kd.R_elder' (by (with_reducible repeat (first|apply zA|apply zB|apply zC));exact HO729.out) (Kd.R_base ho0) hb);have n2_:=zM (Kd.R_elder' (by (with_reducible repeat (first|apply zA|apply zB|apply zC));exact HO733.out) (Kd.R_base ho0) hb);have n3_:=zM (Kd.R_lower (Kd.R_new' (Kd.R_new' ho0 (Kd.R_lt (by (with_reducible repeat (first|apply zA|apply zB|apply zC));exact HO729.out))) (Kd.R_lt (by (with_reducible repeat (first|apply zA|apply zB|apply zC));exact HO733.out))) (zR (by repeat (first|(with_reducible first|exact HB.out|apply zD|apply zE|apply zF)|exact HB.out))));have n4_:=zM (zQ (by repeat (first|(with_reducible first|exact HB.out|apply zD|apply zE|apply zF)|exact HB.out)) hb);clear HO725;clear HO729;clear HO733;clear HB;have HO725:=n0_;have HO729:=n1_;have HO733:=n2_;have HO737:=n3_;have HB:=n4_;clear n0_ n1_ n2_ n3_ n4_;(try clear hb);(try clear hb2);(try clear hk);(try clear hi);(try clear ho0))))
           go_ret
           exact ⟨by first|rfl|(simp [errW_none,errW_some] <;> rfl)|(simp [*,errW_none,errW_some] <;> rfl),by repeat (first|(with_reducible first|exact HB.out|apply zD|apply zE|apply zF)|exact HB.out)⟩

/-- THE ONE PURE STATEMENT of laws_FnTides. -/
def laws_FnTides.Pure : Prop := ∀ (l0 : List Int),(l0.length ≤ maxLen ∧ ∀ y ∈ l0,(Lit.int .u8 y).wf = true) → ∃ k,laws_FnTides.f k l0 = some true
theorem laws_FnTides.walk (P : laws_FnTides.Pure) (A0 : Option Addr) (c0 : Nat) (l0 : List Int) (w : World) (hr0 : Kd.C (Kd.int .u8) w A0 l0.length l0) (hc0 : l0.length ≤ c0) (hw0 : (l0.length ≤ maxLen ∧ ∀ y ∈ l0,(Lit.int .u8 y).wf = true)) :
  Calls Try.prog 12 #[.slice A0 l0.length c0] w fun e w'=>e = .returned (.bool true) ∧ Below w.heap.size w w':=by
 obtain ⟨k,h⟩:=P l0 hw0
 refine (laws_FnTides.calls k _ _ l0 true w hr0 hc0 h).mono ?_
 rintro e w' ⟨rfl,hd⟩
 exact ⟨rfl,hd⟩

end Go.Proofs.Ytbglkkepfddecaa.G

namespace Go.Proofs.Ytbglkkepfddecaa.G
open Go.RowKit Go.Proofs.YtbglkkepfddecaaW.PrintWords Go.Proofs.YtbglkkepfddecaaW.PrintLast
set_option linter.unusedVariables false
set_option linter.unusedSimpArgs false
/-! Plain laws on printed functions: what holds from some number of rounds on, case by case and loop by loop. -/
theorem Ev.ite {α : Type} {c : Prop} [Decidable c] {A B : Nat → Option α} {r : α} (h1 : c → Ev A r) (h2 : ¬ c → Ev B r) : Ev (fun k=>if c then A k else B k) r:=by
  by_cases h : c
  · simpa only [if_pos h] using h1 h
  · simpa only [if_neg h] using h2 h
theorem wrap64_id {x : Int} (h1 : -9223372036854775808 ≤ x) (h2 : x ≤ 9223372036854775807) : wrap64 x = x:=IntWalk.wrap64_in x ⟨h1,h2⟩
/-- What holds of all indices from i up to, and without, n. -/
def All (P : Int → Prop) (i n : Int) : Prop := ∀ j,i ≤ j → j < n → P j
theorem All.end_ (P : Int → Prop) (n : Int) : All P n n:=fun j h1 h2=>by omega
theorem All.step {P : Int → Prop} {i n : Int} (h : i < n) : All P i n ↔ P i ∧ All P (i + 1) n:=by
  constructor
  · intro a
    exact ⟨a i (Int.le_refl _) h,fun j h1 h2=>a j (by omega) h2⟩
  · rintro ⟨p,a⟩ j h1 h2
    by_cases e : j = i
    · rw [e];exact p
    · exact a j (by omega) h2
/-- One of two values, by a statement. -/
noncomputable def chk {β : Type} (p : Prop) (a b : β) : β := @ite β p (Classical.propDecidable p) a b
theorem chk_pos {β : Type} {p : Prop} (h : p) (a b : β) : chk p a b = a:=by unfold chk;exact if_pos h
theorem chk_neg {β : Type} {p : Prop} (h : ¬ p) (a b : β) : chk p a b = b:=by unfold chk;exact if_neg h
theorem chk_congr {β : Type} {p q : Prop} (h : p ↔ q) (a b : β) : chk p a b = chk q a b:=by rw [propext h]
theorem chk_true {p : Prop} : chk p true false = true ↔ p:=by
  by_cases h : p
  · rw [chk_pos h];exact ⟨fun _=>h,fun _=>rfl⟩
  · rw [chk_neg h];exact ⟨(fun e=>by cases e),(fun e=>absurd e h)⟩
theorem chk_and {β : Type} {p q : Prop} (a b : β) : chk p (chk q a b) b = chk (p ∧ q) a b:=by
  by_cases h : p
  · rw [chk_pos h]
    exact chk_congr ⟨fun x=>⟨h,x⟩,fun x=>x.2⟩ _ _
  · rw [chk_neg h,chk_neg (fun x=>h x.1)]
/-- A loop that goes up, any state. -/
theorem Ev.up {σ β : Type} (g : Nat → σ → Int → Option β) (R : σ → Int → β) (I : σ → Int → Prop) (n : Int)
    (hend : ∀ s,I s n → Ev (fun k=>g k s n) (R s n))
    (hstep : ∀ s i,I s i → i < n → (∀ s',I s' (i + 1) → Ev (fun k=>g k s' (i + 1)) (R s' (i + 1))) → Ev (fun k=>g k s i) (R s i)) :
    ∀ s i,I s i → i ≤ n → Ev (fun k=>g k s i) (R s i):=by
  have main : ∀ (d : Nat) s i,I s i → i + d = n → Ev (fun k=>g k s i) (R s i):=by
    intro d
    induction d with
    | zero =>
      intro s i hI hd
      obtain rfl : i = n:=by omega
      exact hend s hI
    | succ d ih=>intro s i hI hd;exact hstep s i hI (by omega) (fun s' hI'=>ih s' (i + 1) hI' (by omega))
  intro s i hI hi
  exact main (n - i).toNat s i hI (by omega)
/-- A loop that tests each index. -/
theorem Ev.check {β : Type} (g : Nat → Int → Option β) (n : Int) (P : Int → Prop) (r0 r1 : β) (i0 : Int)
    (hend : Ev (fun k=>g k n) r0)
    (hstep : ∀ i,i0 ≤ i → i < n → ∀ r,Ev (fun k=>g k (i + 1)) r → Ev (fun k=>g k i) (chk (P i) r r1)) :
    ∀ i,i0 ≤ i → i ≤ n → Ev (fun k=>g k i) (chk (All P i n) r0 r1):=by
  intro i h0 hi
  refine Ev.up (fun k (_ : Unit) i=>g k i) (fun _ i=>chk (All P i n) r0 r1) (fun _ i=>i0 ≤ i) n (fun _ _=>?_) (fun _ i h0 hlt ih=>?_) () i h0 hi
  · rw [chk_pos (All.end_ P n)];exact hend
  · have:=hstep i h0 hlt _ (ih () (by omega))
    rw [chk_and,chk_congr (All.step hlt).symm] at this
    exact this
theorem Ev.upc {β : Type} (g : Nat → Int → Option β) (r : β) (n i0 : Int) (hend : Ev (fun k=>g k n) r) (hstep : ∀ i,i0 ≤ i → i < n → Ev (fun k=>g k (i + 1)) r → Ev (fun k=>g k i) r) :
    ∀ i,i0 ≤ i → i ≤ n → Ev (fun k=>g k i) r:=by
  intro i h0 hi
  exact Ev.up (fun k (_ : Unit) i=>g k i) (fun _ _=>r) (fun _ i=>i0 ≤ i) n (fun _ _=>hend) (fun _ i h0 hlt ih=>hstep i h0 hlt (ih () (by omega))) () i h0 hi
theorem getD_map {α β : Type} (f : α → β) (xs : List α) (j : Nat) (z : α) (z' : β) (h : j < xs.length) : (xs.map f).getD j z' = f (xs.getD j z):=by
  rw [List.getD_eq_getElem?_getD,List.getD_eq_getElem?_getD,List.getElem?_map,List.getElem?_eq_getElem h];rfl
/-- out grows by one element a round. -/
theorem Ev.build {α β γ : Type} (g : Nat → List β → Int → Option γ) (xs : List α) (f : α → β) (z : α) (r : γ) (hend : Ev (fun k=>g k (xs.map f) (xs.length : Int)) r)
    (hstep : ∀ out i,0 ≤ i → i < (xs.length : Int) → (out.length : Int) = i → ∀ r,Ev (fun k=>g k (out ++ [f (xs.getD i.toNat z)]) (i + 1)) r → Ev (fun k=>g k out i) r) : Ev (fun k=>g k [] 0) r:=by
  refine Ev.up g (fun _ _=>r) (fun out i=>0 ≤ i ∧ i ≤ (xs.length : Int) ∧ out = (xs.take i.toNat).map f) (xs.length : Int) ?_ ?_ [] 0 ⟨by omega,by omega,by simp⟩ (by omega)
  · rintro out ⟨_,_,rfl⟩
    have e : xs.take (xs.length : Int).toNat = xs:=by simp
    rw [e];exact hend
  · rintro out i ⟨h0,h1,rfl⟩ hlt ih
    refine hstep _ i h0 hlt (by simp;omega) _ (ih _ ⟨by omega,by omega,?_⟩)
    have e : (i + 1).toNat = i.toNat + 1:=by omega
    rw [e,List.take_succ_eq_append_getElem (show i.toNat < xs.length by omega),List.map_append,List.getD_eq_getElem?_getD,List.getElem?_eq_getElem (show i.toNat < xs.length by omega)]
    rfl
theorem mul_bd {x y A B : Int} (hA : 0 ≤ A) (hB : 0 ≤ B) (h1 : -A ≤ x) (h2 : x ≤ A) (h3 : -B ≤ y) (h4 : y ≤ B) : -(A * B) ≤ x * y ∧ x * y ≤ A * B:=by
  have hx : x.natAbs ≤ A.natAbs:=by omega
  have hy : y.natAbs ≤ B.natAbs:=by omega
  have h:=Nat.mul_le_mul hx hy
  rw [← Int.natAbs_mul,← Int.natAbs_mul] at h
  have hAB : 0 ≤ A * B:=Int.mul_nonneg hA hB
  omega

end Go.Proofs.Ytbglkkepfddecaa.G

namespace Go.Proofs.Ytbglkkepfddecaa.G
open Go.RowKit Go.Proofs.YtbglkkepfddecaaW.PrintWords Go.Proofs.YtbglkkepfddecaaW.PrintLast
set_option linter.unusedVariables false
set_option linter.unusedSimpArgs false
/-- From some number of rounds on a value comes, and P holds of it. -/
def EvP {α : Type} (g : Nat → Option α) (P : α → Prop) : Prop := ∃ r,P r ∧ Ev g r
theorem EvP.now {α : Type} {P : α → Prop} (v : α) (h : P v) : EvP (fun _=>some v) P:=⟨v,h,Ev.now v⟩
theorem EvP.step {α : Type} {g f : Nat → Option α} {P : α → Prop} (h : ∀ k,g (k + 1) = f k) (k : EvP f P) : EvP g P:=by
  obtain ⟨r,p,e⟩:=k
  exact ⟨r,p,Ev.step h e⟩
theorem EvP.bind {α β : Type} {g : Nat → Option α} {f : Nat → α → Option β} {P : α → Prop} {Q : β → Prop} (h : EvP g P) (k : ∀ a,P a → EvP (fun n=>f n a) Q) : EvP (fun n=>(g n).bind (f n)) Q:=by
  obtain ⟨a,p,e⟩:=h
  obtain ⟨r,q,e2⟩:=k a p
  exact ⟨r,q,Ev.bind e e2⟩
theorem EvP.ite {α : Type} {c : Prop} [Decidable c] {A B : Nat → Option α} {P : α → Prop} (h1 : c → EvP A P) (h2 : ¬ c → EvP B P) : EvP (fun k=>if c then A k else B k) P:=by
  by_cases h : c
  · simpa only [if_pos h] using h1 h
  · simpa only [if_neg h] using h2 h
/-- The bytes that a case is drawn of. -/
def Cd (l : List Int) : Prop:=(l.length : Int) ≤ 65536 ∧ ∀ y ∈ l,0 ≤ y ∧ y ≤ 255
theorem cd_of {l : List Int} (h : (l.length : Int) ≤ 65536) (hw : ∀ y ∈ l,(Lit.int .u8 y).wf = true) : Cd l:=by
  refine ⟨h,fun y hy=>?_⟩
  have e : (Lit.int .u8 y).wf = (decide (0 ≤ y) && decide (y ≤ 255)):=rfl
  have:=hw y hy
  rw [e] at this
  simpa using this
theorem rd_mem (l : List Int) (i : Int) (h0 : 0 ≤ i) (h1 : i < (l.length : Int)) : rd l i ∈ l:=by
  unfold rd
  rw [List.getD_eq_getElem?_getD,List.getElem?_eq_getElem (show i.toNat < l.length by omega)]
  exact List.getElem_mem _
theorem and255 (x : Int) : 0 ≤ Go.bits .and .u64 x 255 ∧ Go.bits .and .u64 x 255 ≤ 255:=by
  show 0 ≤ IntKind.u64.wrap (((BitVec.ofInt 64 x) &&& (BitVec.ofInt 64 255)).toNat : Int) ∧ IntKind.u64.wrap (((BitVec.ofInt 64 x) &&& (BitVec.ofInt 64 255)).toNat : Int) ≤ 255
  have h : ((BitVec.ofInt 64 x) &&& (BitVec.ofInt 64 255)).toNat ≤ 255:=by
    rw [BitVec.toNat_and]
    exact Nat.le_trans Nat.and_le_right (by decide)
  have e : IntKind.u64.wrap (((BitVec.ofInt 64 x) &&& (BitVec.ofInt 64 255)).toNat : Int) = (((BitVec.ofInt 64 x) &&& (BitVec.ofInt 64 255)).toNat : Int):=by
    generalize (((BitVec.ofInt 64 x) &&& (BitVec.ofInt 64 255)).toNat) = n at h ⊢
    simp only [IntKind.wrap,IntKind.signed,IntKind.bits]
    simp
    omega
  rw [e]
  omega
theorem next_ok {l : List Int} (hc : Cd l) (a s : Int) (h0 : 0 ≤ a) (h1 : a ≤ 1099511627776) : ∃ b s',spec_l1Cur_next.f l a s = some (b,a + 1,s') ∧ 0 ≤ b ∧ b ≤ 255:=by
  have hl:=hc.1
  unfold spec_l1Cur_next.f
  rw [wrap64_id (x:=a + 1) (by omega) (by omega)]
  by_cases h : a < (l.length : Int)
  · have hm:=hc.2 _ (rd_mem l a h0 h)
    rw [if_pos h,if_pos h0,if_pos (by omega),wrap64_id (x:=rd l a) (by omega) (by omega)]
    exact ⟨_,_,rfl,hm.1,hm.2⟩
  · rw [if_neg h,if_neg (by omega)]
    refine ⟨_,_,rfl,?_⟩
    generalize hX : Go.bits _ _ _ _ = X
    have:=and255 (IntKind.u64.wrap (IntKind.u64.wrap (IntKind.u64.wrap (s * 6364136223846793005)) + 906906) / 1099511627776)
    have hb : 0 ≤ X ∧ X ≤ 255:=by rw [← hX];exact this
    rw [wrap64_id (by omega) (by omega)]
    exact hb
theorem pick_ok {l : List Int} (hc : Cd l) (a s n : Int) (h0 : 0 ≤ a) (h1 : a ≤ 1000000) : ∃ b a' s',spec_l1Cur_pick.f l a s n = some (b,a',s') ∧ 0 ≤ b ∧ (b = 0 ∨ b < n) ∧ a ≤ a' ∧ a' ≤ a + 2:=by
  unfold spec_l1Cur_pick.f
  by_cases g : n ≤ 1
  · rw [if_pos g]
    exact ⟨_,_,_,rfl,by omega,by omega,by omega,by omega⟩
  · obtain ⟨x,s1,e1,x0,x1⟩:=next_ok hc a s h0 (by omega)
    rw [if_neg g,e1]
    simp only [Option.bind_some]
    by_cases g2 : n > 200
    · obtain ⟨y,s2,e2,y0,y1⟩:=next_ok hc (a + 1) s1 (by omega) (by omega)
      rw [if_pos g2,e2]
      simp only [Option.bind_some]
      rw [if_neg (by omega),wrap64_id (x:=x * 256) (by omega) (by omega),wrap64_id (x:=x * 256 + y) (by omega) (by omega)]
      refine ⟨_,_,_,rfl,Int.tmod_nonneg _ (by omega),.inr ?_,by omega,by omega⟩
      exact Int.tmod_lt_of_pos _ (by omega)
    · rw [if_neg g2,if_neg (by omega)]
      refine ⟨_,_,_,rfl,Int.tmod_nonneg _ (by omega),.inr ?_,by omega,by omega⟩
      exact Int.tmod_lt_of_pos _ (by omega)
theorem EvP.pick {β : Type} {l : List Int} (hc : Cd l) {a s n : Int} {f : Nat → Int × Int × Int → Option β} {Q : β → Prop} (h0 : 0 ≤ a) (h1 : a ≤ 1000000)
    (k : ∀ b a' s',0 ≤ b → (b = 0 ∨ b < n) → a ≤ a' → a' ≤ a + 2 → EvP (fun k=>f k (b,a',s')) Q) : EvP (fun k=>(spec_l1Cur_pick.f l a s n).bind (f k)) Q:=by
  obtain ⟨b,a',s',e,h2,h3,h4,h5⟩:=pick_ok hc a s n h0 h1
  rw [e]
  exact k b a' s' h2 h3 h4 h5
theorem EvP.one {β : Type} {l : List Int} (hc : Cd l) {a s n : Int} {f : Nat → Bool × Int × Int → Option β} {Q : β → Prop} (h0 : 0 ≤ a) (h1 : a ≤ 1000000)
    (k : ∀ b a' s',a ≤ a' → a' ≤ a + 2 → EvP (fun k=>f k (b,a',s')) Q) : EvP (fun k=>(spec_l1Cur_one.f l a s n).bind (f k)) Q:=by
  obtain ⟨b,a',s',e,h2,h3,h4,h5⟩:=pick_ok hc a s n h0 h1
  unfold spec_l1Cur_one.f
  rw [e]
  simp only [Option.bind_some]
  exact k _ a' s' h4 h5
theorem EvP.among {β : Type} {l : List Int} (hc : Cd l) {a s : Int} {xs : List Int} {f : Nat → Int × Int × Int → Option β} {Q : β → Prop} (h0 : 0 ≤ a) (h1 : a ≤ 1000000) (hx : 0 < (xs.length : Int))
    (k : ∀ b a' s',b ∈ xs → a ≤ a' → a' ≤ a + 2 → EvP (fun k=>f k (b,a',s')) Q) : EvP (fun k=>(spec_l1Cur_among.f l a s xs).bind (f k)) Q:=by
  obtain ⟨b,a',s',e,h2,h3,h4,h5⟩:=pick_ok hc a s (xs.length : Int) h0 h1
  unfold spec_l1Cur_among.f
  rw [e]
  simp only [Option.bind_some]
  rw [if_pos h2,if_pos (by omega)]
  exact k _ a' s' (rd_mem xs b h2 (by omega)) h4 h5
end Go.Proofs.Ytbglkkepfddecaa.G

namespace Go.Proofs.Ytbglkkepfddecaa.G
open Go.RowKit Go.Proofs.YtbglkkepfddecaaW.PrintWords Go.Proofs.YtbglkkepfddecaaW.PrintLast
set_option linter.unusedVariables false
set_option linter.unusedSimpArgs false
def TidesQ (r : List S60 × Int × Int) : Prop:=1 ≤ (r.1.length : Int) ∧ (r.1.length : Int) ≤ 100 ∧ 0 ≤ r.2.1 ∧ r.2.1 ≤ 1000
theorem tidesQ {x : List S60} {a s : Int} (h0 : 1 ≤ (x.length : Int)) (h1 : (x.length : Int) ≤ 100) (h2 : 0 ≤ a) (h3 : a ≤ 1000) : TidesQ (x,a,s):=⟨h0,h1,h2,h3⟩
theorem tides1 {l : List Int} (hc : Cd l) : ∀ (d : Nat) (x3 : List S60) (x8 a s u v : Int),(x3.length : Int) + d = 21 → 1 ≤ (x3.length : Int) → 0 ≤ x8 → 0 ≤ a → a + 2 * d ≤ 900 → EvP (fun k=>spec_l1Cur_tides.l1 k x3 x8 l a s u v) TidesQ:=by
  intro d
  have fin : ∀ (x3 : List S60) (x8 a s u v : Int),1 ≤ (x3.length : Int) → (x3.length : Int) ≤ 21 → 0 ≤ x8 → 0 ≤ a → a ≤ 1000 → EvP (fun k=>(if x8 < (x3.length : Int) then (if 0 ≤ x8 then (some ((x3.set (x8 : Int).toNat (⟨u,v⟩ : S60)),a,s)) else (none)) else (some (x3,a,s)))) TidesQ:=by
    intro x3 x8 a s u v h0 h1 h2 h3 h4
    refine EvP.ite (fun g=>?_) (fun g=>EvP.now _ (tidesQ h0 (by omega) h3 h4))
    simp (disch:=omega) only [if_pos]
    exact EvP.now _ (tidesQ (by rw [List.length_set];omega) (by rw [List.length_set];omega) h3 h4)
  induction d with
  | zero =>
    intro x3 x8 a s u v hd hl h8 ha ha2
    refine EvP.step (fun k=>by rw [spec_l1Cur_tides.l1]) ?_
    refine EvP.pick hc ha (by omega) (fun b a' s' b0 b1 a0 a1=>?_)
    dsimp only
    simp (disch:=omega) only [wrap64_id]
    simp (disch:=omega) only [if_neg]
    exact fin _ _ _ _ _ _ hl (by omega) h8 (by omega) (by omega)
  | succ d ih =>
    intro x3 x8 a s u v hd hl h8 ha ha2
    refine EvP.step (fun k=>by rw [spec_l1Cur_tides.l1]) ?_
    refine EvP.pick hc ha (by omega) (fun b a' s' b0 b1 a0 a1=>?_)
    dsimp only
    simp (disch:=omega) only [wrap64_id]
    refine EvP.ite (fun g=>?_) (fun g=>fin _ _ _ _ _ _ hl (by omega) h8 (by omega) (by omega))
    simp (disch:=omega) only [if_pos]
    exact ih _ _ _ _ _ _ (by rw [List.length_append,List.length_cons,List.length_nil];omega) (by rw [List.length_append,List.length_cons,List.length_nil];omega) h8 (by omega) (by omega)
theorem tides0 {l : List Int} (hc : Cd l) : ∀ (d : Nat) (x3 : List S60) (x4 : Int) (x5 : Bool) (x6 a s : Int),x6 = d → 1 ≤ (x3.length : Int) + d → (x3.length : Int) + d ≤ 10 → 0 ≤ a → a + 6 * d ≤ 100 → EvP (fun k=>spec_l1Cur_tides.l0 k x3 x4 x5 x6 l a s) TidesQ:=by
  intro d
  induction d with
  | zero =>
    intro x3 x4 x5 x6 a s hd hp hl ha ha2
    refine EvP.step (fun k=>by rw [spec_l1Cur_tides.l0]) ?_
    simp (disch:=omega) only [if_neg]
    refine EvP.pick hc ha (by omega) (fun b a' s' b0 b1 a0 a1=>?_)
    dsimp only
    have b2 : b < (x3.length : Int):=by omega
    simp (disch:=omega) only [if_pos]
    refine EvP.pick hc (by omega) (by omega) (fun c a2 s2 c0 c1 a3 a4=>?_)
    dsimp only
    refine EvP.ite (fun g=>?_) (fun g=>?_)
    · refine EvP.among hc (by omega) (by omega) (by decide) (fun v a5 s5 hv a6 a7=>?_)
      dsimp only
      exact EvP.now _ (tidesQ (by rw [List.length_set];omega) (by rw [List.length_set];omega) (by omega) (by omega))
    · refine EvP.ite (fun g=>?_) (fun g=>?_)
      · refine EvP.among hc (by omega) (by omega) (by decide) (fun v a5 s5 hv a6 a7=>?_)
        dsimp only
        exact EvP.now _ (tidesQ (by rw [List.length_set];omega) (by rw [List.length_set];omega) (by omega) (by omega))
      · refine EvP.ite (fun g=>?_) (fun g=>?_)
        · have e : (x3.take (1 : Int).toNat).length = 1:=by rw [List.length_take];show min 1 x3.length = 1;omega
          simp only [Option.bind_some]
          refine EvP.ite (fun g2=>?_) (fun g2=>?_)
          · exact EvP.now _ (tidesQ (by rw [List.length_set,e];omega) (by rw [List.length_set,e];omega) (by omega) (by omega))
          · exact EvP.now _ (tidesQ (by rw [e];omega) (by rw [e];omega) (by omega) (by omega))
        · refine EvP.ite (fun g=>?_) (fun g=>?_)
          · exact tides1 hc (21 - x3.length) _ _ _ _ _ _ (by omega) (by omega) b0 (by omega) (by omega)
          · exact EvP.now _ (tidesQ (by rw [List.length_set];omega) (by rw [List.length_set];omega) (by omega) (by omega))
  | succ d ih =>
    intro x3 x4 x5 x6 a s hd hp hl ha ha2
    refine EvP.step (fun k=>by rw [spec_l1Cur_tides.l0]) ?_
    simp (disch:=omega) only [if_pos,wrap64_id]
    refine EvP.among hc ha (by omega) (by decide) (fun v a1 s1 hv a2 a3=>?_)
    dsimp only
    refine EvP.ite (fun g=>?_) (fun g=>?_)
    · refine EvP.among hc (by omega) (by omega) (by decide) (fun v a4 s4 hv a5 a6=>?_)
      dsimp only
      refine EvP.among hc (by omega) (by omega) (by decide) (fun v a7 s7 hv a8 a9=>?_)
      dsimp only
      exact ih _ _ _ _ _ _ (by omega) (by rw [List.length_append,List.length_cons,List.length_nil];omega) (by rw [List.length_append,List.length_cons,List.length_nil];omega) (by omega) (by omega)
    · refine EvP.among hc (by omega) (by omega) (by decide) (fun v a7 s7 hv a8 a9=>?_)
      dsimp only
      exact ih _ _ _ _ _ _ (by omega) (by rw [List.length_append,List.length_cons,List.length_nil];omega) (by rw [List.length_append,List.length_cons,List.length_nil];omega) (by omega) (by omega)
theorem tides_ok {l : List Int} (hc : Cd l) (s : Int) : EvP (fun k=>spec_l1Cur_tides.f k l 0 s) TidesQ:=by
  unfold spec_l1Cur_tides.f
  refine EvP.pick hc (by omega) (by omega) (fun b a1 s1 b0 b1 a2 a3=>?_)
  dsimp only
  refine EvP.one hc (by omega) (by omega) (fun b a4 s4 a5 a6=>?_)
  dsimp only
  refine EvP.pick hc (by omega) (by omega) (fun c a7 s7 c0 c1 a8 a9=>?_)
  dsimp only
  simp (disch:=omega) only [wrap64_id]
  exact tides0 hc (2 + c).toNat _ _ _ _ _ _ (by omega) (by simp;omega) (by simp;omega) (by omega) (by omega)
theorem drawShift {l : List Int} (hc : Cd l) : EvP (fun k=>spec_DrawShiftTides.f k l) (fun _=>True):=by
  unfold spec_DrawShiftTides.f
  refine EvP.bind (tides_ok hc 0) (fun r h=>?_)
  have h2:=h.2.2
  refine EvP.among hc h2.1 (by omega) (by decide) (fun v a1 s1 hv a2 a3=>?_)
  dsimp only
  refine EvP.among hc (by omega) (by omega) (by decide) (fun v a4 s4 hv a5 a6=>?_)
  dsimp only
  exact EvP.now _ trivial
theorem drawTurn {l : List Int} (hc : Cd l) : EvP (fun k=>spec_DrawTurningHours.f k l) (fun r=>(r.1.length : Int) ≤ 100):=by
  unfold spec_DrawTurningHours.f
  refine EvP.bind (tides_ok hc 0) (fun r h=>?_)
  have h2:=h.2.2
  refine EvP.one hc h2.1 (by omega) (fun b a4 s4 a5 a6=>?_)
  dsimp only
  exact EvP.now _ h.2.1
end Go.Proofs.Ytbglkkepfddecaa.G

namespace Go.Proofs.Ytbglkkepfddecaa.G
open Go.RowKit Go.Proofs.YtbglkkepfddecaaW.PrintWords Go.Proofs.YtbglkkepfddecaaW.PrintLast
set_option linter.unusedVariables false
set_option linter.unusedSimpArgs false
theorem impl_within_eq (a b c : Int) : impl_within.f a b c = some (decide (b ≤ a ∧ a ≤ c)):=by
  unfold impl_within.f
  split
  · rename_i h;congr 1;simp;omega
  · rename_i h;congr 1;simp;omega
theorem spec_l1In_eq (a b c : Int) : spec_l1In.f a b c = some (decide (b ≤ a ∧ a ≤ c)):=by
  unfold spec_l1In.f
  split
  · rename_i h;congr 1;simp;omega
  · rename_i h;congr 1;simp;omega
/-- What a table must be at index i. -/
def okAt (xs : List S60) (i : Int) : Prop :=
  (0 ≤ (rd_T60 xs i).f0 ∧ (rd_T60 xs i).f0 ≤ 240 ∧ 0 ≤ (rd_T60 xs i).f1 ∧ (rd_T60 xs i).f1 ≤ 2000) ∧
  (0 < i → (rd_T60 xs (i - 1)).f0 < (rd_T60 xs i).f0 ∧ (rd_T60 xs (i - 1)).f1 ≠ (rd_T60 xs i).f1) ∧
  (1 < i → ¬ ((rd_T60 xs (i - 2)).f1 < (rd_T60 xs (i - 1)).f1 ↔ (rd_T60 xs (i - 1)).f1 < (rd_T60 xs i).f1))
def Valid (xs : List S60) : Prop:=(2 ≤ (xs.length : Int) ∧ (xs.length : Int) ≤ 20) ∧ All (okAt xs) 0 (xs.length : Int)
theorem impl_valid_l0 (xs : List S60) (hn : (xs.length : Int) ≤ 20) : ∀ i,0 ≤ i → i ≤ (xs.length : Int) → Ev (fun k=>impl_IsValidTides.l0 k xs xs (xs.length : Int) i) (chk (All (okAt xs) i (xs.length : Int)) true false):=by
  refine Ev.check (fun k i=>impl_IsValidTides.l0 k xs xs (xs.length : Int) i) (xs.length : Int) (okAt xs) true false 0 ?_ ?_
  · refine Ev.step (fun k=>by rw [impl_IsValidTides.l0]) ?_
    simp only [Int.lt_irrefl,if_false]
    exact Ev.now _
  · intro i h0 hlt r hr
    refine Ev.step (fun k=>by rw [impl_IsValidTides.l0]) ?_
    simp (disch:=omega) only [wrap64_id,impl_within_eq,Option.bind_some,if_pos hlt,if_pos h0,decide_eq_true_eq]
    have fin : ∀ b,(b = true ↔ ¬ (0 ≤ (rd_T60 xs i).f0 ∧ (rd_T60 xs i).f0 ≤ 240 ∧ 0 ≤ (rd_T60 xs i).f1 ∧ (rd_T60 xs i).f1 ≤ 2000)) → Ev (fun k=>impl_IsValidTides.j1 k xs i xs (xs.length : Int) i b (rd_T60 xs i).f0 (rd_T60 xs i).f1) (chk (okAt xs i) r false):=by
      intro b hb
      refine Ev.step (fun k=>by rw [impl_IsValidTides.j1]) ?_
      refine Ev.ite (fun hb'=>?_) (fun hb'=>?_)
      · have:=hb.1 hb'
        rw [chk_neg (fun h=>this h.1)]
        exact Ev.now _
      · have h1 : (0 ≤ (rd_T60 xs i).f0 ∧ (rd_T60 xs i).f0 ≤ 240 ∧ 0 ≤ (rd_T60 xs i).f1 ∧ (rd_T60 xs i).f1 ≤ 2000):=by
          apply Classical.byContradiction;intro h;exact hb' (hb.2 h)
        have fin2 : ∀ b,(b = true ↔ ¬ (0 < i → (rd_T60 xs (i - 1)).f0 < (rd_T60 xs i).f0 ∧ (rd_T60 xs (i - 1)).f1 ≠ (rd_T60 xs i).f1)) → Ev (fun k=>impl_IsValidTides.j2 k xs i xs (xs.length : Int) i b (rd_T60 xs i).f0 (rd_T60 xs i).f1) (chk (okAt xs i) r false):=by
          intro b hb
          refine Ev.step (fun k=>by rw [impl_IsValidTides.j2]) ?_
          refine Ev.ite (fun hb'=>?_) (fun hb'=>?_)
          · have:=hb.1 hb'
            rw [chk_neg (fun h=>this h.2.1)]
            exact Ev.now _
          · have h2 : (0 < i → (rd_T60 xs (i - 1)).f0 < (rd_T60 xs i).f0 ∧ (rd_T60 xs (i - 1)).f1 ≠ (rd_T60 xs i).f1):=by
              apply Classical.byContradiction;intro h;exact hb' (hb.2 h)
            simp (disch:=omega) only [wrap64_id,beq_iff_eq,decide_eq_decide]
            repeat' (refine Ev.ite (fun h=>?_) (fun h=>?_))
            all_goals first
              | (exfalso;omega)
              | (rw [chk_pos ⟨h1,h2,by omega⟩];exact hr)
              | (rw [chk_neg (fun h=>by have:=h.2.2;omega)];exact Ev.now _)
        simp (disch:=omega) only [wrap64_id]
        repeat' (refine Ev.ite (fun h=>?_) (fun h=>?_))
        all_goals first
          | (exfalso;omega)
          | (refine fin2 _ ?_;simp only [beq_iff_eq,true_iff,Bool.false_eq_true,false_iff];omega)
    refine Ev.ite (fun h=>?_) (fun h=>?_)
    all_goals (refine fin _ ?_;simp;omega)
theorem spec_valid_l0 (xs : List S60) (hn : (xs.length : Int) ≤ 20) : ∀ i,0 ≤ i → i ≤ (xs.length : Int) → Ev (fun k=>spec_l15Good.l0 k xs i) (chk (All (okAt xs) i (xs.length : Int)) true false):=by
  refine Ev.check (fun k i=>spec_l15Good.l0 k xs i) (xs.length : Int) (okAt xs) true false 0 ?_ ?_
  · refine Ev.step (fun k=>by rw [spec_l15Good.l0]) ?_
    simp only [Int.lt_irrefl,if_false]
    exact Ev.now _
  · intro i h0 hlt r hr
    refine Ev.step (fun k=>by rw [spec_l15Good.l0]) ?_
    simp (disch:=omega) only [wrap64_id,spec_l1In_eq,Option.bind_some,if_pos hlt,if_pos h0,decide_eq_true_eq]
    have fin : ∀ b,(b = true ↔ ¬ (0 ≤ (rd_T60 xs i).f0 ∧ (rd_T60 xs i).f0 ≤ 240 ∧ 0 ≤ (rd_T60 xs i).f1 ∧ (rd_T60 xs i).f1 ≤ 2000)) → Ev (fun k=>spec_l15Good.j1 k xs i b) (chk (okAt xs i) r false):=by
      intro b hb
      refine Ev.step (fun k=>by rw [spec_l15Good.j1]) ?_
      refine Ev.ite (fun hb'=>?_) (fun hb'=>?_)
      · have:=hb.1 hb'
        rw [chk_neg (fun h=>this h.1)]
        exact Ev.now _
      · have h1 : (0 ≤ (rd_T60 xs i).f0 ∧ (rd_T60 xs i).f0 ≤ 240 ∧ 0 ≤ (rd_T60 xs i).f1 ∧ (rd_T60 xs i).f1 ≤ 2000):=by
          apply Classical.byContradiction;intro h;exact hb' (hb.2 h)
        have fin2 : ∀ b,(b = true ↔ ¬ (0 < i → (rd_T60 xs (i - 1)).f0 < (rd_T60 xs i).f0 ∧ (rd_T60 xs (i - 1)).f1 ≠ (rd_T60 xs i).f1)) → Ev (fun k=>spec_l15Good.j2 k xs i b) (chk (okAt xs i) r false):=by
          intro b hb
          refine Ev.step (fun k=>by rw [spec_l15Good.j2]) ?_
          refine Ev.ite (fun hb'=>?_) (fun hb'=>?_)
          · have:=hb.1 hb'
            rw [chk_neg (fun h=>this h.2.1)]
            exact Ev.now _
          · have h2 : (0 < i → (rd_T60 xs (i - 1)).f0 < (rd_T60 xs i).f0 ∧ (rd_T60 xs (i - 1)).f1 ≠ (rd_T60 xs i).f1):=by
              apply Classical.byContradiction;intro h;exact hb' (hb.2 h)
            simp (disch:=omega) only [wrap64_id,beq_iff_eq,decide_eq_decide]
            repeat' (refine Ev.ite (fun h=>?_) (fun h=>?_))
            all_goals first
              | (exfalso;omega)
              | (rw [chk_pos ⟨h1,h2,by omega⟩];exact hr)
              | (rw [chk_neg (fun h=>by have:=h.2.2;omega)];exact Ev.now _)
        simp (disch:=omega) only [wrap64_id]
        repeat' (refine Ev.ite (fun h=>?_) (fun h=>?_))
        all_goals first
          | (exfalso;omega)
          | (refine fin2 _ ?_;simp only [beq_iff_eq,true_iff,Bool.false_eq_true,false_iff];omega)
    refine Ev.ite (fun h=>?_) (fun h=>?_)
    all_goals (refine fin _ ?_;simp;omega)
theorem impl_valid (xs : List S60) : Ev (fun k=>impl_IsValidTides.f k xs) (chk (Valid xs) true false):=by
  unfold impl_IsValidTides.f
  simp only [impl_within_eq,Option.bind_some,decide_eq_true_eq]
  refine Ev.ite (fun h=>?_) (fun h=>?_)
  · rw [chk_congr (show Valid xs ↔ All (okAt xs) 0 (xs.length : Int) from ⟨fun v=>v.2,fun v=>⟨h,v⟩⟩)]
    exact impl_valid_l0 xs h.2 0 (by omega) (by omega)
  · rw [chk_neg (fun v : Valid xs=>h v.1)]
    exact Ev.now _
theorem spec_valid (xs : List S60) : Ev (fun k=>spec_l15Good.f k xs) (chk (Valid xs) true false):=by
  unfold spec_l15Good.f
  simp only [spec_l1In_eq,Option.bind_some,decide_eq_true_eq]
  refine Ev.ite (fun h=>?_) (fun h=>?_)
  · rw [chk_congr (show Valid xs ↔ All (okAt xs) 0 (xs.length : Int) from ⟨fun v=>v.2,fun v=>⟨h,v⟩⟩)]
    exact spec_valid_l0 xs h.2 0 (by omega) (by omega)
  · rw [chk_neg (fun v : Valid xs=>h v.1)]
    exact Ev.now _
end Go.Proofs.Ytbglkkepfddecaa.G
