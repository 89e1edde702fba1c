/- Texts of the proof of FnFleets, joined in build order. -/
import Derived.Test.YtbpccdbkaiigcaaMgFnFleets1
import Derived.IntWalk
import Derived.DeepKeys4
import Derived.Maps.OwnOps
import Derived.Maps.OwnSet
import Derived.Maps.RangeWalk
set_option maxHeartbeats 8000000
set_option maxRecDepth 100000
set_option linter.unusedVariables false
set_option linter.unusedSimpArgs false
namespace Go.Proofs.Ytbpccdbkaiigcaa.G
open Go.RowKit Go.Proofs.YtbpccdbkaiigcaaW.PrintWords Go.Proofs.YtbpccdbkaiigcaaW.PrintLast Go.Proofs.YtbpccdbkaiigcaaW.PrintMore
attribute [local go_sem] max2_int min2_int max_two min_two max_three min_three max_four min_four   -- for this text's walks alone

attribute [local go_sem high] eqA48
def spec_l16Hit.f (l0:List (S48)) (l1:List (S48)) (a2:Int):Option (Bool):=(spec_l16At.f l0 a2).bind fun bt0=>((spec_l16At.f l1 a2).bind fun bt1=>(if (bt0.1 == bt1.1 && (bt0.2 == bt1.2)) = true then (some true) else (if a2 > 0 then ((spec_l16At.f l0 a2).bind fun bt2=>((spec_l16At.f l1 (wrap64 (a2 - 1))).bind fun bt3=>(if (bt2.1 == bt3.1 && (bt2.2 == bt3.2)) = true then ((spec_l16At.f l0 (wrap64 (a2 - 1))).bind fun bt4=>((spec_l16At.f l1 a2).bind fun bt5=>(some (bt4.1 == bt5.1 && (bt4.2 == bt5.2))))) else (some false)))) else (some false))))
theorem spec_l16Hit.calls (A0:Option Addr) (c0:Nat) (l0:List (S48)) (A1:Option Addr) (c1:Nat) (l1:List (S48)) (a2:Int) (r:Bool) (w:World) (hr0:Kd.C k48 w A0 l0.length l0) (hc0:l0.length ≤ c0) (hr1:Kd.C k48 w A1 l1.length l1) (hc1:l1.length ≤ c1) (h:spec_l16Hit.f l0 l1 a2 = some r) :
  Calls Try.prog 87 #[.slice A0 l0.length c0,.slice A1 l1.length c1,.int .i64 a2] w fun e w'=>e = .returned (.bool r) ∧ Below w.heap.size w w':=by
 have HR0:=zM hr0;have HC0:=zM hc0;clear hr0 hc0;have HR1:=zM hr1;have HC1:=zM hc1;clear hr1 hc1;have HB:=zM (Below.refl w.heap.size w);have H:((spec_l16At.f l0 a2).bind fun bt0=>((spec_l16At.f l1 a2).bind fun bt1=>(if (bt0.1 == bt1.1 && (bt0.2 == bt1.2)) = true then (some true) else (if a2 > 0 then ((spec_l16At.f l0 a2).bind fun bt2=>((spec_l16At.f l1 (wrap64 (a2 - 1))).bind fun bt3=>(if (bt2.1 == bt3.1 && (bt2.2 == bt3.2)) = true then ((spec_l16At.f l0 (wrap64 (a2 - 1))).bind fun bt4=>((spec_l16At.f l1 a2).bind fun bt5=>(some (bt4.1 == bt5.1 && (bt4.2 == bt5.2))))) else (some false)))) else (some false))))) = some r:=h;clear h;replace H:=Option.bind_eq_some_iff.mp H;obtain ⟨⟨t0,t6⟩,A40,H⟩:=H;replace H:((spec_l16At.f l1 a2).bind fun bt1=>(if (t0 == bt1.1 && (t6 == bt1.2)) = true then (some true) else (if a2 > 0 then ((spec_l16At.f l0 a2).bind fun bt2=>((spec_l16At.f l1 (wrap64 (a2 - 1))).bind fun bt3=>(if (bt2.1 == bt3.1 && (bt2.2 == bt3.2)) = true then ((spec_l16At.f l0 (wrap64 (a2 - 1))).bind fun bt4=>((spec_l16At.f l1 a2).bind fun bt5=>(some (bt4.1 == bt5.1 && (bt4.2 == bt5.2))))) else (some false)))) else (some false)))) = some r:=H;have A4:=zM A40;clear A40;replace H:=Option.bind_eq_some_iff.mp H;obtain ⟨⟨t1,t7⟩,A50,H⟩:=H;replace H:(if (t0 == t1 && (t6 == t7)) = true then (some true) else (if a2 > 0 then ((spec_l16At.f l0 a2).bind fun bt2=>((spec_l16At.f l1 (wrap64 (a2 - 1))).bind fun bt3=>(if (bt2.1 == bt3.1 && (bt2.2 == bt3.2)) = true then ((spec_l16At.f l0 (wrap64 (a2 - 1))).bind fun bt4=>((spec_l16At.f l1 a2).bind fun bt5=>(some (bt4.1 == bt5.1 && (bt4.2 == bt5.2))))) else (some false)))) else (some false))) = some r:=H
 have A5:=zM A50;clear A50;by_cases c6:(t0 == t1 && (t6 == t7)) = true
 ·rw [if_pos c6] at H
  have c6b0:(t0 == t1 && (t6 == t7)) = true:=c6;(try (have c6b1:decide (t0 = t1 && (t6 == t7)) = true:=by simpa using c6));(try (have c6b2:(t0 == t1 && (t6 == t7)) = true:=by simpa using c6));clear c6;obtain rfl:=Option.some.inj H;go_enter Try.func87,Try.ntmps87;go_wp2_with (first|((with_reducible refine gate_callee (f:=98) rfl ?_);refine goesL_ (some 9) rfl rfl Try.func98 (by kernel_rfl) rfl #[.slice A0 l0.length c0,.int .i64 a2] rfl zq94 ?_;(with_reducible refine (spec_l16At.calls _ _ l0 a2 t0 t6 _ ?side1 ?side2 A4.out).mono ?_);(case side1=>repeat (first|exact HR0.out|(with_reducible first|refine zG ?_ _|refine zH ?_ _|refine zI ?_)));(case side2=>exact HC0.out);rintro e w7 ⟨rfl,hb⟩;refine ⟨_,rfl,?_⟩;replace HB:= zM (zQ zzh hb);(try clear hb);(try clear hb2);(try clear hk);(try clear hi))|((with_reducible refine gate_callee (f:=98) rfl ?_);refine goesL_ (some 12) rfl rfl Try.func98 (by kernel_rfl) rfl #[.slice A1 l1.length c1,.int .i64 a2] rfl zq94 ?_;(with_reducible refine (spec_l16At.calls _ _ l1 a2 t1 t7 _ ?side1 ?side2 A5.out).mono ?_);(case side1=>repeat (first|exact (zO HR1.out HB.out)|(with_reducible first|refine zG ?_ _|refine zH ?_ _|refine zI ?_)));(case side2=>exact HC1.out);rintro e w8 ⟨rfl,hb⟩;refine ⟨_,rfl,?_⟩;replace HB:= zM (zQ zzh hb);(try clear hb);(try clear hb2);(try clear hk);(try clear hi)));go_ret;exact ⟨zq104,zzh⟩
 ·rw [if_neg c6] at H
  (have c6b0:(t0 == t1 && (t6 == t7)) = false:=by simpa using c6);(try (have c6b1:decide (t0 = t1 && (t6 == t7)) = false:=by simpa using c6));(try (have c6b2:(t0 == t1 && (t6 == t7)) = false:=by simpa using c6));(try (have c6b3:¬ (t0 = t1 && (t6 == t7)):=by simpa using c6));clear c6;by_cases c9:a2 > 0
  ·rw [if_pos c9] at H
   have c9b0:decide (0 < a2) = true:=decide_eq_true c9;clear c9;replace H:=Option.bind_eq_some_iff.mp H;obtain ⟨⟨t2,t8⟩,A9,H⟩:=H;replace H:((spec_l16At.f l1 (wrap64 (a2 - 1))).bind fun bt3=>(if (t2 == bt3.1 && (t8 == bt3.2)) = true then ((spec_l16At.f l0 (wrap64 (a2 - 1))).bind fun bt4=>((spec_l16At.f l1 a2).bind fun bt5=>(some (bt4.1 == bt5.1 && (bt4.2 == bt5.2))))) else (some false))) = some r:=H;have A10:=zM A9;clear A9;replace H:=Option.bind_eq_some_iff.mp H;obtain ⟨⟨t3,t10⟩,A12,H⟩:=H;replace H:(if (t2 == t3 && (t8 == t10)) = true then ((spec_l16At.f l0 (wrap64 (a2 - 1))).bind fun bt4=>((spec_l16At.f l1 a2).bind fun bt5=>(some (bt4.1 == bt5.1 && (bt4.2 == bt5.2))))) else (some false)) = some r:=H;have A11:=zM A12;clear A12;by_cases c12:(t2 == t3 && (t8 == t10)) = true
   ·rw [if_pos c12] at H
    have c12b0:(t2 == t3 && (t8 == t10)) = true:=c12;(try (have c12b1:decide (t2 = t3 && (t8 == t10)) = true:=by simpa using c12));(try (have c12b2:(t2 == t3 && (t8 == t10)) = true:=by simpa using c12));clear c12;replace H:=Option.bind_eq_some_iff.mp H;obtain ⟨⟨t4,t11⟩,A15,H⟩:=H;replace H:((spec_l16At.f l1 a2).bind fun bt5=>(some (t4 == bt5.1 && (t11 == bt5.2)))) = some r:=H;have A13:=zM A15;clear A15;replace H:=Option.bind_eq_some_iff.mp H;obtain ⟨⟨t5,t13⟩,A16,H⟩:=H;replace H:(some (t4 == t5 && (t11 == t13))) = some r:=H;have A14:=zM A16;clear A16;obtain rfl:=Option.some.inj H;go_enter Try.func87,Try.ntmps87;go_wp2_with (first|((with_reducible refine gate_callee (f:=98) rfl ?_);refine goesL_ (some 9) rfl rfl Try.func98 (by kernel_rfl) rfl #[.slice A0 l0.length c0,.int .i64 a2] rfl zq94 ?_;(with_reducible refine (spec_l16At.calls _ _ l0 a2 t0 t6 _ ?side1 ?side2 A4.out).mono ?_);(case side1=>repeat (first|exact HR0.out|(with_reducible first|refine zG ?_ _|refine zH ?_ _|refine zI ?_)));(case side2=>exact HC0.out);rintro e w15 ⟨rfl,hb⟩;refine ⟨_,rfl,?_⟩;replace HB:= zM (zQ zzh hb);(try clear hb);(try clear hb2);(try clear hk);(try clear hi))|((with_reducible refine gate_callee (f:=98) rfl ?_);refine goesL_ (some 12) rfl rfl Try.func98 (by kernel_rfl) rfl #[.slice A1 l1.length c1,.int .i64 a2] rfl zq94 ?_;(with_reducible refine (spec_l16At.calls _ _ l1 a2 t1 t7 _ ?side1 ?side2 A5.out).mono ?_);(case side1=>repeat (first|exact (zO HR1.out HB.out)|(with_reducible first|refine zG ?_ _|refine zH ?_ _|refine zI ?_)));(case side2=>exact HC1.out);rintro e w16 ⟨rfl,hb⟩;refine ⟨_,rfl,?_⟩;replace HB:= zM (zQ zzh hb);(try clear hb);(try clear hb2);(try clear hk);(try clear hi))|(go_at_call 98;(with_reducible refine (spec_l16At.calls _ _ l0 a2 t2 t8 _ ?side1 ?side2 A10.out).mono ?_);(case side1=>repeat (first|exact (zO HR0.out HB.out)|(with_reducible first|refine zG ?_ _|refine zH ?_ _|refine zI ?_)));(case side2=>exact HC0.out);rintro e w17 ⟨rfl,hb⟩;replace HB:= zM (zQ zzh hb);(try clear hb);(try clear hb2);(try clear hk);(try clear hi))|(go_at_call 98;(with_reducible refine (spec_l16At.calls _ _ l1 (wrap64 (a2 - 1)) t3 t10 _ ?side1 ?side2 A11.out).mono ?_);(case side1=>repeat (first|exact (zO HR1.out HB.out)|(with_reducible first|refine zG ?_ _|refine zH ?_ _|refine zI ?_)));(case side2=>exact HC1.out);rintro e w18 ⟨rfl,hb⟩;replace HB:= zM (zQ zzh hb);(try clear hb);(try clear hb2);(try clear hk);(try clear hi))|(go_at_call 98;(with_reducible refine (spec_l16At.calls _ _ l0 (wrap64 (a2 - 1)) t4 t11 _ ?side1 ?side2 A13.out).mono ?_);(case side1=>repeat (first|exact (zO HR0.out HB.out)|(with_reducible first|refine zG ?_ _|refine zH ?_ _|refine zI ?_)));(case side2=>exact HC0.out);rintro e w19 ⟨rfl,hb⟩;replace HB:= zM (zQ zzh hb);(try clear hb);(try clear hb2);(try clear hk);(try clear hi))|(go_at_call 98;(with_reducible refine (spec_l16At.calls _ _ l1 a2 t5 t13 _ ?side1 ?side2 A14.out).mono ?_);(case side1=>repeat (first|exact (zO HR1.out HB.out)|(with_reducible first|refine zG ?_ _|refine zH ?_ _|refine zI ?_)));(case side2=>exact HC1.out);rintro e w20 ⟨rfl,hb⟩;replace HB:= zM (zQ zzh hb);(try clear hb);(try clear hb2);(try clear hk);(try clear hi)))
    go_ret;exact ⟨zq104,zzh⟩
   ·rw [if_neg c12] at H
    (have c12b0:(t2 == t3 && (t8 == t10)) = false:=by simpa using c12);(try (have c12b1:decide (t2 = t3 && (t8 == t10)) = false:=by simpa using c12));(try (have c12b2:(t2 == t3 && (t8 == t10)) = false:=by simpa using c12));(try (have c12b3:¬ (t2 = t3 && (t8 == t10)):=by simpa using c12));clear c12;obtain rfl:=Option.some.inj H;go_enter Try.func87,Try.ntmps87;go_wp2_with (first|((with_reducible refine gate_callee (f:=98) rfl ?_);refine goesL_ (some 9) rfl rfl Try.func98 (by kernel_rfl) rfl #[.slice A0 l0.length c0,.int .i64 a2] rfl zq94 ?_;(with_reducible refine (spec_l16At.calls _ _ l0 a2 t0 t6 _ ?side1 ?side2 A4.out).mono ?_);(case side1=>repeat (first|exact HR0.out|(with_reducible first|refine zG ?_ _|refine zH ?_ _|refine zI ?_)));(case side2=>exact HC0.out);rintro e w21 ⟨rfl,hb⟩;refine ⟨_,rfl,?_⟩;replace HB:= zM (zQ zzh hb);(try clear hb);(try clear hb2);(try clear hk);(try clear hi))|((with_reducible refine gate_callee (f:=98) rfl ?_);refine goesL_ (some 12) rfl rfl Try.func98 (by kernel_rfl) rfl #[.slice A1 l1.length c1,.int .i64 a2] rfl zq94 ?_;(with_reducible refine (spec_l16At.calls _ _ l1 a2 t1 t7 _ ?side1 ?side2 A5.out).mono ?_);(case side1=>repeat (first|exact (zO HR1.out HB.out)|(with_reducible first|refine zG ?_ _|refine zH ?_ _|refine zI ?_)));(case side2=>exact HC1.out);rintro e w22 ⟨rfl,hb⟩;refine ⟨_,rfl,?_⟩;replace HB:= zM (zQ zzh hb);(try clear hb);(try clear hb2);(try clear hk);(try clear hi))|(go_at_call 98;(with_reducible refine (spec_l16At.calls _ _ l0 a2 t2 t8 _ ?side1 ?side2 A10.out).mono ?_);(case side1=>repeat (first|exact (zO HR0.out HB.out)|(with_reducible first|refine zG ?_ _|refine zH ?_ _|refine zI ?_)));(case side2=>exact HC0.out);rintro e w23 ⟨rfl,hb⟩;replace HB:= zM (zQ zzh hb);(try clear hb);(try clear hb2);(try clear hk);(try clear hi))|(go_at_call 98;(with_reducible refine (spec_l16At.calls _ _ l1 (wrap64 (a2 - 1)) t3 t10 _ ?side1 ?side2 A11.out).mono ?_);(case side1=>repeat (first|exact (zO HR1.out HB.out)|(with_reducible first|refine zG ?_ _|refine zH ?_ _|refine zI ?_)));(case side2=>exact HC1.out);rintro e w24 ⟨rfl,hb⟩;replace HB:= zM (zQ zzh hb);(try clear hb);(try clear hb2);(try clear hk);(try clear hi)))
    go_ret;exact ⟨zq104,zzh⟩
  ·rw [if_neg c9] at H
   have c9b0:decide (0 < a2) = false:=decide_eq_false c9;clear c9;obtain rfl:=Option.some.inj H;go_enter Try.func87,Try.ntmps87;go_wp2_with (first|((with_reducible refine gate_callee (f:=98) rfl ?_);refine goesL_ (some 9) rfl rfl Try.func98 (by kernel_rfl) rfl #[.slice A0 l0.length c0,.int .i64 a2] rfl zq94 ?_;(with_reducible refine (spec_l16At.calls _ _ l0 a2 t0 t6 _ ?side1 ?side2 A4.out).mono ?_);(case side1=>repeat (first|exact HR0.out|(with_reducible first|refine zG ?_ _|refine zH ?_ _|refine zI ?_)));(case side2=>exact HC0.out);rintro e w25 ⟨rfl,hb⟩;refine ⟨_,rfl,?_⟩;replace HB:= zM (zQ zzh hb);(try clear hb);(try clear hb2);(try clear hk);(try clear hi))|((with_reducible refine gate_callee (f:=98) rfl ?_);refine goesL_ (some 12) rfl rfl Try.func98 (by kernel_rfl) rfl #[.slice A1 l1.length c1,.int .i64 a2] rfl zq94 ?_;(with_reducible refine (spec_l16At.calls _ _ l1 a2 t1 t7 _ ?side1 ?side2 A5.out).mono ?_);(case side1=>repeat (first|exact (zO HR1.out HB.out)|(with_reducible first|refine zG ?_ _|refine zH ?_ _|refine zI ?_)));(case side2=>exact HC1.out);rintro e w26 ⟨rfl,hb⟩;refine ⟨_,rfl,?_⟩;replace HB:= zM (zQ zzh hb);(try clear hb);(try clear hb2);(try clear hk);(try clear hi)));go_ret;exact ⟨zq104,zzh⟩



def spec_l16Collision.l0:Nat → List (S48) → List (S48) → Int → Option (Int)
 | 0,_,_,_=>none
 | k + 1,x0,x1,x5=>(spec_l1Most.f (x0.length:Int) (x1.length:Int)).bind fun t0=>(if x5 < t0 then ((spec_l16Hit.f x0 x1 x5).bind fun t1=>(if t1 = true then (some x5) else (spec_l16Collision.l0 k x0 x1 (wrap64 (x5 + 1))))) else (some (-1)))
def spec_l16Collision.f (k:Nat) (l0:List (S48)) (l1:List (S48)):Option (Int):=spec_l16Collision.l0 k l0 l1 0
theorem spec_l16Collision.calls (k:Nat) (A0:Option Addr) (c0:Nat) (l0:List (S48)) (A1:Option Addr) (c1:Nat) (l1:List (S48)) (r:Int) (w:World) (hr0:Kd.C k48 w A0 l0.length l0) (hc0:l0.length ≤ c0) (hr1:Kd.C k48 w A1 l1.length l1) (hc1:l1.length ≤ c1) (h:spec_l16Collision.f k l0 l1 = some r) :
  Calls Try.prog 61 #[.slice A0 l0.length c0,.slice A1 l1.length c1] w fun e w'=>e = .returned (.int .i64 r) ∧ Below w.heap.size w w':=by
 have HR0:=zM hr0;have HC0:=zM hc0;clear hr0 hc0;have HR1:=zM hr1;have HC1:=zM hc1;clear hr1 hc1;have HB:=zM (Below.refl w.heap.size w);have H:(spec_l16Collision.l0 k l0 l1 0) = some r:=h;clear h;have H':=zM H;clear H;go_enter Try.func61,Try.ntmps61;go_wp2;go_loopg [5] k (fun kq v5 w' => ∃ (x5_1:Int),v5 = .int .i64 x5_1 ∧ Aside0 (spec_l16Collision.l0 kq l0 l1 x5_1 = some r) ∧ Aside0 (kq ≤ k) ∧ Aside0 (Below w.heap.size w w'))
 case atStart=>exact ⟨(0),zq112,H',⟨Nat.le_refl _⟩,⟨zzh⟩⟩
 case round =>
  clear H';(try clear c1);(try clear p2);obtain ⟨x5_1,rfl,HA,HK1,HB⟩:=hrel;cases gk with
  | zero=>exact absurd HA.out (by simp [spec_l16Collision.l0])
  | succ k1 =>
   have H:=HA.out;clear HA;simp only [spec_l16Collision.l0] at H;replace H:=Option.bind_eq_some_iff.mp H;obtain ⟨t0,A30,H⟩:=H;replace H:(if x5_1 < t0 then ((spec_l16Hit.f l0 l1 x5_1).bind fun t1=>(if t1 = true then (some x5_1) else (spec_l16Collision.l0 k1 l0 l1 (wrap64 (x5_1 + 1))))) else (some (-1))) = some r:=H;have A3:=zM A30;clear A30;by_cases c4:x5_1 < t0
   ·rw [if_pos c4] at H
    have c4b0:decide (x5_1 < t0) = true:=decide_eq_true c4;clear c4;replace H:=Option.bind_eq_some_iff.mp H;obtain ⟨t1,A50,H⟩:=H;replace H:(if t1 = true then (some x5_1) else (spec_l16Collision.l0 k1 l0 l1 (wrap64 (x5_1 + 1)))) = some r:=H;have A5:=zM A50;clear A50;by_cases c6:t1 = true
    ·subst c6
     (have H1:(some x5_1) = some r:=by rw [if_pos rfl] at H;exact H);clear H;have H:=H1;clear H1;obtain rfl:=Option.some.inj H;go_wp2_with (first|((with_reducible refine gate_callee (f:=86) rfl ?_);refine goesL_ (some 11) rfl rfl Try.func86 (by kernel_rfl) rfl #[.int .i64 (l0.length:Int),.int .i64 (l1.length:Int)] rfl zq94 ?_;(with_reducible refine (spec_l1Most.calls (l0.length:Int) (l1.length:Int) t0 _ A3.out).mono ?_);rintro e w' ⟨rfl,⟨nd,rfl⟩⟩;refine ⟨_,rfl,?_⟩)|((with_reducible refine gate_callee (f:=87) rfl ?_);refine goesL_ (some 18) rfl rfl Try.func87 (by kernel_rfl) rfl #[.slice A0 l0.length c0,.slice A1 l1.length c1,.int .i64 x5_1] rfl zq94 ?_;(with_reducible refine (spec_l16Hit.calls _ _ l0 _ _ l1 x5_1 true _ ?side1 ?side2 ?side3 ?side4 A5.out).mono ?_);(case side1=>repeat (first|exact (zO HR0.out zzh)|(with_reducible first|refine zG ?_ _|refine zH ?_ _|refine zI ?_)));(case side2=>exact HC0.out);(case side3=>repeat (first|exact (zO HR1.out zzh)|(with_reducible first|refine zG ?_ _|refine zH ?_ _|refine zI ?_)));(case side4=>exact HC1.out);rintro e w7 ⟨rfl,hb⟩;refine ⟨_,rfl,?_⟩;replace HB:= zM (zQ zzh hb);(try clear hb);(try clear hb2);(try clear hk);(try clear hi)));go_ret;exact ⟨zq104,zzh⟩
    ·replace c6:=Bool.eq_false_iff.mpr c6
     subst c6;have H1:(spec_l16Collision.l0 k1 l0 l1 (wrap64 (x5_1 + 1))) = some r:=by rw [if_neg (show ¬ (false = true) by decide)] at H;exact H
     clear H;have H:=H1;clear H1;have H':=zM H;clear H;go_wp2_with (first|((with_reducible refine gate_callee (f:=86) rfl ?_);refine goesL_ (some 11) rfl rfl Try.func86 (by kernel_rfl) rfl #[.int .i64 (l0.length:Int),.int .i64 (l1.length:Int)] rfl zq94 ?_;(with_reducible refine (spec_l1Most.calls (l0.length:Int) (l1.length:Int) t0 _ A3.out).mono ?_);rintro e w' ⟨rfl,⟨nd,rfl⟩⟩;refine ⟨_,rfl,?_⟩)|((with_reducible refine gate_callee (f:=87) rfl ?_);refine goesL_ (some 18) rfl rfl Try.func87 (by kernel_rfl) rfl #[.slice A0 l0.length c0,.slice A1 l1.length c1,.int .i64 x5_1] rfl zq94 ?_;(with_reducible refine (spec_l16Hit.calls _ _ l0 _ _ l1 x5_1 false _ ?side1 ?side2 ?side3 ?side4 A5.out).mono ?_);(case side1=>repeat (first|exact (zO HR0.out zzh)|(with_reducible first|refine zG ?_ _|refine zH ?_ _|refine zI ?_)));(case side2=>exact HC0.out);(case side3=>repeat (first|exact (zO HR1.out zzh)|(with_reducible first|refine zG ?_ _|refine zH ?_ _|refine zI ?_)));(case side4=>exact HC1.out);rintro e w8 ⟨rfl,hb⟩;refine ⟨_,rfl,?_⟩;replace HB:= zM (zQ zzh hb);(try clear hb);(try clear hb2);(try clear hk);(try clear hi)));go_roundg k1
     case measure=>have:=HK1.out;omega
     case rel=>exact ⟨(wrap64 (x5_1 + 1)),zq112,H',⟨zq121⟩,⟨zzh⟩⟩
   ·rw [if_neg c4] at H
    have c4b0:decide (x5_1 < t0) = false:=decide_eq_false c4;clear c4;obtain rfl:=Option.some.inj H;go_wp2_with (first|((with_reducible refine gate_callee (f:=86) rfl ?_);refine goesL_ (some 11) rfl rfl Try.func86 (by kernel_rfl) rfl #[.int .i64 (l0.length:Int),.int .i64 (l1.length:Int)] rfl zq94 ?_;(with_reducible refine (spec_l1Most.calls (l0.length:Int) (l1.length:Int) t0 _ A3.out).mono ?_);rintro e w' ⟨rfl,⟨nd,rfl⟩⟩;refine ⟨_,rfl,?_⟩));go_ret;exact ⟨zq104,zzh⟩



def spec_FirstCollision.j0:Nat → List (S48) → List (S48) → Bool → Option (Int × Bool × Bool)
 | 0,_,_,_=>none
 | k + 1,x1,x2,x24=>if x24 = true then (some (0,false,false)) else ((spec_l16Collision.f k x1 x2).bind fun t0=>(if t0 < 0 then (some (0,false,true)) else (some (t0,true,true))))
def spec_FirstCollision.f (k:Nat) (a0_0:Int) (a0_1:Int) (l0_2:List (S48)) (l1:List (S48)) (l2:List (S48)):Option (Int × Bool × Bool):=(spec_l16Good.f k a0_0 a0_1 l0_2).bind fun t0=>(if t0 = true then ((spec_l16Path.f k a0_0 a0_1 l0_2 l1).bind fun t1=>(if t1 = true then ((spec_l16Path.f k a0_0 a0_1 l0_2 l2).bind fun t2=>(spec_FirstCollision.j0 k l1 l2 (!t2))) else (spec_FirstCollision.j0 k l1 l2 true))) else (spec_FirstCollision.j0 k l1 l2 true))
theorem spec_FirstCollision.calls (k:Nat) (a0_0:Int) (a0_1:Int) (A0_2:Option Addr) (c0_2:Nat) (l0_2:List (S48)) (A1:Option Addr) (c1:Nat) (l1:List (S48)) (A2:Option Addr) (c2:Nat) (l2:List (S48)) (r1:Int) (r2:Bool) (r3:Bool) (w:World) (hr0_2:Kd.C k48 w A0_2 l0_2.length l0_2) (hc0_2:l0_2.length ≤ c0_2) (hr1:Kd.C k48 w A1 l1.length l1) (hc1:l1.length ≤ c1) (hr2:Kd.C k48 w A2 l2.length l2) (hc2:l2.length ≤ c2) (h:spec_FirstCollision.f k a0_0 a0_1 l0_2 l1 l2 = some (r1,r2,r3)) :
  Calls Try.prog 23 #[.agg #[.int .i64 a0_0,.int .i64 a0_1,.slice A0_2 l0_2.length c0_2],.slice A1 l1.length c1,.slice A2 l2.length c2] w fun e w'=>e = .returned (.tuple #[.int .i64 r1,.bool r2,.bool r3]) ∧ Below w.heap.size w w':=by
 have hu29:=Try.underlying29;have HR0_2:=zM hr0_2;have HC0_2:=zM hc0_2;clear hr0_2 hc0_2;have HR1:=zM hr1;have HC1:=zM hc1;clear hr1 hc1;have HR2:=zM hr2;have HC2:=zM hc2;clear hr2 hc2;have HB:=zM (Below.refl w.heap.size w);have H:((spec_l16Good.f k a0_0 a0_1 l0_2).bind fun t0=>(if t0 = true then ((spec_l16Path.f k a0_0 a0_1 l0_2 l1).bind fun t1=>(if t1 = true then ((spec_l16Path.f k a0_0 a0_1 l0_2 l2).bind fun t2=>(spec_FirstCollision.j0 k l1 l2 (!t2))) else (spec_FirstCollision.j0 k l1 l2 true))) else (spec_FirstCollision.j0 k l1 l2 true))) = some (r1,r2,r3):=h;clear h;have HC4:=zM H;clear H;go_enter Try.func23,Try.ntmps23;go_upto_region 1 with (first|((with_reducible refine gate_dst (N:=3) rfl ?_);refine zzc 3 #[.int .i64 a0_0,.int .i64 a0_1,.slice A0_2 l0_2.length c0_2] 29 ?_;intro gb3 hg w5 hbox hb;have BK3:= zM (hbox);have GW3:= zM ((zq117:w.heap.size ≤ gb3));have GE3:= zM ((zq117:w.heap.size ≤ gb3));replace HB:= zM (zQ zzh hb);clear hb hbox hg));(try simp only [Act.put,zT,zU,zV]);go_cut [24] (fun v24 wc => ∃ (kq:Nat) (x24_3:Bool),v24 = .bool x24_3 ∧ Aside0 (spec_FirstCollision.j0 kq l1 l2 x24_3 = some (r1,r2,r3)) ∧ Aside0 (kq ≤ k) ∧ Aside0 (wc.heap[gb3]? = some (.cells #[.int .i64 a0_0,.int .i64 a0_1,(.slice A0_2 l0_2.length c0_2)] 29 (0,0))) ∧ Aside0 (Below w.heap.size w wc))
 case first =>
  have H:=HC4.out;clear HC4;replace H:=Option.bind_eq_some_iff.mp H;obtain ⟨t0,A60,H⟩:=H;replace H:(if t0 = true then ((spec_l16Path.f k a0_0 a0_1 l0_2 l1).bind fun t1=>(if t1 = true then ((spec_l16Path.f k a0_0 a0_1 l0_2 l2).bind fun t2=>(spec_FirstCollision.j0 k l1 l2 (!t2))) else (spec_FirstCollision.j0 k l1 l2 true))) else (spec_FirstCollision.j0 k l1 l2 true)) = some (r1,r2,r3):=H;have A6:=zM A60;clear A60;by_cases c7:t0 = true
  ·subst c7
   (have H1:((spec_l16Path.f k a0_0 a0_1 l0_2 l1).bind fun t1=>(if t1 = true then ((spec_l16Path.f k a0_0 a0_1 l0_2 l2).bind fun t2=>(spec_FirstCollision.j0 k l1 l2 (!t2))) else (spec_FirstCollision.j0 k l1 l2 true))) = some (r1,r2,r3):=by rw [if_pos rfl] at H;exact H);clear H;have H:=H1;clear H1;replace H:=Option.bind_eq_some_iff.mp H;obtain ⟨t1,A80,H⟩:=H;replace H:(if t1 = true then ((spec_l16Path.f k a0_0 a0_1 l0_2 l2).bind fun t2=>(spec_FirstCollision.j0 k l1 l2 (!t2))) else (spec_FirstCollision.j0 k l1 l2 true)) = some (r1,r2,r3):=H;have A8:=zM A80;clear A80;by_cases c9:t1 = true
   ·subst c9
    (have H1:((spec_l16Path.f k a0_0 a0_1 l0_2 l2).bind fun t2=>(spec_FirstCollision.j0 k l1 l2 (!t2))) = some (r1,r2,r3):=by rw [if_pos rfl] at H;exact H);clear H;have H:=H1;clear H1;replace H:=Option.bind_eq_some_iff.mp H;obtain ⟨t2,A4,H⟩:=H;replace H:(spec_FirstCollision.j0 k l1 l2 (!t2)) = some (r1,r2,r3):=H;have A10:=zM A4;clear A4;have H':=zM H;clear H;have hcz11_0:=zz0 BK3;have hcz11_1:=zz1 BK3;have hcz11_2:=zz2 BK3;have hfz11_0:=blk_frozen BK3.out 0;have hfz11_1:=blk_frozen BK3.out 1;have hfz11_2:=blk_frozen BK3.out 2;go_wp2_with (first|((with_reducible refine gate_callee (f:=53) rfl ?_);refine goesL_ (some 11) rfl rfl Try.func53 (by kernel_rfl) rfl #[.agg #[.int .i64 a0_0,.int .i64 a0_1,.slice A0_2 l0_2.length c0_2]] rfl zq94 ?_;(with_reducible refine (spec_l16Good.calls k a0_0 a0_1 _ _ l0_2 true _ ?side1 ?side2 A6.out).mono ?_);(case side1=>repeat (first|exact (zO HR0_2.out HB.out)|(with_reducible first|refine zG ?_ _|refine zH ?_ _|refine zI ?_)));(case side2=>exact HC0_2.out);rintro e w12 ⟨rfl,hb⟩;refine ⟨_,rfl,?_⟩;replace BK3:= zM (blk_below (zzi BK3) hb);replace HB:= zM (zQ zzh hb);(try clear hb);(try clear hb2);(try clear hk);(try clear hi);have hcz13_0:=zz0 BK3;have hcz13_1:=zz1 BK3;have hcz13_2:=zz2 BK3;have hfz13_0:=blk_frozen BK3.out 0;have hfz13_1:=blk_frozen BK3.out 1;have hfz13_2:=blk_frozen BK3.out 2)|(go_at_call 57;(with_reducible refine (spec_l16Path.calls k a0_0 a0_1 _ _ l0_2 _ _ l1 true _ ?side1 ?side2 ?side3 ?side4 A8.out).mono ?_);(case side1=>repeat (first|exact (zO HR0_2.out HB.out)|(with_reducible first|refine zG ?_ _|refine zH ?_ _|refine zI ?_)));(case side2=>exact HC0_2.out);(case side3=>repeat (first|exact (zO HR1.out HB.out)|(with_reducible first|refine zG ?_ _|refine zH ?_ _|refine zI ?_)));(case side4=>exact HC1.out);rintro e w14 ⟨rfl,hb⟩;replace BK3:= zM (blk_below (zzi BK3) hb);replace HB:= zM (zQ zzh hb);(try clear hb);(try clear hb2);(try clear hk);(try clear hi);have hcz15_0:=zz0 BK3;have hcz15_1:=zz1 BK3;have hcz15_2:=zz2 BK3;have hfz15_0:=blk_frozen BK3.out 0;have hfz15_1:=blk_frozen BK3.out 1;have hfz15_2:=blk_frozen BK3.out 2)|(go_at_call 57;(with_reducible refine (spec_l16Path.calls k a0_0 a0_1 _ _ l0_2 _ _ l2 t2 _ ?side1 ?side2 ?side3 ?side4 A10.out).mono ?_);(case side1=>repeat (first|exact (zO HR0_2.out HB.out)|(with_reducible first|refine zG ?_ _|refine zH ?_ _|refine zI ?_)));(case side2=>exact HC0_2.out);(case side3=>repeat (first|exact (zO HR2.out HB.out)|(with_reducible first|refine zG ?_ _|refine zH ?_ _|refine zI ?_)));(case side4=>exact HC2.out);rintro e w16 ⟨rfl,hb⟩;replace BK3:= zM (blk_below (zzi BK3) hb);replace HB:= zM (zQ zzh hb);(try clear hb);(try clear hb2);(try clear hk);(try clear hi)))
    go_meet
    case rel=>exact ⟨_,(!t2),zq112,H',⟨zq116⟩,⟨zzi BK3⟩,⟨zzh⟩⟩
   ·replace c9:=Bool.eq_false_iff.mpr c9
    subst c9;have H1:(spec_FirstCollision.j0 k l1 l2 true) = some (r1,r2,r3):=by rw [if_neg (show ¬ (false = true) by decide)] at H;exact H
    clear H;have H:=H1;clear H1;have H':=zM H;clear H;have hcz17_0:=zz0 BK3;have hcz17_1:=zz1 BK3;have hcz17_2:=zz2 BK3;have hfz17_0:=blk_frozen BK3.out 0;have hfz17_1:=blk_frozen BK3.out 1;have hfz17_2:=blk_frozen BK3.out 2;go_wp2_with (first|((with_reducible refine gate_callee (f:=53) rfl ?_);refine goesL_ (some 11) rfl rfl Try.func53 (by kernel_rfl) rfl #[.agg #[.int .i64 a0_0,.int .i64 a0_1,.slice A0_2 l0_2.length c0_2]] rfl zq94 ?_;(with_reducible refine (spec_l16Good.calls k a0_0 a0_1 _ _ l0_2 true _ ?side1 ?side2 A6.out).mono ?_);(case side1=>repeat (first|exact (zO HR0_2.out HB.out)|(with_reducible first|refine zG ?_ _|refine zH ?_ _|refine zI ?_)));(case side2=>exact HC0_2.out);rintro e w18 ⟨rfl,hb⟩;refine ⟨_,rfl,?_⟩;replace BK3:= zM (blk_below (zzi BK3) hb);replace HB:= zM (zQ zzh hb);(try clear hb);(try clear hb2);(try clear hk);(try clear hi);have hcz19_0:=zz0 BK3;have hcz19_1:=zz1 BK3;have hcz19_2:=zz2 BK3;have hfz19_0:=blk_frozen BK3.out 0;have hfz19_1:=blk_frozen BK3.out 1;have hfz19_2:=blk_frozen BK3.out 2)|(go_at_call 57;(with_reducible refine (spec_l16Path.calls k a0_0 a0_1 _ _ l0_2 _ _ l1 false _ ?side1 ?side2 ?side3 ?side4 A8.out).mono ?_);(case side1=>repeat (first|exact (zO HR0_2.out HB.out)|(with_reducible first|refine zG ?_ _|refine zH ?_ _|refine zI ?_)));(case side2=>exact HC0_2.out);(case side3=>repeat (first|exact (zO HR1.out HB.out)|(with_reducible first|refine zG ?_ _|refine zH ?_ _|refine zI ?_)));(case side4=>exact HC1.out);rintro e w20 ⟨rfl,hb⟩;replace BK3:= zM (blk_below (zzi BK3) hb);replace HB:= zM (zQ zzh hb);(try clear hb);(try clear hb2);(try clear hk);(try clear hi)))
    go_meet
    case rel=>exact ⟨_,(true),zq112,H',⟨zq116⟩,⟨zzi BK3⟩,⟨zzh⟩⟩
  ·replace c7:=Bool.eq_false_iff.mpr c7
   subst c7;have H1:(spec_FirstCollision.j0 k l1 l2 true) = some (r1,r2,r3):=by rw [if_neg (show ¬ (false = true) by decide)] at H;exact H
   clear H;have H:=H1;clear H1;have H':=zM H;clear H;have hcz21_0:=zz0 BK3;have hcz21_1:=zz1 BK3;have hcz21_2:=zz2 BK3;have hfz21_0:=blk_frozen BK3.out 0;have hfz21_1:=blk_frozen BK3.out 1;have hfz21_2:=blk_frozen BK3.out 2;go_wp2_with (first|((with_reducible refine gate_callee (f:=53) rfl ?_);refine goesL_ (some 11) rfl rfl Try.func53 (by kernel_rfl) rfl #[.agg #[.int .i64 a0_0,.int .i64 a0_1,.slice A0_2 l0_2.length c0_2]] rfl zq94 ?_;(with_reducible refine (spec_l16Good.calls k a0_0 a0_1 _ _ l0_2 false _ ?side1 ?side2 A6.out).mono ?_);(case side1=>repeat (first|exact (zO HR0_2.out HB.out)|(with_reducible first|refine zG ?_ _|refine zH ?_ _|refine zI ?_)));(case side2=>exact HC0_2.out);rintro e w22 ⟨rfl,hb⟩;refine ⟨_,rfl,?_⟩;replace BK3:= zM (blk_below (zzi BK3) hb);replace HB:= zM (zQ zzh hb);(try clear hb);(try clear hb2);(try clear hk);(try clear hi)));go_meet
   case rel=>exact ⟨_,(true),zq112,H',⟨zq116⟩,⟨zzi BK3⟩,⟨zzh⟩⟩
 case rest =>
  clear HC4;(try clear c1);(try clear c2);(try clear p2);(try clear c5);(try clear c7);(try clear c9);(try clear hcz11_0);(try clear hcz11_1);(try clear hcz11_2);(try clear hcz13_0);(try clear hcz13_1);(try clear hcz13_2);(try clear hcz15_0);(try clear hcz15_1);(try clear hcz15_2);(try clear hcz17_0);(try clear hcz17_1);(try clear hcz17_2);(try clear hcz19_0);(try clear hcz19_1);(try clear hcz19_2);(try clear hcz21_0);(try clear hcz21_1);(try clear hcz21_2);(try clear hfz11_0);(try clear hfz11_1);(try clear hfz11_2);(try clear hfz13_0);(try clear hfz13_1);(try clear hfz13_2);(try clear hfz15_0);(try clear hfz15_1);(try clear hfz15_2);(try clear hfz17_0);(try clear hfz17_1);(try clear hfz17_2);(try clear hfz19_0);(try clear hfz19_1);(try clear hfz19_2);(try clear hfz21_0);(try clear hfz21_1);(try clear hfz21_2);obtain ⟨kq,x24_3,rfl,HA,HJ3,BK3,HB⟩:=hcut;cases kq with
  | zero=>exact absurd HA.out (by simp [spec_FirstCollision.j0])
  | succ kj3 =>
   have H:=HA.out;clear HA;simp only [spec_FirstCollision.j0] at H;by_cases c23:x24_3 = true
   ·subst c23
    (have H1:(some (0,false,false)) = some (r1,r2,r3):=by rw [if_pos rfl] at H;exact H);clear H;have H:=H1;clear H1;simp only [Option.some.injEq,Prod.mk.injEq] at H;obtain ⟨rfl,rfl,rfl⟩:=H;go_wp2;go_ret3;exact ⟨zq104,zzh⟩
   ·replace c23:=Bool.eq_false_iff.mpr c23
    subst c23;have H1:((spec_l16Collision.f kj3 l1 l2).bind fun t5=>(if t5 < 0 then (some (0,false,true)) else (some (t5,true,true)))) = some (r1,r2,r3):=by rw [if_neg (show ¬ (false = true) by decide)] at H;exact H
    clear H;have H:=H1;clear H1;replace H:=Option.bind_eq_some_iff.mp H;obtain ⟨t5,A7,H⟩:=H;replace H:(if t5 < 0 then (some (0,false,true)) else (some (t5,true,true))) = some (r1,r2,r3):=H;have A24:=zM A7;clear A7;by_cases c25:t5 < 0
    ·rw [if_pos c25] at H
     have c25b0:decide (t5 < 0) = true:=decide_eq_true c25;clear c25;simp only [Option.some.injEq,Prod.mk.injEq] at H;obtain ⟨rfl,rfl,rfl⟩:=H;go_wp2_with (first|((with_reducible refine gate_callee (f:=61) rfl ?_);refine goesL_ (some 27) rfl rfl Try.func61 (by kernel_rfl) rfl #[.slice A1 l1.length c1,.slice A2 l2.length c2] rfl zq94 ?_;(with_reducible refine (spec_l16Collision.calls kj3 _ _ l1 _ _ l2 t5 _ ?side1 ?side2 ?side3 ?side4 A24.out).mono ?_);(case side1=>repeat (first|exact (zO HR1.out HB.out)|(with_reducible first|refine zG ?_ _|refine zH ?_ _|refine zI ?_)));(case side2=>exact HC1.out);(case side3=>repeat (first|exact (zO HR2.out HB.out)|(with_reducible first|refine zG ?_ _|refine zH ?_ _|refine zI ?_)));(case side4=>exact HC2.out);rintro e w26 ⟨rfl,hb⟩;refine ⟨_,rfl,?_⟩;replace BK3:= zM (blk_below (zzi BK3) hb);replace HB:= zM (zQ zzh hb);(try clear hb);(try clear hb2);(try clear hk);(try clear hi)));go_ret3;exact ⟨zq104,zzh⟩
    ·rw [if_neg c25] at H
     have c25b0:decide (t5 < 0) = false:=decide_eq_false c25;clear c25;simp only [Option.some.injEq,Prod.mk.injEq] at H;obtain ⟨rfl,rfl,rfl⟩:=H;go_wp2_with (first|((with_reducible refine gate_callee (f:=61) rfl ?_);refine goesL_ (some 27) rfl rfl Try.func61 (by kernel_rfl) rfl #[.slice A1 l1.length c1,.slice A2 l2.length c2] rfl zq94 ?_;(with_reducible refine (spec_l16Collision.calls kj3 _ _ l1 _ _ l2 t5 _ ?side1 ?side2 ?side3 ?side4 A24.out).mono ?_);(case side1=>repeat (first|exact (zO HR1.out HB.out)|(with_reducible first|refine zG ?_ _|refine zH ?_ _|refine zI ?_)));(case side2=>exact HC1.out);(case side3=>repeat (first|exact (zO HR2.out HB.out)|(with_reducible first|refine zG ?_ _|refine zH ?_ _|refine zI ?_)));(case side4=>exact HC2.out);rintro e w27 ⟨rfl,hb⟩;refine ⟨_,rfl,?_⟩;replace BK3:= zM (blk_below (zzi BK3) hb);replace HB:= zM (zQ zzh hb);(try clear hb);(try clear hb2);(try clear hk);(try clear hi)));go_ret3;exact ⟨zq104,zzh⟩



def impl_cellAt.f (l0:List (S48)) (a1:Int):Option (Int × Int):=if 0 ≤ (mn a1 (wrap64 ((l0.length:Int) - 1))) then (if (mn a1 (wrap64 ((l0.length:Int) - 1))) < (l0.length:Int) then (some ((rd_T48 l0 (mn a1 (wrap64 ((l0.length:Int) - 1)))).f0,(rd_T48 l0 (mn a1 (wrap64 ((l0.length:Int) - 1)))).f1)) else (none)) else (none)
theorem impl_cellAt.calls (A0:Option Addr) (c0:Nat) (l0:List (S48)) (a1:Int) (r1:Int) (r2:Int) (w:World) (hr0:Kd.C k48 w A0 l0.length l0) (hc0:l0.length ≤ c0) (h:impl_cellAt.f l0 a1 = some (r1,r2)) :
  Calls Try.prog 62 #[.slice A0 l0.length c0,.int .i64 a1] w fun e w'=>e = .returned (.agg #[.int .i64 r1,.int .i64 r2]) ∧ Below w.heap.size w w':=by
 (have hu48:=Try.underlying48;have HR0:=zM hr0;have HC0:=zM hc0;clear hr0 hc0;have HB:=zM (Below.refl w.heap.size w);have H:(if 0 ≤ (mn a1 (wrap64 ((l0.length:Int) - 1))) then (if (mn a1 (wrap64 ((l0.length:Int) - 1))) < (l0.length:Int) then (some ((rd_T48 l0 (mn a1 (wrap64 ((l0.length:Int) - 1)))).f0,(rd_T48 l0 (mn a1 (wrap64 ((l0.length:Int) - 1)))).f1)) else (none)) else (none)) = some (r1,r2):=h;clear h;obtain ⟨ji3,hji3⟩ : ∃ j_:Int,(mn a1 (wrap64 ((l0.length:Int) - 1))) = j_:=⟨_,rfl⟩;replace H:(if 0 ≤ (ji3) then (if (ji3) < (l0.length:Int) then (some ((rd_T48 l0 (ji3)).f0,(rd_T48 l0 (ji3)).f1)) else (none)) else (none)) = some (r1,r2):=by first|(rw [hji3] at H;exact H)|(simp only [hji3] at H ⊢;exact H));have hji3_:(if (wrap64 ((l0.length:Int) - 1)) < a1 then (wrap64 ((l0.length:Int) - 1)) else a1) = ji3:=hji3;by_cases c4:0 ≤ (ji3)
 ·rw [if_pos c4] at H
  have c4b0:decide (0 ≤ (ji3)) = true:=decide_eq_true c4;clear c4;by_cases c5:(ji3) < (l0.length:Int)
  ·rw [if_pos c5] at H
   have c5b0:decide ((ji3) < (l0.length:Int)) = true:=decide_eq_true c5;clear c5;simp only [Option.some.injEq,Prod.mk.injEq] at H;obtain ⟨rfl,rfl⟩:=H;go_enter Try.func62,Try.ntmps62;go_wp2_with (first|((with_reducible refine gate_dst (N:=4) rfl ?_);refine zzc 4 #[.int .i64 0,.int .i64 0] 48 ?_;intro gb0 hg w6 hbox hb;have BK0:= zM (hbox);have GW0:= zM ((zq117:w.heap.size ≤ gb0));have GE0:= zM ((zq117:w.heap.size ≤ gb0));replace HB:= zM (zQ zzh hb);clear hb hbox hg;have p1:0 ≤ ((ji3):Int):=zzd;have q1:(ji3) < (l0.length:Int):=zzd;obtain ⟨ad1,e1,hx1_0,hx1_1⟩:=at_T48 HR0.out (ji3) p1 q1;cases e1;replace hx1_0:=zS HB.out hx1_0;replace hx1_1:=zS HB.out hx1_1;replace p1:=eq_true p1;replace q1:=eq_true q1;have hcz7_0:=zz0 BK0;have hcz7_1:=zz1 BK0;have hfz7_0:=blk_frozen BK0.out 0;have hfz7_1:=blk_frozen BK0.out 1));refine bodyPost_ret (results_cell_row rfl _ _ gb0 48 #[.int .i64 ((rd_T48 l0 (ji3)).f0),.int .i64 ((rd_T48 l0 (ji3)).f1)] (0,0) _ rfl (by (with_reducible repeat (first|refine zJ ?_ _|refine zK ?_|refine zL ?_ _));refine blk_put (cs := #[.int .i64 ((rd_T48 l0 (ji3)).f0),.int .i64 0]) ?_ 1 _ rfl;(with_reducible repeat (first|refine zJ ?_ _|refine zK ?_|refine zL ?_ _));refine blk_put (cs := #[.int .i64 0,.int .i64 0]) ?_ 0 _ rfl;(with_reducible repeat (first|refine zJ ?_ _|refine zK ?_|refine zL ?_ _));exact BK0.out) Try.underlying48 rfl (by kernel_rfl)) rfl ?_;exact ⟨by first|rfl|(simp [errW_none,errW_some] <;> rfl)|(simp only [← hji3];first|rfl|(simp [errW_none,errW_some] <;> rfl))|(simp [*,errW_none,errW_some] <;> rfl),zzh⟩
  ·rw [if_neg c5] at H
   exact absurd H (by simp)
 ·rw [if_neg c4] at H
  exact absurd H (by simp)



attribute [local go_sem high] eqA48
mutual
def impl_FirstCollision.j0:Nat → List (S48) → List (S48) → Bool → Option (Int × Bool × Bool)
 | 0,_,_,_=>none
 | k + 1,x1,x2,x21=>if x21 = true then (some (0,false,false)) else (impl_FirstCollision.l0 k x1 x2 (mx (x1.length:Int) (x2.length:Int)) 0)
def impl_FirstCollision.l0:Nat → List (S48) → List (S48) → Int → Int → Option (Int × Bool × Bool)
 | 0,_,_,_,_=>none
 | k + 1,x1,x2,x26,x27=>if x27 < x26 then ((impl_cellAt.f x1 x27).bind fun bt0=>((impl_cellAt.f x2 x27).bind fun bt1=>(if (bt0.1 == bt1.1 && (bt0.2 == bt1.2)) = true then (some (x27,true,true)) else (if x27 > 0 then ((impl_cellAt.f x2 (wrap64 (x27 - 1))).bind fun bt2=>(if (bt0.1 == bt2.1 && (bt0.2 == bt2.2)) = true then ((impl_cellAt.f x1 (wrap64 (x27 - 1))).bind fun bt3=>(if (bt1.1 == bt3.1 && (bt1.2 == bt3.2)) = true then (some (x27,true,true)) else (impl_FirstCollision.l0 k x1 x2 x26 (wrap64 (x27 + 1))))) else (impl_FirstCollision.l0 k x1 x2 x26 (wrap64 (x27 + 1))))) else (impl_FirstCollision.l0 k x1 x2 x26 (wrap64 (x27 + 1))))))) else (some (0,false,true))
end
def impl_FirstCollision.f (k:Nat) (a0_0:Int) (a0_1:Int) (l0_2:List (S48)) (l1:List (S48)) (l2:List (S48)):Option (Int × Bool × Bool):=(impl_IsValidPath.f k a0_0 a0_1 l0_2 l1).bind fun t0=>(if t0 = true then ((impl_IsValidPath.f k a0_0 a0_1 l0_2 l2).bind fun t1=>(impl_FirstCollision.j0 k l1 l2 (!t1))) else (impl_FirstCollision.j0 k l1 l2 true))
def impl_FirstCollision.T7:Bool × List (List Nat × List Nat):=(true,[([],[]),([],[]),([0,1],[0,1]),([2],[2]),([3],[3]),([4,3],[3,4]),([5,3,3],[3,5]),([6],[6]),([6],[6]),([6],[6]),([9,6],[6,9]),([8,10,6,6],[6,8,10]),([7,11,6],[6,7,11]),([6,12,3],[3,6,12]),([13,11,3],[3,13]),([14],[14]),([14],[14]),([14],[14]),([17,14],[14,17]),([16,18,14,14],[14,16,18]),([15,19,14],[14,15,19]),([14,20,3],[3,14,20]),([3,21],[3,21])])
def impl_FirstCollision.B7:List Nat:=[0,0,3,7,15,31,63,127,127,127,639,1919,4095,8191,16383,32767,32767,32767,163839,491519,1048575,2097151,4194303]
theorem impl_FirstCollision.tab7:rtab .any (opsOf Try.f24 7) = impl_FirstCollision.T7:=by kernel_rfl
theorem impl_FirstCollision.bits7:waitsOk impl_FirstCollision.T7.2 impl_FirstCollision.B7 = true:=by kernel_rfl
theorem impl_FirstCollision.calls (k:Nat) (a0_0:Int) (a0_1:Int) (A0_2:Option Addr) (c0_2:Nat) (l0_2:List (S48)) (A1:Option Addr) (c1:Nat) (l1:List (S48)) (A2:Option Addr) (c2:Nat) (l2:List (S48)) (r1:Int) (r2:Bool) (r3:Bool) (w:World) (hr0_2:Kd.C k48 w A0_2 l0_2.length l0_2) (hc0_2:l0_2.length ≤ c0_2) (hr1:Kd.C k48 w A1 l1.length l1) (hc1:l1.length ≤ c1) (hr2:Kd.C k48 w A2 l2.length l2) (hc2:l2.length ≤ c2) (h:impl_FirstCollision.f k a0_0 a0_1 l0_2 l1 l2 = some (r1,r2,r3)) :
  Calls Try.prog 24 #[.agg #[.int .i64 a0_0,.int .i64 a0_1,.slice A0_2 l0_2.length c0_2],.slice A1 l1.length c1,.slice A2 l2.length c2] w fun e w'=>e = .returned (.tuple #[.int .i64 r1,.bool r2,.bool r3]) ∧ Below w.heap.size w w':=by
 have hu29:=Try.underlying29;have hu48:=Try.underlying48;have HR0_2:=zM hr0_2;have HC0_2:=zM hc0_2;clear hr0_2 hc0_2;have HR1:=zM hr1;have HC1:=zM hc1;clear hr1 hc1;have HR2:=zM hr2;have HC2:=zM hc2;clear hr2 hc2;have HB:=zM (Below.refl w.heap.size w);have H:((impl_IsValidPath.f k a0_0 a0_1 l0_2 l1).bind fun t0=>(if t0 = true then ((impl_IsValidPath.f k a0_0 a0_1 l0_2 l2).bind fun t1=>(impl_FirstCollision.j0 k l1 l2 (!t1))) else (impl_FirstCollision.j0 k l1 l2 true))) = some (r1,r2,r3):=h;clear h;have HC4:=zM H;clear H;go_enter Try.func24,Try.ntmps24;go_upto_region 1 with (first|((with_reducible refine gate_dst (N:=3) rfl ?_);refine zzc 3 #[.int .i64 a0_0,.int .i64 a0_1,.slice A0_2 l0_2.length c0_2] 29 ?_;intro gb2 hg w5 hbox hb;have BK2:= zM (hbox);have GW2:= zM ((zq117:w.heap.size ≤ gb2));have GE2:= zM ((zq117:w.heap.size ≤ gb2));replace HB:= zM (zQ zzh hb);clear hb hbox hg));(try simp only [Act.put,zT,zU,zV]);go_cut [21] (fun v21 wc => ∃ (kq:Nat) (x21_3:Bool),v21 = .bool x21_3 ∧ Aside0 (impl_FirstCollision.j0 kq l1 l2 x21_3 = some (r1,r2,r3)) ∧ Aside0 (kq ≤ k) ∧ Aside0 (wc.heap[gb2]? = some (.cells #[.int .i64 a0_0,.int .i64 a0_1,(.slice A0_2 l0_2.length c0_2)] 29 (0,0))) ∧ Aside0 (Below w.heap.size w wc))
 case first =>
  have H:=HC4.out;clear HC4;replace H:=Option.bind_eq_some_iff.mp H;obtain ⟨t0,A60,H⟩:=H;replace H:(if t0 = true then ((impl_IsValidPath.f k a0_0 a0_1 l0_2 l2).bind fun t1=>(impl_FirstCollision.j0 k l1 l2 (!t1))) else (impl_FirstCollision.j0 k l1 l2 true)) = some (r1,r2,r3):=H;have A6:=zM A60;clear A60;by_cases c7:t0 = true
  ·subst c7
   (have H1:((impl_IsValidPath.f k a0_0 a0_1 l0_2 l2).bind fun t1=>(impl_FirstCollision.j0 k l1 l2 (!t1))) = some (r1,r2,r3):=by rw [if_pos rfl] at H;exact H);clear H;have H:=H1;clear H1;replace H:=Option.bind_eq_some_iff.mp H;obtain ⟨t1,A80,H⟩:=H;replace H:(impl_FirstCollision.j0 k l1 l2 (!t1)) = some (r1,r2,r3):=H;have A8:=zM A80;clear A80;have H':=zM H;clear H;have hcz9_0:=zz0 BK2;have hcz9_1:=zz1 BK2;have hcz9_2:=zz2 BK2;have hfz9_0:=blk_frozen BK2.out 0;have hfz9_1:=blk_frozen BK2.out 1;have hfz9_2:=blk_frozen BK2.out 2;go_wp2_with (first|((with_reducible refine gate_callee (f:=21) rfl ?_);refine goesL_ (some 14) rfl rfl Try.func21 (by kernel_rfl) rfl #[.agg #[.int .i64 a0_0,.int .i64 a0_1,.slice A0_2 l0_2.length c0_2],.slice A1 l1.length c1] rfl zq94 ?_;(with_reducible refine (impl_IsValidPath.calls k a0_0 a0_1 _ _ l0_2 _ _ l1 true _ ?side1 ?side2 ?side3 ?side4 A6.out).mono ?_);(case side1=>repeat (first|exact (zO HR0_2.out HB.out)|(with_reducible first|refine zG ?_ _|refine zH ?_ _|refine zI ?_)));(case side2=>exact HC0_2.out);(case side3=>repeat (first|exact (zO HR1.out HB.out)|(with_reducible first|refine zG ?_ _|refine zH ?_ _|refine zI ?_)));(case side4=>exact HC1.out);rintro e w10 ⟨rfl,hb⟩;refine ⟨_,rfl,?_⟩;replace BK2:= zM (blk_below (zzi BK2) hb);replace HB:= zM (zQ zzh hb);(try clear hb);(try clear hb2);(try clear hk);(try clear hi);have hcz11_0:=zz0 BK2;have hcz11_1:=zz1 BK2;have hcz11_2:=zz2 BK2;have hfz11_0:=blk_frozen BK2.out 0;have hfz11_1:=blk_frozen BK2.out 1;have hfz11_2:=blk_frozen BK2.out 2)|(go_at_call 21;(with_reducible refine (impl_IsValidPath.calls k a0_0 a0_1 _ _ l0_2 _ _ l2 t1 _ ?side1 ?side2 ?side3 ?side4 A8.out).mono ?_);(case side1=>repeat (first|exact (zO HR0_2.out HB.out)|(with_reducible first|refine zG ?_ _|refine zH ?_ _|refine zI ?_)));(case side2=>exact HC0_2.out);(case side3=>repeat (first|exact (zO HR2.out HB.out)|(with_reducible first|refine zG ?_ _|refine zH ?_ _|refine zI ?_)));(case side4=>exact HC2.out);rintro e w12 ⟨rfl,hb⟩;replace BK2:= zM (blk_below (zzi BK2) hb);replace HB:= zM (zQ zzh hb);(try clear hb);(try clear hb2);(try clear hk);(try clear hi)))
   go_meet
   case rel=>exact ⟨_,(!t1),zq112,H',⟨zq116⟩,⟨zzi BK2⟩,⟨zzh⟩⟩
  ·replace c7:=Bool.eq_false_iff.mpr c7
   subst c7;have H1:(impl_FirstCollision.j0 k l1 l2 true) = some (r1,r2,r3):=by rw [if_neg (show ¬ (false = true) by decide)] at H;exact H
   clear H;have H:=H1;clear H1;have H':=zM H;clear H;have hcz13_0:=zz0 BK2;have hcz13_1:=zz1 BK2;have hcz13_2:=zz2 BK2;have hfz13_0:=blk_frozen BK2.out 0;have hfz13_1:=blk_frozen BK2.out 1;have hfz13_2:=blk_frozen BK2.out 2;go_wp2_with (first|((with_reducible refine gate_callee (f:=21) rfl ?_);refine goesL_ (some 14) rfl rfl Try.func21 (by kernel_rfl) rfl #[.agg #[.int .i64 a0_0,.int .i64 a0_1,.slice A0_2 l0_2.length c0_2],.slice A1 l1.length c1] rfl zq94 ?_;(with_reducible refine (impl_IsValidPath.calls k a0_0 a0_1 _ _ l0_2 _ _ l1 false _ ?side1 ?side2 ?side3 ?side4 A6.out).mono ?_);(case side1=>repeat (first|exact (zO HR0_2.out HB.out)|(with_reducible first|refine zG ?_ _|refine zH ?_ _|refine zI ?_)));(case side2=>exact HC0_2.out);(case side3=>repeat (first|exact (zO HR1.out HB.out)|(with_reducible first|refine zG ?_ _|refine zH ?_ _|refine zI ?_)));(case side4=>exact HC1.out);rintro e w14 ⟨rfl,hb⟩;refine ⟨_,rfl,?_⟩;replace BK2:= zM (blk_below (zzi BK2) hb);replace HB:= zM (zQ zzh hb);(try clear hb);(try clear hb2);(try clear hk);(try clear hi)));go_meet
   case rel=>exact ⟨_,(true),zq112,H',⟨zq116⟩,⟨zzi BK2⟩,⟨zzh⟩⟩
 case rest =>
  clear HC4;(try clear c1);(try clear c2);(try clear p2);(try clear c7);(try clear hcz11_0);(try clear hcz11_1);(try clear hcz11_2);(try clear hcz13_0);(try clear hcz13_1);(try clear hcz13_2);(try clear hcz9_0);(try clear hcz9_1);(try clear hcz9_2);(try clear hfz11_0);(try clear hfz11_1);(try clear hfz11_2);(try clear hfz13_0);(try clear hfz13_1);(try clear hfz13_2);(try clear hfz9_0);(try clear hfz9_1);(try clear hfz9_2);obtain ⟨kq,x21_3,rfl,HA,HJ3,BK2,HB⟩:=hcut;cases kq with
  | zero=>exact absurd HA.out (by simp [impl_FirstCollision.j0])
  | succ kj3 =>
   have H:=HA.out;clear HA;simp only [impl_FirstCollision.j0] at H;by_cases c15:x21_3 = true
   ·subst c15
    (have H1:(some (0,false,false)) = some (r1,r2,r3):=by rw [if_pos rfl] at H;exact H);clear H;have H:=H1;clear H1;simp only [Option.some.injEq,Prod.mk.injEq] at H;obtain ⟨rfl,rfl,rfl⟩:=H;go_wp2;go_ret3;exact ⟨zq104,zzh⟩
   ·replace c15:=Bool.eq_false_iff.mpr c15
    subst c15;have H1:(impl_FirstCollision.l0 kj3 l1 l2 (mx (l1.length:Int) (l2.length:Int)) 0) = some (r1,r2,r3):=by rw [if_neg (show ¬ (false = true) by decide)] at H;exact H
    clear H;have H:=H1;clear H1;obtain ⟨ji16,hji16⟩ : ∃ j_:Int,(mx (l1.length:Int) (l2.length:Int)) = j_:=⟨_,rfl⟩;replace H:(impl_FirstCollision.l0 kj3 l1 l2 ji16 0) = some (r1,r2,r3):=by first|(rw [hji16] at H;exact H)|(simp only [hji16] at H ⊢;exact H)
    have hji16_:(if (l1.length:Int) < (l2.length:Int) then (l2.length:Int) else (l1.length:Int)) = ji16:=hji16;have H':=zM H;clear H;go_wp2;all_goals (first|(have hz_:((l2.length:Int)) = ji16:=(by rw [← hji16_,if_pos (by omega)]);rw [hz_])|(have hz_:((l1.length:Int)) = ji16:=(by rw [← hji16_,if_neg (by omega)]);rw [hz_]))
    all_goals (
     go_loopg [27] kj3 (fun kq v27 w' => ∃ (x27_2:Int),v27 = .int .i64 x27_2 ∧ Aside0 (impl_FirstCollision.l0 kq l1 l2 ji16 x27_2 = some (r1,r2,r3)) ∧ Aside0 (kq ≤ kj3) ∧ Aside0 (w'.heap[gb2]? = some (.cells #[.int .i64 a0_0,.int .i64 a0_1,(.slice A0_2 l0_2.length c0_2)] 29 (0,0))) ∧ Aside0 (Below w.heap.size w w'))
     case atStart=>exact ⟨(0),zq112,H',⟨Nat.le_refl _⟩,⟨zzi BK2⟩,⟨zzh⟩⟩
     case round =>
      clear H';(try clear c1);(try clear c2);(try clear p2);(try clear c7);(try clear c15);(try clear hcz11_0);(try clear hcz11_1);(try clear hcz11_2);(try clear hcz13_0);(try clear hcz13_1);(try clear hcz13_2);(try clear hcz9_0);(try clear hcz9_1);(try clear hcz9_2);(try clear hfz11_0);(try clear hfz11_1);(try clear hfz11_2);(try clear hfz13_0);(try clear hfz13_1);(try clear hfz13_2);(try clear hfz9_0);(try clear hfz9_1);(try clear hfz9_2);(try clear p2);obtain ⟨x27_2,rfl,HA,HK2,BK2,HB⟩:=hrel;cases gk with
      | zero=>exact absurd HA.out (by simp [impl_FirstCollision.l0])
      | succ k2 =>
       have H:=HA.out;clear HA;simp only [impl_FirstCollision.l0] at H;by_cases c17:x27_2 < ji16
       ·rw [if_pos c17] at H
        have c17b0:decide (x27_2 < ji16) = true:=decide_eq_true c17;clear c17;replace H:=Option.bind_eq_some_iff.mp H;obtain ⟨⟨t3,t4⟩,A5,H⟩:=H;replace H:((impl_cellAt.f l2 x27_2).bind fun bt6=>(if (t3 == bt6.1 && (t4 == bt6.2)) = true then (some (x27_2,true,true)) else (if x27_2 > 0 then ((impl_cellAt.f l2 (wrap64 (x27_2 - 1))).bind fun bt7=>(if (t3 == bt7.1 && (t4 == bt7.2)) = true then ((impl_cellAt.f l1 (wrap64 (x27_2 - 1))).bind fun bt8=>(if (bt6.1 == bt8.1 && (bt6.2 == bt8.2)) = true then (some (x27_2,true,true)) else (impl_FirstCollision.l0 k2 l1 l2 ji16 (wrap64 (x27_2 + 1))))) else (impl_FirstCollision.l0 k2 l1 l2 ji16 (wrap64 (x27_2 + 1))))) else (impl_FirstCollision.l0 k2 l1 l2 ji16 (wrap64 (x27_2 + 1)))))) = some (r1,r2,r3):=H;have A18:=zM A5;clear A5;replace H:=Option.bind_eq_some_iff.mp H;obtain ⟨⟨t6,t9⟩,A10,H⟩:=H;replace H:(if (t3 == t6 && (t4 == t9)) = true then (some (x27_2,true,true)) else (if x27_2 > 0 then ((impl_cellAt.f l2 (wrap64 (x27_2 - 1))).bind fun bt7=>(if (t3 == bt7.1 && (t4 == bt7.2)) = true then ((impl_cellAt.f l1 (wrap64 (x27_2 - 1))).bind fun bt8=>(if (t6 == bt8.1 && (t9 == bt8.2)) = true then (some (x27_2,true,true)) else (impl_FirstCollision.l0 k2 l1 l2 ji16 (wrap64 (x27_2 + 1))))) else (impl_FirstCollision.l0 k2 l1 l2 ji16 (wrap64 (x27_2 + 1))))) else (impl_FirstCollision.l0 k2 l1 l2 ji16 (wrap64 (x27_2 + 1))))) = some (r1,r2,r3):=H;have A19:=zM A10;clear A10;by_cases c20:(t3 == t6 && (t4 == t9)) = true
        ·rw [if_pos c20] at H
         have c20b0:(t3 == t6 && (t4 == t9)) = true:=c20;(try (have c20b1:decide (t3 = t6 && (t4 == t9)) = true:=by simpa using c20));(try (have c20b2:(t3 == t6 && (t4 == t9)) = true:=by simpa using c20));clear c20;simp only [Option.some.injEq,Prod.mk.injEq] at H;obtain ⟨rfl,rfl,rfl⟩:=H;try go_wp2_with (first|((with_reducible refine gate_callee (f:=62) rfl ?_);refine goesL_ (some 32) rfl rfl Try.func62 (by kernel_rfl) rfl #[.slice A1 l1.length c1,.int .i64 x27_2] rfl zq94 ?_;(with_reducible refine (impl_cellAt.calls _ _ l1 x27_2 t3 t4 _ ?side1 ?side2 A18.out).mono ?_);(case side1=>repeat (first|exact (zO HR1.out HB.out)|(with_reducible first|refine zG ?_ _|refine zH ?_ _|refine zI ?_)));(case side2=>exact HC1.out);rintro e w21 ⟨rfl,hb⟩;refine ⟨_,rfl,?_⟩;replace BK2:= zM (blk_below (zzi BK2) hb);replace HB:= zM (zQ zzh hb);(try clear hb);(try clear hb2);(try clear hk);(try clear hi))|((with_reducible refine gate_callee (f:=62) rfl ?_);refine goesL_ (some 35) rfl rfl Try.func62 (by kernel_rfl) rfl #[.slice A2 l2.length c2,.int .i64 x27_2] rfl zq94 ?_;(with_reducible refine (impl_cellAt.calls _ _ l2 x27_2 t6 t9 _ ?side1 ?side2 A19.out).mono ?_);(case side1=>repeat (first|exact (zO HR2.out HB.out)|(with_reducible first|refine zG ?_ _|refine zH ?_ _|refine zI ?_)));(case side2=>exact HC2.out);rintro e w22 ⟨rfl,hb⟩;refine ⟨_,rfl,?_⟩;replace BK2:= zM (blk_below (zzi BK2) hb);replace HB:= zM (zQ zzh hb);(try clear hb);(try clear hb2);(try clear hk);(try clear hi))|((with_reducible refine gate_dst (N:=10) rfl ?_);refine zzc 10 #[.int .i64 0,.int .i64 0] 48 ?_;intro gb11 hg w23 hbox hb;have BK11:= zM (hbox);have GW11:= zM ((zq117:w.heap.size ≤ gb11));have GE11:= zM ((zq117:w.heap.size ≤ gb11));replace HB:= zM (zQ zzh hb);have NB2_11:= zM ((zzm hg (zzi BK2):gb2 ≠ gb11));have NB11_2:= zM ((zzM hg (zzi BK2):gb11 ≠ gb2));replace BK2:= zM (blk_below (zzi BK2) hb);clear hb hbox hg)|((with_reducible refine gate_dst (N:=11) rfl ?_);refine zzc 11 #[.int .i64 0,.int .i64 0] 48 ?_;intro gb12 hg w24 hbox hb;have BK12:= zM (hbox);have GW12:= zM ((zq117:w.heap.size ≤ gb12));have GE12:= zM ((zq117:w.heap.size ≤ gb12));replace HB:= zM (zQ zzh hb);have NB2_12:= zM ((zzm hg (zzi BK2):gb2 ≠ gb12));have NB12_2:= zM ((zzM hg (zzi BK2):gb12 ≠ gb2));replace BK2:= zM (blk_below (zzi BK2) hb);have NB11_12:= zM ((zzm hg (zzi BK11):gb11 ≠ gb12));have NB12_11:= zM ((zzM hg (zzi BK11):gb12 ≠ gb11));replace BK11:= zM (blk_below (zzi BK11) hb);clear hb hbox hg;have hnb25:=NB11_2.out;have hnc25:=NB2_11.out;have hnb26:=NB11_12.out;have hnc26:=NB12_11.out;have hcz27_0:=zz0 BK11;have hcz27_1:=zz1 BK11;have hfz27_0:=blk_frozen BK11.out 0;have hfz27_1:=blk_frozen BK11.out 1;have hnb28:=NB12_2.out;have hnc28:=NB2_12.out;have hcz29_0:=zz0 BK12;have hcz29_1:=zz1 BK12;have hfz29_0:=blk_frozen BK12.out 0;have hfz29_1:=blk_frozen BK12.out 1))
         have n0_:Aside0 (((((w24.setCell ⟨gb11,0,none⟩ (.int .i64 t3)).setCell ⟨gb11,1,none⟩ (.int .i64 t4)).setCell ⟨gb12,0,none⟩ (.int .i64 t6)).setCell ⟨gb12,1,none⟩ (.int .i64 t9)).heap[gb2]? = some (.cells #[.int .i64 a0_0,.int .i64 a0_1,.slice A0_2 l0_2.length c0_2] 29 (0,0))):=⟨zq6⟩;have n1_:Aside0 (((((w24.setCell ⟨gb11,0,none⟩ (.int .i64 t3)).setCell ⟨gb11,1,none⟩ (.int .i64 t4)).setCell ⟨gb12,0,none⟩ (.int .i64 t6)).setCell ⟨gb12,1,none⟩ (.int .i64 t9)).heap[gb11]? = some (.cells #[.int .i64 t3,.int .i64 t4] 48 (0,0))):=⟨zq0⟩;have n2_:Aside0 (((((w24.setCell ⟨gb11,0,none⟩ (.int .i64 t3)).setCell ⟨gb11,1,none⟩ (.int .i64 t4)).setCell ⟨gb12,0,none⟩ (.int .i64 t6)).setCell ⟨gb12,1,none⟩ (.int .i64 t9)).heap[gb12]? = some (.cells #[.int .i64 t6,.int .i64 t9] 48 (0,0))):=⟨zq1⟩;have n3_:Aside0 (Below w.heap.size w ((((w24.setCell ⟨gb11,0,none⟩ (.int .i64 t3)).setCell ⟨gb11,1,none⟩ (.int .i64 t4)).setCell ⟨gb12,0,none⟩ (.int .i64 t6)).setCell ⟨gb12,1,none⟩ (.int .i64 t9))):=⟨zzh⟩;(try clear BK2);(try clear BK11);(try clear BK12);(try clear HB);generalize ((((w24.setCell ⟨gb11,0,none⟩ (.int .i64 t3)).setCell ⟨gb11,1,none⟩ (.int .i64 t4)).setCell ⟨gb12,0,none⟩ (.int .i64 t6)).setCell ⟨gb12,1,none⟩ (.int .i64 t9)) = w30 at n0_ n1_ n2_ n3_ ⊢;have BK2:=n0_;have BK11:=n1_;have BK12:=n2_;have HB:=n3_;clear n0_ n1_ n2_ n3_;replace BK2:= zM (zK BK2.out);replace BK11:= zM (zK BK11.out);replace BK12:= zM (zK BK12.out);replace HB:= zM (zF HB.out);refine start_ (n:=23) (S:=fun w'=>w'.cell? ⟨gb11,0,none⟩ = some (.int .i64 t3) ∧ w'.cell? ⟨gb11,1,none⟩ = some (.int .i64 t4) ∧ w'.cell? ⟨gb12,0,none⟩ = some (.int .i64 t6) ∧ w'.cell? ⟨gb12,1,none⟩ = some (.int .i64 t9)) (ds:=[]) #[false,false,false,false,false,false,false,false,false,false,false,false,false,false,false,false,false,false,false,false,false,false,false] (by kernel_rfl) rfl rfl ⟨zz0 BK11,zz1 BK11,zz0 BK12,zz1 BK12⟩ (fun hHeld=>?_);refine with_tabW impl_FirstCollision.tab7 impl_FirstCollision.bits7 (fun HT_ HW_=>?_)
         generalize w30.drew = w31 at BK2 BK11 BK12 HB hHeld ⊢;refine zzt 0 36 (zzb 23 1) hHeld ?_ (hc:=zzy HT_ HW_) (hy:=by rintro w' ⟨s0,s1,s2,s3⟩;go_simp;with_reducible rfl);refine zzt 1 37 (zzb 23 3) hHeld ?_ (hc:=zzy HT_ HW_) (hy:=by rintro w' ⟨s0,s1,s2,s3⟩;go_simp;with_reducible rfl);refine zzp 2 38 (zzb 23 7) ?_ (hc:=zzx HT_);refine zzp 3 39 (zzb 23 15) ?_ (hc:=zzx HT_);refine zzu 4 40 (zzb 23 31) ?_ (hc:=zzx HT_);refine zzu 5 41 (zzb 23 63) ?_ (hc:=zzx HT_);refine zzu 6 42 (zzb 23 127) ?_ (hc:=zzx HT_);refine zzu 7 43 (zzb 23 255) ?_ (hc:=zzx HT_);refine zzu 8 44 (zzb 23 511) ?_ (hc:=zzx HT_);refine zzu 9 45 (zzb 23 1023) ?_ (hc:=zzx HT_);refine zzu 10 46 (zzb 23 2047) ?_ (hc:=zzx HT_);refine zzu 11 47 (zzb 23 4095) ?_ (hc:=zzx HT_);refine zzu 12 48 (zzb 23 8191) ?_ (hc:=zzx HT_);refine zzu 13 49 (zzb 23 16383) ?_ (hc:=zzx HT_);refine zzu 14 50 (zzb 23 32767) ?_ (hc:=zzx HT_);refine zzu 15 51 (zzb 23 65535) ?_ (hc:=zzx HT_);refine zzu 16 52 (zzb 23 131071) ?_ (hc:=zzx HT_);refine zzu 17 53 (zzb 23 262143) ?_ (hc:=zzx HT_);refine zzu 18 54 (zzb 23 524287) ?_ (hc:=zzx HT_);refine zzu 19 55 (zzb 23 1048575) ?_ (hc:=zzx HT_);refine zzu 20 56 (zzb 23 2097151) ?_ (hc:=zzx HT_);refine zzu 21 57 (zzb 23 4194303) ?_ (hc:=zzx HT_);refine zzp 22 58 (zzb 23 8388607) ?_ (hc:=zzx HT_);refine done_ (done_of HT_.out (by kernel_rfl)) ?_;try go_wp2
         go_ret3;exact ⟨zq78,zzh⟩
        ·rw [if_neg c20] at H
         (have c20b0:(t3 == t6 && (t4 == t9)) = false:=by simpa using c20);(try (have c20b1:decide (t3 = t6 && (t4 == t9)) = false:=by simpa using c20));(try (have c20b2:(t3 == t6 && (t4 == t9)) = false:=by simpa using c20));(try (have c20b3:¬ (t3 = t6 && (t4 == t9)):=by simpa using c20));clear c20;by_cases c32:x27_2 > 0
         ·rw [if_pos c32] at H
          have c32b0:decide (0 < x27_2) = true:=decide_eq_true c32;clear c32;replace H:=Option.bind_eq_some_iff.mp H;obtain ⟨⟨t7,t13⟩,A14,H⟩:=H;replace H:(if (t3 == t7 && (t4 == t13)) = true then ((impl_cellAt.f l1 (wrap64 (x27_2 - 1))).bind fun bt8=>(if (t6 == bt8.1 && (t9 == bt8.2)) = true then (some (x27_2,true,true)) else (impl_FirstCollision.l0 k2 l1 l2 ji16 (wrap64 (x27_2 + 1))))) else (impl_FirstCollision.l0 k2 l1 l2 ji16 (wrap64 (x27_2 + 1)))) = some (r1,r2,r3):=H;have A33:=zM A14;clear A14;by_cases c34:(t3 == t7 && (t4 == t13)) = true
          ·rw [if_pos c34] at H
           have c34b0:(t3 == t7 && (t4 == t13)) = true:=c34;(try (have c34b1:decide (t3 = t7 && (t4 == t13)) = true:=by simpa using c34));(try (have c34b2:(t3 == t7 && (t4 == t13)) = true:=by simpa using c34));clear c34;replace H:=Option.bind_eq_some_iff.mp H;obtain ⟨⟨t8,t15⟩,A16,H⟩:=H;replace H:(if (t6 == t8 && (t9 == t15)) = true then (some (x27_2,true,true)) else (impl_FirstCollision.l0 k2 l1 l2 ji16 (wrap64 (x27_2 + 1)))) = some (r1,r2,r3):=H;have A35:=zM A16;clear A16;by_cases c36:(t6 == t8 && (t9 == t15)) = true
           ·rw [if_pos c36] at H
            have c36b0:(t6 == t8 && (t9 == t15)) = true:=c36;(try (have c36b1:decide (t6 = t8 && (t9 == t15)) = true:=by simpa using c36));(try (have c36b2:(t6 == t8 && (t9 == t15)) = true:=by simpa using c36));clear c36;simp only [Option.some.injEq,Prod.mk.injEq] at H;obtain ⟨rfl,rfl,rfl⟩:=H;try go_wp2_with (first|((with_reducible refine gate_callee (f:=62) rfl ?_);refine goesL_ (some 32) rfl rfl Try.func62 (by kernel_rfl) rfl #[.slice A1 l1.length c1,.int .i64 x27_2] rfl zq94 ?_;(with_reducible refine (impl_cellAt.calls _ _ l1 x27_2 t3 t4 _ ?side1 ?side2 A18.out).mono ?_);(case side1=>repeat (first|exact (zO HR1.out HB.out)|(with_reducible first|refine zG ?_ _|refine zH ?_ _|refine zI ?_)));(case side2=>exact HC1.out);rintro e w37 ⟨rfl,hb⟩;refine ⟨_,rfl,?_⟩;replace BK2:= zM (blk_below (zzi BK2) hb);replace HB:= zM (zQ zzh hb);(try clear hb);(try clear hb2);(try clear hk);(try clear hi))|((with_reducible refine gate_callee (f:=62) rfl ?_);refine goesL_ (some 35) rfl rfl Try.func62 (by kernel_rfl) rfl #[.slice A2 l2.length c2,.int .i64 x27_2] rfl zq94 ?_;(with_reducible refine (impl_cellAt.calls _ _ l2 x27_2 t6 t9 _ ?side1 ?side2 A19.out).mono ?_);(case side1=>repeat (first|exact (zO HR2.out HB.out)|(with_reducible first|refine zG ?_ _|refine zH ?_ _|refine zI ?_)));(case side2=>exact HC2.out);rintro e w38 ⟨rfl,hb⟩;refine ⟨_,rfl,?_⟩;replace BK2:= zM (blk_below (zzi BK2) hb);replace HB:= zM (zQ zzh hb);(try clear hb);(try clear hb2);(try clear hk);(try clear hi))|((with_reducible refine gate_dst (N:=10) rfl ?_);refine zzc 10 #[.int .i64 0,.int .i64 0] 48 ?_;intro gb11 hg w39 hbox hb;have BK11:= zM (hbox);have GW11:= zM ((zq117:w.heap.size ≤ gb11));have GE11:= zM ((zq117:w.heap.size ≤ gb11));replace HB:= zM (zQ zzh hb);have NB2_11:= zM ((zzm hg (zzi BK2):gb2 ≠ gb11));have NB11_2:= zM ((zzM hg (zzi BK2):gb11 ≠ gb2));replace BK2:= zM (blk_below (zzi BK2) hb);clear hb hbox hg)|((with_reducible refine gate_dst (N:=11) rfl ?_);refine zzc 11 #[.int .i64 0,.int .i64 0] 48 ?_;intro gb12 hg w40 hbox hb;have BK12:= zM (hbox);have GW12:= zM ((zq117:w.heap.size ≤ gb12));have GE12:= zM ((zq117:w.heap.size ≤ gb12));replace HB:= zM (zQ zzh hb);have NB2_12:= zM ((zzm hg (zzi BK2):gb2 ≠ gb12));have NB12_2:= zM ((zzM hg (zzi BK2):gb12 ≠ gb2));replace BK2:= zM (blk_below (zzi BK2) hb);have NB11_12:= zM ((zzm hg (zzi BK11):gb11 ≠ gb12));have NB12_11:= zM ((zzM hg (zzi BK11):gb12 ≠ gb11));replace BK11:= zM (blk_below (zzi BK11) hb);clear hb hbox hg;have hnb41:=NB11_2.out;have hnc41:=NB2_11.out;have hnb42:=NB11_12.out;have hnc42:=NB12_11.out;have hcz43_0:=zz0 BK11;have hcz43_1:=zz1 BK11;have hfz43_0:=blk_frozen BK11.out 0;have hfz43_1:=blk_frozen BK11.out 1;have hnb44:=NB12_2.out;have hnc44:=NB2_12.out;have hcz45_0:=zz0 BK12;have hcz45_1:=zz1 BK12;have hfz45_0:=blk_frozen BK12.out 0;have hfz45_1:=blk_frozen BK12.out 1))
            have n0_:Aside0 (((((w40.setCell ⟨gb11,0,none⟩ (.int .i64 t3)).setCell ⟨gb11,1,none⟩ (.int .i64 t4)).setCell ⟨gb12,0,none⟩ (.int .i64 t6)).setCell ⟨gb12,1,none⟩ (.int .i64 t9)).heap[gb2]? = some (.cells #[.int .i64 a0_0,.int .i64 a0_1,.slice A0_2 l0_2.length c0_2] 29 (0,0))):=⟨zq6⟩;have n1_:Aside0 (((((w40.setCell ⟨gb11,0,none⟩ (.int .i64 t3)).setCell ⟨gb11,1,none⟩ (.int .i64 t4)).setCell ⟨gb12,0,none⟩ (.int .i64 t6)).setCell ⟨gb12,1,none⟩ (.int .i64 t9)).heap[gb11]? = some (.cells #[.int .i64 t3,.int .i64 t4] 48 (0,0))):=⟨zq0⟩;have n2_:Aside0 (((((w40.setCell ⟨gb11,0,none⟩ (.int .i64 t3)).setCell ⟨gb11,1,none⟩ (.int .i64 t4)).setCell ⟨gb12,0,none⟩ (.int .i64 t6)).setCell ⟨gb12,1,none⟩ (.int .i64 t9)).heap[gb12]? = some (.cells #[.int .i64 t6,.int .i64 t9] 48 (0,0))):=⟨zq1⟩;have n3_:Aside0 (Below w.heap.size w ((((w40.setCell ⟨gb11,0,none⟩ (.int .i64 t3)).setCell ⟨gb11,1,none⟩ (.int .i64 t4)).setCell ⟨gb12,0,none⟩ (.int .i64 t6)).setCell ⟨gb12,1,none⟩ (.int .i64 t9))):=⟨zzh⟩;(try clear BK2);(try clear BK11);(try clear BK12);(try clear HB);generalize ((((w40.setCell ⟨gb11,0,none⟩ (.int .i64 t3)).setCell ⟨gb11,1,none⟩ (.int .i64 t4)).setCell ⟨gb12,0,none⟩ (.int .i64 t6)).setCell ⟨gb12,1,none⟩ (.int .i64 t9)) = w46 at n0_ n1_ n2_ n3_ ⊢;have BK2:=n0_;have BK11:=n1_;have BK12:=n2_;have HB:=n3_;clear n0_ n1_ n2_ n3_;replace BK2:= zM (zK BK2.out);replace BK11:= zM (zK BK11.out);replace BK12:= zM (zK BK12.out);replace HB:= zM (zF HB.out);refine start_ (n:=23) (S:=fun w'=>w'.cell? ⟨gb11,0,none⟩ = some (.int .i64 t3) ∧ w'.cell? ⟨gb11,1,none⟩ = some (.int .i64 t4) ∧ w'.cell? ⟨gb12,0,none⟩ = some (.int .i64 t6) ∧ w'.cell? ⟨gb12,1,none⟩ = some (.int .i64 t9)) (ds:=[]) #[false,false,false,false,false,false,false,false,false,false,false,false,false,false,false,false,false,false,false,false,false,false,false] (by kernel_rfl) rfl rfl ⟨zz0 BK11,zz1 BK11,zz0 BK12,zz1 BK12⟩ (fun hHeld=>?_);refine with_tabW impl_FirstCollision.tab7 impl_FirstCollision.bits7 (fun HT_ HW_=>?_)
            generalize w46.drew = w47 at BK2 BK11 BK12 HB hHeld ⊢;refine zzt 0 36 (zzb 23 1) hHeld ?_ (hc:=zzy HT_ HW_) (hy:=by rintro w' ⟨s0,s1,s2,s3⟩;go_simp;with_reducible rfl);refine zzt 1 37 (zzb 23 3) hHeld ?_ (hc:=zzy HT_ HW_) (hy:=by rintro w' ⟨s0,s1,s2,s3⟩;go_simp;with_reducible rfl);refine zzp 2 38 (zzb 23 7) ?_ (hc:=zzx HT_);refine zzp 3 39 (zzb 23 15) ?_ (hc:=zzx HT_);refine zzp 4 40 (zzb 23 31) ?_ (hc:=zzx HT_);refine zzp 5 41 (zzb 23 63) ?_ (hc:=zzx HT_);refine zzp 6 42 (zzb 23 127) ?_ (hc:=zzx HT_);refine zzp 8 44 (zzb 23 383) ?_ (hc:=zzx HT_);refine zzp 9 45 (zzb 23 895) ?_ (hc:=zzx HT_);refine zzp 10 46 (zzb 23 1919) ?_ (hc:=zzx HT_);refine zzt 7 43 (zzb 23 2047) hHeld ?_ (hc:=zzy HT_ HW_) (hy:=by rintro w' ⟨s0,s1,s2,s3⟩;go_simp;with_reducible rfl);refine zzo 11 47 (zzb 23 4095) (hc:=zzw HT_) (fun K hK=>?_);refine zzf Try.func62 #[.slice A2 l2.length c2,.int .i64 (wrap64 (x27_2 - 1))] ?_;with_reducible refine (impl_cellAt.calls _ _ l2 (wrap64 (x27_2 - 1)) t7 t13 _ ?side1 ?side2 A33.out).mono ?_
            (case side1=>repeat (first|exact (zO HR2.out HB.out)|(with_reducible first|refine zG ?_ _|refine zH ?_ _|refine zI ?_)));(case side2=>exact HC2.out);rintro e w48 ⟨rfl,hb⟩;refine ⟨_,rfl,?_⟩;replace BK2:= zM (blk_below (zzi BK2) hb);replace BK11:= zM (blk_below (zzi BK11) hb);replace BK12:= zM (blk_below (zzi BK12) hb);replace HB:= zM (zQ zzh hb);(try clear hb);(try clear hb2);(try clear hk);(try clear hi);refine hK.out _ _ ⟨zz0 BK11,zz1 BK11,zz0 BK12,zz1 BK12⟩ (fun hHeld=>?_);clear hK K;refine zzn 47 ?_;refine zzp 12 48 (zzb 23 8191) ?_ (hc:=zzx HT_);refine zzp 13 49 (zzb 23 16383) ?_ (hc:=zzx HT_);refine zzp 14 50 (zzb 23 32767) ?_ (hc:=zzx HT_);refine zzp 16 52 (zzb 23 98303) ?_ (hc:=zzx HT_);refine zzp 17 53 (zzb 23 229375) ?_ (hc:=zzx HT_);refine zzp 18 54 (zzb 23 491519) ?_ (hc:=zzx HT_);refine zzt 15 51 (zzb 23 524287) hHeld ?_ (hc:=zzy HT_ HW_) (hy:=by rintro w' ⟨s0,s1,s2,s3⟩;go_simp;with_reducible rfl);refine zzo 19 55 (zzb 23 1048575) (hc:=zzw HT_) (fun K hK=>?_);refine zzf Try.func62 #[.slice A1 l1.length c1,.int .i64 (wrap64 (x27_2 - 1))] ?_;with_reducible refine (impl_cellAt.calls _ _ l1 (wrap64 (x27_2 - 1)) t8 t15 _ ?side1 ?side2 A35.out).mono ?_
            (case side1=>repeat (first|exact (zO HR1.out HB.out)|(with_reducible first|refine zG ?_ _|refine zH ?_ _|refine zI ?_)));(case side2=>exact HC1.out);rintro e w49 ⟨rfl,hb⟩;refine ⟨_,rfl,?_⟩;replace BK2:= zM (blk_below (zzi BK2) hb);replace BK11:= zM (blk_below (zzi BK11) hb);replace BK12:= zM (blk_below (zzi BK12) hb);replace HB:= zM (zQ zzh hb);(try clear hb);(try clear hb2);(try clear hk);(try clear hi);refine hK.out _ _ ⟨zz0 BK11,zz1 BK11,zz0 BK12,zz1 BK12⟩ (fun hHeld=>?_);clear hK K;refine zzn 55 ?_;refine zzp 20 56 (zzb 23 2097151) ?_ (hc:=zzx HT_);refine zzp 21 57 (zzb 23 4194303) ?_ (hc:=zzx HT_);refine zzp 22 58 (zzb 23 8388607) ?_ (hc:=zzx HT_);refine done_ (done_of HT_.out (by kernel_rfl)) ?_;try go_wp2
            go_ret3;exact ⟨zq78,zzh⟩
           ·rw [if_neg c36] at H
            (have c36b0:(t6 == t8 && (t9 == t15)) = false:=by simpa using c36);(try (have c36b1:decide (t6 = t8 && (t9 == t15)) = false:=by simpa using c36));(try (have c36b2:(t6 == t8 && (t9 == t15)) = false:=by simpa using c36));(try (have c36b3:¬ (t6 = t8 && (t9 == t15)):=by simpa using c36));clear c36;have H':=zM H;clear H;try go_wp2_with (first|((with_reducible refine gate_callee (f:=62) rfl ?_);refine goesL_ (some 32) rfl rfl Try.func62 (by kernel_rfl) rfl #[.slice A1 l1.length c1,.int .i64 x27_2] rfl zq94 ?_;(with_reducible refine (impl_cellAt.calls _ _ l1 x27_2 t3 t4 _ ?side1 ?side2 A18.out).mono ?_);(case side1=>repeat (first|exact (zO HR1.out HB.out)|(with_reducible first|refine zG ?_ _|refine zH ?_ _|refine zI ?_)));(case side2=>exact HC1.out);rintro e w50 ⟨rfl,hb⟩;refine ⟨_,rfl,?_⟩;replace BK2:= zM (blk_below (zzi BK2) hb);replace HB:= zM (zQ zzh hb);(try clear hb);(try clear hb2);(try clear hk);(try clear hi))|((with_reducible refine gate_callee (f:=62) rfl ?_);refine goesL_ (some 35) rfl rfl Try.func62 (by kernel_rfl) rfl #[.slice A2 l2.length c2,.int .i64 x27_2] rfl zq94 ?_;(with_reducible refine (impl_cellAt.calls _ _ l2 x27_2 t6 t9 _ ?side1 ?side2 A19.out).mono ?_);(case side1=>repeat (first|exact (zO HR2.out HB.out)|(with_reducible first|refine zG ?_ _|refine zH ?_ _|refine zI ?_)));(case side2=>exact HC2.out);rintro e w51 ⟨rfl,hb⟩;refine ⟨_,rfl,?_⟩;replace BK2:= zM (blk_below (zzi BK2) hb);replace HB:= zM (zQ zzh hb);(try clear hb);(try clear hb2);(try clear hk);(try clear hi))|((with_reducible refine gate_dst (N:=10) rfl ?_);refine zzc 10 #[.int .i64 0,.int .i64 0] 48 ?_;intro gb11 hg w52 hbox hb;have BK11:= zM (hbox);have GW11:= zM ((zq117:w.heap.size ≤ gb11));have GE11:= zM ((zq117:w.heap.size ≤ gb11));replace HB:= zM (zQ zzh hb);have NB2_11:= zM ((zzm hg (zzi BK2):gb2 ≠ gb11));have NB11_2:= zM ((zzM hg (zzi BK2):gb11 ≠ gb2));replace BK2:= zM (blk_below (zzi BK2) hb);clear hb hbox hg)|((with_reducible refine gate_dst (N:=11) rfl ?_);refine zzc 11 #[.int .i64 0,.int .i64 0] 48 ?_;intro gb12 hg w53 hbox hb;have BK12:= zM (hbox);have GW12:= zM ((zq117:w.heap.size ≤ gb12));have GE12:= zM ((zq117:w.heap.size ≤ gb12));replace HB:= zM (zQ zzh hb);have NB2_12:= zM ((zzm hg (zzi BK2):gb2 ≠ gb12));have NB12_2:= zM ((zzM hg (zzi BK2):gb12 ≠ gb2));replace BK2:= zM (blk_below (zzi BK2) hb);have NB11_12:= zM ((zzm hg (zzi BK11):gb11 ≠ gb12));have NB12_11:= zM ((zzM hg (zzi BK11):gb12 ≠ gb11));replace BK11:= zM (blk_below (zzi BK11) hb);clear hb hbox hg;have hnb54:=NB11_2.out;have hnc54:=NB2_11.out;have hnb55:=NB11_12.out;have hnc55:=NB12_11.out;have hcz56_0:=zz0 BK11;have hcz56_1:=zz1 BK11;have hfz56_0:=blk_frozen BK11.out 0;have hfz56_1:=blk_frozen BK11.out 1;have hnb57:=NB12_2.out;have hnc57:=NB2_12.out;have hcz58_0:=zz0 BK12;have hcz58_1:=zz1 BK12;have hfz58_0:=blk_frozen BK12.out 0;have hfz58_1:=blk_frozen BK12.out 1))
            have n0_:Aside0 (((((w53.setCell ⟨gb11,0,none⟩ (.int .i64 t3)).setCell ⟨gb11,1,none⟩ (.int .i64 t4)).setCell ⟨gb12,0,none⟩ (.int .i64 t6)).setCell ⟨gb12,1,none⟩ (.int .i64 t9)).heap[gb2]? = some (.cells #[.int .i64 a0_0,.int .i64 a0_1,.slice A0_2 l0_2.length c0_2] 29 (0,0))):=⟨zq6⟩;have n1_:Aside0 (((((w53.setCell ⟨gb11,0,none⟩ (.int .i64 t3)).setCell ⟨gb11,1,none⟩ (.int .i64 t4)).setCell ⟨gb12,0,none⟩ (.int .i64 t6)).setCell ⟨gb12,1,none⟩ (.int .i64 t9)).heap[gb11]? = some (.cells #[.int .i64 t3,.int .i64 t4] 48 (0,0))):=⟨zq0⟩;have n2_:Aside0 (((((w53.setCell ⟨gb11,0,none⟩ (.int .i64 t3)).setCell ⟨gb11,1,none⟩ (.int .i64 t4)).setCell ⟨gb12,0,none⟩ (.int .i64 t6)).setCell ⟨gb12,1,none⟩ (.int .i64 t9)).heap[gb12]? = some (.cells #[.int .i64 t6,.int .i64 t9] 48 (0,0))):=⟨zq1⟩;have n3_:Aside0 (Below w.heap.size w ((((w53.setCell ⟨gb11,0,none⟩ (.int .i64 t3)).setCell ⟨gb11,1,none⟩ (.int .i64 t4)).setCell ⟨gb12,0,none⟩ (.int .i64 t6)).setCell ⟨gb12,1,none⟩ (.int .i64 t9))):=⟨zzh⟩;(try clear BK2);(try clear BK11);(try clear BK12);(try clear HB);generalize ((((w53.setCell ⟨gb11,0,none⟩ (.int .i64 t3)).setCell ⟨gb11,1,none⟩ (.int .i64 t4)).setCell ⟨gb12,0,none⟩ (.int .i64 t6)).setCell ⟨gb12,1,none⟩ (.int .i64 t9)) = w59 at n0_ n1_ n2_ n3_ ⊢;have BK2:=n0_;have BK11:=n1_;have BK12:=n2_;have HB:=n3_;clear n0_ n1_ n2_ n3_;replace BK2:= zM (zK BK2.out);replace BK11:= zM (zK BK11.out);replace BK12:= zM (zK BK12.out);replace HB:= zM (zF HB.out);refine start_ (n:=23) (S:=fun w'=>w'.cell? ⟨gb11,0,none⟩ = some (.int .i64 t3) ∧ w'.cell? ⟨gb11,1,none⟩ = some (.int .i64 t4) ∧ w'.cell? ⟨gb12,0,none⟩ = some (.int .i64 t6) ∧ w'.cell? ⟨gb12,1,none⟩ = some (.int .i64 t9)) (ds:=[]) #[false,false,false,false,false,false,false,false,false,false,false,false,false,false,false,false,false,false,false,false,false,false,false] (by kernel_rfl) rfl rfl ⟨zz0 BK11,zz1 BK11,zz0 BK12,zz1 BK12⟩ (fun hHeld=>?_);refine with_tabW impl_FirstCollision.tab7 impl_FirstCollision.bits7 (fun HT_ HW_=>?_)
            generalize w59.drew = w60 at BK2 BK11 BK12 HB hHeld ⊢;refine zzt 0 36 (zzb 23 1) hHeld ?_ (hc:=zzy HT_ HW_) (hy:=by rintro w' ⟨s0,s1,s2,s3⟩;go_simp;with_reducible rfl);refine zzt 1 37 (zzb 23 3) hHeld ?_ (hc:=zzy HT_ HW_) (hy:=by rintro w' ⟨s0,s1,s2,s3⟩;go_simp;with_reducible rfl);refine zzp 2 38 (zzb 23 7) ?_ (hc:=zzx HT_);refine zzp 3 39 (zzb 23 15) ?_ (hc:=zzx HT_);refine zzp 4 40 (zzb 23 31) ?_ (hc:=zzx HT_);refine zzp 5 41 (zzb 23 63) ?_ (hc:=zzx HT_);refine zzp 6 42 (zzb 23 127) ?_ (hc:=zzx HT_);refine zzp 8 44 (zzb 23 383) ?_ (hc:=zzx HT_);refine zzp 9 45 (zzb 23 895) ?_ (hc:=zzx HT_);refine zzp 10 46 (zzb 23 1919) ?_ (hc:=zzx HT_);refine zzt 7 43 (zzb 23 2047) hHeld ?_ (hc:=zzy HT_ HW_) (hy:=by rintro w' ⟨s0,s1,s2,s3⟩;go_simp;with_reducible rfl);refine zzo 11 47 (zzb 23 4095) (hc:=zzw HT_) (fun K hK=>?_);refine zzf Try.func62 #[.slice A2 l2.length c2,.int .i64 (wrap64 (x27_2 - 1))] ?_;with_reducible refine (impl_cellAt.calls _ _ l2 (wrap64 (x27_2 - 1)) t7 t13 _ ?side1 ?side2 A33.out).mono ?_
            (case side1=>repeat (first|exact (zO HR2.out HB.out)|(with_reducible first|refine zG ?_ _|refine zH ?_ _|refine zI ?_)));(case side2=>exact HC2.out);rintro e w61 ⟨rfl,hb⟩;refine ⟨_,rfl,?_⟩;replace BK2:= zM (blk_below (zzi BK2) hb);replace BK11:= zM (blk_below (zzi BK11) hb);replace BK12:= zM (blk_below (zzi BK12) hb);replace HB:= zM (zQ zzh hb);(try clear hb);(try clear hb2);(try clear hk);(try clear hi);refine hK.out _ _ ⟨zz0 BK11,zz1 BK11,zz0 BK12,zz1 BK12⟩ (fun hHeld=>?_);clear hK K;refine zzn 47 ?_;refine zzp 12 48 (zzb 23 8191) ?_ (hc:=zzx HT_);refine zzp 13 49 (zzb 23 16383) ?_ (hc:=zzx HT_);refine zzp 14 50 (zzb 23 32767) ?_ (hc:=zzx HT_);refine zzp 16 52 (zzb 23 98303) ?_ (hc:=zzx HT_);refine zzp 17 53 (zzb 23 229375) ?_ (hc:=zzx HT_);refine zzp 18 54 (zzb 23 491519) ?_ (hc:=zzx HT_);refine zzt 15 51 (zzb 23 524287) hHeld ?_ (hc:=zzy HT_ HW_) (hy:=by rintro w' ⟨s0,s1,s2,s3⟩;go_simp;with_reducible rfl);refine zzo 19 55 (zzb 23 1048575) (hc:=zzw HT_) (fun K hK=>?_);refine zzf Try.func62 #[.slice A1 l1.length c1,.int .i64 (wrap64 (x27_2 - 1))] ?_;with_reducible refine (impl_cellAt.calls _ _ l1 (wrap64 (x27_2 - 1)) t8 t15 _ ?side1 ?side2 A35.out).mono ?_
            (case side1=>repeat (first|exact (zO HR1.out HB.out)|(with_reducible first|refine zG ?_ _|refine zH ?_ _|refine zI ?_)));(case side2=>exact HC1.out);rintro e w62 ⟨rfl,hb⟩;refine ⟨_,rfl,?_⟩;replace BK2:= zM (blk_below (zzi BK2) hb);replace BK11:= zM (blk_below (zzi BK11) hb);replace BK12:= zM (blk_below (zzi BK12) hb);replace HB:= zM (zQ zzh hb);(try clear hb);(try clear hb2);(try clear hk);(try clear hi);refine hK.out _ _ ⟨zz0 BK11,zz1 BK11,zz0 BK12,zz1 BK12⟩ (fun hHeld=>?_);clear hK K;refine zzn 55 ?_;refine zzp 20 56 (zzb 23 2097151) ?_ (hc:=zzx HT_);refine zzp 21 57 (zzb 23 4194303) ?_ (hc:=zzx HT_);refine zzp 22 58 (zzb 23 8388607) ?_ (hc:=zzx HT_);refine done_ (done_of HT_.out (by kernel_rfl)) ?_;try go_wp2
            go_roundg k2
            case measure=>have:=HJ3.out;have:=HK2.out;omega
            case rel=>exact ⟨(wrap64 (x27_2 + 1)),zq112,H',⟨zq115⟩,⟨zzi BK2⟩,⟨zzh⟩⟩
          ·rw [if_neg c34] at H
           (have c34b0:(t3 == t7 && (t4 == t13)) = false:=by simpa using c34);(try (have c34b1:decide (t3 = t7 && (t4 == t13)) = false:=by simpa using c34));(try (have c34b2:(t3 == t7 && (t4 == t13)) = false:=by simpa using c34));(try (have c34b3:¬ (t3 = t7 && (t4 == t13)):=by simpa using c34));clear c34;have H':=zM H;clear H;try go_wp2_with (first|((with_reducible refine gate_callee (f:=62) rfl ?_);refine goesL_ (some 32) rfl rfl Try.func62 (by kernel_rfl) rfl #[.slice A1 l1.length c1,.int .i64 x27_2] rfl zq94 ?_;(with_reducible refine (impl_cellAt.calls _ _ l1 x27_2 t3 t4 _ ?side1 ?side2 A18.out).mono ?_);(case side1=>repeat (first|exact (zO HR1.out HB.out)|(with_reducible first|refine zG ?_ _|refine zH ?_ _|refine zI ?_)));(case side2=>exact HC1.out);rintro e w63 ⟨rfl,hb⟩;refine ⟨_,rfl,?_⟩;replace BK2:= zM (blk_below (zzi BK2) hb);replace HB:= zM (zQ zzh hb);(try clear hb);(try clear hb2);(try clear hk);(try clear hi))|((with_reducible refine gate_callee (f:=62) rfl ?_);refine goesL_ (some 35) rfl rfl Try.func62 (by kernel_rfl) rfl #[.slice A2 l2.length c2,.int .i64 x27_2] rfl zq94 ?_;(with_reducible refine (impl_cellAt.calls _ _ l2 x27_2 t6 t9 _ ?side1 ?side2 A19.out).mono ?_);(case side1=>repeat (first|exact (zO HR2.out HB.out)|(with_reducible first|refine zG ?_ _|refine zH ?_ _|refine zI ?_)));(case side2=>exact HC2.out);rintro e w64 ⟨rfl,hb⟩;refine ⟨_,rfl,?_⟩;replace BK2:= zM (blk_below (zzi BK2) hb);replace HB:= zM (zQ zzh hb);(try clear hb);(try clear hb2);(try clear hk);(try clear hi))|((with_reducible refine gate_dst (N:=10) rfl ?_);refine zzc 10 #[.int .i64 0,.int .i64 0] 48 ?_;intro gb11 hg w65 hbox hb;have BK11:= zM (hbox);have GW11:= zM ((zq117:w.heap.size ≤ gb11));have GE11:= zM ((zq117:w.heap.size ≤ gb11));replace HB:= zM (zQ zzh hb);have NB2_11:= zM ((zzm hg (zzi BK2):gb2 ≠ gb11));have NB11_2:= zM ((zzM hg (zzi BK2):gb11 ≠ gb2));replace BK2:= zM (blk_below (zzi BK2) hb);clear hb hbox hg)|((with_reducible refine gate_dst (N:=11) rfl ?_);refine zzc 11 #[.int .i64 0,.int .i64 0] 48 ?_;intro gb12 hg w66 hbox hb;have BK12:= zM (hbox);have GW12:= zM ((zq117:w.heap.size ≤ gb12));have GE12:= zM ((zq117:w.heap.size ≤ gb12));replace HB:= zM (zQ zzh hb);have NB2_12:= zM ((zzm hg (zzi BK2):gb2 ≠ gb12));have NB12_2:= zM ((zzM hg (zzi BK2):gb12 ≠ gb2));replace BK2:= zM (blk_below (zzi BK2) hb);have NB11_12:= zM ((zzm hg (zzi BK11):gb11 ≠ gb12));have NB12_11:= zM ((zzM hg (zzi BK11):gb12 ≠ gb11));replace BK11:= zM (blk_below (zzi BK11) hb);clear hb hbox hg;have hnb67:=NB11_2.out;have hnc67:=NB2_11.out;have hnb68:=NB11_12.out;have hnc68:=NB12_11.out;have hcz69_0:=zz0 BK11;have hcz69_1:=zz1 BK11;have hfz69_0:=blk_frozen BK11.out 0;have hfz69_1:=blk_frozen BK11.out 1;have hnb70:=NB12_2.out;have hnc70:=NB2_12.out;have hcz71_0:=zz0 BK12;have hcz71_1:=zz1 BK12;have hfz71_0:=blk_frozen BK12.out 0;have hfz71_1:=blk_frozen BK12.out 1))
           have n0_:Aside0 (((((w66.setCell ⟨gb11,0,none⟩ (.int .i64 t3)).setCell ⟨gb11,1,none⟩ (.int .i64 t4)).setCell ⟨gb12,0,none⟩ (.int .i64 t6)).setCell ⟨gb12,1,none⟩ (.int .i64 t9)).heap[gb2]? = some (.cells #[.int .i64 a0_0,.int .i64 a0_1,.slice A0_2 l0_2.length c0_2] 29 (0,0))):=⟨zq6⟩;have n1_:Aside0 (((((w66.setCell ⟨gb11,0,none⟩ (.int .i64 t3)).setCell ⟨gb11,1,none⟩ (.int .i64 t4)).setCell ⟨gb12,0,none⟩ (.int .i64 t6)).setCell ⟨gb12,1,none⟩ (.int .i64 t9)).heap[gb11]? = some (.cells #[.int .i64 t3,.int .i64 t4] 48 (0,0))):=⟨zq0⟩;have n2_:Aside0 (((((w66.setCell ⟨gb11,0,none⟩ (.int .i64 t3)).setCell ⟨gb11,1,none⟩ (.int .i64 t4)).setCell ⟨gb12,0,none⟩ (.int .i64 t6)).setCell ⟨gb12,1,none⟩ (.int .i64 t9)).heap[gb12]? = some (.cells #[.int .i64 t6,.int .i64 t9] 48 (0,0))):=⟨zq1⟩;have n3_:Aside0 (Below w.heap.size w ((((w66.setCell ⟨gb11,0,none⟩ (.int .i64 t3)).setCell ⟨gb11,1,none⟩ (.int .i64 t4)).setCell ⟨gb12,0,none⟩ (.int .i64 t6)).setCell ⟨gb12,1,none⟩ (.int .i64 t9))):=⟨zzh⟩;(try clear BK2);(try clear BK11);(try clear BK12);(try clear HB);generalize ((((w66.setCell ⟨gb11,0,none⟩ (.int .i64 t3)).setCell ⟨gb11,1,none⟩ (.int .i64 t4)).setCell ⟨gb12,0,none⟩ (.int .i64 t6)).setCell ⟨gb12,1,none⟩ (.int .i64 t9)) = w72 at n0_ n1_ n2_ n3_ ⊢;have BK2:=n0_;have BK11:=n1_;have BK12:=n2_;have HB:=n3_;clear n0_ n1_ n2_ n3_;replace BK2:= zM (zK BK2.out);replace BK11:= zM (zK BK11.out);replace BK12:= zM (zK BK12.out);replace HB:= zM (zF HB.out);refine start_ (n:=23) (S:=fun w'=>w'.cell? ⟨gb11,0,none⟩ = some (.int .i64 t3) ∧ w'.cell? ⟨gb11,1,none⟩ = some (.int .i64 t4) ∧ w'.cell? ⟨gb12,0,none⟩ = some (.int .i64 t6) ∧ w'.cell? ⟨gb12,1,none⟩ = some (.int .i64 t9)) (ds:=[]) #[false,false,false,false,false,false,false,false,false,false,false,false,false,false,false,false,false,false,false,false,false,false,false] (by kernel_rfl) rfl rfl ⟨zz0 BK11,zz1 BK11,zz0 BK12,zz1 BK12⟩ (fun hHeld=>?_);refine with_tabW impl_FirstCollision.tab7 impl_FirstCollision.bits7 (fun HT_ HW_=>?_)
           generalize w72.drew = w73 at BK2 BK11 BK12 HB hHeld ⊢;refine zzt 0 36 (zzb 23 1) hHeld ?_ (hc:=zzy HT_ HW_) (hy:=by rintro w' ⟨s0,s1,s2,s3⟩;go_simp;with_reducible rfl);refine zzt 1 37 (zzb 23 3) hHeld ?_ (hc:=zzy HT_ HW_) (hy:=by rintro w' ⟨s0,s1,s2,s3⟩;go_simp;with_reducible rfl);refine zzp 2 38 (zzb 23 7) ?_ (hc:=zzx HT_);refine zzp 3 39 (zzb 23 15) ?_ (hc:=zzx HT_);refine zzp 4 40 (zzb 23 31) ?_ (hc:=zzx HT_);refine zzp 5 41 (zzb 23 63) ?_ (hc:=zzx HT_);refine zzp 6 42 (zzb 23 127) ?_ (hc:=zzx HT_);refine zzp 8 44 (zzb 23 383) ?_ (hc:=zzx HT_);refine zzp 9 45 (zzb 23 895) ?_ (hc:=zzx HT_);refine zzp 10 46 (zzb 23 1919) ?_ (hc:=zzx HT_);refine zzt 7 43 (zzb 23 2047) hHeld ?_ (hc:=zzy HT_ HW_) (hy:=by rintro w' ⟨s0,s1,s2,s3⟩;go_simp;with_reducible rfl);refine zzo 11 47 (zzb 23 4095) (hc:=zzw HT_) (fun K hK=>?_);refine zzf Try.func62 #[.slice A2 l2.length c2,.int .i64 (wrap64 (x27_2 - 1))] ?_;with_reducible refine (impl_cellAt.calls _ _ l2 (wrap64 (x27_2 - 1)) t7 t13 _ ?side1 ?side2 A33.out).mono ?_
           (case side1=>repeat (first|exact (zO HR2.out HB.out)|(with_reducible first|refine zG ?_ _|refine zH ?_ _|refine zI ?_)));(case side2=>exact HC2.out);rintro e w74 ⟨rfl,hb⟩;refine ⟨_,rfl,?_⟩;replace BK2:= zM (blk_below (zzi BK2) hb);replace BK11:= zM (blk_below (zzi BK11) hb);replace BK12:= zM (blk_below (zzi BK12) hb);replace HB:= zM (zQ zzh hb);(try clear hb);(try clear hb2);(try clear hk);(try clear hi);refine hK.out _ _ ⟨zz0 BK11,zz1 BK11,zz0 BK12,zz1 BK12⟩ (fun hHeld=>?_);clear hK K;refine zzn 47 ?_;refine zzp 12 48 (zzb 23 8191) ?_ (hc:=zzx HT_);refine zzp 13 49 (zzb 23 16383) ?_ (hc:=zzx HT_);refine zzp 14 50 (zzb 23 32767) ?_ (hc:=zzx HT_);refine zzu 15 51 (zzb 23 65535) ?_ (hc:=zzx HT_);refine zzu 16 52 (zzb 23 131071) ?_ (hc:=zzx HT_);refine zzu 17 53 (zzb 23 262143) ?_ (hc:=zzx HT_);refine zzu 18 54 (zzb 23 524287) ?_ (hc:=zzx HT_);refine zzu 19 55 (zzb 23 1048575) ?_ (hc:=zzx HT_);refine zzu 20 56 (zzb 23 2097151) ?_ (hc:=zzx HT_);refine zzp 21 57 (zzb 23 4194303) ?_ (hc:=zzx HT_);refine zzp 22 58 (zzb 23 8388607) ?_ (hc:=zzx HT_);refine done_ (done_of HT_.out (by kernel_rfl)) ?_;try go_wp2
           go_roundg k2
           case measure=>have:=HJ3.out;have:=HK2.out;omega
           case rel=>exact ⟨(wrap64 (x27_2 + 1)),zq112,H',⟨zq115⟩,⟨zzi BK2⟩,⟨zzh⟩⟩
         ·rw [if_neg c32] at H
          have c32b0:decide (0 < x27_2) = false:=decide_eq_false c32;clear c32;have H':=zM H;clear H;try go_wp2_with (first|((with_reducible refine gate_callee (f:=62) rfl ?_);refine goesL_ (some 32) rfl rfl Try.func62 (by kernel_rfl) rfl #[.slice A1 l1.length c1,.int .i64 x27_2] rfl zq94 ?_;(with_reducible refine (impl_cellAt.calls _ _ l1 x27_2 t3 t4 _ ?side1 ?side2 A18.out).mono ?_);(case side1=>repeat (first|exact (zO HR1.out HB.out)|(with_reducible first|refine zG ?_ _|refine zH ?_ _|refine zI ?_)));(case side2=>exact HC1.out);rintro e w75 ⟨rfl,hb⟩;refine ⟨_,rfl,?_⟩;replace BK2:= zM (blk_below (zzi BK2) hb);replace HB:= zM (zQ zzh hb);(try clear hb);(try clear hb2);(try clear hk);(try clear hi))|((with_reducible refine gate_callee (f:=62) rfl ?_);refine goesL_ (some 35) rfl rfl Try.func62 (by kernel_rfl) rfl #[.slice A2 l2.length c2,.int .i64 x27_2] rfl zq94 ?_;(with_reducible refine (impl_cellAt.calls _ _ l2 x27_2 t6 t9 _ ?side1 ?side2 A19.out).mono ?_);(case side1=>repeat (first|exact (zO HR2.out HB.out)|(with_reducible first|refine zG ?_ _|refine zH ?_ _|refine zI ?_)));(case side2=>exact HC2.out);rintro e w76 ⟨rfl,hb⟩;refine ⟨_,rfl,?_⟩;replace BK2:= zM (blk_below (zzi BK2) hb);replace HB:= zM (zQ zzh hb);(try clear hb);(try clear hb2);(try clear hk);(try clear hi))|((with_reducible refine gate_dst (N:=10) rfl ?_);refine zzc 10 #[.int .i64 0,.int .i64 0] 48 ?_;intro gb11 hg w77 hbox hb;have BK11:= zM (hbox);have GW11:= zM ((zq117:w.heap.size ≤ gb11));have GE11:= zM ((zq117:w.heap.size ≤ gb11));replace HB:= zM (zQ zzh hb);have NB2_11:= zM ((zzm hg (zzi BK2):gb2 ≠ gb11));have NB11_2:= zM ((zzM hg (zzi BK2):gb11 ≠ gb2));replace BK2:= zM (blk_below (zzi BK2) hb);clear hb hbox hg)|((with_reducible refine gate_dst (N:=11) rfl ?_);refine zzc 11 #[.int .i64 0,.int .i64 0] 48 ?_;intro gb12 hg w78 hbox hb;have BK12:= zM (hbox);have GW12:= zM ((zq117:w.heap.size ≤ gb12));have GE12:= zM ((zq117:w.heap.size ≤ gb12));replace HB:= zM (zQ zzh hb);have NB2_12:= zM ((zzm hg (zzi BK2):gb2 ≠ gb12));have NB12_2:= zM ((zzM hg (zzi BK2):gb12 ≠ gb2));replace BK2:= zM (blk_below (zzi BK2) hb);have NB11_12:= zM ((zzm hg (zzi BK11):gb11 ≠ gb12));have NB12_11:= zM ((zzM hg (zzi BK11):gb12 ≠ gb11));replace BK11:= zM (blk_below (zzi BK11) hb);clear hb hbox hg;have hnb79:=NB11_2.out;have hnc79:=NB2_11.out;have hnb80:=NB11_12.out;have hnc80:=NB12_11.out;have hcz81_0:=zz0 BK11;have hcz81_1:=zz1 BK11;have hfz81_0:=blk_frozen BK11.out 0;have hfz81_1:=blk_frozen BK11.out 1;have hnb82:=NB12_2.out;have hnc82:=NB2_12.out;have hcz83_0:=zz0 BK12;have hcz83_1:=zz1 BK12;have hfz83_0:=blk_frozen BK12.out 0;have hfz83_1:=blk_frozen BK12.out 1))
          have n0_:Aside0 (((((w78.setCell ⟨gb11,0,none⟩ (.int .i64 t3)).setCell ⟨gb11,1,none⟩ (.int .i64 t4)).setCell ⟨gb12,0,none⟩ (.int .i64 t6)).setCell ⟨gb12,1,none⟩ (.int .i64 t9)).heap[gb2]? = some (.cells #[.int .i64 a0_0,.int .i64 a0_1,.slice A0_2 l0_2.length c0_2] 29 (0,0))):=⟨zq6⟩;have n1_:Aside0 (((((w78.setCell ⟨gb11,0,none⟩ (.int .i64 t3)).setCell ⟨gb11,1,none⟩ (.int .i64 t4)).setCell ⟨gb12,0,none⟩ (.int .i64 t6)).setCell ⟨gb12,1,none⟩ (.int .i64 t9)).heap[gb11]? = some (.cells #[.int .i64 t3,.int .i64 t4] 48 (0,0))):=⟨zq0⟩;have n2_:Aside0 (((((w78.setCell ⟨gb11,0,none⟩ (.int .i64 t3)).setCell ⟨gb11,1,none⟩ (.int .i64 t4)).setCell ⟨gb12,0,none⟩ (.int .i64 t6)).setCell ⟨gb12,1,none⟩ (.int .i64 t9)).heap[gb12]? = some (.cells #[.int .i64 t6,.int .i64 t9] 48 (0,0))):=⟨zq1⟩;have n3_:Aside0 (Below w.heap.size w ((((w78.setCell ⟨gb11,0,none⟩ (.int .i64 t3)).setCell ⟨gb11,1,none⟩ (.int .i64 t4)).setCell ⟨gb12,0,none⟩ (.int .i64 t6)).setCell ⟨gb12,1,none⟩ (.int .i64 t9))):=⟨zzh⟩;(try clear BK2);(try clear BK11);(try clear BK12);(try clear HB);generalize ((((w78.setCell ⟨gb11,0,none⟩ (.int .i64 t3)).setCell ⟨gb11,1,none⟩ (.int .i64 t4)).setCell ⟨gb12,0,none⟩ (.int .i64 t6)).setCell ⟨gb12,1,none⟩ (.int .i64 t9)) = w84 at n0_ n1_ n2_ n3_ ⊢;have BK2:=n0_;have BK11:=n1_;have BK12:=n2_;have HB:=n3_;clear n0_ n1_ n2_ n3_;replace BK2:= zM (zK BK2.out);replace BK11:= zM (zK BK11.out);replace BK12:= zM (zK BK12.out);replace HB:= zM (zF HB.out);refine start_ (n:=23) (S:=fun w'=>w'.cell? ⟨gb11,0,none⟩ = some (.int .i64 t3) ∧ w'.cell? ⟨gb11,1,none⟩ = some (.int .i64 t4) ∧ w'.cell? ⟨gb12,0,none⟩ = some (.int .i64 t6) ∧ w'.cell? ⟨gb12,1,none⟩ = some (.int .i64 t9)) (ds:=[]) #[false,false,false,false,false,false,false,false,false,false,false,false,false,false,false,false,false,false,false,false,false,false,false] (by kernel_rfl) rfl rfl ⟨zz0 BK11,zz1 BK11,zz0 BK12,zz1 BK12⟩ (fun hHeld=>?_);refine with_tabW impl_FirstCollision.tab7 impl_FirstCollision.bits7 (fun HT_ HW_=>?_)
          generalize w84.drew = w85 at BK2 BK11 BK12 HB hHeld ⊢;refine zzt 0 36 (zzb 23 1) hHeld ?_ (hc:=zzy HT_ HW_) (hy:=by rintro w' ⟨s0,s1,s2,s3⟩;go_simp;with_reducible rfl);refine zzt 1 37 (zzb 23 3) hHeld ?_ (hc:=zzy HT_ HW_) (hy:=by rintro w' ⟨s0,s1,s2,s3⟩;go_simp;with_reducible rfl);refine zzp 2 38 (zzb 23 7) ?_ (hc:=zzx HT_);refine zzp 3 39 (zzb 23 15) ?_ (hc:=zzx HT_);refine zzp 4 40 (zzb 23 31) ?_ (hc:=zzx HT_);refine zzp 5 41 (zzb 23 63) ?_ (hc:=zzx HT_);refine zzp 6 42 (zzb 23 127) ?_ (hc:=zzx HT_);refine zzu 7 43 (zzb 23 255) ?_ (hc:=zzx HT_);refine zzu 8 44 (zzb 23 511) ?_ (hc:=zzx HT_);refine zzu 9 45 (zzb 23 1023) ?_ (hc:=zzx HT_);refine zzu 10 46 (zzb 23 2047) ?_ (hc:=zzx HT_);refine zzu 11 47 (zzb 23 4095) ?_ (hc:=zzx HT_);refine zzu 12 48 (zzb 23 8191) ?_ (hc:=zzx HT_);refine zzp 13 49 (zzb 23 16383) ?_ (hc:=zzx HT_);refine zzp 14 50 (zzb 23 32767) ?_ (hc:=zzx HT_);refine zzu 15 51 (zzb 23 65535) ?_ (hc:=zzx HT_);refine zzu 16 52 (zzb 23 131071) ?_ (hc:=zzx HT_);refine zzu 17 53 (zzb 23 262143) ?_ (hc:=zzx HT_);refine zzu 18 54 (zzb 23 524287) ?_ (hc:=zzx HT_);refine zzu 19 55 (zzb 23 1048575) ?_ (hc:=zzx HT_);refine zzu 20 56 (zzb 23 2097151) ?_ (hc:=zzx HT_);refine zzp 21 57 (zzb 23 4194303) ?_ (hc:=zzx HT_);refine zzp 22 58 (zzb 23 8388607) ?_ (hc:=zzx HT_);refine done_ (done_of HT_.out (by kernel_rfl)) ?_;try go_wp2
          go_roundg k2
          case measure=>have:=HJ3.out;have:=HK2.out;omega
          case rel=>exact ⟨(wrap64 (x27_2 + 1)),zq112,H',⟨zq115⟩,⟨zzi BK2⟩,⟨zzh⟩⟩
       ·rw [if_neg c17] at H
        have c17b0:decide (x27_2 < ji16) = false:=decide_eq_false c17;clear c17;simp only [Option.some.injEq,Prod.mk.injEq] at H;obtain ⟨rfl,rfl,rfl⟩:=H;go_wp2;go_ret3;exact ⟨zq78,zzh⟩

    )


attribute [local go_sem high] eqA48
mutual
def spec_WaitMinutes.j0:Nat → List (S48) → Bool → Option (Int × Bool)
 | 0,_,_=>none
 | k + 1,x1,x16=>if x16 = true then (some (0,false)) else (spec_WaitMinutes.l0 k x1 0 1)
def spec_WaitMinutes.l0:Nat → List (S48) → Int → Int → Option (Int × Bool)
 | 0,_,_,_=>none
 | k + 1,x1,x6,x7=>if x7 < (x1.length:Int) then (if 0 ≤ x7 then (if 0 ≤ (wrap64 (x7 - 1)) then (if (wrap64 (x7 - 1)) < (x1.length:Int) then (if (((rd_T48 x1 x7).f0) == ((rd_T48 x1 (wrap64 (x7 - 1))).f0) && (((rd_T48 x1 x7).f1) == ((rd_T48 x1 (wrap64 (x7 - 1))).f1))) = true then (spec_WaitMinutes.l0 k x1 (wrap64 (x6 + 1)) (wrap64 (x7 + 1))) else (spec_WaitMinutes.l0 k x1 x6 (wrap64 (x7 + 1)))) else (none)) else (none)) else (none)) else (some (x6,true))
end
def spec_WaitMinutes.f (k:Nat) (a0_0:Int) (a0_1:Int) (l0_2:List (S48)) (l1:List (S48)):Option (Int × Bool):=(spec_l16Good.f k a0_0 a0_1 l0_2).bind fun t0=>(if t0 = true then ((spec_l16Path.f k a0_0 a0_1 l0_2 l1).bind fun t1=>(spec_WaitMinutes.j0 k l1 (!t1))) else (spec_WaitMinutes.j0 k l1 true))
theorem spec_WaitMinutes.calls (k:Nat) (a0_0:Int) (a0_1:Int) (A0_2:Option Addr) (c0_2:Nat) (l0_2:List (S48)) (A1:Option Addr) (c1:Nat) (l1:List (S48)) (r1:Int) (r2:Bool) (w:World) (hr0_2:Kd.C k48 w A0_2 l0_2.length l0_2) (hc0_2:l0_2.length ≤ c0_2) (hr1:Kd.C k48 w A1 l1.length l1) (hc1:l1.length ≤ c1) (h:spec_WaitMinutes.f k a0_0 a0_1 l0_2 l1 = some (r1,r2)) :
  Calls Try.prog 25 #[.agg #[.int .i64 a0_0,.int .i64 a0_1,.slice A0_2 l0_2.length c0_2],.slice A1 l1.length c1] w fun e w'=>e = .returned (.tuple #[.int .i64 r1,.bool r2]) ∧ Below w.heap.size w w':=by
 (have hu29:=Try.underlying29;have hu48:=Try.underlying48;have HR0_2:=zM hr0_2;have HC0_2:=zM hc0_2;clear hr0_2 hc0_2;have HR1:=zM hr1;have HC1:=zM hc1;clear hr1 hc1;have HB:=zM (Below.refl w.heap.size w);have H:((spec_l16Good.f k a0_0 a0_1 l0_2).bind fun t0=>(if t0 = true then ((spec_l16Path.f k a0_0 a0_1 l0_2 l1).bind fun t1=>(spec_WaitMinutes.j0 k l1 (!t1))) else (spec_WaitMinutes.j0 k l1 true))) = some (r1,r2):=h;clear h;have HC3:=zM H;clear H;go_enter Try.func25,Try.ntmps25;go_upto_region 1 with (first|((with_reducible refine gate_dst (N:=2) rfl ?_);refine zzc 2 #[.int .i64 a0_0,.int .i64 a0_1,.slice A0_2 l0_2.length c0_2] 29 ?_;intro gb2 hg w4 hbox hb;have BK2:= zM (hbox);have GW2:= zM ((zq117:w.heap.size ≤ gb2));have GE2:= zM ((zq117:w.heap.size ≤ gb2));replace HB:= zM (zQ zzh hb);clear hb hbox hg));repeat (go_quiet (first|((with_reducible refine gate_dst (N:=2) rfl ?_);refine zzc 2 #[.int .i64 a0_0,.int .i64 a0_1,.slice A0_2 l0_2.length c0_2] 29 ?_;intro gb2 hg w4 hbox hb;have BK2:= zM (hbox);have GW2:= zM ((zq117:w.heap.size ≤ gb2));have GE2:= zM ((zq117:w.heap.size ≤ gb2));replace HB:= zM (zQ zzh hb);clear hb hbox hg));go_upto_region 1 with (first|((with_reducible refine gate_dst (N:=2) rfl ?_);refine zzc 2 #[.int .i64 a0_0,.int .i64 a0_1,.slice A0_2 l0_2.length c0_2] 29 ?_;intro gb2 hg w4 hbox hb;have BK2:= zM (hbox);have GW2:= zM ((zq117:w.heap.size ≤ gb2));have GE2:= zM ((zq117:w.heap.size ≤ gb2));replace HB:= zM (zQ zzh hb);clear hb hbox hg))));(try simp only [Act.put,zT,zU,zV])
 go_cut [16] (fun v16 wc => ∃ (kq:Nat) (x16_2:Bool),v16 = .bool x16_2 ∧ Aside0 (spec_WaitMinutes.j0 kq l1 x16_2 = some (r1,r2)) ∧ Aside0 (kq ≤ k) ∧ Aside0 (wc.heap[gb2]? = some (.cells #[.int .i64 a0_0,.int .i64 a0_1,(.slice A0_2 l0_2.length c0_2)] 29 (0,0))) ∧ Aside0 (Below w.heap.size w wc))
 case first =>
  have H:=HC3.out;clear HC3;replace H:=Option.bind_eq_some_iff.mp H;obtain ⟨t0,A50,H⟩:=H;replace H:(if t0 = true then ((spec_l16Path.f k a0_0 a0_1 l0_2 l1).bind fun t1=>(spec_WaitMinutes.j0 k l1 (!t1))) else (spec_WaitMinutes.j0 k l1 true)) = some (r1,r2):=H;have A5:=zM A50;clear A50;by_cases c6:t0 = true
  ·subst c6
   (have H1:((spec_l16Path.f k a0_0 a0_1 l0_2 l1).bind fun t1=>(spec_WaitMinutes.j0 k l1 (!t1))) = some (r1,r2):=by rw [if_pos rfl] at H;exact H);clear H;have H:=H1;clear H1;replace H:=Option.bind_eq_some_iff.mp H;obtain ⟨t1,A70,H⟩:=H;replace H:(spec_WaitMinutes.j0 k l1 (!t1)) = some (r1,r2):=H;have A7:=zM A70;clear A70;have H':=zM H;clear H;have hcz8_0:=zz0 BK2;have hcz8_1:=zz1 BK2;have hcz8_2:=zz2 BK2;have hfz8_0:=blk_frozen BK2.out 0;have hfz8_1:=blk_frozen BK2.out 1;have hfz8_2:=blk_frozen BK2.out 2;go_wp2_with (first|(go_at_call 53;(with_reducible refine (spec_l16Good.calls k a0_0 a0_1 _ _ l0_2 true _ ?side1 ?side2 A5.out).mono ?_);(case side1=>repeat (first|exact (zO HR0_2.out HB.out)|(with_reducible first|refine zG ?_ _|refine zH ?_ _|refine zI ?_)));(case side2=>exact HC0_2.out);rintro e w9 ⟨rfl,hb⟩;replace BK2:= zM (blk_below (zzi BK2) hb);replace HB:= zM (zQ zzh hb);(try clear hb);(try clear hb2);(try clear hk);(try clear hi);have hcz10_0:=zz0 BK2;have hcz10_1:=zz1 BK2;have hcz10_2:=zz2 BK2;have hfz10_0:=blk_frozen BK2.out 0;have hfz10_1:=blk_frozen BK2.out 1;have hfz10_2:=blk_frozen BK2.out 2)|(go_at_call 57;(with_reducible refine (spec_l16Path.calls k a0_0 a0_1 _ _ l0_2 _ _ l1 t1 _ ?side1 ?side2 ?side3 ?side4 A7.out).mono ?_);(case side1=>repeat (first|exact (zO HR0_2.out HB.out)|(with_reducible first|refine zG ?_ _|refine zH ?_ _|refine zI ?_)));(case side2=>exact HC0_2.out);(case side3=>repeat (first|exact (zO HR1.out HB.out)|(with_reducible first|refine zG ?_ _|refine zH ?_ _|refine zI ?_)));(case side4=>exact HC1.out);rintro e w11 ⟨rfl,hb⟩;replace BK2:= zM (blk_below (zzi BK2) hb);replace HB:= zM (zQ zzh hb);(try clear hb);(try clear hb2);(try clear hk);(try clear hi)))
   repeat (go_quiet (first|(go_at_call 53;(with_reducible refine (spec_l16Good.calls k a0_0 a0_1 _ _ l0_2 true _ ?side1 ?side2 A5.out).mono ?_);(case side1=>repeat (first|exact (zO HR0_2.out HB.out)|(with_reducible first|refine zG ?_ _|refine zH ?_ _|refine zI ?_)));(case side2=>exact HC0_2.out);rintro e w9 ⟨rfl,hb⟩;replace BK2:= zM (blk_below (zzi BK2) hb);replace HB:= zM (zQ zzh hb);(try clear hb);(try clear hb2);(try clear hk);(try clear hi);have hcz10_0:=zz0 BK2;have hcz10_1:=zz1 BK2;have hcz10_2:=zz2 BK2;have hfz10_0:=blk_frozen BK2.out 0;have hfz10_1:=blk_frozen BK2.out 1;have hfz10_2:=blk_frozen BK2.out 2)|(go_at_call 57;(with_reducible refine (spec_l16Path.calls k a0_0 a0_1 _ _ l0_2 _ _ l1 t1 _ ?side1 ?side2 ?side3 ?side4 A7.out).mono ?_);(case side1=>repeat (first|exact (zO HR0_2.out HB.out)|(with_reducible first|refine zG ?_ _|refine zH ?_ _|refine zI ?_)));(case side2=>exact HC0_2.out);(case side3=>repeat (first|exact (zO HR1.out HB.out)|(with_reducible first|refine zG ?_ _|refine zH ?_ _|refine zI ?_)));(case side4=>exact HC1.out);rintro e w11 ⟨rfl,hb⟩;replace BK2:= zM (blk_below (zzi BK2) hb);replace HB:= zM (zQ zzh hb);(try clear hb);(try clear hb2);(try clear hk);(try clear hi)));try go_wp2_with (first|(go_at_call 53;(with_reducible refine (spec_l16Good.calls k a0_0 a0_1 _ _ l0_2 true _ ?side1 ?side2 A5.out).mono ?_);(case side1=>repeat (first|exact (zO HR0_2.out HB.out)|(with_reducible first|refine zG ?_ _|refine zH ?_ _|refine zI ?_)));(case side2=>exact HC0_2.out);rintro e w9 ⟨rfl,hb⟩;replace BK2:= zM (blk_below (zzi BK2) hb);replace HB:= zM (zQ zzh hb);(try clear hb);(try clear hb2);(try clear hk);(try clear hi);have hcz10_0:=zz0 BK2;have hcz10_1:=zz1 BK2;have hcz10_2:=zz2 BK2;have hfz10_0:=blk_frozen BK2.out 0;have hfz10_1:=blk_frozen BK2.out 1;have hfz10_2:=blk_frozen BK2.out 2)|(go_at_call 57;(with_reducible refine (spec_l16Path.calls k a0_0 a0_1 _ _ l0_2 _ _ l1 t1 _ ?side1 ?side2 ?side3 ?side4 A7.out).mono ?_);(case side1=>repeat (first|exact (zO HR0_2.out HB.out)|(with_reducible first|refine zG ?_ _|refine zH ?_ _|refine zI ?_)));(case side2=>exact HC0_2.out);(case side3=>repeat (first|exact (zO HR1.out HB.out)|(with_reducible first|refine zG ?_ _|refine zH ?_ _|refine zI ?_)));(case side4=>exact HC1.out);rintro e w11 ⟨rfl,hb⟩;replace BK2:= zM (blk_below (zzi BK2) hb);replace HB:= zM (zQ zzh hb);(try clear hb);(try clear hb2);(try clear hk);(try clear hi))))
   go_meet
   case rel=>exact ⟨_,(!t1),zq112,H',⟨zq116⟩,⟨zzi BK2⟩,⟨zzh⟩⟩
  ·replace c6:=Bool.eq_false_iff.mpr c6
   subst c6;have H1:(spec_WaitMinutes.j0 k l1 true) = some (r1,r2):=by rw [if_neg (show ¬ (false = true) by decide)] at H;exact H
   clear H;have H:=H1;clear H1;have H':=zM H;clear H;have hcz12_0:=zz0 BK2;have hcz12_1:=zz1 BK2;have hcz12_2:=zz2 BK2;have hfz12_0:=blk_frozen BK2.out 0;have hfz12_1:=blk_frozen BK2.out 1;have hfz12_2:=blk_frozen BK2.out 2;go_wp2_with (first|(go_at_call 53;(with_reducible refine (spec_l16Good.calls k a0_0 a0_1 _ _ l0_2 false _ ?side1 ?side2 A5.out).mono ?_);(case side1=>repeat (first|exact (zO HR0_2.out HB.out)|(with_reducible first|refine zG ?_ _|refine zH ?_ _|refine zI ?_)));(case side2=>exact HC0_2.out);rintro e w13 ⟨rfl,hb⟩;replace BK2:= zM (blk_below (zzi BK2) hb);replace HB:= zM (zQ zzh hb);(try clear hb);(try clear hb2);(try clear hk);(try clear hi)));repeat (go_quiet (first|(go_at_call 53;(with_reducible refine (spec_l16Good.calls k a0_0 a0_1 _ _ l0_2 false _ ?side1 ?side2 A5.out).mono ?_);(case side1=>repeat (first|exact (zO HR0_2.out HB.out)|(with_reducible first|refine zG ?_ _|refine zH ?_ _|refine zI ?_)));(case side2=>exact HC0_2.out);rintro e w13 ⟨rfl,hb⟩;replace BK2:= zM (blk_below (zzi BK2) hb);replace HB:= zM (zQ zzh hb);(try clear hb);(try clear hb2);(try clear hk);(try clear hi)));try go_wp2_with (first|(go_at_call 53;(with_reducible refine (spec_l16Good.calls k a0_0 a0_1 _ _ l0_2 false _ ?side1 ?side2 A5.out).mono ?_);(case side1=>repeat (first|exact (zO HR0_2.out HB.out)|(with_reducible first|refine zG ?_ _|refine zH ?_ _|refine zI ?_)));(case side2=>exact HC0_2.out);rintro e w13 ⟨rfl,hb⟩;replace BK2:= zM (blk_below (zzi BK2) hb);replace HB:= zM (zQ zzh hb);(try clear hb);(try clear hb2);(try clear hk);(try clear hi))))
   go_meet
   case rel=>exact ⟨_,(true),zq112,H',⟨zq116⟩,⟨zzi BK2⟩,⟨zzh⟩⟩
 case rest =>
  clear HC3;(try clear c1);(try clear c2);(try clear p2);(try clear c6);(try clear hcz10_0);(try clear hcz10_1);(try clear hcz10_2);(try clear hcz12_0);(try clear hcz12_1);(try clear hcz12_2);(try clear hcz8_0);(try clear hcz8_1);(try clear hcz8_2);(try clear hfz10_0);(try clear hfz10_1);(try clear hfz10_2);(try clear hfz12_0);(try clear hfz12_1);(try clear hfz12_2);(try clear hfz8_0);(try clear hfz8_1);(try clear hfz8_2);obtain ⟨kq,x16_2,rfl,HA,HJ2,BK2,HB⟩:=hcut;cases kq with
  | zero=>exact absurd HA.out (by simp [spec_WaitMinutes.j0])
  | succ kj2 =>
   have H:=HA.out;clear HA;simp only [spec_WaitMinutes.j0] at H;by_cases c14:x16_2 = true
   ·subst c14
    (have H1:(some (0,false)) = some (r1,r2):=by rw [if_pos rfl] at H;exact H);clear H;have H:=H1;clear H1;simp only [Option.some.injEq,Prod.mk.injEq] at H;obtain ⟨rfl,rfl⟩:=H;go_wp2;repeat (go_quiet (fail);try go_wp2)
    go_ret2;exact ⟨zq104,zzh⟩
   ·replace c14:=Bool.eq_false_iff.mpr c14
    subst c14;have H1:(spec_WaitMinutes.l0 kj2 l1 0 1) = some (r1,r2):=by rw [if_neg (show ¬ (false = true) by decide)] at H;exact H
    clear H;have H:=H1;clear H1;have H':=zM H;clear H;go_wp2;repeat (go_quiet (fail);try go_wp2)
    go_loopg [6,7] kj2 (fun kq v6 v7 w' => ∃ (x6_2:Int) (x7_2:Int),v6 = .int .i64 x6_2 ∧ v7 = .int .i64 x7_2 ∧ Aside0 (spec_WaitMinutes.l0 kq l1 x6_2 x7_2 = some (r1,r2)) ∧ Aside0 (kq ≤ kj2) ∧ Aside0 (w'.heap[gb2]? = some (.cells #[.int .i64 a0_0,.int .i64 a0_1,(.slice A0_2 l0_2.length c0_2)] 29 (0,0))) ∧ Aside0 (Below w.heap.size w w'))
    case atStart=>exact ⟨(0),(1),zq112,zq112,H',⟨Nat.le_refl _⟩,⟨zzi BK2⟩,⟨zzh⟩⟩
    case round =>
     clear H';(try clear c1);(try clear c2);(try clear p2);(try clear c6);(try clear c14);(try clear hcz10_0);(try clear hcz10_1);(try clear hcz10_2);(try clear hcz12_0);(try clear hcz12_1);(try clear hcz12_2);(try clear hcz8_0);(try clear hcz8_1);(try clear hcz8_2);(try clear hfz10_0);(try clear hfz10_1);(try clear hfz10_2);(try clear hfz12_0);(try clear hfz12_1);(try clear hfz12_2);(try clear hfz8_0);(try clear hfz8_1);(try clear hfz8_2);(try clear p2);obtain ⟨x6_2,x7_2,rfl,rfl,HA,HK2,BK2,HB⟩:=hrel;cases gk with
     | zero=>exact absurd HA.out (by simp [spec_WaitMinutes.l0])
     | succ k2 =>
      have H:=HA.out;clear HA;simp only [spec_WaitMinutes.l0] at H;by_cases c15:x7_2 < (l1.length:Int)
      ·rw [if_pos c15] at H
       have c15b0:decide (x7_2 < (l1.length:Int)) = true:=decide_eq_true c15;clear c15;by_cases c16:0 ≤ x7_2
       ·rw [if_pos c16] at H
        (have c16b0:decide (0 ≤ x7_2) = true:=decide_eq_true c16;clear c16;obtain ⟨ji17,hji17⟩ : ∃ j_:Int,(wrap64 (x7_2 - 1)) = j_:=⟨_,rfl⟩;replace H:(if 0 ≤ (ji17) then (if (ji17) < (l1.length:Int) then (if (((rd_T48 l1 x7_2).f0) == ((rd_T48 l1 (ji17)).f0) && (((rd_T48 l1 x7_2).f1) == ((rd_T48 l1 (ji17)).f1))) = true then (spec_WaitMinutes.l0 k2 l1 (wrap64 (x6_2 + 1)) (wrap64 (x7_2 + 1))) else (spec_WaitMinutes.l0 k2 l1 x6_2 (wrap64 (x7_2 + 1)))) else (none)) else (none)) = some (r1,r2):=by first|(rw [hji17] at H;exact H)|(simp only [hji17] at H ⊢;exact H));have hji17w:(IntKind.i64.wrap (x7_2 - 1)) = ji17:=(i64_w _).trans hji17;by_cases c18:0 ≤ (ji17)
        ·rw [if_pos c18] at H
         have c18b0:decide (0 ≤ (ji17)) = true:=decide_eq_true c18;clear c18;by_cases c19:(ji17) < (l1.length:Int)
         ·rw [if_pos c19] at H
          have c19b0:decide ((ji17) < (l1.length:Int)) = true:=decide_eq_true c19;clear c19;by_cases c20:(((rd_T48 l1 x7_2).f0) == ((rd_T48 l1 (ji17)).f0) && (((rd_T48 l1 x7_2).f1) == ((rd_T48 l1 (ji17)).f1))) = true
          ·rw [if_pos c20] at H
           (have c20b0:(((rd_T48 l1 x7_2).f0) == ((rd_T48 l1 (ji17)).f0) && (((rd_T48 l1 x7_2).f1) == ((rd_T48 l1 (ji17)).f1))) = true:=c20;(try (have c20b1:decide (((rd_T48 l1 x7_2).f0) = ((rd_T48 l1 (ji17)).f0) && (((rd_T48 l1 x7_2).f1) == ((rd_T48 l1 (ji17)).f1))) = true:=by simpa using c20));(try (have c20b2:(((rd_T48 l1 x7_2).f0) == ((rd_T48 l1 (ji17)).f0) && (((rd_T48 l1 x7_2).f1) == ((rd_T48 l1 (ji17)).f1))) = true:=by simpa using c20));clear c20;have H':=zM H;clear H;have p3:0 ≤ (x7_2:Int):=zzd;have q3:x7_2 < (l1.length:Int):=zzd;obtain ⟨ad3,e3,hx3_0,hx3_1⟩:=at_T48 HR1.out x7_2 p3 q3;cases e3;replace hx3_0:=zS HB.out hx3_0;replace hx3_1:=zS HB.out hx3_1;replace p3:=eq_true p3;replace q3:=eq_true q3;have p4:0 ≤ ((ji17):Int):=zzd;have q4:(ji17) < (l1.length:Int):=zzd;obtain ⟨ad4,e4,hx4_0,hx4_1⟩:=at_T48 HR1.out (ji17) p4 q4;obtain rfl:ad3 = ad4:=(by injection e4);replace hx4_0:=zS HB.out hx4_0;replace hx4_1:=zS HB.out hx4_1;replace p4:=eq_true p4;replace q4:=eq_true q4;go_wp2;repeat (go_quiet (fail);try go_wp2));go_roundg k2
           case measure=>have:=HJ2.out;have:=HK2.out;omega
           case rel=>exact ⟨(wrap64 (x6_2 + 1)),(wrap64 (x7_2 + 1)),zq112,zq112,H',⟨zq114⟩,⟨zzi BK2⟩,⟨zzh⟩⟩
          ·rw [if_neg c20] at H
           (have c20b0:(((rd_T48 l1 x7_2).f0) == ((rd_T48 l1 (ji17)).f0) && (((rd_T48 l1 x7_2).f1) == ((rd_T48 l1 (ji17)).f1))) = false:=by simpa using c20);(try (have c20b1:decide (((rd_T48 l1 x7_2).f0) = ((rd_T48 l1 (ji17)).f0) && (((rd_T48 l1 x7_2).f1) == ((rd_T48 l1 (ji17)).f1))) = false:=by simpa using c20));(try (have c20b2:(((rd_T48 l1 x7_2).f0) == ((rd_T48 l1 (ji17)).f0) && (((rd_T48 l1 x7_2).f1) == ((rd_T48 l1 (ji17)).f1))) = false:=by simpa using c20));(try (have c20b3:¬ (((rd_T48 l1 x7_2).f0) = ((rd_T48 l1 (ji17)).f0) && (((rd_T48 l1 x7_2).f1) == ((rd_T48 l1 (ji17)).f1))):=by simpa using c20));clear c20;have H':=zM H;clear H;have p3:0 ≤ (x7_2:Int):=zzd;have q3:x7_2 < (l1.length:Int):=zzd;obtain ⟨ad3,e3,hx3_0,hx3_1⟩:=at_T48 HR1.out x7_2 p3 q3;cases e3;replace hx3_0:=zS HB.out hx3_0;replace hx3_1:=zS HB.out hx3_1;replace p3:=eq_true p3;replace q3:=eq_true q3;have p4:0 ≤ ((ji17):Int):=zzd;have q4:(ji17) < (l1.length:Int):=zzd;obtain ⟨ad4,e4,hx4_0,hx4_1⟩:=at_T48 HR1.out (ji17) p4 q4;obtain rfl:ad3 = ad4:=(by injection e4);replace hx4_0:=zS HB.out hx4_0;replace hx4_1:=zS HB.out hx4_1;replace p4:=eq_true p4;replace q4:=eq_true q4;go_wp2;repeat (go_quiet (fail);try go_wp2)
           go_roundg k2
           case measure=>have:=HJ2.out;have:=HK2.out;omega
           case rel=>exact ⟨(x6_2),(wrap64 (x7_2 + 1)),zq112,zq112,H',⟨zq114⟩,⟨zzi BK2⟩,⟨zzh⟩⟩
         ·rw [if_neg c19] at H
          exact absurd H (by simp)
        ·rw [if_neg c18] at H
         exact absurd H (by simp)
       ·rw [if_neg c16] at H
        exact absurd H (by simp)
      ·rw [if_neg c15] at H
       (have c15b0:decide (x7_2 < (l1.length:Int)) = false:=decide_eq_false c15;clear c15;simp only [Option.some.injEq,Prod.mk.injEq] at H;obtain ⟨rfl,rfl⟩:=H;go_wp2;repeat (go_quiet (fail);try go_wp2));go_ret2;exact ⟨zq104,zzh⟩



attribute [local go_sem high] eqA48
def impl_WaitMinutes.l0:Nat → List (S48) → Int → Int → Option (Int × Bool)
 | 0,_,_,_=>none
 | k + 1,x1,x6,x7=>if x7 < (x1.length:Int) then (if 0 ≤ x7 then (if 0 ≤ (wrap64 (x7 - 1)) then (if (wrap64 (x7 - 1)) < (x1.length:Int) then (if (((rd_T48 x1 x7).f0) == ((rd_T48 x1 (wrap64 (x7 - 1))).f0) && (((rd_T48 x1 x7).f1) == ((rd_T48 x1 (wrap64 (x7 - 1))).f1))) = true then (impl_WaitMinutes.l0 k x1 (wrap64 (x6 + 1)) (wrap64 (x7 + 1))) else (impl_WaitMinutes.l0 k x1 x6 (wrap64 (x7 + 1)))) else (none)) else (none)) else (none)) else (some (x6,true))
def impl_WaitMinutes.f (k:Nat) (a0_0:Int) (a0_1:Int) (l0_2:List (S48)) (l1:List (S48)):Option (Int × Bool):=(impl_IsValidPath.f k a0_0 a0_1 l0_2 l1).bind fun t0=>(if t0 = true then (impl_WaitMinutes.l0 k l1 0 1) else (some (0,false)))
theorem impl_WaitMinutes.calls (k:Nat) (a0_0:Int) (a0_1:Int) (A0_2:Option Addr) (c0_2:Nat) (l0_2:List (S48)) (A1:Option Addr) (c1:Nat) (l1:List (S48)) (r1:Int) (r2:Bool) (w:World) (hr0_2:Kd.C k48 w A0_2 l0_2.length l0_2) (hc0_2:l0_2.length ≤ c0_2) (hr1:Kd.C k48 w A1 l1.length l1) (hc1:l1.length ≤ c1) (h:impl_WaitMinutes.f k a0_0 a0_1 l0_2 l1 = some (r1,r2)) :
  Calls Try.prog 26 #[.agg #[.int .i64 a0_0,.int .i64 a0_1,.slice A0_2 l0_2.length c0_2],.slice A1 l1.length c1] w fun e w'=>e = .returned (.tuple #[.int .i64 r1,.bool r2]) ∧ Below w.heap.size w w':=by
 have hu29:=Try.underlying29;have hu48:=Try.underlying48;have HR0_2:=zM hr0_2;have HC0_2:=zM hc0_2;clear hr0_2 hc0_2;have HR1:=zM hr1;have HC1:=zM hc1;clear hr1 hc1;have HB:=zM (Below.refl w.heap.size w);have H:((impl_IsValidPath.f k a0_0 a0_1 l0_2 l1).bind fun t0=>(if t0 = true then (impl_WaitMinutes.l0 k l1 0 1) else (some (0,false)))) = some (r1,r2):=h;clear h;replace H:=Option.bind_eq_some_iff.mp H;obtain ⟨t0,A30,H⟩:=H;replace H:(if t0 = true then (impl_WaitMinutes.l0 k l1 0 1) else (some (0,false))) = some (r1,r2):=H;have A3:=zM A30;clear A30;by_cases c4:t0 = true
 ·subst c4
  (have H1:(impl_WaitMinutes.l0 k l1 0 1) = some (r1,r2):=by rw [if_pos rfl] at H;exact H);clear H;have H:=H1;clear H1;have H':=zM H;clear H;go_enter Try.func26,Try.ntmps26;go_wp2_with (first|((with_reducible refine gate_dst (N:=2) rfl ?_);refine zzc 2 #[.int .i64 a0_0,.int .i64 a0_1,.slice A0_2 l0_2.length c0_2] 29 ?_;intro gb1 hg w5 hbox hb;have BK1:= zM (hbox);have GW1:= zM ((zq117:w.heap.size ≤ gb1));have GE1:= zM ((zq117:w.heap.size ≤ gb1));replace HB:= zM (zQ zzh hb);clear hb hbox hg;have hcz6_0:=zz0 BK1;have hcz6_1:=zz1 BK1;have hcz6_2:=zz2 BK1;have hfz6_0:=blk_frozen BK1.out 0;have hfz6_1:=blk_frozen BK1.out 1;have hfz6_2:=blk_frozen BK1.out 2)|(go_at_call 21;(with_reducible refine (impl_IsValidPath.calls k a0_0 a0_1 _ _ l0_2 _ _ l1 true _ ?side1 ?side2 ?side3 ?side4 A3.out).mono ?_);(case side1=>repeat (first|exact (zO HR0_2.out HB.out)|(with_reducible first|refine zG ?_ _|refine zH ?_ _|refine zI ?_)));(case side2=>exact HC0_2.out);(case side3=>repeat (first|exact (zO HR1.out HB.out)|(with_reducible first|refine zG ?_ _|refine zH ?_ _|refine zI ?_)));(case side4=>exact HC1.out);rintro e w7 ⟨rfl,hb⟩;replace BK1:= zM (blk_below (zzi BK1) hb);replace HB:= zM (zQ zzh hb);(try clear hb);(try clear hb2);(try clear hk);(try clear hi)));repeat (go_quiet (first|((with_reducible refine gate_dst (N:=2) rfl ?_);refine zzc 2 #[.int .i64 a0_0,.int .i64 a0_1,.slice A0_2 l0_2.length c0_2] 29 ?_;intro gb1 hg w5 hbox hb;have BK1:= zM (hbox);have GW1:= zM ((zq117:w.heap.size ≤ gb1));have GE1:= zM ((zq117:w.heap.size ≤ gb1));replace HB:= zM (zQ zzh hb);clear hb hbox hg;have hcz6_0:=zz0 BK1;have hcz6_1:=zz1 BK1;have hcz6_2:=zz2 BK1;have hfz6_0:=blk_frozen BK1.out 0;have hfz6_1:=blk_frozen BK1.out 1;have hfz6_2:=blk_frozen BK1.out 2)|(go_at_call 21;(with_reducible refine (impl_IsValidPath.calls k a0_0 a0_1 _ _ l0_2 _ _ l1 true _ ?side1 ?side2 ?side3 ?side4 A3.out).mono ?_);(case side1=>repeat (first|exact (zO HR0_2.out HB.out)|(with_reducible first|refine zG ?_ _|refine zH ?_ _|refine zI ?_)));(case side2=>exact HC0_2.out);(case side3=>repeat (first|exact (zO HR1.out HB.out)|(with_reducible first|refine zG ?_ _|refine zH ?_ _|refine zI ?_)));(case side4=>exact HC1.out);rintro e w7 ⟨rfl,hb⟩;replace BK1:= zM (blk_below (zzi BK1) hb);replace HB:= zM (zQ zzh hb);(try clear hb);(try clear hb2);(try clear hk);(try clear hi)));try go_wp2_with (first|((with_reducible refine gate_dst (N:=2) rfl ?_);refine zzc 2 #[.int .i64 a0_0,.int .i64 a0_1,.slice A0_2 l0_2.length c0_2] 29 ?_;intro gb1 hg w5 hbox hb;have BK1:= zM (hbox);have GW1:= zM ((zq117:w.heap.size ≤ gb1));have GE1:= zM ((zq117:w.heap.size ≤ gb1));replace HB:= zM (zQ zzh hb);clear hb hbox hg;have hcz6_0:=zz0 BK1;have hcz6_1:=zz1 BK1;have hcz6_2:=zz2 BK1;have hfz6_0:=blk_frozen BK1.out 0;have hfz6_1:=blk_frozen BK1.out 1;have hfz6_2:=blk_frozen BK1.out 2)|(go_at_call 21;(with_reducible refine (impl_IsValidPath.calls k a0_0 a0_1 _ _ l0_2 _ _ l1 true _ ?side1 ?side2 ?side3 ?side4 A3.out).mono ?_);(case side1=>repeat (first|exact (zO HR0_2.out HB.out)|(with_reducible first|refine zG ?_ _|refine zH ?_ _|refine zI ?_)));(case side2=>exact HC0_2.out);(case side3=>repeat (first|exact (zO HR1.out HB.out)|(with_reducible first|refine zG ?_ _|refine zH ?_ _|refine zI ?_)));(case side4=>exact HC1.out);rintro e w7 ⟨rfl,hb⟩;replace BK1:= zM (blk_below (zzi BK1) hb);replace HB:= zM (zQ zzh hb);(try clear hb);(try clear hb2);(try clear hk);(try clear hi))))
  go_loopg [6,7] k (fun kq v6 v7 w' => ∃ (x6_1:Int) (x7_1:Int),v6 = .int .i64 x6_1 ∧ v7 = .int .i64 x7_1 ∧ Aside0 (impl_WaitMinutes.l0 kq l1 x6_1 x7_1 = some (r1,r2)) ∧ Aside0 (kq ≤ k) ∧ Aside0 (w'.heap[gb1]? = some (.cells #[.int .i64 a0_0,.int .i64 a0_1,(.slice A0_2 l0_2.length c0_2)] 29 (0,0))) ∧ Aside0 (Below w.heap.size w w'))
  case atStart=>exact ⟨(0),(1),zq112,zq112,H',⟨Nat.le_refl _⟩,⟨zzi BK1⟩,⟨zzh⟩⟩
  case round =>
   clear H';(try clear c1);(try clear c2);(try clear p2);(try clear c4);(try clear hcz6_0);(try clear hcz6_1);(try clear hcz6_2);(try clear hfz6_0);(try clear hfz6_1);(try clear hfz6_2);obtain ⟨x6_1,x7_1,rfl,rfl,HA,HK1,BK1,HB⟩:=hrel;cases gk with
   | zero=>exact absurd HA.out (by simp [impl_WaitMinutes.l0])
   | succ k1 =>
    have H:=HA.out;clear HA;simp only [impl_WaitMinutes.l0] at H;by_cases c8:x7_1 < (l1.length:Int)
    ·rw [if_pos c8] at H
     have c8b0:decide (x7_1 < (l1.length:Int)) = true:=decide_eq_true c8;clear c8;by_cases c9:0 ≤ x7_1
     ·rw [if_pos c9] at H
      (have c9b0:decide (0 ≤ x7_1) = true:=decide_eq_true c9;clear c9;obtain ⟨ji10,hji10⟩ : ∃ j_:Int,(wrap64 (x7_1 - 1)) = j_:=⟨_,rfl⟩;replace H:(if 0 ≤ (ji10) then (if (ji10) < (l1.length:Int) then (if (((rd_T48 l1 x7_1).f0) == ((rd_T48 l1 (ji10)).f0) && (((rd_T48 l1 x7_1).f1) == ((rd_T48 l1 (ji10)).f1))) = true then (impl_WaitMinutes.l0 k1 l1 (wrap64 (x6_1 + 1)) (wrap64 (x7_1 + 1))) else (impl_WaitMinutes.l0 k1 l1 x6_1 (wrap64 (x7_1 + 1)))) else (none)) else (none)) = some (r1,r2):=by first|(rw [hji10] at H;exact H)|(simp only [hji10] at H ⊢;exact H));have hji10w:(IntKind.i64.wrap (x7_1 - 1)) = ji10:=(i64_w _).trans hji10;by_cases c11:0 ≤ (ji10)
      ·rw [if_pos c11] at H
       have c11b0:decide (0 ≤ (ji10)) = true:=decide_eq_true c11;clear c11;by_cases c12:(ji10) < (l1.length:Int)
       ·rw [if_pos c12] at H
        have c12b0:decide ((ji10) < (l1.length:Int)) = true:=decide_eq_true c12;clear c12;by_cases c13:(((rd_T48 l1 x7_1).f0) == ((rd_T48 l1 (ji10)).f0) && (((rd_T48 l1 x7_1).f1) == ((rd_T48 l1 (ji10)).f1))) = true
        ·rw [if_pos c13] at H
         (have c13b0:(((rd_T48 l1 x7_1).f0) == ((rd_T48 l1 (ji10)).f0) && (((rd_T48 l1 x7_1).f1) == ((rd_T48 l1 (ji10)).f1))) = true:=c13;(try (have c13b1:decide (((rd_T48 l1 x7_1).f0) = ((rd_T48 l1 (ji10)).f0) && (((rd_T48 l1 x7_1).f1) == ((rd_T48 l1 (ji10)).f1))) = true:=by simpa using c13));(try (have c13b2:(((rd_T48 l1 x7_1).f0) == ((rd_T48 l1 (ji10)).f0) && (((rd_T48 l1 x7_1).f1) == ((rd_T48 l1 (ji10)).f1))) = true:=by simpa using c13));clear c13;have H':=zM H;clear H;have p3:0 ≤ (x7_1:Int):=zzd;have q3:x7_1 < (l1.length:Int):=zzd;obtain ⟨ad3,e3,hx3_0,hx3_1⟩:=at_T48 HR1.out x7_1 p3 q3;cases e3;replace hx3_0:=zS HB.out hx3_0;replace hx3_1:=zS HB.out hx3_1;replace p3:=eq_true p3;replace q3:=eq_true q3;have p4:0 ≤ ((ji10):Int):=zzd;have q4:(ji10) < (l1.length:Int):=zzd;obtain ⟨ad4,e4,hx4_0,hx4_1⟩:=at_T48 HR1.out (ji10) p4 q4;obtain rfl:ad3 = ad4:=(by injection e4);replace hx4_0:=zS HB.out hx4_0;replace hx4_1:=zS HB.out hx4_1;replace p4:=eq_true p4;replace q4:=eq_true q4;go_wp2;repeat (go_quiet (fail);try go_wp2));go_roundg k1
         case measure=>have:=HK1.out;omega
         case rel=>exact ⟨(wrap64 (x6_1 + 1)),(wrap64 (x7_1 + 1)),zq112,zq112,H',⟨zq121⟩,⟨zzi BK1⟩,⟨zzh⟩⟩
        ·rw [if_neg c13] at H
         (have c13b0:(((rd_T48 l1 x7_1).f0) == ((rd_T48 l1 (ji10)).f0) && (((rd_T48 l1 x7_1).f1) == ((rd_T48 l1 (ji10)).f1))) = false:=by simpa using c13);(try (have c13b1:decide (((rd_T48 l1 x7_1).f0) = ((rd_T48 l1 (ji10)).f0) && (((rd_T48 l1 x7_1).f1) == ((rd_T48 l1 (ji10)).f1))) = false:=by simpa using c13));(try (have c13b2:(((rd_T48 l1 x7_1).f0) == ((rd_T48 l1 (ji10)).f0) && (((rd_T48 l1 x7_1).f1) == ((rd_T48 l1 (ji10)).f1))) = false:=by simpa using c13));(try (have c13b3:¬ (((rd_T48 l1 x7_1).f0) = ((rd_T48 l1 (ji10)).f0) && (((rd_T48 l1 x7_1).f1) == ((rd_T48 l1 (ji10)).f1))):=by simpa using c13));clear c13;have H':=zM H;clear H;have p3:0 ≤ (x7_1:Int):=zzd;have q3:x7_1 < (l1.length:Int):=zzd;obtain ⟨ad3,e3,hx3_0,hx3_1⟩:=at_T48 HR1.out x7_1 p3 q3;cases e3;replace hx3_0:=zS HB.out hx3_0;replace hx3_1:=zS HB.out hx3_1;replace p3:=eq_true p3;replace q3:=eq_true q3;have p4:0 ≤ ((ji10):Int):=zzd;have q4:(ji10) < (l1.length:Int):=zzd;obtain ⟨ad4,e4,hx4_0,hx4_1⟩:=at_T48 HR1.out (ji10) p4 q4;obtain rfl:ad3 = ad4:=(by injection e4);replace hx4_0:=zS HB.out hx4_0;replace hx4_1:=zS HB.out hx4_1;replace p4:=eq_true p4;replace q4:=eq_true q4;go_wp2;repeat (go_quiet (fail);try go_wp2)
         go_roundg k1
         case measure=>have:=HK1.out;omega
         case rel=>exact ⟨(x6_1),(wrap64 (x7_1 + 1)),zq112,zq112,H',⟨zq121⟩,⟨zzi BK1⟩,⟨zzh⟩⟩
       ·rw [if_neg c12] at H
        exact absurd H (by simp)
      ·rw [if_neg c11] at H
       exact absurd H (by simp)
     ·rw [if_neg c9] at H
      exact absurd H (by simp)
    ·rw [if_neg c8] at H
     (have c8b0:decide (x7_1 < (l1.length:Int)) = false:=decide_eq_false c8;clear c8;simp only [Option.some.injEq,Prod.mk.injEq] at H;obtain ⟨rfl,rfl⟩:=H;go_wp2;repeat (go_quiet (fail);try go_wp2));go_ret2;exact ⟨zq104,zzh⟩
 ·replace c4:=Bool.eq_false_iff.mpr c4
  subst c4;have H1:(some (0,false)) = some (r1,r2):=by rw [if_neg (show ¬ (false = true) by decide)] at H;exact H
  clear H;have H:=H1;clear H1;simp only [Option.some.injEq,Prod.mk.injEq] at H;obtain ⟨rfl,rfl⟩:=H;go_enter Try.func26,Try.ntmps26;go_wp2_with (first|((with_reducible refine gate_dst (N:=2) rfl ?_);refine zzc 2 #[.int .i64 a0_0,.int .i64 a0_1,.slice A0_2 l0_2.length c0_2] 29 ?_;intro gb1 hg w14 hbox hb;have BK1:= zM (hbox);have GW1:= zM ((zq117:w.heap.size ≤ gb1));have GE1:= zM ((zq117:w.heap.size ≤ gb1));replace HB:= zM (zQ zzh hb);clear hb hbox hg;have hcz15_0:=zz0 BK1;have hcz15_1:=zz1 BK1;have hcz15_2:=zz2 BK1;have hfz15_0:=blk_frozen BK1.out 0;have hfz15_1:=blk_frozen BK1.out 1;have hfz15_2:=blk_frozen BK1.out 2)|(go_at_call 21;(with_reducible refine (impl_IsValidPath.calls k a0_0 a0_1 _ _ l0_2 _ _ l1 false _ ?side1 ?side2 ?side3 ?side4 A3.out).mono ?_);(case side1=>repeat (first|exact (zO HR0_2.out HB.out)|(with_reducible first|refine zG ?_ _|refine zH ?_ _|refine zI ?_)));(case side2=>exact HC0_2.out);(case side3=>repeat (first|exact (zO HR1.out HB.out)|(with_reducible first|refine zG ?_ _|refine zH ?_ _|refine zI ?_)));(case side4=>exact HC1.out);rintro e w16 ⟨rfl,hb⟩;replace BK1:= zM (blk_below (zzi BK1) hb);replace HB:= zM (zQ zzh hb);(try clear hb);(try clear hb2);(try clear hk);(try clear hi)));repeat (go_quiet (first|((with_reducible refine gate_dst (N:=2) rfl ?_);refine zzc 2 #[.int .i64 a0_0,.int .i64 a0_1,.slice A0_2 l0_2.length c0_2] 29 ?_;intro gb1 hg w14 hbox hb;have BK1:= zM (hbox);have GW1:= zM ((zq117:w.heap.size ≤ gb1));have GE1:= zM ((zq117:w.heap.size ≤ gb1));replace HB:= zM (zQ zzh hb);clear hb hbox hg;have hcz15_0:=zz0 BK1;have hcz15_1:=zz1 BK1;have hcz15_2:=zz2 BK1;have hfz15_0:=blk_frozen BK1.out 0;have hfz15_1:=blk_frozen BK1.out 1;have hfz15_2:=blk_frozen BK1.out 2)|(go_at_call 21;(with_reducible refine (impl_IsValidPath.calls k a0_0 a0_1 _ _ l0_2 _ _ l1 false _ ?side1 ?side2 ?side3 ?side4 A3.out).mono ?_);(case side1=>repeat (first|exact (zO HR0_2.out HB.out)|(with_reducible first|refine zG ?_ _|refine zH ?_ _|refine zI ?_)));(case side2=>exact HC0_2.out);(case side3=>repeat (first|exact (zO HR1.out HB.out)|(with_reducible first|refine zG ?_ _|refine zH ?_ _|refine zI ?_)));(case side4=>exact HC1.out);rintro e w16 ⟨rfl,hb⟩;replace BK1:= zM (blk_below (zzi BK1) hb);replace HB:= zM (zQ zzh hb);(try clear hb);(try clear hb2);(try clear hk);(try clear hi)));try go_wp2_with (first|((with_reducible refine gate_dst (N:=2) rfl ?_);refine zzc 2 #[.int .i64 a0_0,.int .i64 a0_1,.slice A0_2 l0_2.length c0_2] 29 ?_;intro gb1 hg w14 hbox hb;have BK1:= zM (hbox);have GW1:= zM ((zq117:w.heap.size ≤ gb1));have GE1:= zM ((zq117:w.heap.size ≤ gb1));replace HB:= zM (zQ zzh hb);clear hb hbox hg;have hcz15_0:=zz0 BK1;have hcz15_1:=zz1 BK1;have hcz15_2:=zz2 BK1;have hfz15_0:=blk_frozen BK1.out 0;have hfz15_1:=blk_frozen BK1.out 1;have hfz15_2:=blk_frozen BK1.out 2)|(go_at_call 21;(with_reducible refine (impl_IsValidPath.calls k a0_0 a0_1 _ _ l0_2 _ _ l1 false _ ?side1 ?side2 ?side3 ?side4 A3.out).mono ?_);(case side1=>repeat (first|exact (zO HR0_2.out HB.out)|(with_reducible first|refine zG ?_ _|refine zH ?_ _|refine zI ?_)));(case side2=>exact HC0_2.out);(case side3=>repeat (first|exact (zO HR1.out HB.out)|(with_reducible first|refine zG ?_ _|refine zH ?_ _|refine zI ?_)));(case side4=>exact HC1.out);rintro e w16 ⟨rfl,hb⟩;replace BK1:= zM (blk_below (zzi BK1) hb);replace HB:= zM (zQ zzh hb);(try clear hb);(try clear hb2);(try clear hk);(try clear hi))))
  go_ret2;exact ⟨zq104,zzh⟩



def spec_l16Asked.f (k:Nat) (a0_0:Int) (a0_1:Int) (l0_2:List (S48)) (a1_0:Int) (a1_1:Int) (a2_0:Int) (a2_1:Int):Option (Bool):=(spec_l16Good.f k a0_0 a0_1 l0_2).bind fun t0=>(if t0 = true then ((spec_l16Free.f k a0_0 a0_1 l0_2 a1_0 a1_1).bind fun t1=>(if t1 = true then ((spec_l16Free.f k a0_0 a0_1 l0_2 a2_0 a2_1).bind fun t2=>(some t2)) else (some false))) else (some false))
theorem spec_l16Asked.calls (k:Nat) (a0_0:Int) (a0_1:Int) (A0_2:Option Addr) (c0_2:Nat) (l0_2:List (S48)) (a1_0:Int) (a1_1:Int) (a2_0:Int) (a2_1:Int) (r:Bool) (w:World) (hr0_2:Kd.C k48 w A0_2 l0_2.length l0_2) (hc0_2:l0_2.length ≤ c0_2) (h:spec_l16Asked.f k a0_0 a0_1 l0_2 a1_0 a1_1 a2_0 a2_1 = some r) :
  Calls Try.prog 63 #[.agg #[.int .i64 a0_0,.int .i64 a0_1,.slice A0_2 l0_2.length c0_2],.agg #[.int .i64 a1_0,.int .i64 a1_1],.agg #[.int .i64 a2_0,.int .i64 a2_1]] w fun e w'=>e = .returned (.bool r) ∧ Below w.heap.size w w':=by
 have hu29:=Try.underlying29;have hu48:=Try.underlying48;have HR0_2:=zM hr0_2;have HC0_2:=zM hc0_2;clear hr0_2 hc0_2;have HB:=zM (Below.refl w.heap.size w);have H:((spec_l16Good.f k a0_0 a0_1 l0_2).bind fun t0=>(if t0 = true then ((spec_l16Free.f k a0_0 a0_1 l0_2 a1_0 a1_1).bind fun t1=>(if t1 = true then ((spec_l16Free.f k a0_0 a0_1 l0_2 a2_0 a2_1).bind fun t2=>(some t2)) else (some false))) else (some false))) = some r:=h;clear h;replace H:=Option.bind_eq_some_iff.mp H;obtain ⟨t0,A40,H⟩:=H;replace H:(if t0 = true then ((spec_l16Free.f k a0_0 a0_1 l0_2 a1_0 a1_1).bind fun t1=>(if t1 = true then ((spec_l16Free.f k a0_0 a0_1 l0_2 a2_0 a2_1).bind fun t2=>(some t2)) else (some false))) else (some false)) = some r:=H;have A4:=zM A40;clear A40;by_cases c5:t0 = true
 ·subst c5
  (have H1:((spec_l16Free.f k a0_0 a0_1 l0_2 a1_0 a1_1).bind fun t1=>(if t1 = true then ((spec_l16Free.f k a0_0 a0_1 l0_2 a2_0 a2_1).bind fun t2=>(some t2)) else (some false))) = some r:=by rw [if_pos rfl] at H;exact H);clear H;have H:=H1;clear H1;replace H:=Option.bind_eq_some_iff.mp H;obtain ⟨t1,A60,H⟩:=H;replace H:(if t1 = true then ((spec_l16Free.f k a0_0 a0_1 l0_2 a2_0 a2_1).bind fun t2=>(some t2)) else (some false)) = some r:=H;have A6:=zM A60;clear A60;by_cases c7:t1 = true
  ·subst c7
   (have H1:((spec_l16Free.f k a0_0 a0_1 l0_2 a2_0 a2_1).bind fun t2=>(some t2)) = some r:=by rw [if_pos rfl] at H;exact H);clear H;have H:=H1;clear H1;replace H:=Option.bind_eq_some_iff.mp H;obtain ⟨t2,A80,H⟩:=H;replace H:(some t2) = some r:=H;have A8:=zM A80;clear A80;obtain rfl:=Option.some.inj H;go_enter Try.func63,Try.ntmps63;go_wp2_with (first|((with_reducible refine gate_dst (N:=3) rfl ?_);refine zzc 3 #[.int .i64 a0_0,.int .i64 a0_1,.slice A0_2 l0_2.length c0_2] 29 ?_;intro gb3 hg w9 hbox hb;have BK3:= zM (hbox);have GW3:= zM ((zq117:w.heap.size ≤ gb3));have GE3:= zM ((zq117:w.heap.size ≤ gb3));replace HB:= zM (zQ zzh hb);clear hb hbox hg)|((with_reducible refine gate_dst (N:=4) rfl ?_);refine zzc 4 #[.int .i64 a1_0,.int .i64 a1_1] 48 ?_;intro gb4 hg w10 hbox hb;have BK4:= zM (hbox);have GW4:= zM ((zq117:w.heap.size ≤ gb4));have GE4:= zM ((zq117:w.heap.size ≤ gb4));replace HB:= zM (zQ zzh hb);have NB3_4:= zM ((zzm hg (zzi BK3):gb3 ≠ gb4));have NB4_3:= zM ((zzM hg (zzi BK3):gb4 ≠ gb3));replace BK3:= zM (blk_below (zzi BK3) hb);clear hb hbox hg)|((with_reducible refine gate_dst (N:=5) rfl ?_);refine zzc 5 #[.int .i64 a2_0,.int .i64 a2_1] 48 ?_;intro gb5 hg w11 hbox hb;have BK5:= zM (hbox);have GW5:= zM ((zq117:w.heap.size ≤ gb5));have GE5:= zM ((zq117:w.heap.size ≤ gb5));replace HB:= zM (zQ zzh hb);have NB3_5:= zM ((zzm hg (zzi BK3):gb3 ≠ gb5));have NB5_3:= zM ((zzM hg (zzi BK3):gb5 ≠ gb3));replace BK3:= zM (blk_below (zzi BK3) hb);have NB4_5:= zM ((zzm hg (zzi BK4):gb4 ≠ gb5));have NB5_4:= zM ((zzM hg (zzi BK4):gb5 ≠ gb4));replace BK4:= zM (blk_below (zzi BK4) hb);clear hb hbox hg;have hnb12:=NB3_4.out;have hnc12:=NB4_3.out;have hnb13:=NB3_5.out;have hnc13:=NB5_3.out;have hcz14_0:=zz0 BK3;have hcz14_1:=zz1 BK3;have hcz14_2:=zz2 BK3;have hfz14_0:=blk_frozen BK3.out 0;have hfz14_1:=blk_frozen BK3.out 1;have hfz14_2:=blk_frozen BK3.out 2)|((with_reducible refine gate_callee (f:=53) rfl ?_);refine goesL_ (some 8) rfl rfl Try.func53 (by kernel_rfl) rfl #[.agg #[.int .i64 a0_0,.int .i64 a0_1,.slice A0_2 l0_2.length c0_2]] rfl zq94 ?_;(with_reducible refine (spec_l16Good.calls k a0_0 a0_1 _ _ l0_2 true _ ?side1 ?side2 A4.out).mono ?_);(case side1=>repeat (first|exact (zO HR0_2.out HB.out)|(with_reducible first|refine zG ?_ _|refine zH ?_ _|refine zI ?_)));(case side2=>exact HC0_2.out);rintro e w15 ⟨rfl,hb⟩;refine ⟨_,rfl,?_⟩;replace BK3:= zM (blk_below (zzi BK3) hb);replace BK4:= zM (blk_below (zzi BK4) hb);replace BK5:= zM (blk_below (zzi BK5) hb);replace HB:= zM (zQ zzh hb);(try clear hb);(try clear hb2);(try clear hk);(try clear hi);have hcz16_0:=zz0 BK3;have hcz16_1:=zz1 BK3;have hcz16_2:=zz2 BK3;have hfz16_0:=blk_frozen BK3.out 0;have hfz16_1:=blk_frozen BK3.out 1;have hfz16_2:=blk_frozen BK3.out 2;have hnb17:=NB4_5.out;have hnc17:=NB5_4.out;have hcz18_0:=zz0 BK4;have hcz18_1:=zz1 BK4;have hfz18_0:=blk_frozen BK4.out 0;have hfz18_1:=blk_frozen BK4.out 1)|(go_at_call 82;(with_reducible refine (spec_l16Free.calls k a0_0 a0_1 _ _ l0_2 a1_0 a1_1 true _ ?side1 ?side2 A6.out).mono ?_);(case side1=>repeat (first|exact (zO HR0_2.out HB.out)|(with_reducible first|refine zG ?_ _|refine zH ?_ _|refine zI ?_)));(case side2=>exact HC0_2.out);rintro e w19 ⟨rfl,hb⟩;replace BK3:= zM (blk_below (zzi BK3) hb);replace BK4:= zM (blk_below (zzi BK4) hb);replace BK5:= zM (blk_below (zzi BK5) hb);replace HB:= zM (zQ zzh hb);(try clear hb);(try clear hb2);(try clear hk);(try clear hi);have hcz20_0:=zz0 BK3;have hcz20_1:=zz1 BK3;have hcz20_2:=zz2 BK3;have hfz20_0:=blk_frozen BK3.out 0;have hfz20_1:=blk_frozen BK3.out 1;have hfz20_2:=blk_frozen BK3.out 2;have hcz21_0:=zz0 BK5;have hcz21_1:=zz1 BK5;have hfz21_0:=blk_frozen BK5.out 0;have hfz21_1:=blk_frozen BK5.out 1)|(go_at_call 82;(with_reducible refine (spec_l16Free.calls k a0_0 a0_1 _ _ l0_2 a2_0 a2_1 t2 _ ?side1 ?side2 A8.out).mono ?_);(case side1=>repeat (first|exact (zO HR0_2.out HB.out)|(with_reducible first|refine zG ?_ _|refine zH ?_ _|refine zI ?_)));(case side2=>exact HC0_2.out);rintro e w22 ⟨rfl,hb⟩;replace BK3:= zM (blk_below (zzi BK3) hb);replace BK4:= zM (blk_below (zzi BK4) hb);replace BK5:= zM (blk_below (zzi BK5) hb);replace HB:= zM (zQ zzh hb);(try clear hb);(try clear hb2);(try clear hk);(try clear hi)))
   go_ret;exact ⟨zq104,zzh⟩
  ·replace c7:=Bool.eq_false_iff.mpr c7
   subst c7;have H1:(some false) = some r:=by rw [if_neg (show ¬ (false = true) by decide)] at H;exact H
   clear H;have H:=H1;clear H1;obtain rfl:=Option.some.inj H;go_enter Try.func63,Try.ntmps63;go_wp2_with (first|((with_reducible refine gate_dst (N:=3) rfl ?_);refine zzc 3 #[.int .i64 a0_0,.int .i64 a0_1,.slice A0_2 l0_2.length c0_2] 29 ?_;intro gb3 hg w23 hbox hb;have BK3:= zM (hbox);have GW3:= zM ((zq117:w.heap.size ≤ gb3));have GE3:= zM ((zq117:w.heap.size ≤ gb3));replace HB:= zM (zQ zzh hb);clear hb hbox hg)|((with_reducible refine gate_dst (N:=4) rfl ?_);refine zzc 4 #[.int .i64 a1_0,.int .i64 a1_1] 48 ?_;intro gb4 hg w24 hbox hb;have BK4:= zM (hbox);have GW4:= zM ((zq117:w.heap.size ≤ gb4));have GE4:= zM ((zq117:w.heap.size ≤ gb4));replace HB:= zM (zQ zzh hb);have NB3_4:= zM ((zzm hg (zzi BK3):gb3 ≠ gb4));have NB4_3:= zM ((zzM hg (zzi BK3):gb4 ≠ gb3));replace BK3:= zM (blk_below (zzi BK3) hb);clear hb hbox hg)|((with_reducible refine gate_dst (N:=5) rfl ?_);refine zzc 5 #[.int .i64 a2_0,.int .i64 a2_1] 48 ?_;intro gb5 hg w25 hbox hb;have BK5:= zM (hbox);have GW5:= zM ((zq117:w.heap.size ≤ gb5));have GE5:= zM ((zq117:w.heap.size ≤ gb5));replace HB:= zM (zQ zzh hb);have NB3_5:= zM ((zzm hg (zzi BK3):gb3 ≠ gb5));have NB5_3:= zM ((zzM hg (zzi BK3):gb5 ≠ gb3));replace BK3:= zM (blk_below (zzi BK3) hb);have NB4_5:= zM ((zzm hg (zzi BK4):gb4 ≠ gb5));have NB5_4:= zM ((zzM hg (zzi BK4):gb5 ≠ gb4));replace BK4:= zM (blk_below (zzi BK4) hb);clear hb hbox hg;have hnb26:=NB3_4.out;have hnc26:=NB4_3.out;have hnb27:=NB3_5.out;have hnc27:=NB5_3.out;have hcz28_0:=zz0 BK3;have hcz28_1:=zz1 BK3;have hcz28_2:=zz2 BK3;have hfz28_0:=blk_frozen BK3.out 0;have hfz28_1:=blk_frozen BK3.out 1;have hfz28_2:=blk_frozen BK3.out 2)|((with_reducible refine gate_callee (f:=53) rfl ?_);refine goesL_ (some 8) rfl rfl Try.func53 (by kernel_rfl) rfl #[.agg #[.int .i64 a0_0,.int .i64 a0_1,.slice A0_2 l0_2.length c0_2]] rfl zq94 ?_;(with_reducible refine (spec_l16Good.calls k a0_0 a0_1 _ _ l0_2 true _ ?side1 ?side2 A4.out).mono ?_);(case side1=>repeat (first|exact (zO HR0_2.out HB.out)|(with_reducible first|refine zG ?_ _|refine zH ?_ _|refine zI ?_)));(case side2=>exact HC0_2.out);rintro e w29 ⟨rfl,hb⟩;refine ⟨_,rfl,?_⟩;replace BK3:= zM (blk_below (zzi BK3) hb);replace BK4:= zM (blk_below (zzi BK4) hb);replace BK5:= zM (blk_below (zzi BK5) hb);replace HB:= zM (zQ zzh hb);(try clear hb);(try clear hb2);(try clear hk);(try clear hi);have hcz30_0:=zz0 BK3;have hcz30_1:=zz1 BK3;have hcz30_2:=zz2 BK3;have hfz30_0:=blk_frozen BK3.out 0;have hfz30_1:=blk_frozen BK3.out 1;have hfz30_2:=blk_frozen BK3.out 2;have hnb31:=NB4_5.out;have hnc31:=NB5_4.out;have hcz32_0:=zz0 BK4;have hcz32_1:=zz1 BK4;have hfz32_0:=blk_frozen BK4.out 0;have hfz32_1:=blk_frozen BK4.out 1)|(go_at_call 82;(with_reducible refine (spec_l16Free.calls k a0_0 a0_1 _ _ l0_2 a1_0 a1_1 false _ ?side1 ?side2 A6.out).mono ?_);(case side1=>repeat (first|exact (zO HR0_2.out HB.out)|(with_reducible first|refine zG ?_ _|refine zH ?_ _|refine zI ?_)));(case side2=>exact HC0_2.out);rintro e w33 ⟨rfl,hb⟩;replace BK3:= zM (blk_below (zzi BK3) hb);replace BK4:= zM (blk_below (zzi BK4) hb);replace BK5:= zM (blk_below (zzi BK5) hb);replace HB:= zM (zQ zzh hb);(try clear hb);(try clear hb2);(try clear hk);(try clear hi)))
   go_ret;exact ⟨zq104,zzh⟩
 ·replace c5:=Bool.eq_false_iff.mpr c5
  subst c5;have H1:(some false) = some r:=by rw [if_neg (show ¬ (false = true) by decide)] at H;exact H
  clear H;have H:=H1;clear H1;obtain rfl:=Option.some.inj H;go_enter Try.func63,Try.ntmps63;go_wp2_with (first|((with_reducible refine gate_dst (N:=3) rfl ?_);refine zzc 3 #[.int .i64 a0_0,.int .i64 a0_1,.slice A0_2 l0_2.length c0_2] 29 ?_;intro gb3 hg w34 hbox hb;have BK3:= zM (hbox);have GW3:= zM ((zq117:w.heap.size ≤ gb3));have GE3:= zM ((zq117:w.heap.size ≤ gb3));replace HB:= zM (zQ zzh hb);clear hb hbox hg)|((with_reducible refine gate_dst (N:=4) rfl ?_);refine zzc 4 #[.int .i64 a1_0,.int .i64 a1_1] 48 ?_;intro gb4 hg w35 hbox hb;have BK4:= zM (hbox);have GW4:= zM ((zq117:w.heap.size ≤ gb4));have GE4:= zM ((zq117:w.heap.size ≤ gb4));replace HB:= zM (zQ zzh hb);have NB3_4:= zM ((zzm hg (zzi BK3):gb3 ≠ gb4));have NB4_3:= zM ((zzM hg (zzi BK3):gb4 ≠ gb3));replace BK3:= zM (blk_below (zzi BK3) hb);clear hb hbox hg)|((with_reducible refine gate_dst (N:=5) rfl ?_);refine zzc 5 #[.int .i64 a2_0,.int .i64 a2_1] 48 ?_;intro gb5 hg w36 hbox hb;have BK5:= zM (hbox);have GW5:= zM ((zq117:w.heap.size ≤ gb5));have GE5:= zM ((zq117:w.heap.size ≤ gb5));replace HB:= zM (zQ zzh hb);have NB3_5:= zM ((zzm hg (zzi BK3):gb3 ≠ gb5));have NB5_3:= zM ((zzM hg (zzi BK3):gb5 ≠ gb3));replace BK3:= zM (blk_below (zzi BK3) hb);have NB4_5:= zM ((zzm hg (zzi BK4):gb4 ≠ gb5));have NB5_4:= zM ((zzM hg (zzi BK4):gb5 ≠ gb4));replace BK4:= zM (blk_below (zzi BK4) hb);clear hb hbox hg;have hnb37:=NB3_4.out;have hnc37:=NB4_3.out;have hnb38:=NB3_5.out;have hnc38:=NB5_3.out;have hcz39_0:=zz0 BK3;have hcz39_1:=zz1 BK3;have hcz39_2:=zz2 BK3;have hfz39_0:=blk_frozen BK3.out 0;have hfz39_1:=blk_frozen BK3.out 1;have hfz39_2:=blk_frozen BK3.out 2)|((with_reducible refine gate_callee (f:=53) rfl ?_);refine goesL_ (some 8) rfl rfl Try.func53 (by kernel_rfl) rfl #[.agg #[.int .i64 a0_0,.int .i64 a0_1,.slice A0_2 l0_2.length c0_2]] rfl zq94 ?_;(with_reducible refine (spec_l16Good.calls k a0_0 a0_1 _ _ l0_2 false _ ?side1 ?side2 A4.out).mono ?_);(case side1=>repeat (first|exact (zO HR0_2.out HB.out)|(with_reducible first|refine zG ?_ _|refine zH ?_ _|refine zI ?_)));(case side2=>exact HC0_2.out);rintro e w40 ⟨rfl,hb⟩;refine ⟨_,rfl,?_⟩;replace BK3:= zM (blk_below (zzi BK3) hb);replace BK4:= zM (blk_below (zzi BK4) hb);replace BK5:= zM (blk_below (zzi BK5) hb);replace HB:= zM (zQ zzh hb);(try clear hb);(try clear hb2);(try clear hk);(try clear hi)))
  go_ret;exact ⟨zq104,zzh⟩

end Go.Proofs.Ytbpccdbkaiigcaa.G

namespace Go.Proofs.Ytbpccdbkaiigcaa.G
open Go.RowKit Go.Proofs.YtbpccdbkaiigcaaW.PrintWords Go.Proofs.YtbpccdbkaiigcaaW.PrintLast
theorem Ev.ite {α : Type} {c : Prop} [Decidable c] {A B : Nat → Option α} {r : α} (h1 : c → Ev A r) (h2 : ¬ c → Ev B r) : Ev (fun k=>if c then A k else B k) r:=by
 by_cases h : c
 ·simpa only [if_pos h] using h1 h
 ·simpa only [if_neg h] using h2 h
theorem Ev.val {α : Type} {v r : α} (h : v = r) : Ev (fun _=>some v) r:=by rw [h];exact Ev.now r
theorem Ev.eq {α : Type} {g : Nat → Option α} {r r' : α} (h : Ev g r) (e : r = r') : Ev g r':=e ▸ h
theorem wrap64_id {x : Int} (h1 : -9223372036854775808 ≤ x) (h2 : x ≤ 9223372036854775807) : wrap64 x = x:=IntWalk.wrap64_in x ⟨h1,h2⟩
theorem wf_iff {x : Int} : (Lit.int .i64 x).wf = true ↔ -9223372036854775808 ≤ x ∧ x ≤ 9223372036854775807:=by
 have e : (Lit.int .i64 x).wf = (decide (-9223372036854775808 ≤ x) && decide (x ≤ 9223372036854775807)):=rfl;rw [e];simp
def All (P : Int → Prop) (i n : Int) : Prop := ∀ j,i ≤ j → j < n → P j
theorem All.end_ (P : Int → Prop) (n : Int) : All P n n:=fun j h1 h2=>by omega
theorem All.step {P : Int → Prop} {i n : Int} (h : i < n) : All P i n ↔ P i ∧ All P (i + 1) n:=by
 constructor
 ·intro a
  exact ⟨a i (Int.le_refl _) h,fun j h1 h2=>a j (by omega) h2⟩
 ·rintro ⟨p,a⟩ j h1 h2
  by_cases e : j = i
  ·rw [e];exact p
  ·exact a j (by omega) h2
noncomputable def chk {β : Type} (p : Prop) (a b : β) : β := @ite β p (Classical.propDecidable p) a b
theorem chk_pos {β : Type} {p : Prop} (h : p) (a b : β) : chk p a b = a:=by unfold chk;exact if_pos h
theorem chk_neg {β : Type} {p : Prop} (h : ¬ p) (a b : β) : chk p a b = b:=by unfold chk;exact if_neg h
theorem chk_congr {β : Type} {p q : Prop} (h : p ↔ q) (a b : β) : chk p a b = chk q a b:=by rw [propext h]
theorem chk_true {p : Prop} : chk p true false = true ↔ p:=by
 by_cases h : p
 ·rw [chk_pos h];exact ⟨fun _=>h,fun _=>rfl⟩
 ·rw [chk_neg h];exact ⟨(fun e=>by cases e),(fun e=>absurd e h)⟩
theorem chk_and {β : Type} {p q : Prop} (a b : β) : chk p (chk q a b) b = chk (p ∧ q) a b:=by
 by_cases h : p
 ·rw [chk_pos h]
  exact chk_congr ⟨fun x=>⟨h,x⟩,fun x=>x.2⟩ _ _
 ·rw [chk_neg h,chk_neg (fun x=>h x.1)]
theorem Ev.up {σ β : Type} (g : Nat → σ → Int → Option β) (R : σ → Int → β) (I : σ → Int → Prop) (n : Int)
  (hend : ∀ s,I s n → Ev (fun k=>g k s n) (R s n))
  (hstep : ∀ s i,I s i → i < n → (∀ s',I s' (i + 1) → Ev (fun k=>g k s' (i + 1)) (R s' (i + 1))) → Ev (fun k=>g k s i) (R s i)) :
  ∀ s i,I s i → i ≤ n → Ev (fun k=>g k s i) (R s i):=by
 have main : ∀ (d : Nat) s i,I s i → i + d = n → Ev (fun k=>g k s i) (R s i):=by
  intro d
  induction d with
  | zero =>
   (intro s i hI hd;obtain rfl : i = n:=by omega);exact hend s hI
  | succ d ih=>intro s i hI hd;exact hstep s i hI (by omega) (fun s' hI'=>ih s' (i + 1) hI' (by omega))
 intro s i hI hi;exact main (n - i).toNat s i hI (by omega)
theorem Ev.check {β : Type} (g : Nat → Int → Option β) (n : Int) (P : Int → Prop) (r0 r1 : β) (i0 : Int)
  (hend : Ev (fun k=>g k n) r0)
  (hstep : ∀ i,i0 ≤ i → i < n → ∀ r,Ev (fun k=>g k (i + 1)) r → Ev (fun k=>g k i) (chk (P i) r r1)) :
  ∀ i,i0 ≤ i → i ≤ n → Ev (fun k=>g k i) (chk (All P i n) r0 r1):=by
 intro i h0 hi;refine Ev.up (fun k (_ : Unit) i=>g k i) (fun _ i=>chk (All P i n) r0 r1) (fun _ i=>i0 ≤ i) n (fun _ _=>?_) (fun _ i h0 hlt ih=>?_) () i h0 hi
 ·rw [chk_pos (All.end_ P n)];exact hend
 ·have:=hstep i h0 hlt _ (ih () (by omega))
  rw [chk_and,chk_congr (All.step hlt).symm] at this;exact this
theorem Ev.upc {β : Type} (g : Nat → Int → Option β) (r : β) (n i0 : Int) (hend : Ev (fun k=>g k n) r) (hstep : ∀ i,i0 ≤ i → i < n → Ev (fun k=>g k (i + 1)) r → Ev (fun k=>g k i) r) :
  ∀ i,i0 ≤ i → i ≤ n → Ev (fun k=>g k i) r:=by
 intro i h0 hi;exact Ev.up (fun k (_ : Unit) i=>g k i) (fun _ _=>r) (fun _ i=>i0 ≤ i) n (fun _ _=>hend) (fun _ i h0 hlt ih=>hstep i h0 hlt (ih () (by omega))) () i h0 hi

theorem impl_within_eq (a b c : Int) : impl_within.f a b c = some (decide (b ≤ a ∧ a ≤ c)):=by
 unfold impl_within.f;split
 ·rename_i h;congr 1;simp;omega
 ·rename_i h;congr 1;simp;omega
theorem spec_l1In_eq (a b c : Int) : spec_l1In.f a b c = some (decide (b ≤ a ∧ a ≤ c)):=by
 unfold spec_l1In.f;split
 ·rename_i h;congr 1;simp;omega
 ·rename_i h;congr 1;simp;omega
theorem spec_most_eq (a b : Int) : spec_l1Most.f a b = some (mx a b):=by
 unfold spec_l1Most.f mx;split <;> split <;> first|rfl|(congr 1;omega)
end Go.Proofs.Ytbpccdbkaiigcaa.G

namespace Go.Proofs.Ytbpccdbkaiigcaa.G
open Go.RowKit Go.Proofs.YtbpccdbkaiigcaaW.PrintWords Go.Proofs.YtbpccdbkaiigcaaW.PrintLast Go.Proofs.YtbpccdbkaiigcaaW.PrintMore
attribute [local go_sem] max2_int min2_int max_two min_two max_three min_three max_four min_four   -- for this text's walks alone

def spec_IsValidFloor.f (k:Nat) (a0_0:Int) (a0_1:Int) (l0_2:List (S48)):Option (Bool):=(spec_l16Good.f k a0_0 a0_1 l0_2).bind fun t0=>(some t0)
end Go.Proofs.Ytbpccdbkaiigcaa.G

namespace Go.Proofs.Ytbpccdbkaiigcaa.G
open Go.RowKit Go.Proofs.YtbpccdbkaiigcaaW.PrintWords Go.Proofs.YtbpccdbkaiigcaaW.PrintLast
def In (w h : Int) (c : S48) : Prop:=(0 ≤ c.f0 ∧ c.f0 ≤ w - 1) ∧ (0 ≤ c.f1 ∧ c.f1 ≤ h - 1)
def Bef (a b : S48) : Prop:=a.f1 < b.f1 ∨ a.f1 = b.f1 ∧ a.f0 < b.f0
def okB (w h : Int) (bl : List S48) (i : Int) : Prop:=In w h (rd_T48 bl i) ∧ (0 < i → Bef (rd_T48 bl (i - 1)) (rd_T48 bl i))
def FloorOk (w h : Int) (bl : List S48) : Prop:=(1 ≤ w ∧ w ≤ 6) ∧ (1 ≤ h ∧ h ≤ 6) ∧ All (okB w h bl) 0 (bl.length : Int)
theorem impl_on (w h : Int) (bl : List S48) (c : S48) (hw : 1 ≤ w ∧ w ≤ 6) (hh : 1 ≤ h ∧ h ≤ 6) : impl_onFloor.f w h bl c.f0 c.f1 = some (chk (In w h c) true false):=by
 unfold impl_onFloor.f;simp (disch:=omega) only [impl_within_eq,Option.bind_some,wrap64_id,decide_eq_true_eq];split
 ·rename_i h1
  congr 1;by_cases h2 : 0 ≤ c.f1 ∧ c.f1 ≤ h - 1
  ·rw [chk_pos ⟨h1,h2⟩];exact decide_eq_true h2
  ·rw [chk_neg (fun m : In w h c=>h2 m.2)];exact decide_eq_false h2
 ·rename_i h1
  rw [chk_neg (fun m : In w h c=>h1 m.1)]
theorem spec_in (w h : Int) (bl : List S48) (c : S48) (hw : 1 ≤ w ∧ w ≤ 6) (hh : 1 ≤ h ∧ h ≤ 6) : spec_l16Inside.f w h bl c.f0 c.f1 = some (chk (In w h c) true false):=by
 unfold spec_l16Inside.f;simp (disch:=omega) only [spec_l1In_eq,Option.bind_some,wrap64_id,decide_eq_true_eq];split
 ·rename_i h1
  congr 1;by_cases h2 : 0 ≤ c.f1 ∧ c.f1 ≤ h - 1
  ·rw [chk_pos ⟨h1,h2⟩];exact decide_eq_true h2
  ·rw [chk_neg (fun m : In w h c=>h2 m.2)];exact decide_eq_false h2
 ·rename_i h1
  rw [chk_neg (fun m : In w h c=>h1 m.1)]
theorem impl_bef (a b : S48) : impl_before.f a.f0 a.f1 b.f0 b.f1 = some (chk (Bef a b) true false):=by
 unfold impl_before.f;split
 ·rename_i h;rw [chk_pos (show Bef a b from .inl h)]
 ·rename_i h
  split
  ·rename_i h2
   congr 1;by_cases h3 : a.f0 < b.f0
   ·rw [chk_pos (show Bef a b from .inr ⟨h2,h3⟩)];exact decide_eq_true h3
   ·rw [chk_neg (fun m : Bef a b=>m.elim h (fun x=>h3 x.2))];exact decide_eq_false h3
  ·rename_i h2
   rw [chk_neg (fun m : Bef a b=>m.elim h (fun x=>h2 x.1))]
theorem impl_floor (w h : Int) (bl : List S48) (hb : (bl.length : Int) ≤ 1099511627776) : Ev (fun k=>impl_IsValidFloor.f k w h bl) (chk (FloorOk w h bl) true false):=by
 have no : ¬ FloorOk w h bl → Ev (fun k=>impl_IsValidFloor.j0 k true w h bl) (chk (FloorOk w h bl) true false):=by
  intro n;rw [chk_neg n];refine Ev.step (fun k=>by rw [impl_IsValidFloor.j0]) ?_;simp only [if_true];exact Ev.now _
 unfold impl_IsValidFloor.f;simp only [impl_within_eq,Option.bind_some,decide_eq_true_eq];refine Ev.ite (fun h1=>?_) (fun h1=>no (fun m=>h1 m.1));by_cases h2 : 1 ≤ h ∧ h ≤ 6
 ·rw [decide_eq_true h2]
  refine Ev.step (fun k=>by rw [impl_IsValidFloor.j0]) ?_;simp only [Bool.not_true,Bool.false_eq_true,if_false];rw [chk_congr (show FloorOk w h bl ↔ All (okB w h bl) 0 (bl.length : Int) from ⟨fun m=>m.2.2,fun m=>⟨h1,h2,m⟩⟩)];refine Ev.check (fun k i=>impl_IsValidFloor.l0 k bl (bl.length : Int) i w h bl) (bl.length : Int) (okB w h bl) true false 0 ?_ ?_ 0 (by omega) (by omega)
  ·refine Ev.step (fun k=>by rw [impl_IsValidFloor.l0]) ?_
   simp only [Int.lt_irrefl,if_false];exact Ev.now _
  ·intro i h0 hlt r hr
   refine Ev.step (fun k=>by rw [impl_IsValidFloor.l0]) ?_;simp (disch:=omega) only [if_pos,wrap64_id,impl_on w h bl _ h1 h2,impl_bef,Option.bind_some];refine Ev.ite (fun g1=>?_) (fun g1=>?_)
   ·have g1:=chk_true.1 g1
    refine Ev.ite (fun g2=>?_) (fun g2=>?_)
    ·try simp (disch:=omega) only [if_pos]
     refine Ev.ite (fun g3=>?_) (fun g3=>?_)
     ·rw [chk_pos ⟨g1,fun _=>chk_true.1 g3⟩];exact hr
     ·rw [chk_neg (fun m : okB w h bl i=>g3 (chk_true.2 (m.2 g2)))];exact Ev.now _
    ·rw [chk_pos ⟨g1,fun x=>absurd x g2⟩];exact hr
   ·rw [chk_neg (fun m : okB w h bl i=>g1 (chk_true.2 m.1))];exact Ev.now _
 ·rw [decide_eq_false h2]
  exact no (fun m=>h2 m.2.1)
def okS (w h : Int) (bl : List S48) (i : Int) : Prop:=In w h (rd_T48 bl i) ∧ (0 < i → wrap64 (wrap64 ((rd_T48 bl (i - 1)).f1 * 10) + (rd_T48 bl (i - 1)).f0) < wrap64 (wrap64 ((rd_T48 bl i).f1 * 10) + (rd_T48 bl i).f0))
theorem okS_iff (w h : Int) (bl : List S48) (h1 : 1 ≤ w ∧ w ≤ 6) (h2 : 1 ≤ h ∧ h ≤ 6) : All (okS w h bl) 0 (bl.length : Int) ↔ All (okB w h bl) 0 (bl.length : Int):=by
 have key : ∀ a b : S48,In w h a → In w h b → (wrap64 (wrap64 (a.f1 * 10) + a.f0) < wrap64 (wrap64 (b.f1 * 10) + b.f0) ↔ Bef a b):=by
  intro a b ha hb;unfold In at ha hb;rw [wrap64_id (x:=a.f1 * 10) (by omega) (by omega),wrap64_id (x:=b.f1 * 10) (by omega) (by omega),wrap64_id (by omega) (by omega),wrap64_id (by omega) (by omega)];unfold Bef;omega
 constructor
 ·intro a i i0 i1
  refine ⟨(a i i0 i1).1,fun hp=>?_⟩;exact (key _ _ (a (i - 1) (by omega) (by omega)).1 (a i i0 i1).1).1 ((a i i0 i1).2 hp)
 ·intro a i i0 i1
  refine ⟨(a i i0 i1).1,fun hp=>?_⟩;exact (key _ _ (a (i - 1) (by omega) (by omega)).1 (a i i0 i1).1).2 ((a i i0 i1).2 hp)
theorem spec_floor (w h : Int) (bl : List S48) (hb : (bl.length : Int) ≤ 1099511627776) : Ev (fun k=>spec_l16Good.f k w h bl) (chk (FloorOk w h bl) true false):=by
 have no : ¬ FloorOk w h bl → Ev (fun k=>spec_l16Good.j0 k true w h bl) (chk (FloorOk w h bl) true false):=by
  intro n;rw [chk_neg n];refine Ev.step (fun k=>by rw [spec_l16Good.j0]) ?_;simp only [if_true];exact Ev.now _
 unfold spec_l16Good.f;simp only [spec_l1In_eq,Option.bind_some,decide_eq_true_eq];refine Ev.ite (fun h1=>?_) (fun h1=>no (fun m=>h1 m.1));by_cases h2 : 1 ≤ h ∧ h ≤ 6
 ·rw [decide_eq_true h2]
  refine Ev.step (fun k=>by rw [spec_l16Good.j0]) ?_;simp only [Bool.not_true,Bool.false_eq_true,if_false];rw [chk_congr (show FloorOk w h bl ↔ All (okS w h bl) 0 (bl.length : Int) from ⟨fun m=>(okS_iff w h bl h1 h2).2 m.2.2,fun m=>⟨h1,h2,(okS_iff w h bl h1 h2).1 m⟩⟩)];refine Ev.check (fun k i=>spec_l16Good.l0 k i w h bl) (bl.length : Int) (okS w h bl) true false 0 ?_ ?_ 0 (by omega) (by omega)
  ·refine Ev.step (fun k=>by rw [spec_l16Good.l0]) ?_
   simp only [Int.lt_irrefl,if_false];exact Ev.now _
  ·intro i h0 hlt r hr
   have e1 : wrap64 (i - 1) = i - 1:=wrap64_id (by omega) (by omega);have e2 : wrap64 (i + 1) = i + 1:=wrap64_id (by omega) (by omega);refine Ev.step (fun k=>by rw [spec_l16Good.l0]) ?_;simp (disch:=omega) only [if_pos,e1,e2,spec_in w h bl _ h1 h2,Option.bind_some];refine Ev.ite (fun g1=>?_) (fun g1=>?_)
   ·have g1:=chk_true.1 g1
    refine Ev.ite (fun g2=>?_) (fun g2=>?_)
    ·try simp (disch:=omega) only [if_pos]
     refine Ev.ite (fun g3=>?_) (fun g3=>?_)
     ·rw [chk_neg (fun m : okS w h bl i=>by have:=m.2 g2;omega)];exact Ev.now _
     ·rw [chk_pos ⟨g1,fun _=>by omega⟩];exact hr
    ·rw [chk_pos ⟨g1,fun x=>absurd x g2⟩];exact hr
   ·rw [chk_neg (fun m : okS w h bl i=>g1 (chk_true.2 m.1))];exact Ev.now _
 ·rw [decide_eq_false h2]
  exact no (fun m=>h2 m.2.1)
end Go.Proofs.Ytbpccdbkaiigcaa.G

namespace Go.Proofs.Ytbpccdbkaiigcaa.G
open Go.RowKit Go.Proofs.YtbpccdbkaiigcaaW.PrintWords Go.Proofs.YtbpccdbkaiigcaaW.PrintLast Go.Proofs.YtbpccdbkaiigcaaW.PrintMore
attribute [local go_sem] max2_int min2_int max_two min_two max_three min_three max_four min_four   -- for this text's walks alone

def spec_IsValidPath.f (k:Nat) (a0_0:Int) (a0_1:Int) (l0_2:List (S48)) (l1:List (S48)):Option (Bool):=(spec_l16Good.f k a0_0 a0_1 l0_2).bind fun t0=>(if t0 = true then ((spec_l16Path.f k a0_0 a0_1 l0_2 l1).bind fun t1=>(some t1)) else (some false))
end Go.Proofs.Ytbpccdbkaiigcaa.G

namespace Go.Proofs.Ytbpccdbkaiigcaa.G
open Go.RowKit Go.Proofs.YtbpccdbkaiigcaaW.PrintWords Go.Proofs.YtbpccdbkaiigcaaW.PrintLast
def eqc (a b : S48) : Prop:=a.f0 = b.f0 ∧ a.f1 = b.f1
def HasC (l : List S48) (c : S48) : Prop := ¬ All (fun j => ¬ eqc (rd_T48 l j) c) 0 (l.length : Int)
def Free (w h : Int) (bl : List S48) (c : S48) : Prop:=In w h c ∧ ¬ HasC bl c
theorem eqc_bool (a b : S48) : (a.f0 == b.f0 && (a.f1 == b.f1)) = true ↔ eqc a b:=by
 unfold eqc;simp
theorem spec_blocked (w h : Int) (bl : List S48) (c : S48) (hb : (bl.length : Int) ≤ 1099511627776) : Ev (fun k=>spec_l16Blocked.f k w h bl c.f0 c.f1) (chk (HasC bl c) true false):=by
 unfold spec_l16Blocked.f
 have h:=Ev.check (fun k i=>spec_l16Blocked.l0 k i w h bl c.f0 c.f1) (bl.length : Int) (fun j => ¬ eqc (rd_T48 bl j) c) false true 0 (by
  refine Ev.step (fun k=>by rw [spec_l16Blocked.l0]) ?_;simp only [Int.lt_irrefl,if_false]
  exact Ev.now _) (by
  intro i h0 hlt r hr;refine Ev.step (fun k=>by rw [spec_l16Blocked.l0]) ?_;simp (disch:=omega) only [if_pos,wrap64_id];refine Ev.ite (fun g=>?_) (fun g=>?_)
  ·rw [chk_neg (fun m=>m ((eqc_bool _ _).1 g))];exact Ev.now _
  ·rw [chk_pos (fun m=>g ((eqc_bool _ _).2 m))];exact hr) 0 (by omega) (by omega)
 refine Ev.eq h ?_;by_cases ha : All (fun j => ¬ eqc (rd_T48 bl j) c) 0 (bl.length : Int)
 ·rw [chk_pos ha,chk_neg (fun m : HasC bl c=>m ha)]
 ·rw [chk_neg ha,chk_pos (show HasC bl c from ha)]
theorem impl_contains (bl : List S48) (c : S48) (hb : (bl.length : Int) ≤ 1099511627776) : Ev (fun k=>impl_Cell_84.f k bl c.f0 c.f1) (chk (HasC bl c) true false):=by
 unfold impl_Cell_84.f impl_Cell_97.f
 have main : ∀ (d : Nat) (i : Int),0 ≤ i → i + d = (bl.length : Int) → ∃ v,Ev (fun k=>impl_Cell_97.l0 k bl (bl.length : Int) i c.f0 c.f1) v ∧ (v ≥ 0 ↔ ¬ All (fun j => ¬ eqc (rd_T48 bl j) c) i (bl.length : Int)):=by
  intro d
  induction d with
  | zero =>
   intro i h0 hd;refine ⟨-1,?_,?_⟩
   ·refine Ev.step (fun k=>by rw [impl_Cell_97.l0]) ?_
    simp (disch:=omega) only [if_neg];exact Ev.now _
   ·constructor
    ·intro h;omega
    ·intro h;exact absurd (fun j h1 h2=>by omega) h
  | succ d ih =>
   intro i h0 hd;by_cases e : (c.f0 == (rd_T48 bl i).f0 && (c.f1 == (rd_T48 bl i).f1)) = true
   ·refine ⟨i,?_,?_⟩
    ·refine Ev.step (fun k=>by rw [impl_Cell_97.l0]) ?_
     simp (disch:=omega) only [if_pos];exact Ev.now _
    ·refine ⟨fun _ a=>a i (by omega) (by omega) ?_,fun _=>h0⟩
     have:=(eqc_bool _ _).1 e;exact ⟨this.1.symm,this.2.symm⟩
   ·obtain ⟨v,hv,hi⟩:=ih (i + 1) (by omega) (by omega)
    refine ⟨v,?_,?_⟩
    ·refine Ev.step (fun k=>by rw [impl_Cell_97.l0]) ?_
     simp (disch:=omega) only [if_pos,wrap64_id];simp only [if_neg e];exact hv
    ·rw [hi,All.step (show i < (bl.length : Int) by omega)]
     exact ⟨fun h a=>h a.2,fun h a=>h ⟨fun e2=>e ((eqc_bool _ _).2 ⟨e2.1.symm,e2.2.symm⟩),a⟩⟩
 obtain ⟨v,hv,hi⟩:=main bl.length 0 (by omega) (by omega);refine Ev.bind hv ?_;refine Ev.val ?_;by_cases hh : HasC bl c
 ·rw [chk_pos hh];exact decide_eq_true (hi.2 hh)
 ·rw [chk_neg hh];exact decide_eq_false (fun h=>hh (hi.1 h))
theorem impl_free (w h : Int) (bl : List S48) (c : S48) (hw : 1 ≤ w ∧ w ≤ 6) (hh : 1 ≤ h ∧ h ≤ 6) (hb : (bl.length : Int) ≤ 1099511627776) : Ev (fun k=>impl_isFree.f k w h bl c.f0 c.f1) (chk (Free w h bl c) true false):=by
 unfold impl_isFree.f;rw [impl_on w h bl c hw hh];simp only [Option.bind_some];refine Ev.ite (fun g=>?_) (fun g=>?_)
 ·refine Ev.bind (impl_contains bl c hb) ?_
  refine Ev.val ?_;by_cases hc : HasC bl c
  ·rw [chk_pos hc,chk_neg (fun m : Free w h bl c=>m.2 hc)];rfl
  ·rw [chk_neg hc,chk_pos (show Free w h bl c from ⟨chk_true.1 g,hc⟩)];rfl
 ·rw [chk_neg (fun m : Free w h bl c=>g (chk_true.2 m.1))];exact Ev.now _
theorem spec_free (w h : Int) (bl : List S48) (c : S48) (hw : 1 ≤ w ∧ w ≤ 6) (hh : 1 ≤ h ∧ h ≤ 6) (hb : (bl.length : Int) ≤ 1099511627776) : Ev (fun k=>spec_l16Free.f k w h bl c.f0 c.f1) (chk (Free w h bl c) true false):=by
 unfold spec_l16Free.f;rw [spec_in w h bl c hw hh];simp only [Option.bind_some];refine Ev.ite (fun g=>?_) (fun g=>?_)
 ·refine Ev.bind (spec_blocked w h bl c hb) ?_
  refine Ev.val ?_;by_cases hc : HasC bl c
  ·rw [chk_pos hc,chk_neg (fun m : Free w h bl c=>m.2 hc)];rfl
  ·rw [chk_neg hc,chk_pos (show Free w h bl c from ⟨chk_true.1 g,hc⟩)];rfl
 ·rw [chk_neg (fun m : Free w h bl c=>g (chk_true.2 m.1))];exact Ev.now _
def Near (a b : S48) : Prop:=mx (a.f0 - b.f0) (b.f0 - a.f0) + mx (a.f1 - b.f1) (b.f1 - a.f1) ≤ 1
theorem mx_cases (a b : Int) : mx a b = a ∨ mx a b = b:=by unfold mx;split <;> omega
theorem near_imp (a b : S48) (ha : (0 ≤ a.f0 ∧ a.f0 ≤ 5) ∧ (0 ≤ a.f1 ∧ a.f1 ≤ 5)) (hb : (0 ≤ b.f0 ∧ b.f0 ≤ 5) ∧ (0 ≤ b.f1 ∧ b.f1 ≤ 5)) : impl_besides.f a.f0 a.f1 b.f0 b.f1 = some (chk (Near a b) true false):=by
 have c1:=mx_cases (a.f0 - b.f0) (b.f0 - a.f0);have c2:=mx_cases (a.f1 - b.f1) (b.f1 - a.f1);unfold impl_besides.f impl_size.f;simp (disch:=omega) only [wrap64_id,Option.bind_some];rw [show -(a.f0 - b.f0) = b.f0 - a.f0 from by omega,show -(a.f1 - b.f1) = b.f1 - a.f1 from by omega];rw [wrap64_id (by omega) (by omega)];by_cases hn : Near a b
 ·rw [chk_pos hn];congr 1;have hn':=hn;unfold Near at hn';exact decide_eq_true hn'
 ·rw [chk_neg hn];congr 1;have hn':=hn;unfold Near at hn';exact decide_eq_false hn'
theorem near_spec (a b : S48) (ha : (0 ≤ a.f0 ∧ a.f0 ≤ 5) ∧ (0 ≤ a.f1 ∧ a.f1 ≤ 5)) (hb : (0 ≤ b.f0 ∧ b.f0 ≤ 5) ∧ (0 ≤ b.f1 ∧ b.f1 ≤ 5)) : spec_l16Near.f a.f0 a.f1 b.f0 b.f1 = some (chk (Near a b) true false):=by
 have c1:=mx_cases (a.f0 - b.f0) (b.f0 - a.f0);have c2:=mx_cases (a.f1 - b.f1) (b.f1 - a.f1);unfold spec_l16Near.f;simp (disch:=omega) only [wrap64_id,spec_most_eq,Option.bind_some];by_cases hn : Near a b
 ·rw [chk_pos hn];congr 1;have hn':=hn;unfold Near at hn';exact decide_eq_true hn'
 ·rw [chk_neg hn];congr 1;have hn':=hn;unfold Near at hn';exact decide_eq_false hn'
theorem check_all {P : Int → Prop} (r0 : Bool) (g : Nat → Int → Option Bool) (n : Int) (hend : Ev (fun k=>g k n) r0) (hstep : ∀ i,0 ≤ i → i < n → All P 0 i → (P i → Ev (fun k=>g k (i + 1)) (chk (All P (i + 1) n) r0 false)) → Ev (fun k=>g k i) (chk (All P i n) r0 false)) : ∀ (d : Nat) (i : Int),0 ≤ i → i + d = n → All P 0 i → Ev (fun k=>g k i) (chk (All P i n) r0 false):=by
 intro d
 induction d with
 | zero =>
  (intro i h0 hd ha;obtain rfl : i = n:=by omega);rw [chk_pos (All.end_ P i)];exact hend
 | succ d ih =>
  intro i h0 hd ha;refine hstep i h0 (by omega) ha (fun hp=>ih (i + 1) (by omega) (by omega) (fun j a b=>?_));by_cases e : j = i
  ·rw [e];exact hp
  ·exact ha j a (by omega)
def stepOk (w h : Int) (bl p : List S48) (i : Int) : Prop:=Free w h bl (rd_T48 p i) ∧ (0 < i → Near (rd_T48 p (i - 1)) (rd_T48 p i))
def PathOk (w h : Int) (bl p : List S48) : Prop:=FloorOk w h bl ∧ (1 ≤ (p.length : Int) ∧ (p.length : Int) ≤ 25) ∧ All (stepOk w h bl p) 0 (p.length : Int)
theorem step_in {w h : Int} {bl p : List S48} (hw : 1 ≤ w ∧ w ≤ 6) (hh : 1 ≤ h ∧ h ≤ 6) {i : Int} (m : Free w h bl (rd_T48 p i)) : (0 ≤ (rd_T48 p i).f0 ∧ (rd_T48 p i).f0 ≤ 5) ∧ (0 ≤ (rd_T48 p i).f1 ∧ (rd_T48 p i).f1 ≤ 5):=by
 have:=m.1;unfold In at this;omega
theorem impl_path (w h : Int) (bl : List S48) (hb : (bl.length : Int) ≤ 1099511627776) (p : List S48) : Ev (fun k=>impl_IsValidPath.f k w h bl p) (chk (PathOk w h bl p) true false):=by
 have no : ¬ PathOk w h bl p → Ev (fun k=>impl_IsValidPath.j0 k p true w h bl) (chk (PathOk w h bl p) true false):=by
  intro hn;rw [chk_neg hn];refine Ev.step (fun k=>by rw [impl_IsValidPath.j0]) ?_;simp only [if_true];exact Ev.now _
 unfold impl_IsValidPath.f;refine Ev.bind (impl_floor w h bl hb) ?_;refine Ev.ite (fun hf=>?_) (fun hf=>no (fun m=>hf (chk_true.2 m.1)));have hf:=chk_true.1 hf;have hw:=hf.1;have hh:=hf.2.1;simp only [impl_within_eq,Option.bind_some];by_cases hl : 1 ≤ (p.length : Int) ∧ (p.length : Int) ≤ 25
 ·rw [decide_eq_true hl]
  refine Ev.step (fun k=>by rw [impl_IsValidPath.j0]) ?_;simp only [Bool.not_true,Bool.false_eq_true,if_false];rw [chk_congr (show PathOk w h bl p ↔ All (stepOk w h bl p) 0 (p.length : Int) from ⟨fun m=>m.2.2,fun m=>⟨hf,hl,m⟩⟩)];refine check_all true (fun k i=>impl_IsValidPath.l0 k p p (p.length : Int) i w h bl) (p.length : Int) ?_ ?_ p.length 0 (by omega) (by omega) (fun j a b=>by omega)
  ·refine Ev.step (fun k=>by rw [impl_IsValidPath.l0]) ?_
   simp only [Int.lt_irrefl,if_false];exact Ev.now _
  ·intro i h0 hlt ha nx
   refine Ev.step (fun k=>by rw [impl_IsValidPath.l0]) ?_;simp (disch:=omega) only [if_pos];refine Ev.bind (impl_free w h bl (rd_T48 p i) hw hh hb) ?_;refine Ev.ite (fun g=>?_) (fun g=>?_)
   ·have g:=chk_true.1 g
    rw [wrap64_id (x:=i + 1) (by omega) (by omega),chk_congr (All.step hlt)];refine Ev.ite (fun g1=>?_) (fun g1=>?_)
    ·simp (disch:=omega) only [if_pos,wrap64_id]
     rw [near_imp _ _ (step_in hw hh (ha (i - 1) (by omega) (by omega)).1) (step_in hw hh g)];simp only [Option.bind_some];refine Ev.ite (fun g2=>?_) (fun g2=>?_)
     ·have ok : stepOk w h bl p i:=⟨g,fun _=>chk_true.1 g2⟩
      rw [chk_congr (show stepOk w h bl p i ∧ All (stepOk w h bl p) (i + 1) (p.length : Int) ↔ All (stepOk w h bl p) (i + 1) (p.length : Int) from ⟨fun m=>m.2,fun m=>⟨ok,m⟩⟩)];exact nx ok
     ·rw [chk_neg (fun m=>g2 (chk_true.2 (m.1.2 (by omega))))];exact Ev.now _
    ·have ok : stepOk w h bl p i:=⟨g,fun h=>absurd h (by omega)⟩
     rw [chk_congr (show stepOk w h bl p i ∧ All (stepOk w h bl p) (i + 1) (p.length : Int) ↔ All (stepOk w h bl p) (i + 1) (p.length : Int) from ⟨fun m=>m.2,fun m=>⟨ok,m⟩⟩)];exact nx ok
   ·rw [chk_neg (fun m=>g (chk_true.2 (m i (by omega) hlt).1))];exact Ev.now _
 ·rw [decide_eq_false hl]
  exact no (fun m=>hl m.2.1)
theorem spec_path {w h : Int} {bl : List S48} (hf : FloorOk w h bl) (hb : (bl.length : Int) ≤ 1099511627776) (p : List S48) (hp : (p.length : Int) ≤ 1099511627776) : Ev (fun k=>spec_l16Path.f k w h bl p) (chk (PathOk w h bl p) true false):=by
 have hw:=hf.1;have hh:=hf.2.1;unfold spec_l16Path.f
 have main:=check_all (P:=stepOk w h bl p) (decide (1 ≤ (p.length : Int) ∧ (p.length : Int) ≤ 25)) (fun k i=>spec_l16Path.l0 k p i w h bl) (p.length : Int) (by
   refine Ev.step (fun k=>by rw [spec_l16Path.l0]) ?_;simp only [Int.lt_irrefl,if_false,spec_l1In_eq,Option.bind_some]
   exact Ev.now _) (by
   intro i h0 hlt ha nx;refine Ev.step (fun k=>by rw [spec_l16Path.l0]) ?_;simp (disch:=omega) only [if_pos];refine Ev.bind (spec_free w h bl (rd_T48 p i) hw hh hb) ?_;refine Ev.ite (fun g=>?_) (fun g=>?_)
   ·have g:=chk_true.1 g
    rw [wrap64_id (x:=i + 1) (by omega) (by omega),chk_congr (All.step hlt)];refine Ev.ite (fun g1=>?_) (fun g1=>?_)
    ·simp (disch:=omega) only [if_pos,wrap64_id]
     rw [near_spec _ _ (step_in hw hh (ha (i - 1) (by omega) (by omega)).1) (step_in hw hh g)];simp only [Option.bind_some];refine Ev.ite (fun g2=>?_) (fun g2=>?_)
     ·have ok : stepOk w h bl p i:=⟨g,fun _=>chk_true.1 g2⟩
      rw [chk_congr (show stepOk w h bl p i ∧ All (stepOk w h bl p) (i + 1) (p.length : Int) ↔ All (stepOk w h bl p) (i + 1) (p.length : Int) from ⟨fun m=>m.2,fun m=>⟨ok,m⟩⟩)];exact nx ok
     ·rw [chk_neg (fun m=>g2 (chk_true.2 (m.1.2 (by omega))))];exact Ev.now _
    ·have ok : stepOk w h bl p i:=⟨g,fun h=>absurd h (by omega)⟩
     rw [chk_congr (show stepOk w h bl p i ∧ All (stepOk w h bl p) (i + 1) (p.length : Int) ↔ All (stepOk w h bl p) (i + 1) (p.length : Int) from ⟨fun m=>m.2,fun m=>⟨ok,m⟩⟩)];exact nx ok
   ·rw [chk_neg (fun m=>g (chk_true.2 (m i (by omega) hlt).1))];exact Ev.now _) p.length 0 (by omega) (by omega) (fun j a b=>by omega)
 refine Ev.eq main ?_;by_cases hal : All (stepOk w h bl p) 0 (p.length : Int)
 ·rw [chk_pos hal]
  by_cases hl : 1 ≤ (p.length : Int) ∧ (p.length : Int) ≤ 25
  ·rw [decide_eq_true hl,chk_pos (show PathOk w h bl p from ⟨hf,hl,hal⟩)]
  ·rw [decide_eq_false hl,chk_neg (fun m : PathOk w h bl p=>hl m.2.1)]
 ·rw [chk_neg hal,chk_neg (fun m : PathOk w h bl p=>hal m.2.2)]
end Go.Proofs.Ytbpccdbkaiigcaa.G

/- Maps from cells to whole numbers and to bools, told as functions. -/
namespace Go.Proofs.Ytbpccdbkaiigcaa.G
open Go.RowKit Go.Maps Go.Proofs.YtbpccdbkaiigcaaW.PrintWords Go.Proofs.YtbpccdbkaiigcaaW.PrintLast
theorem laidOutP : laidOutB Try.prog = true:=by kernel_rfl
theorem keyed48 : Keyed Try.prog 48:=Keyed.of_law (deep_law_laid laidOutP (m:=2) (by omega) (of_decide_eq_true (by kernel_rfl)) (by kernel_rfl) (by rw [Try.underlying48]))
def kl (c : S48) : Lit := .string (keyBytes [.int .i64 c.f0,.int .i64 c.f1])
def W64 (c : S48) : Prop:=(Lit.int .i64 c.f0).wf = true ∧ (Lit.int .i64 c.f1).wf = true
def cv (c : S48) : Value := .agg #[.int .i64 c.f0,.int .i64 c.f1]
theorem cells48 : Try.prog.cellsOf 48 = 2:=by kernel_rfl
theorem cells3 : Try.prog.cellsOf 3 = 1:=by kernel_rfl
theorem keyT48 : Try.prog.keyType 48 = true:=by kernel_rfl
theorem formed48 {a b : Value} : (Value.agg #[a,b]).formed Try.prog 48 = true:=by simp [Value.formed,Try.underlying48,cells48]
theorem sizes48 : ∃ n,Try.prog.types.size = n + 1:=⟨Try.prog.types.size - 1,by kernel_rfl⟩
theorem lits48 {c : S48} (h : W64 c) (n : Nat) : Try.prog.keyLits (n + 2) 48 [.int .i64 c.f0,.int .i64 c.f1] = some [.int .i64 c.f0,.int .i64 c.f1]:=by
 simp [Program.keyLits,Try.underlying48,Try.underlying3,cells48,cells3,h.1,h.2]
theorem keyOf_struct {P : Program} {k : TypeId} {v : Value} {fs : Array Field} (hu : P.underlying k = some (.struct fs)) (hk : P.keyType k = true) (hf : v.formed P k = true) (cs : List Value) (hc : v.cells.toList = cs) (n : Nat) (hn : P.types.size = n + 1) (ls : List Lit) (hl : P.keyLits (n + 2) k cs = some ls) : keyOf P k v = some (.string (keyBytes ls)):=by
 unfold keyOf;rw [hu];simp only [hk,hf,Bool.and_self,if_true];rw [hn,hc,hl];rfl
theorem key48 {c : S48} (h : W64 c) : keyOf Try.prog 48 (cv c) = some (kl c):=by
 obtain ⟨n,hn⟩:=sizes48;exact keyOf_struct Try.underlying48 keyT48 formed48 _ rfl n hn _ (lits48 h n)
theorem kl_inj {c d : S48} (hc : W64 c) (hd : W64 d) (h : kl c = kl d) : c = d:=by
 (have h1:=key48 hc;rw [h] at h1;have this : cv c = cv d:=Keyed.inj keyed48 h1 (key48 hd);have h2 : (cv c).cells.toList = (cv d).cells.toList:=by rw [this]);have h3 : [Value.int .i64 c.f0,Value.int .i64 c.f1] = [Value.int .i64 d.f0,Value.int .i64 d.f1]:=h2;injection h3 with e1 e2;injection e2 with e2 _;injection e1 with _ e1;injection e2 with _ e2;cases c;cases d;subst e1;subst e2;rfl
theorem isKey_kl {c : S48} (h : W64 c) : WideAt.IsKeyLit (kl c):=keyed48.key (key48 h)
abbrev Mp:=S48 → Option Int
theorem zero4 (w : World) : (zeroValue 4).run Try.prog w = .ok (.bool false) w:=by kernel_rfl
def MapI (w : World) (b n : Nat) (m : Mp) : Prop := ∃ D : DataW Unit,w.ownsMap Try.prog 48 (plainElem Try.prog 3) b n D ∧ ∀ c,W64 c → Maps.has D (kl c) = (m c).isSome ∧ D.atKey (kl c) (.lit (.int .i64 0)) = .lit (.int .i64 ((m c).getD 0))
theorem MapI.lt {w : World} {b n : Nat} {m : Mp} (h : MapI w b n m) : b < w.heap.size:=by obtain ⟨D,h,_⟩:=h;exact h.lt
theorem MapI.step {w w1 : World} {b n : Nat} {m : Mp} (h : MapI w b n m) (hm : w1.heap[b]? = w.heap[b]?) : MapI w1 b n m:=by
 obtain ⟨D,⟨es,clock,hb,r⟩,h⟩:=h;exact ⟨D,⟨es,clock,hm.trans hb,r⟩,h⟩
theorem MapI.below {w w1 : World} {b n : Nat} {m : Mp} (h : MapI w b n m) (hb : Below w.heap.size w w1) : MapI w1 b n m:=h.step (hb.block b h.lt)
theorem MapI.grown {w w1 : World} {b n : Nat} {m : Mp} {row : Option Nat} (h : MapI w b n m) (hg : w.grownBy w1 row) (hne : some b ≠ row) : MapI w1 b n m:=h.step (hg.block b h.lt hne)
theorem MapI.cells {w : World} {b n : Nat} {m : Mp} (h : MapI w b n m) {g : Nat} {cs : Array Value} {t : TypeId} {p : Nat × Nat} (hg : w.heap[g]? = some (.cells cs t p)) : b ≠ g:=by
 rintro rfl;obtain ⟨D,⟨es,clock,hb,r⟩,h⟩:=h;rw [hg] at hb;cases hb
section
variable {ops : Array Oper} {rest : List Oper} {o : Oper} {a : Act} {Q : Exit → Act → World → Prop} {w : World} {b n : Nat} {m : Mp} {c : S48}
end
end Go.Proofs.Ytbpccdbkaiigcaa.G

/- The search by breadth, as a pure function, and what the walks hold of the world while they search. -/
namespace Go.Proofs.Ytbpccdbkaiigcaa.G
open Go.RowKit Go.Proofs.YtbpccdbkaiigcaaW.PrintWords Go.Proofs.YtbpccdbkaiigcaaW.PrintLast Go.Proofs.YtbpccdbkaiigcaaW.PrintMore
theorem drop48 (ds : List S48) (x : Int) (h0 : 0 ≤ x) (h1 : x < (ds.length : Int)) : ds.drop x.toNat = rd_T48 ds x :: ds.drop (x + 1).toNat:=by
 unfold rd_T48;rw [List.getD_eq_getElem?_getD,List.getElem?_eq_getElem (by omega),show (x + 1).toNat = x.toNat + 1 from by omega];exact List.drop_eq_getElem_cons (by omega)
theorem mem48 (ds : List S48) (x : Int) (h0 : 0 ≤ x) (h1 : x < (ds.length : Int)) : rd_T48 ds x ∈ ds:=by
 unfold rd_T48;rw [List.getD_eq_getElem?_getD,List.getElem?_eq_getElem (by omega)];exact List.getElem_mem _
structure SF (w0 w : World) (fc : Array Value) (g2 b n : Nat) (m : Mp) (v6 : Value) (l : List S48) (vn : Value) (ds : List S48) : Prop where
 fl : w.heap[g2]? = some (.cells fc 29 (0,0))
 mp : MapI w b n m
 mb : w0.heap.size ≤ b
 gb : w0.heap.size ≤ g2
 ln : Kd.Q k48 48 w w0.heap.size (fun k=>k ≠ b ∧ k ≠ g2) v6 l
 nb : Kd.R k48 48 w w0.heap.size (fun k=>(k ≠ b ∧ k ≠ g2) ∧ some k ≠ v6.ownBlock) vn ds
 bl : Below w0.heap.size w0 w
theorem SF.below {w0 w w1 : World} {fc : Array Value} {g2 b n : Nat} {m : Mp} {v6 vn : Value} {l ds : List S48} (h : SF w0 w fc g2 b n m v6 l vn ds) (hb : Below w.heap.size w w1) : SF w0 w1 fc g2 b n m v6 l vn ds :=
 ⟨blk_below h.fl hb,h.mp.below hb,h.mb,h.gb,Kd.Q_below h.ln hb,Kd.R_below h.nb hb,below_step h.bl hb⟩
theorem SF.put {w0 w w1 : World} {fc : Array Value} {g2 b n n' : Nat} {m m' : Mp} {v6 vn : Value} {l ds : List S48} (h : SF w0 w fc g2 b n m v6 l vn ds) (hm : MapI w1 b n' m') (hg : w.grownBy w1 (some b)) : SF w0 w1 fc g2 b n' m' v6 l vn ds :=
 ⟨(hg.block g2 (blk_lt h.fl) (fun e=>h.mp.cells h.fl (Option.some.inj e).symm)).trans h.fl,hm,h.mb,h.gb,Kd.Q_grown h.ln hg (fun k hk e=>hk.1 (Option.some.inj e)),Kd.R_grown h.nb hg (fun k hk e=>hk.1.1 (Option.some.inj e)),h.bl.grown hg h.bl.size (fun k hk=>by cases hk;exact h.mb)⟩
end Go.Proofs.Ytbpccdbkaiigcaa.G

namespace Go.Proofs.Ytbpccdbkaiigcaa.G
open Go.RowKit Go.Proofs.YtbpccdbkaiigcaaW.PrintWords Go.Proofs.YtbpccdbkaiigcaaW.PrintLast Go.Proofs.YtbpccdbkaiigcaaW.PrintMore
attribute [local go_sem] max2_int min2_int max_two min_two max_three min_three max_four min_four   -- for this text's walks alone

def impl_around.l0:Nat → List (S48) → List (S48) → Int → Int → Int → Int → List (S48) → Int → Int → Option ((List (S48)))
 | 0,_,_,_,_,_,_,_,_,_=>none
 | k + 1,x5,x15,x16,x17,x0,x1,x2,x3,x4=>if x17 < x16 then (if 0 ≤ x17 then (if x17 < (x15.length:Int) then ((impl_isFree.f k x0 x1 x2 (wrap64 (x3 + ((rd_T48 x15 x17).f0))) (wrap64 (x4 + ((rd_T48 x15 x17).f1)))).bind fun t5=>(if t5 = true then (if x5.length < 8796093022208 then (impl_around.l0 k (x5 ++ [(⟨wrap64 (x3 + ((rd_T48 x15 x17).f0)),wrap64 (x4 + ((rd_T48 x15 x17).f1))⟩ : S48)]) x15 x16 (wrap64 (x17 + 1)) x0 x1 x2 x3 x4) else (none)) else (impl_around.l0 k x5 x15 x16 (wrap64 (x17 + 1)) x0 x1 x2 x3 x4))) else (none)) else (none)) else (some x5)
def impl_around.f (k:Nat) (a0_0:Int) (a0_1:Int) (l0_2:List (S48)) (a1_0:Int) (a1_1:Int):Option ((List (S48))):=(some (([(⟨0,(-1)⟩ : S48),(⟨(-1),0⟩ : S48),(⟨0,0⟩ : S48),(⟨1,0⟩ : S48),(⟨0,1⟩ : S48)]:List (S48)):List (S48))).bind fun y0=>(impl_around.l0 k (([]:List (S48))) y0 (y0.length:Int) 0 a0_0 a0_1 l0_2 a1_0 a1_1)
theorem impl_around.calls (k:Nat) (a0_0:Int) (a0_1:Int) (A0_2:Option Addr) (c0_2:Nat) (l0_2:List (S48)) (a1_0:Int) (a1_1:Int) (r:List (S48)) (w:World) (hr0_2:Kd.C k48 w A0_2 l0_2.length l0_2) (hc0_2:l0_2.length ≤ c0_2) (h:impl_around.f k a0_0 a0_1 l0_2 a1_0 a1_1 = some r) :
  Calls Try.prog 70 #[.agg #[.int .i64 a0_0,.int .i64 a0_1,.slice A0_2 l0_2.length c0_2],.agg #[.int .i64 a1_0,.int .i64 a1_1]] w fun e w' => ∃ v0_:Value,e = .returned (v0_) ∧ Kd.R k48 48 w' w.heap.size (fun _=>True) v0_ r ∧ Below w.heap.size w w':=by
 (have hu29:=Try.underlying29;have hu48:=Try.underlying48;have HR0_2:=zM hr0_2;have HC0_2:=zM hc0_2;clear hr0_2 hc0_2;have HB:=zM (Below.refl w.heap.size w);have H:((some (([(⟨0,(-1)⟩ : S48),(⟨(-1),0⟩ : S48),(⟨0,0⟩ : S48),(⟨1,0⟩ : S48),(⟨0,1⟩ : S48)]:List (S48)):List (S48))).bind fun y0=>(impl_around.l0 k (([]:List (S48))) y0 (y0.length:Int) 0 a0_0 a0_1 l0_2 a1_0 a1_1)) = some r:=h;clear h;obtain ⟨y1,hy1⟩ : ∃ y_:List (S48),y_ = (([]:List (S48))):=⟨_,rfl⟩;replace H:((some (([(⟨0,(-1)⟩ : S48),(⟨(-1),0⟩ : S48),(⟨0,0⟩ : S48),(⟨1,0⟩ : S48),(⟨0,1⟩ : S48)]:List (S48)):List (S48))).bind fun y0=>(impl_around.l0 k y1 y0 (y0.length:Int) 0 a0_0 a0_1 l0_2 a1_0 a1_1)) = some r:=by first|(rw [hy1];with_reducible exact H)|(have H2_:=(Option.bind_some _ _).symm.trans H;rw [hy1];with_reducible exact H2_)|(have H2_:=(Option.bind_some _ _).symm.trans H;with_reducible exact H2_)|with_reducible exact H|(rw [hy1];exact H)|exact H);have Ny1:=zM hy1;clear hy1;obtain ⟨y0,hy0⟩ : ∃ y_:List (S48),y_ = (([(⟨0,(-1)⟩ : S48),(⟨(-1),0⟩ : S48),(⟨0,0⟩ : S48),(⟨1,0⟩ : S48),(⟨0,1⟩ : S48)]:List (S48))):=⟨_,rfl⟩;replace H:(impl_around.l0 k y1 y0 (y0.length:Int) 0 a0_0 a0_1 l0_2 a1_0 a1_1) = some r:=by first|(rw [hy0];with_reducible exact H)|(have H2_:=(Option.bind_some _ _).symm.trans H;rw [hy0];with_reducible exact H2_)|(have H2_:=(Option.bind_some _ _).symm.trans H;with_reducible exact H2_)|with_reducible exact H|(rw [hy0];exact H)|exact H
 have Ny0:=zM hy0;clear hy0;have H':=zM H;clear H;go_enter Try.func70,Try.ntmps70;go_wp2_with (first|((with_reducible refine gate_dst (N:=2) rfl ?_);refine zzc 2 #[.int .i64 a0_0,.int .i64 a0_1,.slice A0_2 l0_2.length c0_2] 29 ?_;intro gb2 hg w3 hbox hb;have BK2:= zM (hbox);have GW2:= zM ((zq117:w.heap.size ≤ gb2));have GE2:= zM ((zq117:w.heap.size ≤ gb2));replace HB:= zM (zQ zzh hb);clear hb hbox hg)|((with_reducible refine gate_dst (N:=3) rfl ?_);refine zzc 3 #[.int .i64 a1_0,.int .i64 a1_1] 48 ?_;intro gb3 hg w4 hbox hb;have BK3:= zM (hbox);have GW3:= zM ((zq117:w.heap.size ≤ gb3));have GE3:= zM ((zq117:w.heap.size ≤ gb3));replace HB:= zM (zQ zzh hb);have NB2_3:= zM ((zzm hg (zzi BK2):gb2 ≠ gb3));have NB3_2:= zM ((zzM hg (zzi BK2):gb3 ≠ gb2));replace BK2:= zM (blk_below (zzi BK2) hb);clear hb hbox hg)|((with_reducible refine gate_dst (N:=9) rfl ?_);refine Kd.R_lit k48 _ 48 ?hg (N:=9) ?hd (xs:=([]:List (S48))) (inner:=[]) (ok:=fun _=>True) (okp:=fun _=>True) ?hr ?hp (fun _ hk=>hk) trivial (Below.refl _ _) (Nat.le_refl _) (by simp) ?_;(case hd=>rfl);(case hg=>rfl);(case hr=>first|(go_simp;done)|(go_simp;rfl));(case hp=>exact (Reps.none _ _));intro v4 w5 ho6 hb hg_ hnew_;clear hg_ hnew_;(first|rw [← Ny1.out] at ho6|(simp only [Int.reduceToNat] at ho6;rw [← Ny1.out] at ho6));have HO5:= zM (Kd.R_lower (Kd.R_newB ho6 (g:=gb3) (o := .cells #[.int .i64 a1_0,.int .i64 a1_1] 48 (0,0)) (zzi BK3)) (zR zzh));replace BK2:= zM (blk_below (zzi BK2) hb);replace BK3:= zM (blk_below (zzi BK3) hb);replace HB:= zM (zQ zzh hb);clear hb ho6)|((with_reducible refine gate_dst (N:=15) rfl ?_);refine Kd.R_lit k48 _ 48 ?hg (N:=15) ?hd (xs:=([(⟨0,(-1)⟩ : S48),(⟨(-1),0⟩ : S48),(⟨0,0⟩ : S48),(⟨1,0⟩ : S48),(⟨0,1⟩ : S48)]:List (S48))) (inner:=[.int .i64 0,.int .i64 (-1),.int .i64 (-1),.int .i64 0,.int .i64 0,.int .i64 0,.int .i64 1,.int .i64 0,.int .i64 0,.int .i64 1]) (ok:=fun _=>True) (okp:=fun _=>True) ?hr ?hp (fun _ hk=>hk) trivial (Below.refl _ _) (Nat.le_refl _) (by simp) ?_;(case hd=>rfl);(case hg=>rfl);(case hr=>first|(go_simp;done)|(go_simp;rfl));(case hp=>exact (Reps.c2 (show Kd.M k48 _ _ _ (⟨0,(-1)⟩ : S48) [.int .i64 0,.int .i64 (-1)] from (k48_mkM _ _ _ (⟨0,(-1)⟩ : S48) )) (Reps.c2 (show Kd.M k48 _ _ _ (⟨(-1),0⟩ : S48) [.int .i64 (-1),.int .i64 0] from (k48_mkM _ _ _ (⟨(-1),0⟩ : S48) )) (Reps.c2 (show Kd.M k48 _ _ _ (⟨0,0⟩ : S48) [.int .i64 0,.int .i64 0] from (k48_mkM _ _ _ (⟨0,0⟩ : S48) )) (Reps.c2 (show Kd.M k48 _ _ _ (⟨1,0⟩ : S48) [.int .i64 1,.int .i64 0] from (k48_mkM _ _ _ (⟨1,0⟩ : S48) )) (Reps.c2 (show Kd.M k48 _ _ _ (⟨0,1⟩ : S48) [.int .i64 0,.int .i64 1] from (k48_mkM _ _ _ (⟨0,1⟩ : S48) )) (Reps.none _ _)))))));intro v6 w7 ho8 hb hg_ hnew_;clear hg_ hnew_;(first|rw [← Ny0.out] at ho8|(simp only [Int.reduceToNat] at ho8;rw [← Ny0.out] at ho8));have HO7:= zM (Kd.R_lower (Kd.R_newB (Kd.R_new' ho8 (Kd.R_lt (zzl HO5))) (g:=gb3) (o := .cells #[.int .i64 a1_0,.int .i64 a1_1] 48 (0,0)) (zzi BK3)) (zR zzh));replace HO5:= zM (Kd.R_elder' (zzl HO5) (Kd.R_base ho8) hb);replace BK2:= zM (blk_below (zzi BK2) hb);replace BK3:= zM (blk_below (zzi BK3) hb);replace HB:= zM (zQ zzh hb);clear hb ho8;obtain ⟨Ao9,co9,eo9⟩:=Kd.R_slice HO7.out;subst eo9))
 go_loopg [5,17] k (fun kq v5 v17 w' => ∃ (x5_1:List (S48)) (x17_1:Int),v17 = .int .i64 x17_1 ∧ Aside0 (impl_around.l0 kq x5_1 y0 (y0.length:Int) x17_1 a0_0 a0_1 l0_2 a1_0 a1_1 = some r) ∧ Aside0 (kq ≤ k) ∧ Aside0 (Kd.R k48 48 w' w.heap.size (fun k_=>some k_ ≠ ((.slice Ao9 y0.length co9):Value).ownBlock ∧ k_ ≠ gb3) v5 x5_1) ∧ Aside0 (Kd.R k48 48 w' w.heap.size (fun k_=>some k_ ≠ (v5:Value).ownBlock ∧ k_ ≠ gb3) (.slice Ao9 y0.length co9) y0) ∧ Aside0 (w'.heap[gb2]? = some (.cells #[.int .i64 a0_0,.int .i64 a0_1,(.slice A0_2 l0_2.length c0_2)] 29 (0,0))) ∧ Aside0 (w'.heap[gb3]? = some (.cells #[.int .i64 a1_0,.int .i64 a1_1] 48 (0,0))) ∧ Aside0 (Below w.heap.size w w'))
 case atStart=>exact ⟨(y1),(0),zq112,H',⟨Nat.le_refl _⟩,⟨zq95⟩,⟨by (with_reducible repeat (first|apply zA|apply zB|apply zC));exact Kd.R_mono HO7.out (fun _ hk=>⟨hk.1.2,hk.2⟩)⟩,⟨zzi BK2⟩,⟨zzi BK3⟩,⟨zzh⟩⟩
 case round =>
  clear H';(try clear c2);(try clear p2);(try clear c7);obtain ⟨x5_1,x17_1,rfl,HA,HK1,HO_5,HO_15,BK2,BK3,HB⟩:=hrel;cases gk with
  | zero=>exact absurd HA.out (by simp [impl_around.l0])
  | succ k1 =>
   have H:=HA.out;clear HA;simp only [impl_around.l0] at H;by_cases c10:x17_1 < (y0.length:Int)
   ·rw [if_pos c10] at H
    have c10b0:decide (x17_1 < (y0.length:Int)) = true:=decide_eq_true c10;clear c10;by_cases c11:0 ≤ x17_1
    ·rw [if_pos c11] at H
     have c11b0:decide (0 ≤ x17_1) = true:=decide_eq_true c11;clear c11;by_cases c12:x17_1 < (y0.length:Int)
     ·rw [if_pos c12] at H
      have c12b0:decide (x17_1 < (y0.length:Int)) = true:=decide_eq_true c12;clear c12;replace H:=Option.bind_eq_some_iff.mp H;obtain ⟨t8,A9,H⟩:=H;replace H:(if t8 = true then (if x5_1.length < 8796093022208 then (impl_around.l0 k1 (x5_1 ++ [(⟨wrap64 (a1_0 + ((rd_T48 y0 x17_1).f0)),wrap64 (a1_1 + ((rd_T48 y0 x17_1).f1))⟩ : S48)]) y0 (y0.length:Int) (wrap64 (x17_1 + 1)) a0_0 a0_1 l0_2 a1_0 a1_1) else (none)) else (impl_around.l0 k1 x5_1 y0 (y0.length:Int) (wrap64 (x17_1 + 1)) a0_0 a0_1 l0_2 a1_0 a1_1)) = some r:=H;have A13:=zM A9;clear A9;by_cases c14:t8 = true
      ·subst c14
       (have H1:(if x5_1.length < 8796093022208 then (impl_around.l0 k1 (x5_1 ++ [(⟨wrap64 (a1_0 + ((rd_T48 y0 x17_1).f0)),wrap64 (a1_1 + ((rd_T48 y0 x17_1).f1))⟩ : S48)]) y0 (y0.length:Int) (wrap64 (x17_1 + 1)) a0_0 a0_1 l0_2 a1_0 a1_1) else (none)) = some r:=by rw [if_pos rfl] at H;exact H);clear H;have H:=H1;clear H1;by_cases c15:x5_1.length < 8796093022208
       ·rw [if_pos c15] at H
        (have LMc15:=zM c15;clear c15;obtain ⟨y10,hy10⟩ : ∃ y_:List (S48),y_ = (x5_1 ++ [(⟨wrap64 (a1_0 + ((rd_T48 y0 x17_1).f0)),wrap64 (a1_1 + ((rd_T48 y0 x17_1).f1))⟩ : S48)]):=⟨_,rfl⟩;replace H:(impl_around.l0 k1 y10 y0 (y0.length:Int) (wrap64 (x17_1 + 1)) a0_0 a0_1 l0_2 a1_0 a1_1) = some r:=by first|(rw [hy10];with_reducible exact H)|(have H2_:=(Option.bind_some _ _).symm.trans H;rw [hy10];with_reducible exact H2_)|(have H2_:=(Option.bind_some _ _).symm.trans H;with_reducible exact H2_)|with_reducible exact H|(rw [hy10];exact H)|exact H);have Ny10:=zM hy10;clear hy10;have H':=zM H;clear H;have p11:0 ≤ (x17_1:Int):=zzd;have q11:x17_1 < (y0.length:Int):=zzd;obtain ⟨ad11,e11,hx11_0,hx11_1⟩:=at_T48 (zN HO_15.out).2.2 x17_1 p11 q11;cases e11;replace p11:=eq_true p11;replace q11:=eq_true q11;go_wp2_with (first|((with_reducible refine gate_dst (N:=7) rfl ?_);refine zzc 7 #[.int .i64 0,.int .i64 0] 48 ?_;intro gb12 hg w16 hbox hb;replace HO_5:= zM (zP (Kd.R_elderB (zzl HO_5) gb12 (Nat.le_of_eq hg.symm)) hb);replace HO_15:= zM (zP (Kd.R_elderB (zzl HO_15) gb12 (Nat.le_of_eq hg.symm)) hb);have BK12:= zM (hbox);have GW12:= zM ((zq117:w.heap.size ≤ gb12));have GE12:= zM ((zq117:w.heap.size ≤ gb12));replace HB:= zM (zQ zzh hb);have NB2_12:= zM ((zzm hg (zzi BK2):gb2 ≠ gb12));have NB12_2:= zM ((zzM hg (zzi BK2):gb12 ≠ gb2));replace BK2:= zM (blk_below (zzi BK2) hb);have NB3_12:= zM ((zzm hg (zzi BK3):gb3 ≠ gb12));have NB12_3:= zM ((zzM hg (zzi BK3):gb12 ≠ gb3));replace BK3:= zM (blk_below (zzi BK3) hb);clear hb hbox hg;have hnb17:=NB12_2.out;have hnc17:=NB2_12.out;have hnb18:=NB12_3.out;have hnc18:=NB3_12.out;have hcz19_0:=zz0 BK12;have hcz19_1:=zz1 BK12;have hfz19_0:=blk_frozen BK12.out 0;have hfz19_1:=blk_frozen BK12.out 1;have hnb20:=NB3_2.out;have hnc20:=NB2_3.out;have hcz21_0:=zz0 BK3;have hcz21_1:=zz1 BK3;have hfz21_0:=blk_frozen BK3.out 0;have hfz21_1:=blk_frozen BK3.out 1)|((with_reducible refine gate_dst (N:=8) rfl ?_);refine zzc 8 #[.int .i64 0,.int .i64 0] 48 ?_;intro gb13 hg w22 hbox hb;replace HO_5:= zM (zP (Kd.R_elderB zq35 gb13 (Nat.le_of_eq hg.symm)) hb);replace HO_15:= zM (zP (Kd.R_elderB zq34 gb13 (Nat.le_of_eq hg.symm)) hb);have BK13:= zM (hbox);have GW13:= zM ((zq117:w.heap.size ≤ gb13));have GE13:= zM ((zq117:w.heap.size ≤ gb13));replace HB:= zM (zQ zzh hb);have NB2_13:= zM ((zq7:gb2 ≠ gb13));have NB13_2:= zM ((zq8:gb13 ≠ gb2));replace BK2:= zM (blk_below (g:=gb2) (o := .cells #[.int .i64 a0_0,.int .i64 a0_1,.slice A0_2 l0_2.length c0_2] 29 (0,0)) zq39 hb);have NB3_13:= zM ((zq12:gb3 ≠ gb13));have NB13_3:= zM ((zq13:gb13 ≠ gb3));replace BK3:= zM (blk_below (g:=gb3) (o := .cells #[.int .i64 a1_0,.int .i64 a1_1] 48 (0,0)) zq40 hb);have NB12_13:= zM ((zq4:gb12 ≠ gb13));have NB13_12:= zM ((zq5:gb13 ≠ gb12));replace BK12:= zM (blk_below (g:=gb12) (o := .cells #[.int .i64 ((rd_T48 y0 x17_1).f0),.int .i64 ((rd_T48 y0 x17_1).f1)] 48 (0,0)) zq17 hb);clear hb hbox hg;have hnb23:=NB13_2.out;have hnc23:=NB2_13.out;have hnb24:=NB13_3.out;have hnc24:=NB3_13.out;have hnb25:=NB13_12.out;have hnc25:=NB12_13.out;have hcz26_0:=zz0 BK13;have hcz26_1:=zz1 BK13;have hfz26_0:=blk_frozen BK13.out 0;have hfz26_1:=blk_frozen BK13.out 1;have hcz27_0:=zz0 BK2;have hcz27_1:=zz1 BK2;have hcz27_2:=zz2 BK2;have hfz27_0:=blk_frozen BK2.out 0;have hfz27_1:=blk_frozen BK2.out 1;have hfz27_2:=blk_frozen BK2.out 2)|((with_reducible refine gate_callee (f:=58) rfl ?_);refine goesL_ (some 34) rfl rfl Try.func58 (by kernel_rfl) rfl #[.agg #[.int .i64 a0_0,.int .i64 a0_1,.slice A0_2 l0_2.length c0_2],.agg #[.int .i64 (wrap64 (a1_0 + ((rd_T48 y0 x17_1).f0))),.int .i64 (wrap64 (a1_1 + ((rd_T48 y0 x17_1).f1)))]] rfl zq94 ?_;(with_reducible refine (impl_isFree.calls k1 a0_0 a0_1 _ _ l0_2 (wrap64 (a1_0 + ((rd_T48 y0 x17_1).f0))) (wrap64 (a1_1 + ((rd_T48 y0 x17_1).f1))) true _ ?side1 ?side2 A13.out).mono ?_);(case side1=>exact zO HR0_2.out zzh);(case side2=>exact HC0_2.out);rintro e w28 ⟨rfl,hb⟩;refine ⟨_,rfl,?_⟩;replace HO_5:= zM (zP zq21 hb);replace HO_15:= zM (zP zq20 hb);replace BK2:= zM (blk_below (g:=gb2) (o := .cells #[.int .i64 a0_0,.int .i64 a0_1,.slice A0_2 l0_2.length c0_2] 29 (0,0)) zq41 hb);replace BK3:= zM (blk_below (g:=gb3) (o := .cells #[.int .i64 a1_0,.int .i64 a1_1] 48 (0,0)) zq42 hb);replace BK12:= zM (blk_below (g:=gb12) (o := .cells #[.int .i64 ((rd_T48 y0 x17_1).f0),.int .i64 ((rd_T48 y0 x17_1).f1)] 48 (0,0)) zq36 hb);replace BK13:= zM (blk_below (g:=gb13) (o := .cells #[.int .i64 (wrap64 (a1_0 + ((rd_T48 y0 x17_1).f0))),.int .i64 (wrap64 (a1_1 + ((rd_T48 y0 x17_1).f1)))] 48 (0,0)) zq14 hb);replace HB:= zM (zQ zzh hb);(try clear hb);(try clear hb2);(try clear hk);(try clear hi);have hcz29_0:=zz0 BK13;have hcz29_1:=zz1 BK13;have hfz29_0:=blk_frozen BK13.out 0;have hfz29_1:=blk_frozen BK13.out 1)|((with_reducible refine gate_builtin (b := .append) (xs := #[.tmp 35,.tmp 37]) rfl ?_);at_builtin;refine Kd.R_append k48 (w0:=w) w.heap.size rfl (.tmp 35) (.tmp 37) 27 48 (.agg #[(.int .i64 0),(.int .i64 0)]) 16 rfl Try.underlying27 info48 rfl (by decide) (by omega) u5 x5_1 (⟨wrap64 (a1_0 + ((rd_T48 y0 x17_1).f0)),wrap64 (a1_1 + ((rd_T48 y0 x17_1).f1))⟩ : S48) [.int .i64 (wrap64 (a1_0 + ((rd_T48 y0 x17_1).f0))),.int .i64 (wrap64 (a1_1 + ((rd_T48 y0 x17_1).f1)))] (fun k_=>some k_ ≠ (.slice (some ad11) y0.length co9:Value).ownBlock ∧ k_ ≠ gb3 ∧ k_ ≠ gb12 ∧ k_ ≠ gb13) (fun _=>False) rfl rfl ?aP (fun _ hk=>hk.elim) ?aF ?aO ?aB ?aS ?aL ?_;(case aP=>exact k48_mkM _ _ _ (⟨wrap64 (a1_0 + ((rd_T48 y0 x17_1).f0)),wrap64 (a1_1 + ((rd_T48 y0 x17_1).f1))⟩ : S48));(case aB=>exact zzh);(case aF=>exact (fun k_ hk=>⟨Kd.fresh' (Kd.R_lt (zzl HO_15)) k_ hk,Kd.freshB (g:=gb3) (o := .cells #[.int .i64 a1_0,.int .i64 a1_1] 48 (0,0)) (zzi BK3) k_ hk,Kd.freshB (g:=gb12) (o := .cells #[.int .i64 ((rd_T48 y0 x17_1).f0),.int .i64 ((rd_T48 y0 x17_1).f1)] 48 (0,0)) (zzi BK12) k_ hk,Kd.freshB (g:=gb13) (o := .cells #[.int .i64 (wrap64 (a1_0 + ((rd_T48 y0 x17_1).f0))),.int .i64 (wrap64 (a1_1 + ((rd_T48 y0 x17_1).f1)))] 48 (0,0)) (zzi BK13) k_ hk⟩));(case aO=>exact (by (with_reducible repeat (first|apply zA|apply zB|apply zC));exact Kd.R_mono HO_5.out (fun _ hk=>⟨hk.1.1.1,⟨hk.1.1.2,⟨hk.1.2,hk.2⟩⟩⟩)));(case aS=>exact (zR zzh));(case aL=>have:=LMc15.out;omega);intro v14 w30 ho hb hg hat;rw [← Ny10.out] at ho;replace HO_15:= zM (Kd.R_after (ok:=(fun k_=>k_ ≠ gb3 ∧ k_ ≠ gb12 ∧ k_ ≠ gb13)) (by (with_reducible repeat (first|apply zA|apply zB|apply zC));exact Kd.R_mono HO_15.out (fun _ hk=>⟨⟨hk.1.1.2,⟨hk.1.2,hk.2⟩⟩,hk.1.1.1⟩)) hg hat);replace BK2:= zM (blk_grown (g:=gb2) (o := .cells #[.int .i64 a0_0,.int .i64 a0_1,.slice A0_2 l0_2.length c0_2] 29 (0,0)) (zzi BK2) hg (Kd.R_ne HO_5.out BK2.out (by decide)));replace BK3:= zM (blk_grown (g:=gb3) (o := .cells #[.int .i64 a1_0,.int .i64 a1_1] 48 (0,0)) (zzi BK3) hg (Kd.R_away HO_5.out (fun _ hk=>hk.1.1.2)));replace BK12:= zM (blk_grown (g:=gb12) (o := .cells #[.int .i64 ((rd_T48 y0 x17_1).f0),.int .i64 ((rd_T48 y0 x17_1).f1)] 48 (0,0)) (zzi BK12) hg (Kd.R_away HO_5.out (fun _ hk=>hk.1.2)));replace BK13:= zM (blk_grown (g:=gb13) (o := .cells #[.int .i64 (wrap64 (a1_0 + ((rd_T48 y0 x17_1).f0))),.int .i64 (wrap64 (a1_1 + ((rd_T48 y0 x17_1).f1)))] 48 (0,0)) (zzi BK13) hg (Kd.R_away HO_5.out (fun _ hk=>hk.2)));replace HB:= zM (hb);have HO15:= zM (ho);clear HO_5;clear ho hb hg hat))
        go_roundg k1
        case measure=>have:=HK1.out;omega
        case rel=>exact ⟨(y10),(wrap64 (x17_1 + 1)),zq112,H',⟨zq121⟩,⟨by (with_reducible repeat (first|apply zA|apply zB|apply zC));exact Kd.R_mono HO15.out (fun _ hk=>⟨hk.1,hk.2.1⟩)⟩,⟨by (with_reducible repeat (first|apply zA|apply zB|apply zC));exact Kd.R_mono HO_15.out (fun _ hk=>⟨hk.2,hk.1.1⟩)⟩,⟨zzi BK2⟩,⟨zzi BK3⟩,⟨zzh⟩⟩
       ·rw [if_neg c15] at H
        exact absurd H (by simp)
      ·replace c14:=Bool.eq_false_iff.mpr c14
       subst c14;have H1:(impl_around.l0 k1 x5_1 y0 (y0.length:Int) (wrap64 (x17_1 + 1)) a0_0 a0_1 l0_2 a1_0 a1_1) = some r:=by rw [if_neg (show ¬ (false = true) by decide)] at H;exact H
       clear H;have H:=H1;clear H1;have H':=zM H;clear H;have p11:0 ≤ (x17_1:Int):=zzd;have q11:x17_1 < (y0.length:Int):=zzd;obtain ⟨ad11,e11,hx11_0,hx11_1⟩:=at_T48 (zN HO_15.out).2.2 x17_1 p11 q11;cases e11;replace p11:=eq_true p11;replace q11:=eq_true q11;go_wp2_with (first|((with_reducible refine gate_dst (N:=7) rfl ?_);refine zzc 7 #[.int .i64 0,.int .i64 0] 48 ?_;intro gb12 hg w31 hbox hb;replace HO_5:= zM (zP (Kd.R_elderB (zzl HO_5) gb12 (Nat.le_of_eq hg.symm)) hb);replace HO_15:= zM (zP (Kd.R_elderB (zzl HO_15) gb12 (Nat.le_of_eq hg.symm)) hb);have BK12:= zM (hbox);have GW12:= zM ((zq117:w.heap.size ≤ gb12));have GE12:= zM ((zq117:w.heap.size ≤ gb12));replace HB:= zM (zQ zzh hb);have NB2_12:= zM ((zzm hg (zzi BK2):gb2 ≠ gb12));have NB12_2:= zM ((zzM hg (zzi BK2):gb12 ≠ gb2));replace BK2:= zM (blk_below (zzi BK2) hb);have NB3_12:= zM ((zzm hg (zzi BK3):gb3 ≠ gb12));have NB12_3:= zM ((zzM hg (zzi BK3):gb12 ≠ gb3));replace BK3:= zM (blk_below (zzi BK3) hb);clear hb hbox hg;have hnb32:=NB12_2.out;have hnc32:=NB2_12.out;have hnb33:=NB12_3.out;have hnc33:=NB3_12.out;have hcz34_0:=zz0 BK12;have hcz34_1:=zz1 BK12;have hfz34_0:=blk_frozen BK12.out 0;have hfz34_1:=blk_frozen BK12.out 1;have hnb35:=NB3_2.out;have hnc35:=NB2_3.out;have hcz36_0:=zz0 BK3;have hcz36_1:=zz1 BK3;have hfz36_0:=blk_frozen BK3.out 0;have hfz36_1:=blk_frozen BK3.out 1)|((with_reducible refine gate_dst (N:=8) rfl ?_);refine zzc 8 #[.int .i64 0,.int .i64 0] 48 ?_;intro gb13 hg w37 hbox hb;replace HO_5:= zM (zP (Kd.R_elderB zq35 gb13 (Nat.le_of_eq hg.symm)) hb);replace HO_15:= zM (zP (Kd.R_elderB zq34 gb13 (Nat.le_of_eq hg.symm)) hb);have BK13:= zM (hbox);have GW13:= zM ((zq117:w.heap.size ≤ gb13));have GE13:= zM ((zq117:w.heap.size ≤ gb13));replace HB:= zM (zQ zzh hb);have NB2_13:= zM ((zq7:gb2 ≠ gb13));have NB13_2:= zM ((zq8:gb13 ≠ gb2));replace BK2:= zM (blk_below (g:=gb2) (o := .cells #[.int .i64 a0_0,.int .i64 a0_1,.slice A0_2 l0_2.length c0_2] 29 (0,0)) zq39 hb);have NB3_13:= zM ((zq12:gb3 ≠ gb13));have NB13_3:= zM ((zq13:gb13 ≠ gb3));replace BK3:= zM (blk_below (g:=gb3) (o := .cells #[.int .i64 a1_0,.int .i64 a1_1] 48 (0,0)) zq40 hb);have NB12_13:= zM ((zq4:gb12 ≠ gb13));have NB13_12:= zM ((zq5:gb13 ≠ gb12));replace BK12:= zM (blk_below (g:=gb12) (o := .cells #[.int .i64 ((rd_T48 y0 x17_1).f0),.int .i64 ((rd_T48 y0 x17_1).f1)] 48 (0,0)) zq17 hb);clear hb hbox hg;have hnb38:=NB13_2.out;have hnc38:=NB2_13.out;have hnb39:=NB13_3.out;have hnc39:=NB3_13.out;have hnb40:=NB13_12.out;have hnc40:=NB12_13.out;have hcz41_0:=zz0 BK13;have hcz41_1:=zz1 BK13;have hfz41_0:=blk_frozen BK13.out 0;have hfz41_1:=blk_frozen BK13.out 1;have hcz42_0:=zz0 BK2;have hcz42_1:=zz1 BK2;have hcz42_2:=zz2 BK2;have hfz42_0:=blk_frozen BK2.out 0;have hfz42_1:=blk_frozen BK2.out 1;have hfz42_2:=blk_frozen BK2.out 2)|((with_reducible refine gate_callee (f:=58) rfl ?_);refine goesL_ (some 34) rfl rfl Try.func58 (by kernel_rfl) rfl #[.agg #[.int .i64 a0_0,.int .i64 a0_1,.slice A0_2 l0_2.length c0_2],.agg #[.int .i64 (wrap64 (a1_0 + ((rd_T48 y0 x17_1).f0))),.int .i64 (wrap64 (a1_1 + ((rd_T48 y0 x17_1).f1)))]] rfl zq94 ?_;(with_reducible refine (impl_isFree.calls k1 a0_0 a0_1 _ _ l0_2 (wrap64 (a1_0 + ((rd_T48 y0 x17_1).f0))) (wrap64 (a1_1 + ((rd_T48 y0 x17_1).f1))) false _ ?side1 ?side2 A13.out).mono ?_);(case side1=>exact zO HR0_2.out zzh);(case side2=>exact HC0_2.out);rintro e w43 ⟨rfl,hb⟩;refine ⟨_,rfl,?_⟩;replace HO_5:= zM (zP zq21 hb);replace HO_15:= zM (zP zq20 hb);replace BK2:= zM (blk_below (g:=gb2) (o := .cells #[.int .i64 a0_0,.int .i64 a0_1,.slice A0_2 l0_2.length c0_2] 29 (0,0)) zq41 hb);replace BK3:= zM (blk_below (g:=gb3) (o := .cells #[.int .i64 a1_0,.int .i64 a1_1] 48 (0,0)) zq42 hb);replace BK12:= zM (blk_below (g:=gb12) (o := .cells #[.int .i64 ((rd_T48 y0 x17_1).f0),.int .i64 ((rd_T48 y0 x17_1).f1)] 48 (0,0)) zq36 hb);replace BK13:= zM (blk_below (g:=gb13) (o := .cells #[.int .i64 (wrap64 (a1_0 + ((rd_T48 y0 x17_1).f0))),.int .i64 (wrap64 (a1_1 + ((rd_T48 y0 x17_1).f1)))] 48 (0,0)) zq14 hb);replace HB:= zM (zQ zzh hb);(try clear hb);(try clear hb2);(try clear hk);(try clear hi)))
       go_roundg k1
       case measure=>have:=HK1.out;omega
       case rel=>exact ⟨(x5_1),(wrap64 (x17_1 + 1)),zq112,H',⟨zq121⟩,⟨by (with_reducible repeat (first|apply zA|apply zB|apply zC));exact Kd.R_mono HO_5.out (fun _ hk=>⟨hk.1.1.1,hk.1.1.2⟩)⟩,⟨by (with_reducible repeat (first|apply zA|apply zB|apply zC));exact Kd.R_mono HO_15.out (fun _ hk=>⟨hk.1.1.1,hk.1.1.2⟩)⟩,⟨zzi BK2⟩,⟨zzi BK3⟩,⟨zzh⟩⟩
     ·rw [if_neg c12] at H
      exact absurd H (by simp)
    ·rw [if_neg c11] at H
     exact absurd H (by simp)
   ·rw [if_neg c10] at H
    have c10b0:decide (x17_1 < (y0.length:Int)) = false:=decide_eq_false c10;clear c10;obtain rfl:=Option.some.inj H;go_wp2;go_ret;exact ⟨_,zq104,by (with_reducible repeat (first|apply zA|apply zB|apply zC));exact Kd.R_mono HO_5.out (fun _ hk=>trivial),zzh⟩

end Go.Proofs.Ytbpccdbkaiigcaa.G

/- The walk of impl.stepsFrom: what it hands back is the map that the search by breadth makes. -/
namespace Go.Proofs.Ytbpccdbkaiigcaa.G
open Go.RowKit Go.Proofs.YtbpccdbkaiigcaaW.PrintWords Go.Proofs.YtbpccdbkaiigcaaW.PrintLast Go.Proofs.YtbpccdbkaiigcaaW.PrintMore
structure Nbs (a0_0 a0_1 : Int) (l0_2 : List S48) (G : S48 → Prop) (nb : S48 → List S48) : Prop where
 wf : ∀ d,G d → W64 d
 len : ∀ d,G d → (nb d).length ≤ 5
 cl : ∀ d,G d → ∀ e ∈ nb d,G e
 run : ∀ d,G d → ∃ k,impl_around.f k a0_0 a0_1 l0_2 d.f0 d.f1 = some (nb d)
theorem wf_small {x : Int} (h0 : -1 ≤ x) (h1 : x ≤ 2000) : (Lit.int .i64 x).wf = true:=wf_iff.2 ⟨by omega,by omega⟩
end Go.Proofs.Ytbpccdbkaiigcaa.G

/- The table of the numbers of steps: as a list of rows, and what the walks hold of the world while it is built. -/
namespace Go.Proofs.Ytbpccdbkaiigcaa.G
open Go.RowKit Go.Proofs.YtbpccdbkaiigcaaW.PrintWords Go.Proofs.YtbpccdbkaiigcaaW.PrintLast Go.Proofs.YtbpccdbkaiigcaaW.PrintMore
abbrev SS:=Kd.slice 3 (Kd.int .i64)
structure TB (w0 w : World) (ok : Nat → Prop) (v7 : Value) (rows : List (List Int)) (v9 : Value) (row : List Int) : Prop where
 out : Kd.S SS 72 w w0.heap.size (fun k=>ok k ∧ some k ≠ v9.ownBlock) v7 rows
 row : Kd.R (Kd.int .i64) 3 w w0.heap.size ok v9 row
 bl : Below w0.heap.size w0 w
section
variable {w0 w w1 : World} {ok : Nat → Prop} {v7 v9 v1 : Value} {rows : List (List Int)} {row row' : List Int}
theorem TB.below (h : TB w0 w ok v7 rows v9 row) (hb : Below w.heap.size w w1) : TB w0 w1 ok v7 rows v9 row:=⟨Kd.S_below h.out hb,Kd.R_below h.row hb,below_step h.bl hb⟩
end
end Go.Proofs.Ytbpccdbkaiigcaa.G

/- The table of the numbers of steps: read at a cell, written at a cell; what the reference's walk holds of the world. -/
namespace Go.Proofs.Ytbpccdbkaiigcaa.G
open Go.RowKit Go.Proofs.YtbpccdbkaiigcaaW.PrintWords Go.Proofs.YtbpccdbkaiigcaaW.PrintLast Go.Proofs.YtbpccdbkaiigcaaW.PrintMore
structure SQ (w0 w : World) (fc : Array Value) (g2 : Nat) (v6 : Value) (T : List (List Int)) (v10 : Value) (l : List S48) (vn : Value) (ds : List S48) : Prop where
 fl : w.heap[g2]? = some (.cells fc 29 (0,0))
 tb : Kd.S SS 72 w w0.heap.size (fun _=>True) v6 T
 qu : Kd.R k48 48 w w0.heap.size (fun _=>True) v10 l
 nx : Kd.R k48 48 w w0.heap.size (fun k=>True ∧ some k ≠ v10.ownBlock) vn ds
 bl : Below w0.heap.size w0 w
section
variable {w0 w w1 : World} {fc : Array Value} {g2 : Nat} {v6 v10 v11 vn vn' : Value} {T T' : List (List Int)} {l l' ds ds' : List S48}
theorem SQ.below (h : SQ w0 w fc g2 v6 T v10 l vn ds) (hb : Below w.heap.size w w1) : SQ w0 w1 fc g2 v6 T v10 l vn ds:=⟨blk_below h.fl hb,Kd.S_below h.tb hb,Kd.R_below h.qu hb,Kd.R_below h.nx hb,below_step h.bl hb⟩
end
end Go.Proofs.Ytbpccdbkaiigcaa.G

namespace Go.Proofs.Ytbpccdbkaiigcaa.G
open Go.RowKit Go.Proofs.YtbpccdbkaiigcaaW.PrintWords Go.Proofs.YtbpccdbkaiigcaaW.PrintLast Go.Proofs.YtbpccdbkaiigcaaW.PrintMore
attribute [local go_sem] max2_int min2_int max_two min_two max_three min_three max_four min_four   -- for this text's walks alone

def spec_l16Next.l0:Nat → List (S48) → List (S48) → Int → Int → Int → List (S48) → Option ((List (S48)))
 | 0,_,_,_,_,_,_=>none
 | k + 1,x5,x6,x7,x0,x1,x2=>if x7 < (x5.length:Int) then (if 0 ≤ x7 then ((spec_l16Free.f k x0 x1 x2 ((rd_T48 x5 x7).f0) ((rd_T48 x5 x7).f1)).bind fun t3=>(if t3 = true then (if x6.length < 8796093022208 then (spec_l16Next.l0 k x5 (x6 ++ [(⟨(rd_T48 x5 x7).f0,(rd_T48 x5 x7).f1⟩ : S48)]) (wrap64 (x7 + 1)) x0 x1 x2) else (none)) else (spec_l16Next.l0 k x5 x6 (wrap64 (x7 + 1)) x0 x1 x2))) else (none)) else (some x6)
def spec_l16Next.f (k:Nat) (a0_0:Int) (a0_1:Int) (l0_2:List (S48)) (a1_0:Int) (a1_1:Int):Option ((List (S48))):=spec_l16Next.l0 k (([(⟨a1_0,wrap64 (a1_1 - 1)⟩ : S48),(⟨wrap64 (a1_0 - 1),a1_1⟩ : S48),(⟨a1_0,a1_1⟩ : S48),(⟨wrap64 (a1_0 + 1),a1_1⟩ : S48),(⟨a1_0,wrap64 (a1_1 + 1)⟩ : S48)]:List (S48))) (([]:List (S48))) 0 a0_0 a0_1 l0_2
theorem spec_l16Next.calls (k:Nat) (a0_0:Int) (a0_1:Int) (A0_2:Option Addr) (c0_2:Nat) (l0_2:List (S48)) (a1_0:Int) (a1_1:Int) (r:List (S48)) (w:World) (hr0_2:Kd.C k48 w A0_2 l0_2.length l0_2) (hc0_2:l0_2.length ≤ c0_2) (h:spec_l16Next.f k a0_0 a0_1 l0_2 a1_0 a1_1 = some r) :
  Calls Try.prog 64 #[.agg #[.int .i64 a0_0,.int .i64 a0_1,.slice A0_2 l0_2.length c0_2],.agg #[.int .i64 a1_0,.int .i64 a1_1]] w fun e w' => ∃ v0_:Value,e = .returned (v0_) ∧ Kd.R k48 48 w' w.heap.size (fun _=>True) v0_ r ∧ Below w.heap.size w w':=by
 (have hu29:=Try.underlying29;have hu48:=Try.underlying48;have HR0_2:=zM hr0_2;have HC0_2:=zM hc0_2;clear hr0_2 hc0_2;have HB:=zM (Below.refl w.heap.size w);have H:(spec_l16Next.l0 k (([(⟨a1_0,wrap64 (a1_1 - 1)⟩ : S48),(⟨wrap64 (a1_0 - 1),a1_1⟩ : S48),(⟨a1_0,a1_1⟩ : S48),(⟨wrap64 (a1_0 + 1),a1_1⟩ : S48),(⟨a1_0,wrap64 (a1_1 + 1)⟩ : S48)]:List (S48))) (([]:List (S48))) 0 a0_0 a0_1 l0_2) = some r:=h;clear h;obtain ⟨y0,hy0⟩ : ∃ y_:List (S48),y_ = (([(⟨a1_0,wrap64 (a1_1 - 1)⟩ : S48),(⟨wrap64 (a1_0 - 1),a1_1⟩ : S48),(⟨a1_0,a1_1⟩ : S48),(⟨wrap64 (a1_0 + 1),a1_1⟩ : S48),(⟨a1_0,wrap64 (a1_1 + 1)⟩ : S48)]:List (S48))):=⟨_,rfl⟩;replace H:(spec_l16Next.l0 k y0 (([]:List (S48))) 0 a0_0 a0_1 l0_2) = some r:=by first|(rw [hy0];with_reducible exact H)|(have H2_:=(Option.bind_some _ _).symm.trans H;rw [hy0];with_reducible exact H2_)|(have H2_:=(Option.bind_some _ _).symm.trans H;with_reducible exact H2_)|with_reducible exact H|(rw [hy0];exact H)|exact H);have Ny0:=zM hy0;clear hy0;obtain ⟨y1,hy1⟩ : ∃ y_:List (S48),y_ = (([]:List (S48))):=⟨_,rfl⟩;replace H:(spec_l16Next.l0 k y0 y1 0 a0_0 a0_1 l0_2) = some r:=by first|(rw [hy1];with_reducible exact H)|(have H2_:=(Option.bind_some _ _).symm.trans H;rw [hy1];with_reducible exact H2_)|(have H2_:=(Option.bind_some _ _).symm.trans H;with_reducible exact H2_)|with_reducible exact H|(rw [hy1];exact H)|exact H
 have Ny1:=zM hy1;clear hy1;have H':=zM H;clear H;go_enter Try.func64,Try.ntmps64;go_wp2_with (first|((with_reducible refine gate_dst (N:=2) rfl ?_);refine zzc 2 #[.int .i64 a0_0,.int .i64 a0_1,.slice A0_2 l0_2.length c0_2] 29 ?_;intro gb2 hg w3 hbox hb;have BK2:= zM (hbox);have GW2:= zM ((zq117:w.heap.size ≤ gb2));have GE2:= zM ((zq117:w.heap.size ≤ gb2));replace HB:= zM (zQ zzh hb);clear hb hbox hg)|((with_reducible refine gate_dst (N:=3) rfl ?_);refine zzc 3 #[.int .i64 a1_0,.int .i64 a1_1] 48 ?_;intro gb3 hg w4 hbox hb;have BK3:= zM (hbox);have GW3:= zM ((zq117:w.heap.size ≤ gb3));have GE3:= zM ((zq117:w.heap.size ≤ gb3));replace HB:= zM (zQ zzh hb);have NB2_3:= zM ((zzm hg (zzi BK2):gb2 ≠ gb3));have NB3_2:= zM ((zzM hg (zzi BK2):gb3 ≠ gb2));replace BK2:= zM (blk_below (zzi BK2) hb);clear hb hbox hg;have hnb5:=NB3_2.out;have hnc5:=NB2_3.out;have hcz6_0:=zz0 BK3;have hcz6_1:=zz1 BK3;have hfz6_0:=blk_frozen BK3.out 0;have hfz6_1:=blk_frozen BK3.out 1)|((with_reducible refine gate_dst (N:=33) rfl ?_);refine Kd.R_lit k48 _ 48 ?hg (N:=33) ?hd (xs:=([(⟨a1_0,wrap64 (a1_1 - 1)⟩ : S48),(⟨wrap64 (a1_0 - 1),a1_1⟩ : S48),(⟨a1_0,a1_1⟩ : S48),(⟨wrap64 (a1_0 + 1),a1_1⟩ : S48),(⟨a1_0,wrap64 (a1_1 + 1)⟩ : S48)]:List (S48))) (inner:=[.int .i64 a1_0,.int .i64 (wrap64 (a1_1 - 1)),.int .i64 (wrap64 (a1_0 - 1)),.int .i64 a1_1,.int .i64 a1_0,.int .i64 a1_1,.int .i64 (wrap64 (a1_0 + 1)),.int .i64 a1_1,.int .i64 a1_0,.int .i64 (wrap64 (a1_1 + 1))]) (ok:=fun _=>True) (okp:=fun _=>True) ?hr ?hp (fun _ hk=>hk) trivial (Below.refl _ _) (Nat.le_refl _) (by simp) ?_;(case hd=>rfl);(case hg=>rfl);(case hr=>first|(go_simp;done)|(go_simp;rfl));(case hp=>exact (Reps.c2 (show Kd.M k48 _ _ _ (⟨a1_0,wrap64 (a1_1 - 1)⟩ : S48) [.int .i64 a1_0,.int .i64 (wrap64 (a1_1 - 1))] from (k48_mkM _ _ _ (⟨a1_0,wrap64 (a1_1 - 1)⟩ : S48) )) (Reps.c2 (show Kd.M k48 _ _ _ (⟨wrap64 (a1_0 - 1),a1_1⟩ : S48) [.int .i64 (wrap64 (a1_0 - 1)),.int .i64 a1_1] from (k48_mkM _ _ _ (⟨wrap64 (a1_0 - 1),a1_1⟩ : S48) )) (Reps.c2 (show Kd.M k48 _ _ _ (⟨a1_0,a1_1⟩ : S48) [.int .i64 a1_0,.int .i64 a1_1] from (k48_mkM _ _ _ (⟨a1_0,a1_1⟩ : S48) )) (Reps.c2 (show Kd.M k48 _ _ _ (⟨wrap64 (a1_0 + 1),a1_1⟩ : S48) [.int .i64 (wrap64 (a1_0 + 1)),.int .i64 a1_1] from (k48_mkM _ _ _ (⟨wrap64 (a1_0 + 1),a1_1⟩ : S48) )) (Reps.c2 (show Kd.M k48 _ _ _ (⟨a1_0,wrap64 (a1_1 + 1)⟩ : S48) [.int .i64 a1_0,.int .i64 (wrap64 (a1_1 + 1))] from (k48_mkM _ _ _ (⟨a1_0,wrap64 (a1_1 + 1)⟩ : S48) )) (Reps.none _ _)))))));intro v4 w7 ho8 hb hg_ hnew_;clear hg_ hnew_;(first|rw [← Ny0.out] at ho8|(simp only [Int.reduceToNat] at ho8;rw [← Ny0.out] at ho8));have HO5:= zM (Kd.R_lower (Kd.R_newB ho8 (g:=gb3) (o := .cells #[.int .i64 a1_0,.int .i64 a1_1] 48 (0,0)) (zzi BK3)) (zR zzh));replace BK2:= zM (blk_below (zzi BK2) hb);replace BK3:= zM (blk_below (zzi BK3) hb);replace HB:= zM (zQ zzh hb);clear hb ho8)|((with_reducible refine gate_dst (N:=34) rfl ?_);refine Kd.R_lit k48 _ 48 ?hg (N:=34) ?hd (xs:=([]:List (S48))) (inner:=[]) (ok:=fun _=>True) (okp:=fun _=>True) ?hr ?hp (fun _ hk=>hk) trivial (Below.refl _ _) (Nat.le_refl _) (by simp) ?_;(case hd=>rfl);(case hg=>rfl);(case hr=>first|(go_simp;done)|(go_simp;rfl));(case hp=>exact (Reps.none _ _));intro v8 w9 ho10 hb hg_ hnew_;clear hg_ hnew_;(first|rw [← Ny1.out] at ho10|(simp only [Int.reduceToNat] at ho10;rw [← Ny1.out] at ho10));have HO6:= zM (Kd.R_lower (Kd.R_newB (Kd.R_new' ho10 (Kd.R_lt (zzl HO5))) (g:=gb3) (o := .cells #[.int .i64 a1_0,.int .i64 a1_1] 48 (0,0)) (zzi BK3)) (zR zzh));replace HO5:= zM (Kd.R_elder' (zzl HO5) (Kd.R_base ho10) hb);replace BK2:= zM (blk_below (zzi BK2) hb);replace BK3:= zM (blk_below (zzi BK3) hb);replace HB:= zM (zQ zzh hb);clear hb ho10))
 go_loopg [6,7] k (fun kq v6 v7 w' => ∃ (x6_1:List (S48)) (x7_1:Int),v7 = .int .i64 x7_1 ∧ Aside0 (spec_l16Next.l0 kq y0 x6_1 x7_1 a0_0 a0_1 l0_2 = some r) ∧ Aside0 (kq ≤ k) ∧ Aside0 (Kd.R k48 48 w' w.heap.size (fun k_=>some k_ ≠ (v6:Value).ownBlock ∧ k_ ≠ gb3) v4 y0) ∧ Aside0 (Kd.R k48 48 w' w.heap.size (fun k_=>some k_ ≠ (v4:Value).ownBlock ∧ k_ ≠ gb3) v6 x6_1) ∧ Aside0 (w'.heap[gb2]? = some (.cells #[.int .i64 a0_0,.int .i64 a0_1,(.slice A0_2 l0_2.length c0_2)] 29 (0,0))) ∧ Aside0 (w'.heap[gb3]? = some (.cells #[.int .i64 a1_0,.int .i64 a1_1] 48 (0,0))) ∧ Aside0 (Below w.heap.size w w'))
 case atStart=>exact ⟨(y1),(0),zq112,H',⟨Nat.le_refl _⟩,⟨zq95⟩,⟨by (with_reducible repeat (first|apply zA|apply zB|apply zC));exact Kd.R_mono HO6.out (fun _ hk=>⟨hk.1.2,hk.2⟩)⟩,⟨zzi BK2⟩,⟨zzi BK3⟩,⟨zzh⟩⟩
 case round =>
  clear H';(try clear c2);(try clear p2);(try clear c5);(try clear c6);(try clear p6);(try clear hcz6_0);(try clear hcz6_1);(try clear hfz6_0);(try clear hfz6_1);obtain ⟨x6_1,x7_1,rfl,HA,HK1,HO_5,HO_6,BK2,BK3,HB⟩:=hrel;cases gk with
  | zero=>exact absurd HA.out (by simp [spec_l16Next.l0])
  | succ k1 =>
   have H:=HA.out;clear HA;simp only [spec_l16Next.l0] at H;by_cases c11:x7_1 < (y0.length:Int)
   ·rw [if_pos c11] at H
    have c11b0:decide (x7_1 < (y0.length:Int)) = true:=decide_eq_true c11;clear c11;by_cases c12:0 ≤ x7_1
    ·rw [if_pos c12] at H
     have c12b0:decide (0 ≤ x7_1) = true:=decide_eq_true c12;clear c12;replace H:=Option.bind_eq_some_iff.mp H;obtain ⟨t7,A9,H⟩:=H;replace H:(if t7 = true then (if x6_1.length < 8796093022208 then (spec_l16Next.l0 k1 y0 (x6_1 ++ [(⟨(rd_T48 y0 x7_1).f0,(rd_T48 y0 x7_1).f1⟩ : S48)]) (wrap64 (x7_1 + 1)) a0_0 a0_1 l0_2) else (none)) else (spec_l16Next.l0 k1 y0 x6_1 (wrap64 (x7_1 + 1)) a0_0 a0_1 l0_2)) = some r:=H;have A13:=zM A9;clear A9;by_cases c14:t7 = true
     ·subst c14
      (have H1:(if x6_1.length < 8796093022208 then (spec_l16Next.l0 k1 y0 (x6_1 ++ [(⟨(rd_T48 y0 x7_1).f0,(rd_T48 y0 x7_1).f1⟩ : S48)]) (wrap64 (x7_1 + 1)) a0_0 a0_1 l0_2) else (none)) = some r:=by rw [if_pos rfl] at H;exact H);clear H;have H:=H1;clear H1;by_cases c15:x6_1.length < 8796093022208
      ·rw [if_pos c15] at H
       (have LMc15:=zM c15;clear c15;obtain ⟨y10,hy10⟩ : ∃ y_:List (S48),y_ = (x6_1 ++ [(⟨(rd_T48 y0 x7_1).f0,(rd_T48 y0 x7_1).f1⟩ : S48)]):=⟨_,rfl⟩;replace H:(spec_l16Next.l0 k1 y0 y10 (wrap64 (x7_1 + 1)) a0_0 a0_1 l0_2) = some r:=by first|(rw [hy10];with_reducible exact H)|(have H2_:=(Option.bind_some _ _).symm.trans H;rw [hy10];with_reducible exact H2_)|(have H2_:=(Option.bind_some _ _).symm.trans H;with_reducible exact H2_)|with_reducible exact H|(rw [hy10];exact H)|exact H);have Ny10:=zM hy10;clear hy10;have H':=zM H;clear H;obtain ⟨Ao16,co16,eo16⟩:=Kd.R_slice HO_5.out;subst eo16;try go_wp2
       replace HO_5:= zM (zC HO_5.out);replace HO_6:= zM (zC HO_6.out);replace BK2:= zM (zK BK2.out);replace BK3:= zM (zK BK3.out);replace HB:= zM (zF HB.out);have p11:0 ≤ (x7_1:Int):=zzd;have q11:x7_1 < (y0.length:Int):=zzd;obtain ⟨ad11,e11,hx11_0,hx11_1⟩:=at_T48 (zN HO_5.out).2.2 x7_1 p11 q11;cases e11;replace p11:=eq_true p11;replace q11:=eq_true q11;refine start_ (n:=6) (S:=fun w'=>w'.cell? ⟨gb2,0,none⟩ = some (.int .i64 a0_0) ∧ w'.cell? ⟨gb2,1,none⟩ = some (.int .i64 a0_1) ∧ w'.cell? ⟨gb2,2,none⟩ = some (.slice A0_2 l0_2.length c0_2) ∧ w'.cell? (ad11.add ((x7_1).toNat * 2)) = some (.int .i64 ((rd_T48 y0 x7_1).f0)) ∧ w'.cell? ⟨(ad11.add ((x7_1).toNat * 2)).block,(ad11.add ((x7_1).toNat * 2)).off + 1,none⟩ = some (.int .i64 ((rd_T48 y0 x7_1).f1))) (ds:=[]) #[false,false,false,false,false,false] (by kernel_rfl) rfl rfl ⟨zz0 BK2,zz1 BK2,zz2 BK2,hx11_0,hx11_1⟩ (fun hHeld=>?_);generalize wr.drew = w17 at HO_5 HO_6 BK2 BK3 HB hx11_0 hx11_1 hHeld ⊢;refine zzp 1 42 (zzb 6 2) ?_;refine zzp 2 43 (zzb 6 6) ?_;refine zzp 3 44 (zzb 6 14) ?_;refine zzt 0 41 (zzb 6 15) hHeld ?_ (hy:=by rintro w' ⟨s0,s1,s2,s3,s4⟩;go_simp;with_reducible rfl);refine zzt 4 45 (zzb 6 31) hHeld ?_ (hy:=by rintro w' ⟨s0,s1,s2,s3,s4⟩;go_simp;with_reducible rfl);refine zzo 5 46 (zzb 6 63) (fun K hK=>?_);refine zzf Try.func82 #[.agg #[.int .i64 a0_0,.int .i64 a0_1,.slice A0_2 l0_2.length c0_2],.agg #[.int .i64 ((rd_T48 y0 x7_1).f0),.int .i64 ((rd_T48 y0 x7_1).f1)]] ?_;with_reducible refine (spec_l16Free.calls k1 a0_0 a0_1 _ _ l0_2 ((rd_T48 y0 x7_1).f0) ((rd_T48 y0 x7_1).f1) true _ ?side1 ?side2 A13.out).mono ?_
       (case side1=>repeat (first|exact (zO HR0_2.out HB.out)|(with_reducible first|refine zG ?_ _|refine zH ?_ _|refine zI ?_)));(case side2=>exact HC0_2.out);rintro e w18 ⟨rfl,hb⟩;have HS3_:=(hb.cell (World.block_lt_of_cell? _ _ (hHeld.2.2.2.1))).trans (hHeld.2.2.2.1);have HS4_:=(hb.cell (World.block_lt_of_cell? _ _ (hHeld.2.2.2.2))).trans (hHeld.2.2.2.2);refine ⟨_,rfl,?_⟩;replace HO_5:= zM (zP (zzl HO_5) hb);replace HO_6:= zM (zP (zzl HO_6) hb);replace BK2:= zM (blk_below (zzi BK2) hb);replace BK3:= zM (blk_below (zzi BK3) hb);replace HB:= zM (zQ zzh hb);(try clear hb);(try clear hb2);(try clear hk);(try clear hi);refine hK.out _ _ ⟨zz0 BK2,zz1 BK2,zz2 BK2,HS3_,HS4_⟩ (fun hHeld=>?_);clear hK K;refine zzn 46 ?_;refine done_ (by kernel_rfl) ?_;have p12:0 ≤ (x7_1:Int):=zzd;have q12:x7_1 < (y0.length:Int):=zzd;obtain ⟨ad12,e12,hx12_0,hx12_1⟩:=at_T48 (zN HO_5.out).2.2 x7_1 p12 q12;obtain rfl:ad11 = ad12:=(by injection e12);replace p12:=eq_true p12;replace q12:=eq_true q12;try go_wp2_with (first|((with_reducible refine gate_builtin (b := .append) (xs := #[.tmp 47,.tmp 52]) rfl ?_);at_builtin;refine Kd.R_append k48 (w0:=w) w.heap.size rfl (.tmp 47) (.tmp 52) 27 48 (.agg #[(.int .i64 0),(.int .i64 0)]) 16 rfl Try.underlying27 info48 rfl (by decide) (by omega) u6 x6_1 (⟨(rd_T48 y0 x7_1).f0,(rd_T48 y0 x7_1).f1⟩ : S48) [.int .i64 ((rd_T48 y0 x7_1).f0),.int .i64 ((rd_T48 y0 x7_1).f1)] (fun k_=>some k_ ≠ (.slice (some ad11) y0.length co16:Value).ownBlock ∧ k_ ≠ gb3) (fun _=>False) rfl rfl ?aP (fun _ hk=>hk.elim) ?aF ?aO ?aB ?aS ?aL ?_;(case aP=>exact k48_mkM _ _ _ (⟨(rd_T48 y0 x7_1).f0,(rd_T48 y0 x7_1).f1⟩ : S48));(case aB=>exact zzh);(case aF=>exact (fun k_ hk=>⟨Kd.fresh' (Kd.R_lt (zzl HO_5)) k_ hk,Kd.freshB (g:=gb3) (o := .cells #[.int .i64 a1_0,.int .i64 a1_1] 48 (0,0)) (zzi BK3) k_ hk⟩));(case aO=>exact (zzl HO_6));(case aS=>exact (zR zzh));(case aL=>have:=LMc15.out;omega);intro v13 w19 ho hb hg hat;rw [← Ny10.out] at ho;replace HO_5:= zM (Kd.R_after (ok:=(fun k_=>k_ ≠ gb3)) zq97 hg hat);replace BK2:= zM (blk_grown (g:=gb2) (o := .cells #[.int .i64 a0_0,.int .i64 a0_1,.slice A0_2 l0_2.length c0_2] 29 (0,0)) (zzi BK2) hg (Kd.R_ne HO_6.out BK2.out (by decide)));replace BK3:= zM (blk_grown (g:=gb3) (o := .cells #[.int .i64 a1_0,.int .i64 a1_1] 48 (0,0)) (zzi BK3) hg (Kd.R_away HO_6.out (fun _ hk=>hk.2)));replace HB:= zM (hb);have HO14:= zM (ho);clear HO_6;clear ho hb hg hat))
       go_roundg k1
       case measure=>have:=HK1.out;omega
       case rel=>exact ⟨(y10),(wrap64 (x7_1 + 1)),zq112,H',⟨zq121⟩,⟨zq97⟩,⟨zzl HO14⟩,⟨zzi BK2⟩,⟨zzi BK3⟩,⟨zzh⟩⟩
      ·rw [if_neg c15] at H
       exact absurd H (by simp)
     ·replace c14:=Bool.eq_false_iff.mpr c14
      subst c14;have H1:(spec_l16Next.l0 k1 y0 x6_1 (wrap64 (x7_1 + 1)) a0_0 a0_1 l0_2) = some r:=by rw [if_neg (show ¬ (false = true) by decide)] at H;exact H
      clear H;have H:=H1;clear H1;have H':=zM H;clear H;obtain ⟨Ao20,co20,eo20⟩:=Kd.R_slice HO_5.out;subst eo20;try go_wp2
      replace HO_5:= zM (zC HO_5.out);replace HO_6:= zM (zC HO_6.out);replace BK2:= zM (zK BK2.out);replace BK3:= zM (zK BK3.out);replace HB:= zM (zF HB.out);have p11:0 ≤ (x7_1:Int):=zzd;have q11:x7_1 < (y0.length:Int):=zzd;obtain ⟨ad11,e11,hx11_0,hx11_1⟩:=at_T48 (zN HO_5.out).2.2 x7_1 p11 q11;cases e11;replace p11:=eq_true p11;replace q11:=eq_true q11;refine start_ (n:=6) (S:=fun w'=>w'.cell? ⟨gb2,0,none⟩ = some (.int .i64 a0_0) ∧ w'.cell? ⟨gb2,1,none⟩ = some (.int .i64 a0_1) ∧ w'.cell? ⟨gb2,2,none⟩ = some (.slice A0_2 l0_2.length c0_2) ∧ w'.cell? (ad11.add ((x7_1).toNat * 2)) = some (.int .i64 ((rd_T48 y0 x7_1).f0)) ∧ w'.cell? ⟨(ad11.add ((x7_1).toNat * 2)).block,(ad11.add ((x7_1).toNat * 2)).off + 1,none⟩ = some (.int .i64 ((rd_T48 y0 x7_1).f1))) (ds:=[]) #[false,false,false,false,false,false] (by kernel_rfl) rfl rfl ⟨zz0 BK2,zz1 BK2,zz2 BK2,hx11_0,hx11_1⟩ (fun hHeld=>?_);generalize wr.drew = w21 at HO_5 HO_6 BK2 BK3 HB hx11_0 hx11_1 hHeld ⊢;refine zzp 1 42 (zzb 6 2) ?_;refine zzp 2 43 (zzb 6 6) ?_;refine zzp 3 44 (zzb 6 14) ?_;refine zzt 0 41 (zzb 6 15) hHeld ?_ (hy:=by rintro w' ⟨s0,s1,s2,s3,s4⟩;go_simp;with_reducible rfl);refine zzt 4 45 (zzb 6 31) hHeld ?_ (hy:=by rintro w' ⟨s0,s1,s2,s3,s4⟩;go_simp;with_reducible rfl);refine zzo 5 46 (zzb 6 63) (fun K hK=>?_);refine zzf Try.func82 #[.agg #[.int .i64 a0_0,.int .i64 a0_1,.slice A0_2 l0_2.length c0_2],.agg #[.int .i64 ((rd_T48 y0 x7_1).f0),.int .i64 ((rd_T48 y0 x7_1).f1)]] ?_;with_reducible refine (spec_l16Free.calls k1 a0_0 a0_1 _ _ l0_2 ((rd_T48 y0 x7_1).f0) ((rd_T48 y0 x7_1).f1) false _ ?side1 ?side2 A13.out).mono ?_
      (case side1=>repeat (first|exact (zO HR0_2.out HB.out)|(with_reducible first|refine zG ?_ _|refine zH ?_ _|refine zI ?_)));(case side2=>exact HC0_2.out);rintro e w22 ⟨rfl,hb⟩;have HS3_:=(hb.cell (World.block_lt_of_cell? _ _ (hHeld.2.2.2.1))).trans (hHeld.2.2.2.1);have HS4_:=(hb.cell (World.block_lt_of_cell? _ _ (hHeld.2.2.2.2))).trans (hHeld.2.2.2.2);refine ⟨_,rfl,?_⟩;replace HO_5:= zM (zP (zzl HO_5) hb);replace HO_6:= zM (zP (zzl HO_6) hb);replace BK2:= zM (blk_below (zzi BK2) hb);replace BK3:= zM (blk_below (zzi BK3) hb);replace HB:= zM (zQ zzh hb);(try clear hb);(try clear hb2);(try clear hk);(try clear hi);refine hK.out _ _ ⟨zz0 BK2,zz1 BK2,zz2 BK2,HS3_,HS4_⟩ (fun hHeld=>?_);clear hK K;refine zzn 46 ?_;refine done_ (by kernel_rfl) ?_;try go_wp2
      go_roundg k1
      case measure=>have:=HK1.out;omega
      case rel=>exact ⟨(x6_1),(wrap64 (x7_1 + 1)),zq112,H',⟨zq121⟩,⟨zzl HO_5⟩,⟨zzl HO_6⟩,⟨zzi BK2⟩,⟨zzi BK3⟩,⟨zzh⟩⟩
    ·rw [if_neg c12] at H
     exact absurd H (by simp)
   ·rw [if_neg c11] at H
    have c11b0:decide (x7_1 < (y0.length:Int)) = false:=decide_eq_false c11;clear c11;obtain rfl:=Option.some.inj H;obtain ⟨Ao23,co23,eo23⟩:=Kd.R_slice HO_5.out;subst eo23;go_wp2;go_ret;exact ⟨_,zq104,zq100,zzh⟩

end Go.Proofs.Ytbpccdbkaiigcaa.G

/- The walks of spec.PathLengthTo. -/
namespace Go.Proofs.Ytbpccdbkaiigcaa.G
open Go.RowKit Go.Proofs.YtbpccdbkaiigcaaW.PrintWords Go.Proofs.YtbpccdbkaiigcaaW.PrintLast Go.Proofs.YtbpccdbkaiigcaaW.PrintMore
structure Nbs' (a0_0 a0_1 : Int) (l0_2 : List S48) (G : S48 → Prop) (nb : S48 → List S48) : Prop where
 inn : ∀ d,G d → (0 ≤ d.f0 ∧ d.f0 < a0_0) ∧ (0 ≤ d.f1 ∧ d.f1 < a0_1)
 len : ∀ d,G d → (nb d).length ≤ 5
 cl : ∀ d,G d → ∀ e ∈ nb d,G e
 run : ∀ d,G d → ∃ k,spec_l16Next.f k a0_0 a0_1 l0_2 d.f0 d.f1 = some (nb d)
end Go.Proofs.Ytbpccdbkaiigcaa.G

/- The neighbours of a free cell, and that the search by breadth comes to its end. -/
namespace Go.Proofs.Ytbpccdbkaiigcaa.G
open Go.RowKit Go.Proofs.YtbpccdbkaiigcaaW.PrintWords Go.Proofs.YtbpccdbkaiigcaaW.PrintLast
noncomputable def sel (w h : Int) (bl : List S48) (d : S48) : List S48:=chk (Free w h bl d) [d] []
noncomputable def nbOf (w h : Int) (bl : List S48) (c : S48) : List S48:=((((([] ++ sel w h bl ⟨c.f0,c.f1 - 1⟩) ++ sel w h bl ⟨c.f0 - 1,c.f1⟩) ++ sel w h bl ⟨c.f0,c.f1⟩) ++ sel w h bl ⟨c.f0 + 1,c.f1⟩) ++ sel w h bl ⟨c.f0,c.f1 + 1⟩)
theorem sel_len (w h : Int) (bl : List S48) (d : S48) : (sel w h bl d).length ≤ 1:=by
 unfold sel;by_cases hf : Free w h bl d
 ·rw [chk_pos hf];simp
 ·rw [chk_neg hf];simp
theorem sel_mem {w h : Int} {bl : List S48} {d e : S48} : e ∈ sel w h bl d ↔ e = d ∧ Free w h bl d:=by
 unfold sel;by_cases hf : Free w h bl d
 ·rw [chk_pos hf];simp [hf]
 ·rw [chk_neg hf];simp [hf]
theorem nb_len (w h : Int) (bl : List S48) (c : S48) : (nbOf w h bl c).length ≤ 5:=by
 unfold nbOf;simp only [List.length_append,List.length_nil];have h1:=sel_len w h bl ⟨c.f0,c.f1 - 1⟩;have h2:=sel_len w h bl ⟨c.f0 - 1,c.f1⟩;have h3:=sel_len w h bl ⟨c.f0,c.f1⟩;have h4:=sel_len w h bl ⟨c.f0 + 1,c.f1⟩;have h5:=sel_len w h bl ⟨c.f0,c.f1 + 1⟩;omega
theorem nb_mem {w h : Int} {bl : List S48} {c e : S48} : e ∈ nbOf w h bl c ↔ Free w h bl e ∧ (e = ⟨c.f0,c.f1 - 1⟩ ∨ e = ⟨c.f0 - 1,c.f1⟩ ∨ e = ⟨c.f0,c.f1⟩ ∨ e = ⟨c.f0 + 1,c.f1⟩ ∨ e = ⟨c.f0,c.f1 + 1⟩):=by
 unfold nbOf;simp only [List.mem_append,List.not_mem_nil,false_or,sel_mem];constructor
 ·rintro ((((⟨rfl,h⟩|⟨rfl,h⟩)|⟨rfl,h⟩)|⟨rfl,h⟩)|⟨rfl,h⟩) <;> simp [h]
 ·rintro ⟨h,(rfl|rfl|rfl|rfl|rfl)⟩ <;> simp [h]
theorem free_in {w h : Int} {bl : List S48} {c : S48} (hf : FloorOk w h bl) (hc : Free w h bl c) : (0 ≤ c.f0 ∧ c.f0 ≤ 5) ∧ (0 ≤ c.f1 ∧ c.f1 ≤ 5):=by
 have:=hf.1;have:=hf.2.1;have:=hc.1;unfold In at this;omega
theorem impl_nb {w h : Int} {bl : List S48} (hf : FloorOk w h bl) (hb : (bl.length : Int) ≤ 1099511627776) {c : S48} (hc : Free w h bl c) : Ev (fun k=>impl_around.f k w h bl c.f0 c.f1) (nbOf w h bl c):=by
 (have hin:=free_in hf hc;unfold impl_around.f;simp only [Option.bind_some];obtain ⟨L,hL⟩ : ∃ L : List S48,[(⟨0,(-1)⟩ : S48),(⟨(-1),0⟩ : S48),(⟨0,0⟩ : S48),(⟨1,0⟩ : S48),(⟨0,1⟩ : S48)] = L:=⟨_,rfl⟩;have hl : L.length = 5:=by rw [← hL];rfl);rw [hL,hl]
 have step : ∀ (i : Int) (acc : List S48) (d : S48) (r : List S48),0 ≤ i → i < 5 → acc.length ≤ 10 → wrap64 (c.f0 + (rd_T48 L i).f0) = d.f0 → wrap64 (c.f1 + (rd_T48 L i).f1) = d.f1 → Ev (fun k=>impl_around.l0 k (acc ++ sel w h bl d) L 5 (i + 1) w h bl c.f0 c.f1) r → Ev (fun k=>impl_around.l0 k acc L ((5 : Nat) : Int) i w h bl c.f0 c.f1) r:=by
  (intro i acc d r i0 i1 ha e0 e1 hr;refine Ev.step (fun k=>by rw [impl_around.l0]) ?_;have q5 : i < ((5 : Nat) : Int):=i1;have q6 : i < (L.length : Int):=by rw [hl];exact i1);simp only [if_pos q5,if_pos q6,if_pos i0,e0,e1,wrap64_id (x:=i + 1) (by omega) (by omega)];refine Ev.bind (impl_free w h bl d hf.1 hf.2.1 hb) ?_;unfold sel at hr;by_cases hd : Free w h bl d
  ·rw [chk_pos hd] at hr ⊢
   simp only [if_true,if_pos (show acc.length < 8796093022208 by omega)];exact hr
  ·rw [chk_neg hd] at hr ⊢
   simp only [Bool.false_eq_true,if_false];rw [List.append_nil] at hr;exact hr
 have s1:=sel_len w h bl ⟨c.f0,c.f1 - 1⟩;have s2:=sel_len w h bl ⟨c.f0 - 1,c.f1⟩;have s3:=sel_len w h bl ⟨c.f0,c.f1⟩;have s4:=sel_len w h bl ⟨c.f0 + 1,c.f1⟩;have s5:=sel_len w h bl ⟨c.f0,c.f1 + 1⟩;refine step 0 [] ⟨c.f0,c.f1 - 1⟩ _ (by omega) (by omega) (by simp) zq105 (by rw [← hL];show wrap64 (c.f1 + (-1)) = c.f1 - 1;rw [wrap64_id (by omega) (by omega)];omega) ?_;refine step 1 _ ⟨c.f0 - 1,c.f1⟩ _ (by omega) (by omega) (by simp;omega) (by rw [← hL];show wrap64 (c.f0 + (-1)) = c.f0 - 1;rw [wrap64_id (by omega) (by omega)];omega) zq106 ?_;refine step 2 _ ⟨c.f0,c.f1⟩ _ (by omega) (by omega) (by simp;omega) zq105 zq106 ?_;refine step 3 _ ⟨c.f0 + 1,c.f1⟩ _ (by omega) (by omega) (by simp;omega) (by rw [← hL];show wrap64 (c.f0 + 1) = c.f0 + 1;rw [wrap64_id (by omega) (by omega)]) zq106 ?_;refine step 4 _ ⟨c.f0,c.f1 + 1⟩ _ (by omega) (by omega) (by simp;omega) zq105 (by rw [← hL];show wrap64 (c.f1 + 1) = c.f1 + 1;rw [wrap64_id (by omega) (by omega)]) ?_;refine Ev.step (fun k=>by rw [impl_around.l0]) ?_;simp only [if_neg (show ¬ ((4 : Int) + 1 < 5) by decide)];exact Ev.now _
theorem nbs_impl {w h : Int} {bl : List S48} (hf : FloorOk w h bl) (hb : (bl.length : Int) ≤ 1099511627776) : Nbs w h bl (Free w h bl) (nbOf w h bl) where
 wf:=fun d hd=>by have:=free_in hf hd;exact ⟨wf_small (by omega) (by omega),wf_small (by omega) (by omega)⟩
 len:=fun d _=>nb_len w h bl d
 cl:=fun d _ e he=>(nb_mem.1 he).1
 run:=fun d hd=>Ev.rounds (impl_nb hf hb hd)
theorem spec_asked (w h : Int) (bl : List S48) (hb : (bl.length : Int) ≤ 1099511627776) (a b : S48) : Ev (fun k=>spec_l16Asked.f k w h bl a.f0 a.f1 b.f0 b.f1) (chk (FloorOk w h bl ∧ Free w h bl a ∧ Free w h bl b) true false):=by
 unfold spec_l16Asked.f;refine Ev.bind (spec_floor w h bl hb) ?_;by_cases hf : FloorOk w h bl
 ·rw [chk_pos hf]
  simp only [if_true];refine Ev.bind (spec_free w h bl a hf.1 hf.2.1 hb) ?_;by_cases ha : Free w h bl a
  ·rw [chk_pos ha]
   simp only [if_true];refine Ev.bind (spec_free w h bl b hf.1 hf.2.1 hb) ?_;by_cases hb2 : Free w h bl b
   ·rw [chk_pos hb2,chk_pos ⟨hf,ha,hb2⟩];exact Ev.now _
   ·rw [chk_neg hb2,chk_neg (fun x=>hb2 x.2.2)];exact Ev.now _
  ·rw [chk_neg ha,chk_neg (fun x=>ha x.2.1)];exact Ev.now _
 ·rw [chk_neg hf,chk_neg (fun x=>hf x.1)];exact Ev.now _
end Go.Proofs.Ytbpccdbkaiigcaa.G

/- The search by breadth finds the least numbers of steps. -/
namespace Go.Proofs.Ytbpccdbkaiigcaa.G
open Go.RowKit Go.Proofs.YtbpccdbkaiigcaaW.PrintWords Go.Proofs.YtbpccdbkaiigcaaW.PrintLast
def Rch (nb : S48 → List S48) (c : S48) : Nat → S48 → Prop
 | 0,x=>x = c
 | n + 1,x => ∃ y,Rch nb c n y ∧ x ∈ nb y
structure BI (nb : S48 → List S48) (c0 : S48) (D : S48 → Prop) (m : Mp) (q : List S48) (hd : Int) : Prop where
 st : m c0 = some 0
 snd : ∀ x v,m x = some v → 0 ≤ v ∧ Rch nb c0 v.toNat x
 cls : ∀ x v,m x = some v → x ∉ q → ¬ D x → ∀ y ∈ nb x,∃ u,m y = some u ∧ u ≤ v + 1
 seen : ∀ x ∈ q,∃ v,m x = some v ∧ hd ≤ v
 top : ∀ x v,m x = some v → v ≤ hd + 1
 srt : q.Pairwise (fun x y => ∀ u v,m x = some u → m y = some v → u ≤ v)
structure Dist (nb : S48 → List S48) (c : S48) (m : Mp) : Prop where
 snd : ∀ x v,m x = some v → 0 ≤ v ∧ Rch nb c v.toNat x
 least : ∀ n x,Rch nb c n x → ∃ v,m x = some v ∧ v ≤ (n : Int)
 near : ∀ x v,m x = some v → ∀ y ∈ nb x,∃ u,m y = some u ∧ u ≤ v + 1
end Go.Proofs.Ytbpccdbkaiigcaa.G

namespace Go.Proofs.Ytbpccdbkaiigcaa.G
open Go.RowKit Go.Proofs.YtbpccdbkaiigcaaW.PrintWords Go.Proofs.YtbpccdbkaiigcaaW.PrintLast Go.Proofs.YtbpccdbkaiigcaaW.PrintMore
theorem least_eq (a b : Int) : spec_l1Least.f a b = some (mn a b):=by
 unfold spec_l1Least.f mn;split <;> split <;> first|rfl|(congr 1;omega)
theorem mn_cases (a b : Int) : (mn a b = a ∨ mn a b = b) ∧ mn a b ≤ a ∧ mn a b ≤ b:=by unfold mn;split <;> omega
def cat (p : List S48) (i : Int) : S48:=rd_T48 p (mn i ((p.length : Int) - 1))
theorem impl_cat (p : List S48) (h1 : 1 ≤ (p.length : Int)) (h2 : (p.length : Int) ≤ 25) (i : Int) (h0 : 0 ≤ i) : impl_cellAt.f p i = some ((cat p i).f0,(cat p i).f1):=by
 have m:=mn_cases i ((p.length : Int) - 1);unfold impl_cellAt.f;rw [wrap64_id (by omega) (by omega)];simp (disch:=omega) only [if_pos];rfl
theorem spec_cat (p : List S48) (h1 : 1 ≤ (p.length : Int)) (h2 : (p.length : Int) ≤ 25) (i : Int) (h0 : 0 ≤ i) : spec_l16At.f p i = some ((cat p i).f0,(cat p i).f1):=by
 have m:=mn_cases i ((p.length : Int) - 1);unfold spec_l16At.f;rw [wrap64_id (by omega) (by omega),least_eq];simp (disch:=omega) only [Option.bind_some,if_pos];rfl
def Hit (p q : List S48) (i : Int) : Prop:=eqc (cat p i) (cat q i) ∨ (0 < i ∧ eqc (cat p i) (cat q (i - 1)) ∧ eqc (cat p (i - 1)) (cat q i))
theorem spec_hit (p q : List S48) (hp : 1 ≤ (p.length : Int) ∧ (p.length : Int) ≤ 25) (hq : 1 ≤ (q.length : Int) ∧ (q.length : Int) ≤ 25) (i : Int) (h0 : 0 ≤ i) (h1 : i ≤ 25) : spec_l16Hit.f p q i = some (chk (Hit p q i) true false):=by
 unfold spec_l16Hit.f;rw [spec_cat p hp.1 hp.2 i h0,spec_cat q hq.1 hq.2 i h0];simp only [Option.bind_some];by_cases e1 : eqc (cat p i) (cat q i)
 ·rw [if_pos ((eqc_bool _ _).2 e1),chk_pos (show Hit p q i from Or.inl e1)]
 ·rw [if_neg (fun m=>e1 ((eqc_bool _ _).1 m))]
  by_cases g : i > 0
  ·rw [if_pos g,wrap64_id (by omega) (by omega),spec_cat p hp.1 hp.2 (i - 1) (by omega),spec_cat q hq.1 hq.2 (i - 1) (by omega)]
   simp only [Option.bind_some];by_cases e2 : eqc (cat p i) (cat q (i - 1))
   ·rw [if_pos ((eqc_bool _ _).2 e2)]
    by_cases e3 : eqc (cat p (i - 1)) (cat q i)
    ·rw [chk_pos (show Hit p q i from Or.inr ⟨g,e2,e3⟩),(eqc_bool _ _).2 e3]
    ·rw [chk_neg (fun m : Hit p q i=>m.elim e1 (fun m=>e3 m.2.2)),Bool.eq_false_iff.2 (fun m=>e3 ((eqc_bool _ _).1 m))]
   ·rw [if_neg (fun m=>e2 ((eqc_bool _ _).1 m)),chk_neg (fun m : Hit p q i=>m.elim e1 (fun m=>e2 m.2.1))]
  ·rw [if_neg g,chk_neg (fun m : Hit p q i=>m.elim e1 (fun m=>g m.1))]
noncomputable def collF (p q : List S48) : Nat → Int → Int
 | 0,_ => -1
 | d + 1,i=>chk (Hit p q i) i (collF p q d (i + 1))
theorem collF_succ (p q : List S48) (d : Nat) (i : Int) : collF p q (d + 1) i = chk (Hit p q i) i (collF p q d (i + 1)):=rfl
theorem mx_two (a b : Int) : (mx a b = a ∨ mx a b = b) ∧ a ≤ mx a b ∧ b ≤ mx a b:=by unfold mx;split <;> omega
theorem spec_coll (p q : List S48) (hp : 1 ≤ (p.length : Int) ∧ (p.length : Int) ≤ 25) (hq : 1 ≤ (q.length : Int) ∧ (q.length : Int) ≤ 25) : ∀ (d : Nat) (i : Int),0 ≤ i → i + d = mx (p.length : Int) (q.length : Int) → Ev (fun k=>spec_l16Collision.l0 k p q i) (collF p q d i):=by
 have mm:=mx_two (p.length : Int) (q.length : Int);intro d
 induction d with
 | zero =>
  intro i h0 hd;refine Ev.step (fun k=>by rw [spec_l16Collision.l0]) ?_;simp only [spec_most_eq,Option.bind_some];simp (disch:=omega) only [if_neg];exact Ev.now _
 | succ d ih =>
  intro i h0 hd;refine Ev.step (fun k=>by rw [spec_l16Collision.l0]) ?_;simp only [spec_most_eq,Option.bind_some];simp (disch:=omega) only [if_pos];rw [spec_hit p q hp hq i h0 (by omega),collF_succ,wrap64_id (by omega) (by omega)];simp only [Option.bind_some];refine Ev.ite (fun g=>?_) (fun g=>?_)
  ·rw [chk_pos (chk_true.1 g)];exact Ev.now _
  ·rw [chk_neg (fun m=>g (chk_true.2 m))];exact ih (i + 1) (by omega) (by omega)
def ans (t : Int) : Int × Bool × Bool:=if t < 0 then (0,false,true) else (t,true,true)
theorem impl_coll (p q : List S48) (hp : 1 ≤ (p.length : Int) ∧ (p.length : Int) ≤ 25) (hq : 1 ≤ (q.length : Int) ∧ (q.length : Int) ≤ 25) : ∀ (d : Nat) (i : Int),0 ≤ i → i + d = mx (p.length : Int) (q.length : Int) → Ev (fun k=>impl_FirstCollision.l0 k p q (mx (p.length : Int) (q.length : Int)) i) (ans (collF p q d i)):=by
 have mm:=mx_two (p.length : Int) (q.length : Int);intro d
 induction d with
 | zero =>
  intro i h0 hd;refine Ev.step (fun k=>by rw [impl_FirstCollision.l0]) ?_;simp (disch:=omega) only [if_neg];exact Ev.now _
 | succ d ih =>
  intro i h0 hd;have nx:=ih (i + 1) (by omega) (by omega)
  have yes : Hit p q i → Ev (fun _=>some (i,true,true)) (ans (collF p q (d + 1) i)):=by
   intro m;rw [collF_succ,chk_pos m];unfold ans;rw [if_neg (by omega)];exact Ev.now _
  have no : ¬ Hit p q i → Ev (fun k=>impl_FirstCollision.l0 k p q (mx (p.length : Int) (q.length : Int)) (i + 1)) (ans (collF p q (d + 1) i)):=by
   intro m;rw [collF_succ,chk_neg m];exact nx
  refine Ev.step (fun k=>by rw [impl_FirstCollision.l0]) ?_;simp (disch:=omega) only [if_pos];rw [impl_cat p hp.1 hp.2 i h0,impl_cat q hq.1 hq.2 i h0];simp only [Option.bind_some];rw [wrap64_id (x:=i + 1) (by omega) (by omega)];refine Ev.ite (fun e1=>yes (Or.inl ((eqc_bool _ _).1 e1))) (fun e1=>?_);refine Ev.ite (fun g=>?_) (fun g=>no (fun m=>m.elim (fun m=>e1 ((eqc_bool _ _).2 m)) (fun m=>g m.1)));rw [wrap64_id (by omega) (by omega),impl_cat p hp.1 hp.2 (i - 1) (by omega),impl_cat q hq.1 hq.2 (i - 1) (by omega)];simp only [Option.bind_some];refine Ev.ite (fun e2=>?_) (fun e2=>no (fun m=>m.elim (fun m=>e1 ((eqc_bool _ _).2 m)) (fun m=>e2 ((eqc_bool _ _).2 m.2.1))));refine Ev.ite (fun e3=>yes (Or.inr ⟨g,(eqc_bool _ _).1 e2,?_⟩)) (fun e3=>no (fun m=>m.elim (fun m=>e1 ((eqc_bool _ _).2 m)) (fun m=>e3 ((eqc_bool _ _).2 ⟨m.2.2.1.symm,m.2.2.2.symm⟩))));have:=(eqc_bool _ _).1 e3;exact ⟨this.1.symm,this.2.symm⟩
noncomputable def collR (w h : Int) (bl p q : List S48) : Int × Bool × Bool:=chk (PathOk w h bl p ∧ PathOk w h bl q) (ans (collF p q (mx (p.length : Int) (q.length : Int)).toNat 0)) (0,false,false)
theorem impl_first (w h : Int) (bl : List S48) (hb : (bl.length : Int) ≤ 1099511627776) (p q : List S48) : Ev (fun k=>impl_FirstCollision.f k w h bl p q) (collR w h bl p q):=by
 have no : ¬ (PathOk w h bl p ∧ PathOk w h bl q) → Ev (fun k=>impl_FirstCollision.j0 k p q true) (collR w h bl p q):=by
  intro hn;unfold collR;rw [chk_neg hn];refine Ev.step (fun k=>by rw [impl_FirstCollision.j0]) ?_;simp only [if_true];exact Ev.now _
 unfold impl_FirstCollision.f;refine Ev.bind (impl_path w h bl hb p) ?_;refine Ev.ite (fun g=>?_) (fun g=>no (fun m=>g (chk_true.2 m.1)));refine Ev.bind (impl_path w h bl hb q) ?_;have g:=chk_true.1 g;by_cases g2 : PathOk w h bl q
 ·rw [chk_pos g2]
  have mm:=mx_two (p.length : Int) (q.length : Int);have l1:=g.2.1;refine Ev.step (fun k=>by rw [impl_FirstCollision.j0]) ?_;simp only [Bool.not_true,Bool.false_eq_true,if_false];unfold collR;rw [chk_pos ⟨g,g2⟩];exact impl_coll p q g.2.1 g2.2.1 _ 0 (by omega) (by omega)
 ·rw [chk_neg g2]
  exact no (fun m=>g2 m.2)
theorem spec_first (w h : Int) (bl : List S48) (hb : (bl.length : Int) ≤ 1099511627776) (p q : List S48) (hp : (p.length : Int) ≤ 1099511627776) (hq : (q.length : Int) ≤ 1099511627776) : Ev (fun k=>spec_FirstCollision.f k w h bl p q) (collR w h bl p q):=by
 have no : ¬ (PathOk w h bl p ∧ PathOk w h bl q) → Ev (fun k=>spec_FirstCollision.j0 k p q true) (collR w h bl p q):=by
  intro hn;unfold collR;rw [chk_neg hn];refine Ev.step (fun k=>by rw [spec_FirstCollision.j0]) ?_;simp only [if_true];exact Ev.now _
 unfold spec_FirstCollision.f;refine Ev.bind (spec_floor w h bl hb) ?_;refine Ev.ite (fun hf=>?_) (fun hf=>no (fun m=>hf (chk_true.2 m.1.1)));have hf:=chk_true.1 hf;refine Ev.bind (spec_path hf hb p hp) ?_;refine Ev.ite (fun g=>?_) (fun g=>no (fun m=>g (chk_true.2 m.1)));refine Ev.bind (spec_path hf hb q hq) ?_;have g:=chk_true.1 g;by_cases g2 : PathOk w h bl q
 ·rw [chk_pos g2]
  have mm:=mx_two (p.length : Int) (q.length : Int);have l1:=g.2.1;refine Ev.step (fun k=>by rw [spec_FirstCollision.j0]) ?_;simp only [Bool.not_true,Bool.false_eq_true,if_false];unfold spec_l16Collision.f;refine Ev.bind (spec_coll p q g.2.1 g2.2.1 (mx (p.length : Int) (q.length : Int)).toNat 0 (by omega) (by omega)) ?_;unfold collR ans;rw [chk_pos ⟨g,g2⟩];refine Ev.ite (fun x=>?_) (fun x=>?_)
  ·rw [if_pos x];exact Ev.now _
  ·rw [if_neg x];exact Ev.now _
 ·rw [chk_neg g2]
  exact no (fun m=>g2 m.2)
end Go.Proofs.Ytbpccdbkaiigcaa.G

/- The first shortest path beside others, as a pure function: levels, ends and sets from behind; that the two ways to tell it agree. -/
namespace Go.Proofs.Ytbpccdbkaiigcaa.G
open Go.RowKit Go.Proofs.YtbpccdbkaiigcaaW.PrintWords Go.Proofs.YtbpccdbkaiigcaaW.PrintLast
theorem eqc_iff {a b : S48} : eqc a b ↔ a = b:=by
 cases a;cases b;unfold eqc;simp
def HitAt (os : List (List S48)) (a b : S48) (t : Int) : Prop := ∃ p ∈ os,cat p t = b ∨ (0 < t ∧ cat p t = a ∧ cat p (t - 1) = b)
theorem hitAt_same {os : List (List S48)} {b : S48} {t : Int} : HitAt os b b t ↔ ∃ p ∈ os,cat p t = b:=by
 constructor
 ·rintro ⟨p,hp,h|h⟩
  ·exact ⟨p,hp,h⟩
  ·exact ⟨p,hp,h.2.1⟩
 ·rintro ⟨p,hp,h⟩
  exact ⟨p,hp,Or.inl h⟩
noncomputable def fil (P : S48 → Prop) (l : List S48) : List S48:=l.filter (fun c=>chk (P c) true false)
noncomputable def fnd (P : S48 → Prop) (l : List S48) : Option S48:=(fil P l).head?
theorem fil_nil (P : S48 → Prop) : fil P [] = []:=rfl
theorem fil_app (P : S48 → Prop) (l k : List S48) : fil P (l ++ k) = fil P l ++ fil P k:=List.filter_append ..
theorem fil_one_pos {P : S48 → Prop} {c : S48} (h : P c) : fil P [c] = [c]:=by unfold fil;simp [chk_pos h]
theorem fil_one_neg {P : S48 → Prop} {c : S48} (h : ¬ P c) : fil P [c] = []:=by unfold fil;simp [chk_neg h]
theorem fil_mem {P : S48 → Prop} {l : List S48} {c : S48} : c ∈ fil P l ↔ c ∈ l ∧ P c:=by
 unfold fil;rw [List.mem_filter];exact ⟨fun h=>⟨h.1,chk_true.1 h.2⟩,fun h=>⟨h.1,chk_true.2 h.2⟩⟩
theorem fnd_nil (P : S48 → Prop) : fnd P [] = none:=rfl
theorem fnd_pos {P : S48 → Prop} {c : S48} {l : List S48} (h : P c) : fnd P (c :: l) = some c:=by unfold fnd fil;simp [List.filter_cons,chk_pos h]
theorem fnd_neg {P : S48 → Prop} {c : S48} {l : List S48} (h : ¬ P c) : fnd P (c :: l) = fnd P l:=by unfold fnd fil;simp [List.filter_cons,chk_neg h]
theorem fnd_mem {P : S48 → Prop} {l : List S48} {c : S48} (h : fnd P l = some c) : c ∈ l ∧ P c:=fil_mem.1 (List.mem_of_mem_head? h)
theorem bef_irr {a : S48} : ¬ Bef a a:=by unfold Bef;omega
theorem bef_tr {a b c : S48} (h : Bef a b) (k : Bef b c) : Bef a c:=by unfold Bef at *;omega
theorem srt_eq : ∀ {l k : List S48},l.Pairwise Bef → k.Pairwise Bef → (∀ c,c ∈ l ↔ c ∈ k) → l = k
 | [],[],_,_,_=>rfl
 | [],b :: k,_,_,h=>by have:=(h b).2 List.mem_cons_self;cases this
 | a :: l,[],_,_,h=>by have:=(h a).1 List.mem_cons_self;cases this
 | a :: l,b :: k,hl,hk,h=>by
  have l1:=List.pairwise_cons.1 hl
  have k1:=List.pairwise_cons.1 hk
  have e : a = b:=by
   rcases List.mem_cons.1 ((h a).1 List.mem_cons_self) with e|e
   ·exact e
   ·rcases List.mem_cons.1 ((h b).2 List.mem_cons_self) with e'|e'
    ·exact e'.symm
    ·exact absurd (bef_tr (l1.1 b e') (k1.1 a e)) bef_irr
  subst e
  rw [srt_eq l1.2 k1.2 (fun c=>⟨fun hc=>?_,fun hc=>?_⟩)]
  ·rcases List.mem_cons.1 ((h c).1 (List.mem_cons_of_mem _ hc)) with e|e
   ·subst e;exact absurd (l1.1 c hc) bef_irr
   ·exact e
  ·rcases List.mem_cons.1 ((h c).2 (List.mem_cons_of_mem _ hc)) with e|e
   ·subst e;exact absurd (k1.1 c hc) bef_irr
   ·exact e
theorem fil_srt {P : S48 → Prop} {l : List S48} (h : l.Pairwise Bef) : (fil P l).Pairwise Bef:=List.Pairwise.filter _ h
theorem fnd_eq {P Q : S48 → Prop} {l k : List S48} (hl : l.Pairwise Bef) (hk : k.Pairwise Bef) (h : ∀ c,(c ∈ l ∧ P c) ↔ (c ∈ k ∧ Q c)) : fnd P l = fnd Q k:=by
 unfold fnd;rw [srt_eq (fil_srt hl) (fil_srt hk) (fun c=>by rw [fil_mem,fil_mem];exact h c)]
def rowC (y : Int) (n : Nat) : List S48:=(List.range n).map fun (x : Nat)=>(⟨(x : Int),y⟩ : S48)
def cellsTo (w : Nat) (n : Nat) : List S48:=(List.range n).flatMap fun (y : Nat)=>rowC (y : Int) w
theorem rowC_succ (y : Int) (n : Nat) : rowC y (n + 1) = rowC y n ++ [⟨(n : Int),y⟩]:=by unfold rowC;rw [List.range_succ,List.map_append];rfl
theorem cellsTo_succ (w n : Nat) : cellsTo w (n + 1) = cellsTo w n ++ rowC (n : Int) w:=by unfold cellsTo;rw [List.range_succ,List.flatMap_append];simp
theorem rowC_mem {y : Int} {n : Nat} {c : S48} : c ∈ rowC y n ↔ (0 ≤ c.f0 ∧ c.f0 < n) ∧ c.f1 = y:=by
 unfold rowC;rw [List.mem_map];constructor
 ·rintro ⟨x,hx,rfl⟩
  rw [List.mem_range] at hx;exact ⟨⟨by show (0 : Int) ≤ x;omega,by show (x : Int) < n;omega⟩,rfl⟩
 ·rintro ⟨⟨h0,h1⟩,h2⟩
  refine ⟨c.f0.toNat,List.mem_range.2 (by omega),?_⟩;cases c;simp only [S48.mk.injEq];simp only at h0 h2;exact ⟨by omega,h2.symm⟩
theorem cellsTo_mem {w n : Nat} {c : S48} : c ∈ cellsTo w n ↔ (0 ≤ c.f0 ∧ c.f0 < w) ∧ (0 ≤ c.f1 ∧ c.f1 < n):=by
 unfold cellsTo;rw [List.mem_flatMap];constructor
 ·rintro ⟨y,hy,hc⟩
  rw [List.mem_range] at hy;have:=rowC_mem.1 hc;exact ⟨this.1,by omega,by omega⟩
 ·rintro ⟨h0,h1,h2⟩
  exact ⟨c.f1.toNat,List.mem_range.2 (by omega),rowC_mem.2 ⟨h0,by omega⟩⟩
theorem rowC_srt (y : Int) : ∀ n,(rowC y n).Pairwise Bef
 | 0=>List.Pairwise.nil
 | n + 1=>by
  rw [rowC_succ,List.pairwise_append]
  refine ⟨rowC_srt y n,List.pairwise_singleton _ _,fun a ha b hb=>?_⟩
  rw [List.mem_singleton] at hb
  subst hb
  have:=rowC_mem.1 ha
  refine Or.inr ⟨this.2,?_⟩
  exact this.1.2
theorem cellsTo_srt (w : Nat) : ∀ n,(cellsTo w n).Pairwise Bef
 | 0=>List.Pairwise.nil
 | n + 1=>by
  rw [cellsTo_succ,List.pairwise_append]
  refine ⟨cellsTo_srt w n,rowC_srt _ _,fun a ha b hb=>Or.inl ?_⟩
  have h1:=cellsTo_mem.1 ha
  have h2:=rowC_mem.1 hb
  omega
theorem cellsTo_len (w : Nat) : ∀ n,(cellsTo w n).length = n * w
 | 0=>by unfold cellsTo;simp
 | n + 1=>by rw [cellsTo_succ,List.length_append,cellsTo_len w n];unfold rowC;simp;rw [Nat.add_mul];simp
noncomputable def cells (w h : Int) : List S48:=cellsTo w.toNat h.toNat
theorem cells_mem {w h : Int} {c : S48} : c ∈ cells w h ↔ In w h c:=by
 unfold cells In;rw [cellsTo_mem];omega
theorem sel_srt (w h : Int) (bl : List S48) (d : S48) : (sel w h bl d).Pairwise Bef:=by
 unfold sel;by_cases hf : Free w h bl d
 ·rw [chk_pos hf];exact List.pairwise_singleton _ _
 ·rw [chk_neg hf];exact List.Pairwise.nil
theorem nb_srt (w h : Int) (bl : List S48) (c : S48) : (nbOf w h bl c).Pairwise Bef:=by
 unfold nbOf;simp only [List.pairwise_append,sel_srt,List.mem_append,sel_mem,List.Pairwise.nil,List.not_mem_nil,true_and,and_true,false_or];refine ⟨⟨⟨⟨?_,?_⟩,?_⟩,?_⟩,?_⟩
 ·intro a ha;cases ha
 ·rintro a ha b ⟨rfl,_⟩
  have ha:=ha.1;subst ha;left;show c.f1 - 1 < c.f1;omega
 ·rintro a ha b ⟨rfl,_⟩
  rcases ha with ⟨rfl,_⟩|⟨rfl,_⟩
  ·left;show c.f1 - 1 < c.f1;omega
  ·right;exact ⟨rfl,by show c.f0 - 1 < c.f0;omega⟩
 ·rintro a ha b ⟨rfl,_⟩
  rcases ha with (⟨rfl,_⟩|⟨rfl,_⟩)|⟨rfl,_⟩
  ·left;show c.f1 - 1 < c.f1;omega
  ·right;exact ⟨rfl,by show c.f0 - 1 < c.f0 + 1;omega⟩
  ·right;exact ⟨rfl,by show c.f0 < c.f0 + 1;omega⟩
 ·rintro a ha b ⟨rfl,_⟩
  rcases ha with ((⟨rfl,_⟩|⟨rfl,_⟩)|⟨rfl,_⟩)|⟨rfl,_⟩
  ·left;show c.f1 - 1 < c.f1 + 1;omega
  ·left;show c.f1 < c.f1 + 1;omega
  ·left;show c.f1 < c.f1 + 1;omega
  ·left;show c.f1 < c.f1 + 1;omega
theorem near_comm {a b : S48} : Near a b ↔ Near b a:=by
 unfold Near mx;constructor <;> intro h <;> (repeat' split) <;> (repeat' split at h) <;> omega
theorem near_five {a b : S48} : Near a b ↔ (b = ⟨a.f0,a.f1 - 1⟩ ∨ b = ⟨a.f0 - 1,a.f1⟩ ∨ b = ⟨a.f0,a.f1⟩ ∨ b = ⟨a.f0 + 1,a.f1⟩ ∨ b = ⟨a.f0,a.f1 + 1⟩):=by
 cases a with|mk a0 a1 =>
 cases b with|mk b0 b1 =>
 simp only [S48.mk.injEq];unfold Near mx;simp only;constructor
 ·intro h;(repeat' split at h) <;> omega
 ·intro h;(repeat' split) <;> omega
theorem nb_iff {w h : Int} {bl : List S48} {c e : S48} : e ∈ nbOf w h bl c ↔ Free w h bl e ∧ Near c e:=by
 rw [nb_mem,near_five]
section
variable (w h : Int) (bl : List S48) (os : List (List S48)) (a b : S48)
def Can (l : List S48) (t : Int) (c : S48) : Prop := ∃ d ∈ l,Near d c ∧ ¬ HitAt os d c t
noncomputable def lev : Nat → List S48
 | 0=>[a]
 | t + 1=>fil (fun c=>Free w h bl c ∧ Can os (lev t) ((t + 1 : Nat) : Int) c) (cells w h)
def Rest (t : Nat) : Prop := ∀ s : Nat,t ≤ s → s ≤ 24 → ¬ HitAt os b b (s : Int)
def EndS (t : Nat) : Prop:=b ∈ lev w h bl os a t ∧ Rest os b t
noncomputable def firstN (P : Nat → Prop) : Nat → Nat → Option Nat
 | 0,_=>none
 | d + 1,t=>chk (P t) (some t) (firstN P d (t + 1))
def Lead (l : List S48) (t : Int) (c : S48) : Prop := ∃ d ∈ l,Near c d ∧ ¬ HitAt os c d t
noncomputable def gdl (e : Nat) : Nat → List S48
 | 0=>[b]
 | j + 1=>fil (fun c=>Lead os (gdl e j) ((e - j : Nat) : Int) c) (lev w h bl os a (e - (j + 1)))
def GI (e : Nat) : Nat → S48 → Prop
 | 0,c=>c = b
 | j + 1,c => ∃ d,GI e j d ∧ c ∈ nbOf w h bl d ∧ ¬ HitAt os c d ((e - j : Nat) : Int)
noncomputable def nxS (e t : Nat) (c : S48) : Option S48:=fnd (fun d=>Near c d ∧ ¬ HitAt os c d (t : Int)) (gdl w h bl os a b e (e - t))
noncomputable def nxI (e t : Nat) (c : S48) : Option S48:=fnd (fun d=>GI w h bl os b e (e - t) d ∧ ¬ HitAt os c d (t : Int)) (nbOf w h bl c)
end
def trace (nx : Nat → S48 → Option S48) (a : S48) : Nat → Option (List S48)
 | 0=>some [a]
 | t + 1=>match trace nx a t with
  | none=>none
  | some p=>match nx (t + 1) (rd_T48 p (t : Int)) with
   | none=>none
   | some c=>some (p ++ [c])
theorem trace_len {nx : Nat → S48 → Option S48} {a : S48} : ∀ {t : Nat} {p : List S48},trace nx a t = some p → p.length = t + 1
 | 0,p,h=>by rw [trace] at h;obtain rfl:=Option.some.inj h;rfl
 | t + 1,p,h=>by
  rw [trace] at h
  cases hq : trace nx a t with
  | none=>rw [hq] at h;cases h
  | some q =>
   rw [hq] at h
   dsimp only at h
   cases hc : nx (t + 1) (rd_T48 q (t : Int)) with
   | none=>rw [hc] at h;cases h
   | some c =>
    rw [hc] at h
    obtain rfl:=Option.some.inj h
    rw [List.length_append,trace_len hq]
    rfl
theorem trace_step {nx : Nat → S48 → Option S48} {a c : S48} {t : Nat} {p : List S48} (h : trace nx a t = some p) (hc : nx (t + 1) (rd_T48 p (t : Int)) = some c) : trace nx a (t + 1) = some (p ++ [c]):=by
 rw [trace,h];dsimp only;rw [hc]
theorem firstN_some {P : Nat → Prop} : ∀ {d t e : Nat},firstN P d t = some e → P e ∧ t ≤ e ∧ e < t + d
 | 0,t,e,h=>by cases h
 | d + 1,t,e,h=>by
  rw [firstN] at h
  by_cases hp : P t
  ·rw [chk_pos hp] at h
   obtain rfl:=Option.some.inj h
   exact ⟨hp,Nat.le_refl _,by omega⟩
  ·rw [chk_neg hp] at h
   have:=firstN_some h
   exact ⟨this.1,by omega,by omega⟩
theorem firstN_least {P : Nat → Prop} : ∀ {d t e : Nat},firstN P d t = some e → ∀ s,t ≤ s → s < e → ¬ P s
 | 0,t,e,h=>by cases h
 | d + 1,t,e,h=>by
  rw [firstN] at h
  by_cases hp : P t
  ·rw [chk_pos hp] at h
   obtain rfl:=Option.some.inj h
   intro s h0 h1
   omega
  ·rw [chk_neg hp] at h
   intro s h0 h1
   by_cases e' : s = t
   ·rw [e'];exact hp
   ·exact firstN_least h s (by omega) h1
theorem firstN_none {P : Nat → Prop} : ∀ {d t : Nat},firstN P d t = none → ∀ s,t ≤ s → s < t + d → ¬ P s
 | 0,t,h=>fun s h0 h1=>by omega
 | d + 1,t,h=>by
  rw [firstN] at h
  by_cases hp : P t
  ·rw [chk_pos hp] at h;cases h
  ·rw [chk_neg hp] at h
   intro s h0 h1
   by_cases e : s = t
   ·rw [e];exact hp
   ·exact firstN_none h s (by omega) (by omega)
theorem firstN_of {P : Nat → Prop} : ∀ {d t e : Nat},P e → (∀ s,t ≤ s → s < e → ¬ P s) → t ≤ e → e < t + d → firstN P d t = some e
 | 0,t,e,_,_,_,h=>by omega
 | d + 1,t,e,hp,hl,h0,h1=>by
  rw [firstN]
  by_cases e' : t = e
  ·subst e';rw [chk_pos hp]
  ·rw [chk_neg (hl t (Nat.le_refl _) (by omega))]
   exact firstN_of hp (fun s a b=>hl s (by omega) b) (by omega) (by omega)
section
variable {w h : Int} {bl : List S48} {os : List (List S48)} {a b : S48}
theorem lev_free (ha : Free w h bl a) : ∀ t,∀ c ∈ lev w h bl os a t,Free w h bl c
 | 0,c,hc=>by rw [lev,List.mem_singleton] at hc;subst hc;exact ha
 | t + 1,c,hc=>by rw [lev] at hc;exact (fil_mem.1 hc).2.1
theorem lev_mem {t : Nat} {c : S48} : c ∈ lev w h bl os a (t + 1) ↔ Free w h bl c ∧ Can os (lev w h bl os a t) ((t + 1 : Nat) : Int) c:=by
 rw [lev,fil_mem,cells_mem];exact ⟨fun x=>x.2,fun x=>⟨x.1.1,x⟩⟩
theorem lev_srt : ∀ t,(lev w h bl os a t).Pairwise Bef
 | 0=>by rw [lev];exact List.pairwise_singleton _ _
 | t + 1=>by rw [lev];exact fil_srt (cellsTo_srt _ _)
theorem gdl_srt {e : Nat} : ∀ j,(gdl w h bl os a b e j).Pairwise Bef
 | 0=>by rw [gdl];exact List.pairwise_singleton _ _
 | j + 1=>by rw [gdl];exact fil_srt (lev_srt _)
theorem gi_free (hb : Free w h bl b) {e : Nat} : ∀ {j : Nat} {c : S48},GI w h bl os b e j c → Free w h bl c
 | 0,c,hc=>by obtain rfl : c = b:=hc;exact hb
 | j + 1,c,hc=>by obtain ⟨d,_,hn,_⟩:=hc;exact (nb_iff.1 hn).1
theorem gdl_mem (ha : Free w h bl a) (hb : Free w h bl b) {e : Nat} (he : b ∈ lev w h bl os a e) : ∀ {j : Nat},j ≤ e → ∀ {c : S48},c ∈ gdl w h bl os a b e j ↔ c ∈ lev w h bl os a (e - j) ∧ GI w h bl os b e j c
 | 0,_,c=>by
  rw [gdl,GI,List.mem_singleton]
  exact ⟨fun x=>⟨by rw [x];exact he,x⟩,fun x=>x.2⟩
 | j + 1,hj,c=>by
  rw [gdl,GI,fil_mem]
  have ih := @gdl_mem ha hb e he j (by omega)
  constructor
  ·rintro ⟨hc,d,hd,hn,hh⟩
   exact ⟨hc,d,((ih (c:=d)).1 hd).2,nb_iff.2 ⟨lev_free ha _ c hc,near_comm.1 hn⟩,hh⟩
  ·rintro ⟨hc,d,hd,hn,hh⟩
   refine ⟨hc,d,(ih (c:=d)).2 ⟨?_,hd⟩,near_comm.1 (nb_iff.1 hn).2,hh⟩
   have e1 : e - j = (e - (j + 1)) + 1:=by omega
   rw [e1,lev_mem]
   rw [e1] at hh
   exact ⟨gi_free hb hd,c,hc,near_comm.1 (nb_iff.1 hn).2,hh⟩
theorem end_iff (ha : Free w h bl a) (hb : Free w h bl b) (e : Nat) : b ∈ lev w h bl os a e ↔ GI w h bl os b e e a:=by
 have key : ∀ j,j ≤ e → ((∃ c,c ∈ lev w h bl os a (e - j) ∧ GI w h bl os b e j c) ↔ b ∈ lev w h bl os a e):=by
  intro j
  induction j with
  | zero =>
   intro _;constructor
   ·rintro ⟨c,hc,hg⟩;obtain rfl : c = b:=hg;exact hc
   ·intro hb';exact ⟨b,hb',rfl⟩
  | succ j ih =>
   (intro hj;rw [← ih (by omega)];have e1 : e - j = (e - (j + 1)) + 1:=by omega);constructor
   ·rintro ⟨c,hc,d,hd,hn,hh⟩
    refine ⟨d,?_,hd⟩;rw [e1,lev_mem];rw [e1] at hh;exact ⟨gi_free hb hd,c,hc,near_comm.1 (nb_iff.1 hn).2,hh⟩
   ·rintro ⟨d,hd,hg⟩
    rw [e1,lev_mem] at hd;obtain ⟨hf,c,hc,hn,hh⟩:=hd;rw [← e1] at hh;exact ⟨c,hc,d,hg,nb_iff.2 ⟨lev_free ha _ c hc,near_comm.1 hn⟩,hh⟩
 have:=key e (Nat.le_refl _);rw [Nat.sub_self,lev] at this;rw [← this];constructor
 ·rintro ⟨c,hc,hg⟩;rw [List.mem_singleton] at hc;subst hc;exact hg
 ·intro hg;exact ⟨a,List.mem_singleton.2 rfl,hg⟩
theorem nx_eq (ha : Free w h bl a) (hb : Free w h bl b) {e : Nat} (he : b ∈ lev w h bl os a e) {t : Nat} (ht : t < e) {c : S48} (hc : c ∈ lev w h bl os a t) : nxS w h bl os a b e (t + 1) c = nxI w h bl os b e (t + 1) c:=by
 unfold nxS nxI;refine fnd_eq (gdl_srt _) (nb_srt _ _ _ _) (fun d=>?_);rw [gdl_mem ha hb he (by omega),show e - (e - (t + 1)) = t + 1 from by omega,nb_iff];constructor
 ·rintro ⟨⟨h1,h2⟩,h3,h4⟩;exact ⟨⟨lev_free ha _ d h1,h3⟩,h2,h4⟩
 ·rintro ⟨⟨h1,h2⟩,h3,h4⟩;exact ⟨⟨lev_mem.2 ⟨h1,c,hc,h2,h4⟩,h3⟩,h2,h4⟩
theorem nx_some (ha : Free w h bl a) (hb : Free w h bl b) {e t : Nat} (ht : t < e) {c : S48} (hc : c ∈ lev w h bl os a t) (hg : GI w h bl os b e (e - t) c) : ∃ d,nxI w h bl os b e (t + 1) c = some d ∧ d ∈ lev w h bl os a (t + 1) ∧ GI w h bl os b e (e - (t + 1)) d ∧ Near c d ∧ ¬ HitAt os c d ((t + 1 : Nat) : Int):=by
 (have e1 : e - t = (e - (t + 1)) + 1:=by omega);rw [e1] at hg;obtain ⟨d,hd,hn,hh⟩:=hg;rw [show e - (e - (t + 1)) = t + 1 from by omega] at hh;have hm : d ∈ fil (fun d=>GI w h bl os b e (e - (t + 1)) d ∧ ¬ HitAt os c d ((t + 1 : Nat) : Int)) (nbOf w h bl c):=fil_mem.2 ⟨nb_iff.2 ⟨gi_free hb hd,near_comm.1 (nb_iff.1 hn).2⟩,hd,hh⟩
 cases hf : nxI w h bl os b e (t + 1) c with
 | none =>
  unfold nxI fnd at hf;rw [List.head?_eq_none_iff] at hf;rw [hf] at hm;cases hm
 | some d' =>
  have hf2:=hf;unfold nxI at hf;have hm':=fnd_mem hf;have hnb:=nb_iff.1 hm'.1;exact ⟨d',rfl,lev_mem.2 ⟨hnb.1,c,hc,hnb.2,hm'.2.2⟩,hm'.2.1,hnb.2,hm'.2.2⟩
structure PathI (w h : Int) (bl : List S48) (os : List (List S48)) (a b : S48) (e t : Nat) (p : List S48) : Prop where
 len : p.length = t + 1
 hd : rd_T48 p 0 = a
 on : ∀ s : Nat,s ≤ t → rd_T48 p (s : Int) ∈ lev w h bl os a s ∧ GI w h bl os b e (e - s) (rd_T48 p (s : Int))
 step : ∀ s : Nat,s < t → Near (rd_T48 p (s : Int)) (rd_T48 p ((s + 1 : Nat) : Int)) ∧ ¬ HitAt os (rd_T48 p (s : Int)) (rd_T48 p ((s + 1 : Nat) : Int)) ((s + 1 : Nat) : Int)
theorem rd_app_lt {p : List S48} {c : S48} {i : Nat} (hi : i < p.length) : rd_T48 (p ++ [c]) (i : Int) = rd_T48 p (i : Int):=by
 unfold rd_T48;rw [Int.toNat_natCast,List.getD_eq_getElem?_getD,List.getD_eq_getElem?_getD,List.getElem?_append_left hi]
theorem rd_app_eq {p : List S48} {c : S48} {i : Nat} (hi : i = p.length) : rd_T48 (p ++ [c]) (i : Int) = c:=by
 unfold rd_T48;subst hi;rw [Int.toNat_natCast,List.getD_eq_getElem?_getD,List.getElem?_append_right (Nat.le_refl _),Nat.sub_self];rfl
theorem trace_both (ha : Free w h bl a) (hb : Free w h bl b) {e : Nat} (he : b ∈ lev w h bl os a e) : ∀ t,t ≤ e → ∃ p,trace (nxI w h bl os b e) a t = some p ∧ trace (nxS w h bl os a b e) a t = some p ∧ PathI w h bl os a b e t p
 | 0,_=>⟨[a],rfl,rfl,rfl,rfl,fun s hs=>by
   obtain rfl : s = 0:=by omega
   exact ⟨by rw [lev];exact List.mem_singleton.2 rfl,(end_iff ha hb e).1 he⟩,fun s hs=>by omega⟩
 | t + 1,ht=>by
  obtain ⟨p,h1,h2,hp⟩:=trace_both ha hb he t (by omega)
  obtain ⟨hc,hg⟩:=hp.on t (Nat.le_refl _)
  obtain ⟨d,hd,hl,hgd,hn,hh⟩:=nx_some ha hb (show t < e by omega) hc hg
  refine ⟨p ++ [d],trace_step h1 hd,trace_step h2 (by rw [nx_eq ha hb he (by omega) hc];exact hd),?_,?_,?_,?_⟩
  ·rw [List.length_append,hp.len];rfl
  ·have:=rd_app_lt (c:=d) (i:=0) (p:=p) (by rw [hp.len];omega)
   exact this.trans hp.hd
  ·intro s hs
   by_cases e1 : s = t + 1
   ·subst e1
    rw [rd_app_eq hp.len.symm]
    exact ⟨hl,hgd⟩
   ·rw [rd_app_lt (by rw [hp.len];omega)]
    exact hp.on s (by omega)
  ·intro s hs
   by_cases e1 : s = t
   ·subst e1
    rw [rd_app_eq hp.len.symm,rd_app_lt (by rw [hp.len];omega)]
    exact ⟨hn,hh⟩
   ·rw [rd_app_lt (by rw [hp.len];omega),rd_app_lt (by rw [hp.len];omega)]
    exact hp.step s (by omega)
end
noncomputable def safeP (w h : Int) (bl : List S48) (os : List (List S48)) (a b : S48) : Option (List S48):=chk (HitAt os a a 0) none ((firstN (EndS w h bl os a b) 25 0).bind fun e=>trace (nxS w h bl os a b e) a e)
def EndI (w h : Int) (bl : List S48) (os : List (List S48)) (a b : S48) (e : Nat) : Prop:=(∀ s : Nat,e ≤ s → s ≤ 25 → ¬ ∃ p ∈ os,cat p (s : Int) = b) ∧ GI w h bl os b e e a
noncomputable def safeI (w h : Int) (bl : List S48) (os : List (List S48)) (a b : S48) : Option (List S48):=chk (HitAt os a a 0) none ((firstN (EndI w h bl os a b) 25 0).bind fun e=>trace (nxI w h bl os b e) a e)
theorem cat_last {p : List S48} (h1 : 1 ≤ (p.length : Int)) (h2 : (p.length : Int) ≤ 25) : cat p 25 = cat p 24:=by
 unfold cat mn;rw [if_pos (by omega)];by_cases e : (p.length : Int) - 1 < 24
 ·rw [if_pos e]
 ·rw [if_neg e];congr 1;omega
theorem end_eq {w h : Int} {bl : List S48} {os : List (List S48)} {a b : S48} (ha : Free w h bl a) (hb : Free w h bl b) (ho : ∀ p ∈ os,1 ≤ (p.length : Int) ∧ (p.length : Int) ≤ 25) {e : Nat} (he : e ≤ 24) : EndS w h bl os a b e ↔ EndI w h bl os a b e:=by
 unfold EndS EndI;rw [end_iff ha hb e,and_comm];refine and_congr ⟨fun hr s h0 h1=>?_,fun hr s h0 h1 hh=>hr s h0 (by omega) (hitAt_same.1 hh)⟩ Iff.rfl;rintro ⟨p,hp,hc⟩;by_cases e1 : s = 25
 ·subst e1
  exact hr 24 he (Nat.le_refl _) (hitAt_same.2 ⟨p,hp,by rw [← hc];exact (cat_last (ho p hp).1 (ho p hp).2).symm⟩)
 ·exact hr s h0 (by omega) (hitAt_same.2 ⟨p,hp,hc⟩)
theorem firstN_congr {P Q : Nat → Prop} : ∀ {d t : Nat},(∀ s,t ≤ s → s < t + d → (P s ↔ Q s)) → firstN P d t = firstN Q d t
 | 0,t,_=>rfl
 | d + 1,t,h=>by
  rw [firstN,firstN,chk_congr (h t (Nat.le_refl _) (by omega)),firstN_congr (fun s a b=>h s (by omega) (by omega))]
theorem safe_eq {w h : Int} {bl : List S48} {os : List (List S48)} {a b : S48} (ha : Free w h bl a) (hb : Free w h bl b) (ho : ∀ p ∈ os,1 ≤ (p.length : Int) ∧ (p.length : Int) ≤ 25) : safeI w h bl os a b = safeP w h bl os a b:=by
 unfold safeI safeP;rw [firstN_congr (P:=EndI w h bl os a b) (Q:=EndS w h bl os a b) (fun s _ h1=>(end_eq ha hb ho (by omega)).symm)];congr 1
 cases hf : firstN (EndS w h bl os a b) 25 0 with
 | none=>rfl
 | some e =>
  (obtain ⟨p,h1,h2,_⟩:=trace_both ha hb (firstN_some hf).1.1 e (Nat.le_refl _);show trace _ a e = trace _ a e);rw [h1,h2]
end Go.Proofs.Ytbpccdbkaiigcaa.G

/- The path along falling numbers of steps, as a pure function. -/
namespace Go.Proofs.Ytbpccdbkaiigcaa.G
open Go.RowKit Go.Proofs.YtbpccdbkaiigcaaW.PrintWords Go.Proofs.YtbpccdbkaiigcaaW.PrintLast Go.Proofs.YtbpccdbkaiigcaaW.PrintMore
structure SR (w0 w : World) (fc : Array Value) (g2 b n : Nat) (m : Mp) (v6 : Value) (l : List S48) (vn : Value) (ds : List S48) : Prop where
 fl : w.heap[g2]? = some (.cells fc 29 (0,0))
 mp : MapI w b n m
 mb : w0.heap.size ≤ b
 gb : w0.heap.size ≤ g2
 ln : Kd.R k48 48 w w0.heap.size (fun k=>k ≠ b ∧ k ≠ g2) v6 l
 nb : Kd.R k48 48 w w0.heap.size (fun k=>(k ≠ b ∧ k ≠ g2) ∧ some k ≠ v6.ownBlock) vn ds
 bl : Below w0.heap.size w0 w
theorem SR.below {w0 w w1 : World} {fc : Array Value} {g2 b n : Nat} {m : Mp} {v6 vn : Value} {l ds : List S48} (h : SR w0 w fc g2 b n m v6 l vn ds) (hb : Below w.heap.size w w1) : SR w0 w1 fc g2 b n m v6 l vn ds :=
 ⟨blk_below h.fl hb,h.mp.below hb,h.mb,h.gb,Kd.R_below h.ln hb,Kd.R_below h.nb hb,below_step h.bl hb⟩
theorem SR.put {w0 w w1 : World} {fc : Array Value} {g2 b n n' : Nat} {m m' : Mp} {v6 vn : Value} {l ds : List S48} (h : SR w0 w fc g2 b n m v6 l vn ds) (hm : MapI w1 b n' m') (hg : w.grownBy w1 (some b)) : SR w0 w1 fc g2 b n' m' v6 l vn ds :=
 ⟨(hg.block g2 (blk_lt h.fl) (fun e=>h.mp.cells h.fl (Option.some.inj e).symm)).trans h.fl,hm,h.mb,h.gb,Kd.R_grown h.ln hg (fun k hk e=>hk.1 (Option.some.inj e)),Kd.R_grown h.nb hg (fun k hk e=>hk.1.1 (Option.some.inj e)),h.bl.grown hg h.bl.size (fun k hk=>by cases hk;exact h.mb)⟩
end Go.Proofs.Ytbpccdbkaiigcaa.G

/- The path along falling numbers of steps is the first shortest path. -/
namespace Go.Proofs.Ytbpccdbkaiigcaa.G
open Go.RowKit Go.Proofs.YtbpccdbkaiigcaaW.PrintWords Go.Proofs.YtbpccdbkaiigcaaW.PrintLast
section
variable {w h : Int} {bl : List S48} {a b : S48}
end
noncomputable def safeR (w h : Int) (bl : List S48) (os : List (List S48)) (a b : S48) : List S48 × Bool:=match safeP w h bl os a b with
 | some p=>(p,true)
 | none=>([],false)
theorem safeR_some {w h : Int} {bl : List S48} {os : List (List S48)} {a b : S48} {p : List S48} (e : safeP w h bl os a b = some p) : safeR w h bl os a b = (p,true):=by unfold safeR;rw [e]
theorem safeR_none {w h : Int} {bl : List S48} {os : List (List S48)} {a b : S48} (e : safeP w h bl os a b = none) : safeR w h bl os a b = ([],false):=by unfold safeR;rw [e]
noncomputable def shortR (w h : Int) (bl : List S48) (a b : S48) : List S48 × Bool:=chk (FloorOk w h bl ∧ Free w h bl a ∧ Free w h bl b) (safeR w h bl [] a b) ([],false)
end Go.Proofs.Ytbpccdbkaiigcaa.G
