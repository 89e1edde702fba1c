/- Texts of the proof of FnPaths, joined in build order. -/
import Derived.Test.YtbpccdbkaiigcaaMgFnPaths1
import Derived.IntWalk
import Derived.DeepKeys4
import Derived.Maps.OwnOps
import Derived.Maps.OwnSet
import Derived.Maps.RangeWalk
set_option maxHeartbeats 100000000
set_option maxRecDepth 100000
set_option linter.unusedVariables false
set_option linter.unusedSimpArgs false
namespace Go.Proofs.Ytbpccdbkaiigcaa.G
open Go.RowKit Go.Proofs.YtbpccdbkaiigcaaW.PrintWords Go.Proofs.YtbpccdbkaiigcaaW.PrintLast Go.Proofs.YtbpccdbkaiigcaaW.PrintMore
attribute [local go_sem] max2_int min2_int max_two min_two max_three min_three max_four min_four   -- for this text's walks alone

def spec_l16Free.f (k:Nat) (a0_0:Int) (a0_1:Int) (l0_2:List (S48)) (a1_0:Int) (a1_1:Int):Option (Bool):=(spec_l16Inside.f a0_0 a0_1 l0_2 a1_0 a1_1).bind fun t0=>(if t0 = true then ((spec_l16Blocked.f k a0_0 a0_1 l0_2 a1_0 a1_1).bind fun t1=>(some (!t1))) else (some false))
theorem spec_l16Free.calls (k:Nat) (a0_0:Int) (a0_1:Int) (A0_2:Option Addr) (c0_2:Nat) (l0_2:List (S48)) (a1_0:Int) (a1_1:Int) (r:Bool) (w:World) (hr0_2:Kd.C k48 w A0_2 l0_2.length l0_2) (hc0_2:l0_2.length ≤ c0_2) (h:spec_l16Free.f k a0_0 a0_1 l0_2 a1_0 a1_1 = some r) :
  Calls Try.prog 82 #[.agg #[.int .i64 a0_0,.int .i64 a0_1,.slice A0_2 l0_2.length c0_2],.agg #[.int .i64 a1_0,.int .i64 a1_1]] w fun e w'=>e = .returned (.bool r) ∧ Below w.heap.size w w':=by
 have hu29:=Try.underlying29;have hu48:=Try.underlying48;have HR0_2:=zM hr0_2;have HC0_2:=zM hc0_2;clear hr0_2 hc0_2;have HB:=zM (Below.refl w.heap.size w);have H:((spec_l16Inside.f a0_0 a0_1 l0_2 a1_0 a1_1).bind fun t0=>(if t0 = true then ((spec_l16Blocked.f k a0_0 a0_1 l0_2 a1_0 a1_1).bind fun t1=>(some (!t1))) else (some false))) = some r:=h;clear h;replace H:=Option.bind_eq_some_iff.mp H;obtain ⟨t0,A30,H⟩:=H;replace H:(if t0 = true then ((spec_l16Blocked.f k a0_0 a0_1 l0_2 a1_0 a1_1).bind fun t1=>(some (!t1))) else (some false)) = some r:=H;have A3:=zM A30;clear A30;by_cases c4:t0 = true
 ·subst c4
  (have H1:((spec_l16Blocked.f k a0_0 a0_1 l0_2 a1_0 a1_1).bind fun t1=>(some (!t1))) = some r:=by rw [if_pos rfl] at H;exact H);clear H;have H:=H1;clear H1;replace H:=Option.bind_eq_some_iff.mp H;obtain ⟨t1,A50,H⟩:=H;replace H:(some (!t1)) = some r:=H;have A5:=zM A50;clear A50;obtain rfl:=Option.some.inj H;go_enter Try.func82,Try.ntmps82;go_wp2_with (first|((with_reducible refine gate_dst (N:=2) rfl ?_);refine zzc 2 #[.int .i64 a0_0,.int .i64 a0_1,.slice A0_2 l0_2.length c0_2] 29 ?_;intro gb2 hg w6 hbox hb;have BK2:= zM (hbox);have GW2:= zM ((zq94:w.heap.size ≤ gb2));have GE2:= zM ((zq94:w.heap.size ≤ gb2));replace HB:= zM (zQ zzh hb);clear hb hbox hg)|((with_reducible refine gate_dst (N:=3) rfl ?_);refine zzc 3 #[.int .i64 a1_0,.int .i64 a1_1] 48 ?_;intro gb3 hg w7 hbox hb;have BK3:= zM (hbox);have GW3:= zM ((zq94:w.heap.size ≤ gb3));have GE3:= zM ((zq94:w.heap.size ≤ gb3));replace HB:= zM (zQ zzh hb);have NB2_3:= zM ((zzm hg (zzi BK2):gb2 ≠ gb3));have NB3_2:= zM ((zzM hg (zzi BK2):gb3 ≠ gb2));replace BK2:= zM (blk_below (zzi BK2) hb);clear hb hbox hg;have hnb8:=NB2_3.out;have hnc8:=NB3_2.out;have hcz9_0:=zz0 BK2;have hcz9_1:=zz1 BK2;have hcz9_2:=zz2 BK2;have hfz9_0:=blk_frozen BK2.out 0;have hfz9_1:=blk_frozen BK2.out 1;have hfz9_2:=blk_frozen BK2.out 2;have hcz10_0:=zz0 BK3;have hcz10_1:=zz1 BK3;have hfz10_0:=blk_frozen BK3.out 0;have hfz10_1:=blk_frozen BK3.out 1)|((with_reducible refine gate_callee (f:=81) rfl ?_);refine goesL_ (some 7) rfl rfl Try.func81 (by kernel_rfl) rfl #[.agg #[.int .i64 a0_0,.int .i64 a0_1,.slice A0_2 l0_2.length c0_2],.agg #[.int .i64 a1_0,.int .i64 a1_1]] rfl zq77 ?_;(with_reducible refine (spec_l16Inside.calls a0_0 a0_1 _ _ l0_2 a1_0 a1_1 true _ ?side1 ?side2 A3.out).mono ?_);(case side1=>repeat (first|exact (zO HR0_2.out HB.out)|(with_reducible first|refine zG ?_ _|refine zH ?_ _|refine zI ?_)));(case side2=>exact HC0_2.out);rintro e w11 ⟨rfl,hb⟩;refine ⟨_,rfl,?_⟩;replace BK2:= zM (blk_below (zzi BK2) hb);replace BK3:= zM (blk_below (zzi BK3) hb);replace HB:= zM (zQ zzh hb);(try clear hb);(try clear hb2);(try clear hk);(try clear hi);have hcz12_0:=zz0 BK2;have hcz12_1:=zz1 BK2;have hcz12_2:=zz2 BK2;have hfz12_0:=blk_frozen BK2.out 0;have hfz12_1:=blk_frozen BK2.out 1;have hfz12_2:=blk_frozen BK2.out 2;have hcz13_0:=zz0 BK3;have hcz13_1:=zz1 BK3;have hfz13_0:=blk_frozen BK3.out 0;have hfz13_1:=blk_frozen BK3.out 1)|(go_at_call 96;(with_reducible refine (spec_l16Blocked.calls k a0_0 a0_1 _ _ l0_2 a1_0 a1_1 t1 _ ?side1 ?side2 A5.out).mono ?_);(case side1=>repeat (first|exact (zO HR0_2.out HB.out)|(with_reducible first|refine zG ?_ _|refine zH ?_ _|refine zI ?_)));(case side2=>exact HC0_2.out);rintro e w14 ⟨rfl,hb⟩;replace BK2:= zM (blk_below (zzi BK2) hb);replace BK3:= zM (blk_below (zzi BK3) hb);replace HB:= zM (zQ zzh hb);(try clear hb);(try clear hb2);(try clear hk);(try clear hi)))
  go_ret;exact ⟨zq84,zzh⟩
 ·replace c4:=Bool.eq_false_iff.mpr c4
  subst c4;have H1:(some false) = some r:=by rw [if_neg (show ¬ (false = true) by decide)] at H;exact H
  clear H;have H:=H1;clear H1;obtain rfl:=Option.some.inj H;go_enter Try.func82,Try.ntmps82;go_wp2_with (first|((with_reducible refine gate_dst (N:=2) rfl ?_);refine zzc 2 #[.int .i64 a0_0,.int .i64 a0_1,.slice A0_2 l0_2.length c0_2] 29 ?_;intro gb2 hg w15 hbox hb;have BK2:= zM (hbox);have GW2:= zM ((zq94:w.heap.size ≤ gb2));have GE2:= zM ((zq94:w.heap.size ≤ gb2));replace HB:= zM (zQ zzh hb);clear hb hbox hg)|((with_reducible refine gate_dst (N:=3) rfl ?_);refine zzc 3 #[.int .i64 a1_0,.int .i64 a1_1] 48 ?_;intro gb3 hg w16 hbox hb;have BK3:= zM (hbox);have GW3:= zM ((zq94:w.heap.size ≤ gb3));have GE3:= zM ((zq94:w.heap.size ≤ gb3));replace HB:= zM (zQ zzh hb);have NB2_3:= zM ((zzm hg (zzi BK2):gb2 ≠ gb3));have NB3_2:= zM ((zzM hg (zzi BK2):gb3 ≠ gb2));replace BK2:= zM (blk_below (zzi BK2) hb);clear hb hbox hg;have hnb17:=NB2_3.out;have hnc17:=NB3_2.out;have hcz18_0:=zz0 BK2;have hcz18_1:=zz1 BK2;have hcz18_2:=zz2 BK2;have hfz18_0:=blk_frozen BK2.out 0;have hfz18_1:=blk_frozen BK2.out 1;have hfz18_2:=blk_frozen BK2.out 2;have hcz19_0:=zz0 BK3;have hcz19_1:=zz1 BK3;have hfz19_0:=blk_frozen BK3.out 0;have hfz19_1:=blk_frozen BK3.out 1)|((with_reducible refine gate_callee (f:=81) rfl ?_);refine goesL_ (some 7) rfl rfl Try.func81 (by kernel_rfl) rfl #[.agg #[.int .i64 a0_0,.int .i64 a0_1,.slice A0_2 l0_2.length c0_2],.agg #[.int .i64 a1_0,.int .i64 a1_1]] rfl zq77 ?_;(with_reducible refine (spec_l16Inside.calls a0_0 a0_1 _ _ l0_2 a1_0 a1_1 false _ ?side1 ?side2 A3.out).mono ?_);(case side1=>repeat (first|exact (zO HR0_2.out HB.out)|(with_reducible first|refine zG ?_ _|refine zH ?_ _|refine zI ?_)));(case side2=>exact HC0_2.out);rintro e w20 ⟨rfl,hb⟩;refine ⟨_,rfl,?_⟩;replace BK2:= zM (blk_below (zzi BK2) hb);replace BK3:= zM (blk_below (zzi BK3) hb);replace HB:= zM (zQ zzh hb);(try clear hb);(try clear hb2);(try clear hk);(try clear hi)))
  go_ret;exact ⟨zq84,zzh⟩



def spec_l16Asked.f (k:Nat) (a0_0:Int) (a0_1:Int) (l0_2:List (S48)) (a1_0:Int) (a1_1:Int) (a2_0:Int) (a2_1:Int):Option (Bool):=(spec_l16Good.f k a0_0 a0_1 l0_2).bind fun t0=>(if t0 = true then ((spec_l16Free.f k a0_0 a0_1 l0_2 a1_0 a1_1).bind fun t1=>(if t1 = true then ((spec_l16Free.f k a0_0 a0_1 l0_2 a2_0 a2_1).bind fun t2=>(some t2)) else (some false))) else (some false))
theorem spec_l16Asked.calls (k:Nat) (a0_0:Int) (a0_1:Int) (A0_2:Option Addr) (c0_2:Nat) (l0_2:List (S48)) (a1_0:Int) (a1_1:Int) (a2_0:Int) (a2_1:Int) (r:Bool) (w:World) (hr0_2:Kd.C k48 w A0_2 l0_2.length l0_2) (hc0_2:l0_2.length ≤ c0_2) (h:spec_l16Asked.f k a0_0 a0_1 l0_2 a1_0 a1_1 a2_0 a2_1 = some r) :
  Calls Try.prog 63 #[.agg #[.int .i64 a0_0,.int .i64 a0_1,.slice A0_2 l0_2.length c0_2],.agg #[.int .i64 a1_0,.int .i64 a1_1],.agg #[.int .i64 a2_0,.int .i64 a2_1]] w fun e w'=>e = .returned (.bool r) ∧ Below w.heap.size w w':=by
 have hu29:=Try.underlying29;have hu48:=Try.underlying48;have HR0_2:=zM hr0_2;have HC0_2:=zM hc0_2;clear hr0_2 hc0_2;have HB:=zM (Below.refl w.heap.size w);have H:((spec_l16Good.f k a0_0 a0_1 l0_2).bind fun t0=>(if t0 = true then ((spec_l16Free.f k a0_0 a0_1 l0_2 a1_0 a1_1).bind fun t1=>(if t1 = true then ((spec_l16Free.f k a0_0 a0_1 l0_2 a2_0 a2_1).bind fun t2=>(some t2)) else (some false))) else (some false))) = some r:=h;clear h;replace H:=Option.bind_eq_some_iff.mp H;obtain ⟨t0,A40,H⟩:=H;replace H:(if t0 = true then ((spec_l16Free.f k a0_0 a0_1 l0_2 a1_0 a1_1).bind fun t1=>(if t1 = true then ((spec_l16Free.f k a0_0 a0_1 l0_2 a2_0 a2_1).bind fun t2=>(some t2)) else (some false))) else (some false)) = some r:=H;have A4:=zM A40;clear A40;by_cases c5:t0 = true
 ·subst c5
  (have H1:((spec_l16Free.f k a0_0 a0_1 l0_2 a1_0 a1_1).bind fun t1=>(if t1 = true then ((spec_l16Free.f k a0_0 a0_1 l0_2 a2_0 a2_1).bind fun t2=>(some t2)) else (some false))) = some r:=by rw [if_pos rfl] at H;exact H);clear H;have H:=H1;clear H1;replace H:=Option.bind_eq_some_iff.mp H;obtain ⟨t1,A60,H⟩:=H;replace H:(if t1 = true then ((spec_l16Free.f k a0_0 a0_1 l0_2 a2_0 a2_1).bind fun t2=>(some t2)) else (some false)) = some r:=H;have A6:=zM A60;clear A60;by_cases c7:t1 = true
  ·subst c7
   (have H1:((spec_l16Free.f k a0_0 a0_1 l0_2 a2_0 a2_1).bind fun t2=>(some t2)) = some r:=by rw [if_pos rfl] at H;exact H);clear H;have H:=H1;clear H1;replace H:=Option.bind_eq_some_iff.mp H;obtain ⟨t2,A80,H⟩:=H;replace H:(some t2) = some r:=H;have A8:=zM A80;clear A80;obtain rfl:=Option.some.inj H;go_enter Try.func63,Try.ntmps63;go_wp2_with (first|((with_reducible refine gate_dst (N:=3) rfl ?_);refine zzc 3 #[.int .i64 a0_0,.int .i64 a0_1,.slice A0_2 l0_2.length c0_2] 29 ?_;intro gb3 hg w9 hbox hb;have BK3:= zM (hbox);have GW3:= zM ((zq94:w.heap.size ≤ gb3));have GE3:= zM ((zq94:w.heap.size ≤ gb3));replace HB:= zM (zQ zzh hb);clear hb hbox hg)|((with_reducible refine gate_dst (N:=4) rfl ?_);refine zzc 4 #[.int .i64 a1_0,.int .i64 a1_1] 48 ?_;intro gb4 hg w10 hbox hb;have BK4:= zM (hbox);have GW4:= zM ((zq94:w.heap.size ≤ gb4));have GE4:= zM ((zq94:w.heap.size ≤ gb4));replace HB:= zM (zQ zzh hb);have NB3_4:= zM ((zzm hg (zzi BK3):gb3 ≠ gb4));have NB4_3:= zM ((zzM hg (zzi BK3):gb4 ≠ gb3));replace BK3:= zM (blk_below (zzi BK3) hb);clear hb hbox hg)|((with_reducible refine gate_dst (N:=5) rfl ?_);refine zzc 5 #[.int .i64 a2_0,.int .i64 a2_1] 48 ?_;intro gb5 hg w11 hbox hb;have BK5:= zM (hbox);have GW5:= zM ((zq94:w.heap.size ≤ gb5));have GE5:= zM ((zq94:w.heap.size ≤ gb5));replace HB:= zM (zQ zzh hb);have NB3_5:= zM ((zzm hg (zzi BK3):gb3 ≠ gb5));have NB5_3:= zM ((zzM hg (zzi BK3):gb5 ≠ gb3));replace BK3:= zM (blk_below (zzi BK3) hb);have NB4_5:= zM ((zzm hg (zzi BK4):gb4 ≠ gb5));have NB5_4:= zM ((zzM hg (zzi BK4):gb5 ≠ gb4));replace BK4:= zM (blk_below (zzi BK4) hb);clear hb hbox hg;have hnb12:=NB3_4.out;have hnc12:=NB4_3.out;have hnb13:=NB3_5.out;have hnc13:=NB5_3.out;have hcz14_0:=zz0 BK3;have hcz14_1:=zz1 BK3;have hcz14_2:=zz2 BK3;have hfz14_0:=blk_frozen BK3.out 0;have hfz14_1:=blk_frozen BK3.out 1;have hfz14_2:=blk_frozen BK3.out 2)|((with_reducible refine gate_callee (f:=53) rfl ?_);refine goesL_ (some 8) rfl rfl Try.func53 (by kernel_rfl) rfl #[.agg #[.int .i64 a0_0,.int .i64 a0_1,.slice A0_2 l0_2.length c0_2]] rfl zq77 ?_;(with_reducible refine (spec_l16Good.calls k a0_0 a0_1 _ _ l0_2 true _ ?side1 ?side2 A4.out).mono ?_);(case side1=>repeat (first|exact (zO HR0_2.out HB.out)|(with_reducible first|refine zG ?_ _|refine zH ?_ _|refine zI ?_)));(case side2=>exact HC0_2.out);rintro e w15 ⟨rfl,hb⟩;refine ⟨_,rfl,?_⟩;replace BK3:= zM (blk_below (zzi BK3) hb);replace BK4:= zM (blk_below (zzi BK4) hb);replace BK5:= zM (blk_below (zzi BK5) hb);replace HB:= zM (zQ zzh hb);(try clear hb);(try clear hb2);(try clear hk);(try clear hi);have hcz16_0:=zz0 BK3;have hcz16_1:=zz1 BK3;have hcz16_2:=zz2 BK3;have hfz16_0:=blk_frozen BK3.out 0;have hfz16_1:=blk_frozen BK3.out 1;have hfz16_2:=blk_frozen BK3.out 2;have hnb17:=NB4_5.out;have hnc17:=NB5_4.out;have hcz18_0:=zz0 BK4;have hcz18_1:=zz1 BK4;have hfz18_0:=blk_frozen BK4.out 0;have hfz18_1:=blk_frozen BK4.out 1)|(go_at_call 82;(with_reducible refine (spec_l16Free.calls k a0_0 a0_1 _ _ l0_2 a1_0 a1_1 true _ ?side1 ?side2 A6.out).mono ?_);(case side1=>repeat (first|exact (zO HR0_2.out HB.out)|(with_reducible first|refine zG ?_ _|refine zH ?_ _|refine zI ?_)));(case side2=>exact HC0_2.out);rintro e w19 ⟨rfl,hb⟩;replace BK3:= zM (blk_below (zzi BK3) hb);replace BK4:= zM (blk_below (zzi BK4) hb);replace BK5:= zM (blk_below (zzi BK5) hb);replace HB:= zM (zQ zzh hb);(try clear hb);(try clear hb2);(try clear hk);(try clear hi);have hcz20_0:=zz0 BK3;have hcz20_1:=zz1 BK3;have hcz20_2:=zz2 BK3;have hfz20_0:=blk_frozen BK3.out 0;have hfz20_1:=blk_frozen BK3.out 1;have hfz20_2:=blk_frozen BK3.out 2;have hcz21_0:=zz0 BK5;have hcz21_1:=zz1 BK5;have hfz21_0:=blk_frozen BK5.out 0;have hfz21_1:=blk_frozen BK5.out 1)|(go_at_call 82;(with_reducible refine (spec_l16Free.calls k a0_0 a0_1 _ _ l0_2 a2_0 a2_1 t2 _ ?side1 ?side2 A8.out).mono ?_);(case side1=>repeat (first|exact (zO HR0_2.out HB.out)|(with_reducible first|refine zG ?_ _|refine zH ?_ _|refine zI ?_)));(case side2=>exact HC0_2.out);rintro e w22 ⟨rfl,hb⟩;replace BK3:= zM (blk_below (zzi BK3) hb);replace BK4:= zM (blk_below (zzi BK4) hb);replace BK5:= zM (blk_below (zzi BK5) hb);replace HB:= zM (zQ zzh hb);(try clear hb);(try clear hb2);(try clear hk);(try clear hi)))
   go_ret;exact ⟨zq84,zzh⟩
  ·replace c7:=Bool.eq_false_iff.mpr c7
   subst c7;have H1:(some false) = some r:=by rw [if_neg (show ¬ (false = true) by decide)] at H;exact H
   clear H;have H:=H1;clear H1;obtain rfl:=Option.some.inj H;go_enter Try.func63,Try.ntmps63;go_wp2_with (first|((with_reducible refine gate_dst (N:=3) rfl ?_);refine zzc 3 #[.int .i64 a0_0,.int .i64 a0_1,.slice A0_2 l0_2.length c0_2] 29 ?_;intro gb3 hg w23 hbox hb;have BK3:= zM (hbox);have GW3:= zM ((zq94:w.heap.size ≤ gb3));have GE3:= zM ((zq94:w.heap.size ≤ gb3));replace HB:= zM (zQ zzh hb);clear hb hbox hg)|((with_reducible refine gate_dst (N:=4) rfl ?_);refine zzc 4 #[.int .i64 a1_0,.int .i64 a1_1] 48 ?_;intro gb4 hg w24 hbox hb;have BK4:= zM (hbox);have GW4:= zM ((zq94:w.heap.size ≤ gb4));have GE4:= zM ((zq94:w.heap.size ≤ gb4));replace HB:= zM (zQ zzh hb);have NB3_4:= zM ((zzm hg (zzi BK3):gb3 ≠ gb4));have NB4_3:= zM ((zzM hg (zzi BK3):gb4 ≠ gb3));replace BK3:= zM (blk_below (zzi BK3) hb);clear hb hbox hg)|((with_reducible refine gate_dst (N:=5) rfl ?_);refine zzc 5 #[.int .i64 a2_0,.int .i64 a2_1] 48 ?_;intro gb5 hg w25 hbox hb;have BK5:= zM (hbox);have GW5:= zM ((zq94:w.heap.size ≤ gb5));have GE5:= zM ((zq94:w.heap.size ≤ gb5));replace HB:= zM (zQ zzh hb);have NB3_5:= zM ((zzm hg (zzi BK3):gb3 ≠ gb5));have NB5_3:= zM ((zzM hg (zzi BK3):gb5 ≠ gb3));replace BK3:= zM (blk_below (zzi BK3) hb);have NB4_5:= zM ((zzm hg (zzi BK4):gb4 ≠ gb5));have NB5_4:= zM ((zzM hg (zzi BK4):gb5 ≠ gb4));replace BK4:= zM (blk_below (zzi BK4) hb);clear hb hbox hg;have hnb26:=NB3_4.out;have hnc26:=NB4_3.out;have hnb27:=NB3_5.out;have hnc27:=NB5_3.out;have hcz28_0:=zz0 BK3;have hcz28_1:=zz1 BK3;have hcz28_2:=zz2 BK3;have hfz28_0:=blk_frozen BK3.out 0;have hfz28_1:=blk_frozen BK3.out 1;have hfz28_2:=blk_frozen BK3.out 2)|((with_reducible refine gate_callee (f:=53) rfl ?_);refine goesL_ (some 8) rfl rfl Try.func53 (by kernel_rfl) rfl #[.agg #[.int .i64 a0_0,.int .i64 a0_1,.slice A0_2 l0_2.length c0_2]] rfl zq77 ?_;(with_reducible refine (spec_l16Good.calls k a0_0 a0_1 _ _ l0_2 true _ ?side1 ?side2 A4.out).mono ?_);(case side1=>repeat (first|exact (zO HR0_2.out HB.out)|(with_reducible first|refine zG ?_ _|refine zH ?_ _|refine zI ?_)));(case side2=>exact HC0_2.out);rintro e w29 ⟨rfl,hb⟩;refine ⟨_,rfl,?_⟩;replace BK3:= zM (blk_below (zzi BK3) hb);replace BK4:= zM (blk_below (zzi BK4) hb);replace BK5:= zM (blk_below (zzi BK5) hb);replace HB:= zM (zQ zzh hb);(try clear hb);(try clear hb2);(try clear hk);(try clear hi);have hcz30_0:=zz0 BK3;have hcz30_1:=zz1 BK3;have hcz30_2:=zz2 BK3;have hfz30_0:=blk_frozen BK3.out 0;have hfz30_1:=blk_frozen BK3.out 1;have hfz30_2:=blk_frozen BK3.out 2;have hnb31:=NB4_5.out;have hnc31:=NB5_4.out;have hcz32_0:=zz0 BK4;have hcz32_1:=zz1 BK4;have hfz32_0:=blk_frozen BK4.out 0;have hfz32_1:=blk_frozen BK4.out 1)|(go_at_call 82;(with_reducible refine (spec_l16Free.calls k a0_0 a0_1 _ _ l0_2 a1_0 a1_1 false _ ?side1 ?side2 A6.out).mono ?_);(case side1=>repeat (first|exact (zO HR0_2.out HB.out)|(with_reducible first|refine zG ?_ _|refine zH ?_ _|refine zI ?_)));(case side2=>exact HC0_2.out);rintro e w33 ⟨rfl,hb⟩;replace BK3:= zM (blk_below (zzi BK3) hb);replace BK4:= zM (blk_below (zzi BK4) hb);replace BK5:= zM (blk_below (zzi BK5) hb);replace HB:= zM (zQ zzh hb);(try clear hb);(try clear hb2);(try clear hk);(try clear hi)))
   go_ret;exact ⟨zq84,zzh⟩
 ·replace c5:=Bool.eq_false_iff.mpr c5
  subst c5;have H1:(some false) = some r:=by rw [if_neg (show ¬ (false = true) by decide)] at H;exact H
  clear H;have H:=H1;clear H1;obtain rfl:=Option.some.inj H;go_enter Try.func63,Try.ntmps63;go_wp2_with (first|((with_reducible refine gate_dst (N:=3) rfl ?_);refine zzc 3 #[.int .i64 a0_0,.int .i64 a0_1,.slice A0_2 l0_2.length c0_2] 29 ?_;intro gb3 hg w34 hbox hb;have BK3:= zM (hbox);have GW3:= zM ((zq94:w.heap.size ≤ gb3));have GE3:= zM ((zq94:w.heap.size ≤ gb3));replace HB:= zM (zQ zzh hb);clear hb hbox hg)|((with_reducible refine gate_dst (N:=4) rfl ?_);refine zzc 4 #[.int .i64 a1_0,.int .i64 a1_1] 48 ?_;intro gb4 hg w35 hbox hb;have BK4:= zM (hbox);have GW4:= zM ((zq94:w.heap.size ≤ gb4));have GE4:= zM ((zq94:w.heap.size ≤ gb4));replace HB:= zM (zQ zzh hb);have NB3_4:= zM ((zzm hg (zzi BK3):gb3 ≠ gb4));have NB4_3:= zM ((zzM hg (zzi BK3):gb4 ≠ gb3));replace BK3:= zM (blk_below (zzi BK3) hb);clear hb hbox hg)|((with_reducible refine gate_dst (N:=5) rfl ?_);refine zzc 5 #[.int .i64 a2_0,.int .i64 a2_1] 48 ?_;intro gb5 hg w36 hbox hb;have BK5:= zM (hbox);have GW5:= zM ((zq94:w.heap.size ≤ gb5));have GE5:= zM ((zq94:w.heap.size ≤ gb5));replace HB:= zM (zQ zzh hb);have NB3_5:= zM ((zzm hg (zzi BK3):gb3 ≠ gb5));have NB5_3:= zM ((zzM hg (zzi BK3):gb5 ≠ gb3));replace BK3:= zM (blk_below (zzi BK3) hb);have NB4_5:= zM ((zzm hg (zzi BK4):gb4 ≠ gb5));have NB5_4:= zM ((zzM hg (zzi BK4):gb5 ≠ gb4));replace BK4:= zM (blk_below (zzi BK4) hb);clear hb hbox hg;have hnb37:=NB3_4.out;have hnc37:=NB4_3.out;have hnb38:=NB3_5.out;have hnc38:=NB5_3.out;have hcz39_0:=zz0 BK3;have hcz39_1:=zz1 BK3;have hcz39_2:=zz2 BK3;have hfz39_0:=blk_frozen BK3.out 0;have hfz39_1:=blk_frozen BK3.out 1;have hfz39_2:=blk_frozen BK3.out 2)|((with_reducible refine gate_callee (f:=53) rfl ?_);refine goesL_ (some 8) rfl rfl Try.func53 (by kernel_rfl) rfl #[.agg #[.int .i64 a0_0,.int .i64 a0_1,.slice A0_2 l0_2.length c0_2]] rfl zq77 ?_;(with_reducible refine (spec_l16Good.calls k a0_0 a0_1 _ _ l0_2 false _ ?side1 ?side2 A4.out).mono ?_);(case side1=>repeat (first|exact (zO HR0_2.out HB.out)|(with_reducible first|refine zG ?_ _|refine zH ?_ _|refine zI ?_)));(case side2=>exact HC0_2.out);rintro e w40 ⟨rfl,hb⟩;refine ⟨_,rfl,?_⟩;replace BK3:= zM (blk_below (zzi BK3) hb);replace BK4:= zM (blk_below (zzi BK4) hb);replace BK5:= zM (blk_below (zzi BK5) hb);replace HB:= zM (zQ zzh hb);(try clear hb);(try clear hb2);(try clear hk);(try clear hi)))
  go_ret;exact ⟨zq84,zzh⟩

end Go.Proofs.Ytbpccdbkaiigcaa.G

namespace Go.Proofs.Ytbpccdbkaiigcaa.G
open Go.RowKit Go.Proofs.YtbpccdbkaiigcaaW.PrintWords Go.Proofs.YtbpccdbkaiigcaaW.PrintLast
theorem Ev.ite {α : Type} {c : Prop} [Decidable c] {A B : Nat → Option α} {r : α} (h1 : c → Ev A r) (h2 : ¬ c → Ev B r) : Ev (fun k=>if c then A k else B k) r:=by
 by_cases h : c
 ·simpa only [if_pos h] using h1 h
 ·simpa only [if_neg h] using h2 h
theorem Ev.val {α : Type} {v r : α} (h : v = r) : Ev (fun _=>some v) r:=by rw [h];exact Ev.now r
theorem Ev.eq {α : Type} {g : Nat → Option α} {r r' : α} (h : Ev g r) (e : r = r') : Ev g r':=e ▸ h
theorem wrap64_id {x : Int} (h1 : -9223372036854775808 ≤ x) (h2 : x ≤ 9223372036854775807) : wrap64 x = x:=IntWalk.wrap64_in x ⟨h1,h2⟩
theorem wf_iff {x : Int} : (Lit.int .i64 x).wf = true ↔ -9223372036854775808 ≤ x ∧ x ≤ 9223372036854775807:=by
 have e : (Lit.int .i64 x).wf = (decide (-9223372036854775808 ≤ x) && decide (x ≤ 9223372036854775807)):=rfl;rw [e];simp
def All (P : Int → Prop) (i n : Int) : Prop := ∀ j,i ≤ j → j < n → P j
theorem All.end_ (P : Int → Prop) (n : Int) : All P n n:=fun j h1 h2=>by omega
theorem All.step {P : Int → Prop} {i n : Int} (h : i < n) : All P i n ↔ P i ∧ All P (i + 1) n:=by
 constructor
 ·intro a
  exact ⟨a i (Int.le_refl _) h,fun j h1 h2=>a j (by omega) h2⟩
 ·rintro ⟨p,a⟩ j h1 h2
  by_cases e : j = i
  ·rw [e];exact p
  ·exact a j (by omega) h2
noncomputable def chk {β : Type} (p : Prop) (a b : β) : β := @ite β p (Classical.propDecidable p) a b
theorem chk_pos {β : Type} {p : Prop} (h : p) (a b : β) : chk p a b = a:=by unfold chk;exact if_pos h
theorem chk_neg {β : Type} {p : Prop} (h : ¬ p) (a b : β) : chk p a b = b:=by unfold chk;exact if_neg h
theorem chk_congr {β : Type} {p q : Prop} (h : p ↔ q) (a b : β) : chk p a b = chk q a b:=by rw [propext h]
theorem chk_true {p : Prop} : chk p true false = true ↔ p:=by
 by_cases h : p
 ·rw [chk_pos h];exact ⟨fun _=>h,fun _=>rfl⟩
 ·rw [chk_neg h];exact ⟨(fun e=>by cases e),(fun e=>absurd e h)⟩
theorem chk_and {β : Type} {p q : Prop} (a b : β) : chk p (chk q a b) b = chk (p ∧ q) a b:=by
 by_cases h : p
 ·rw [chk_pos h]
  exact chk_congr ⟨fun x=>⟨h,x⟩,fun x=>x.2⟩ _ _
 ·rw [chk_neg h,chk_neg (fun x=>h x.1)]
theorem Ev.up {σ β : Type} (g : Nat → σ → Int → Option β) (R : σ → Int → β) (I : σ → Int → Prop) (n : Int)
  (hend : ∀ s,I s n → Ev (fun k=>g k s n) (R s n))
  (hstep : ∀ s i,I s i → i < n → (∀ s',I s' (i + 1) → Ev (fun k=>g k s' (i + 1)) (R s' (i + 1))) → Ev (fun k=>g k s i) (R s i)) :
  ∀ s i,I s i → i ≤ n → Ev (fun k=>g k s i) (R s i):=by
 have main : ∀ (d : Nat) s i,I s i → i + d = n → Ev (fun k=>g k s i) (R s i):=by
  intro d
  induction d with
  | zero =>
   (intro s i hI hd;obtain rfl : i = n:=by omega);exact hend s hI
  | succ d ih=>intro s i hI hd;exact hstep s i hI (by omega) (fun s' hI'=>ih s' (i + 1) hI' (by omega))
 intro s i hI hi;exact main (n - i).toNat s i hI (by omega)
theorem Ev.check {β : Type} (g : Nat → Int → Option β) (n : Int) (P : Int → Prop) (r0 r1 : β) (i0 : Int)
  (hend : Ev (fun k=>g k n) r0)
  (hstep : ∀ i,i0 ≤ i → i < n → ∀ r,Ev (fun k=>g k (i + 1)) r → Ev (fun k=>g k i) (chk (P i) r r1)) :
  ∀ i,i0 ≤ i → i ≤ n → Ev (fun k=>g k i) (chk (All P i n) r0 r1):=by
 intro i h0 hi;refine Ev.up (fun k (_ : Unit) i=>g k i) (fun _ i=>chk (All P i n) r0 r1) (fun _ i=>i0 ≤ i) n (fun _ _=>?_) (fun _ i h0 hlt ih=>?_) () i h0 hi
 ·rw [chk_pos (All.end_ P n)];exact hend
 ·have:=hstep i h0 hlt _ (ih () (by omega))
  rw [chk_and,chk_congr (All.step hlt).symm] at this;exact this
theorem Ev.upc {β : Type} (g : Nat → Int → Option β) (r : β) (n i0 : Int) (hend : Ev (fun k=>g k n) r) (hstep : ∀ i,i0 ≤ i → i < n → Ev (fun k=>g k (i + 1)) r → Ev (fun k=>g k i) r) :
  ∀ i,i0 ≤ i → i ≤ n → Ev (fun k=>g k i) r:=by
 intro i h0 hi;exact Ev.up (fun k (_ : Unit) i=>g k i) (fun _ _=>r) (fun _ i=>i0 ≤ i) n (fun _ _=>hend) (fun _ i h0 hlt ih=>hstep i h0 hlt (ih () (by omega))) () i h0 hi
end Go.Proofs.Ytbpccdbkaiigcaa.G

namespace Go.Proofs.Ytbpccdbkaiigcaa.G
open Go.RowKit Go.Proofs.YtbpccdbkaiigcaaW.PrintWords Go.Proofs.YtbpccdbkaiigcaaW.PrintLast Go.Proofs.YtbpccdbkaiigcaaW.PrintMore
attribute [local go_sem] max2_int min2_int max_two min_two max_three min_three max_four min_four   -- for this text's walks alone

def spec_l1Most.f (a0:Int) (a1:Int):Option (Int):=if a0 > a1 then (some a0) else (some a1)
theorem spec_l1Most.calls (a0:Int) (a1:Int) (r:Int) (w:World) (h:spec_l1Most.f a0 a1 = some r) :
  Calls Try.prog 86 #[.int .i64 a0,.int .i64 a1] w fun e w'=>e = .returned (.int .i64 r) ∧ Drawn0 w w':=by
 have H:(if a0 > a1 then (some a0) else (some a1)) = some r:=h;clear h;by_cases c3:a0 > a1
 ·rw [if_pos c3] at H
  have c3b0:decide (a1 < a0) = true:=decide_eq_true c3;clear c3;obtain rfl:=Option.some.inj H;go_enter Try.func86,Try.ntmps86;go_wp2;go_ret;exact ⟨zq91,zq89⟩
 ·rw [if_neg c3] at H
  have c3b0:decide (a1 < a0) = false:=decide_eq_false c3;clear c3;obtain rfl:=Option.some.inj H;go_enter Try.func86,Try.ntmps86;go_wp2;go_ret;exact ⟨zq91,zq89⟩

end Go.Proofs.Ytbpccdbkaiigcaa.G

namespace Go.Proofs.Ytbpccdbkaiigcaa.G
open Go.RowKit Go.Proofs.YtbpccdbkaiigcaaW.PrintWords Go.Proofs.YtbpccdbkaiigcaaW.PrintLast
theorem impl_within_eq (a b c : Int) : impl_within.f a b c = some (decide (b ≤ a ∧ a ≤ c)):=by
 unfold impl_within.f;split
 ·rename_i h;congr 1;simp;omega
 ·rename_i h;congr 1;simp;omega
theorem spec_l1In_eq (a b c : Int) : spec_l1In.f a b c = some (decide (b ≤ a ∧ a ≤ c)):=by
 unfold spec_l1In.f;split
 ·rename_i h;congr 1;simp;omega
 ·rename_i h;congr 1;simp;omega
theorem spec_most_eq (a b : Int) : spec_l1Most.f a b = some (mx a b):=by
 unfold spec_l1Most.f mx;split <;> split <;> first|rfl|(congr 1;omega)
end Go.Proofs.Ytbpccdbkaiigcaa.G

namespace Go.Proofs.Ytbpccdbkaiigcaa.G
open Go.RowKit Go.Proofs.YtbpccdbkaiigcaaW.PrintWords Go.Proofs.YtbpccdbkaiigcaaW.PrintLast Go.Proofs.YtbpccdbkaiigcaaW.PrintMore
attribute [local go_sem] max2_int min2_int max_two min_two max_three min_three max_four min_four   -- for this text's walks alone

def spec_IsValidFloor.f (k:Nat) (a0_0:Int) (a0_1:Int) (l0_2:List (S48)):Option (Bool):=(spec_l16Good.f k a0_0 a0_1 l0_2).bind fun t0=>(some t0)
end Go.Proofs.Ytbpccdbkaiigcaa.G

namespace Go.Proofs.Ytbpccdbkaiigcaa.G
open Go.RowKit Go.Proofs.YtbpccdbkaiigcaaW.PrintWords Go.Proofs.YtbpccdbkaiigcaaW.PrintLast
def In (w h : Int) (c : S48) : Prop:=(0 ≤ c.f0 ∧ c.f0 ≤ w - 1) ∧ (0 ≤ c.f1 ∧ c.f1 ≤ h - 1)
def Bef (a b : S48) : Prop:=a.f1 < b.f1 ∨ a.f1 = b.f1 ∧ a.f0 < b.f0
def okB (w h : Int) (bl : List S48) (i : Int) : Prop:=In w h (rd_T48 bl i) ∧ (0 < i → Bef (rd_T48 bl (i - 1)) (rd_T48 bl i))
def FloorOk (w h : Int) (bl : List S48) : Prop:=(1 ≤ w ∧ w ≤ 6) ∧ (1 ≤ h ∧ h ≤ 6) ∧ All (okB w h bl) 0 (bl.length : Int)
theorem impl_on (w h : Int) (bl : List S48) (c : S48) (hw : 1 ≤ w ∧ w ≤ 6) (hh : 1 ≤ h ∧ h ≤ 6) : impl_onFloor.f w h bl c.f0 c.f1 = some (chk (In w h c) true false):=by
 unfold impl_onFloor.f;simp (disch:=omega) only [impl_within_eq,Option.bind_some,wrap64_id,decide_eq_true_eq];split
 ·rename_i h1
  congr 1;by_cases h2 : 0 ≤ c.f1 ∧ c.f1 ≤ h - 1
  ·rw [chk_pos ⟨h1,h2⟩];exact decide_eq_true h2
  ·rw [chk_neg (fun m : In w h c=>h2 m.2)];exact decide_eq_false h2
 ·rename_i h1
  rw [chk_neg (fun m : In w h c=>h1 m.1)]
theorem spec_in (w h : Int) (bl : List S48) (c : S48) (hw : 1 ≤ w ∧ w ≤ 6) (hh : 1 ≤ h ∧ h ≤ 6) : spec_l16Inside.f w h bl c.f0 c.f1 = some (chk (In w h c) true false):=by
 unfold spec_l16Inside.f;simp (disch:=omega) only [spec_l1In_eq,Option.bind_some,wrap64_id,decide_eq_true_eq];split
 ·rename_i h1
  congr 1;by_cases h2 : 0 ≤ c.f1 ∧ c.f1 ≤ h - 1
  ·rw [chk_pos ⟨h1,h2⟩];exact decide_eq_true h2
  ·rw [chk_neg (fun m : In w h c=>h2 m.2)];exact decide_eq_false h2
 ·rename_i h1
  rw [chk_neg (fun m : In w h c=>h1 m.1)]
theorem impl_bef (a b : S48) : impl_before.f a.f0 a.f1 b.f0 b.f1 = some (chk (Bef a b) true false):=by
 unfold impl_before.f;split
 ·rename_i h;rw [chk_pos (show Bef a b from .inl h)]
 ·rename_i h
  split
  ·rename_i h2
   congr 1;by_cases h3 : a.f0 < b.f0
   ·rw [chk_pos (show Bef a b from .inr ⟨h2,h3⟩)];exact decide_eq_true h3
   ·rw [chk_neg (fun m : Bef a b=>m.elim h (fun x=>h3 x.2))];exact decide_eq_false h3
  ·rename_i h2
   rw [chk_neg (fun m : Bef a b=>m.elim h (fun x=>h2 x.1))]
theorem impl_floor (w h : Int) (bl : List S48) (hb : (bl.length : Int) ≤ 1099511627776) : Ev (fun k=>impl_IsValidFloor.f k w h bl) (chk (FloorOk w h bl) true false):=by
 have no : ¬ FloorOk w h bl → Ev (fun k=>impl_IsValidFloor.j0 k true w h bl) (chk (FloorOk w h bl) true false):=by
  intro n;rw [chk_neg n];refine Ev.step (fun k=>by rw [impl_IsValidFloor.j0]) ?_;simp only [if_true];exact Ev.now _
 unfold impl_IsValidFloor.f;simp only [impl_within_eq,Option.bind_some,decide_eq_true_eq];refine Ev.ite (fun h1=>?_) (fun h1=>no (fun m=>h1 m.1));by_cases h2 : 1 ≤ h ∧ h ≤ 6
 ·rw [decide_eq_true h2]
  refine Ev.step (fun k=>by rw [impl_IsValidFloor.j0]) ?_;simp only [Bool.not_true,Bool.false_eq_true,if_false];rw [chk_congr (show FloorOk w h bl ↔ All (okB w h bl) 0 (bl.length : Int) from ⟨fun m=>m.2.2,fun m=>⟨h1,h2,m⟩⟩)];refine Ev.check (fun k i=>impl_IsValidFloor.l0 k bl (bl.length : Int) i w h bl) (bl.length : Int) (okB w h bl) true false 0 ?_ ?_ 0 (by omega) (by omega)
  ·refine Ev.step (fun k=>by rw [impl_IsValidFloor.l0]) ?_
   simp only [Int.lt_irrefl,if_false];exact Ev.now _
  ·intro i h0 hlt r hr
   refine Ev.step (fun k=>by rw [impl_IsValidFloor.l0]) ?_;simp (disch:=omega) only [if_pos,wrap64_id,impl_on w h bl _ h1 h2,impl_bef,Option.bind_some];refine Ev.ite (fun g1=>?_) (fun g1=>?_)
   ·have g1:=chk_true.1 g1
    refine Ev.ite (fun g2=>?_) (fun g2=>?_)
    ·try simp (disch:=omega) only [if_pos]
     refine Ev.ite (fun g3=>?_) (fun g3=>?_)
     ·rw [chk_pos ⟨g1,fun _=>chk_true.1 g3⟩];exact hr
     ·rw [chk_neg (fun m : okB w h bl i=>g3 (chk_true.2 (m.2 g2)))];exact Ev.now _
    ·rw [chk_pos ⟨g1,fun x=>absurd x g2⟩];exact hr
   ·rw [chk_neg (fun m : okB w h bl i=>g1 (chk_true.2 m.1))];exact Ev.now _
 ·rw [decide_eq_false h2]
  exact no (fun m=>h2 m.2.1)
def okS (w h : Int) (bl : List S48) (i : Int) : Prop:=In w h (rd_T48 bl i) ∧ (0 < i → wrap64 (wrap64 ((rd_T48 bl (i - 1)).f1 * 10) + (rd_T48 bl (i - 1)).f0) < wrap64 (wrap64 ((rd_T48 bl i).f1 * 10) + (rd_T48 bl i).f0))
theorem okS_iff (w h : Int) (bl : List S48) (h1 : 1 ≤ w ∧ w ≤ 6) (h2 : 1 ≤ h ∧ h ≤ 6) : All (okS w h bl) 0 (bl.length : Int) ↔ All (okB w h bl) 0 (bl.length : Int):=by
 have key : ∀ a b : S48,In w h a → In w h b → (wrap64 (wrap64 (a.f1 * 10) + a.f0) < wrap64 (wrap64 (b.f1 * 10) + b.f0) ↔ Bef a b):=by
  intro a b ha hb;unfold In at ha hb;rw [wrap64_id (x:=a.f1 * 10) (by omega) (by omega),wrap64_id (x:=b.f1 * 10) (by omega) (by omega),wrap64_id (by omega) (by omega),wrap64_id (by omega) (by omega)];unfold Bef;omega
 constructor
 ·intro a i i0 i1
  refine ⟨(a i i0 i1).1,fun hp=>?_⟩;exact (key _ _ (a (i - 1) (by omega) (by omega)).1 (a i i0 i1).1).1 ((a i i0 i1).2 hp)
 ·intro a i i0 i1
  refine ⟨(a i i0 i1).1,fun hp=>?_⟩;exact (key _ _ (a (i - 1) (by omega) (by omega)).1 (a i i0 i1).1).2 ((a i i0 i1).2 hp)
theorem spec_floor (w h : Int) (bl : List S48) (hb : (bl.length : Int) ≤ 1099511627776) : Ev (fun k=>spec_l16Good.f k w h bl) (chk (FloorOk w h bl) true false):=by
 have no : ¬ FloorOk w h bl → Ev (fun k=>spec_l16Good.j0 k true w h bl) (chk (FloorOk w h bl) true false):=by
  intro n;rw [chk_neg n];refine Ev.step (fun k=>by rw [spec_l16Good.j0]) ?_;simp only [if_true];exact Ev.now _
 unfold spec_l16Good.f;simp only [spec_l1In_eq,Option.bind_some,decide_eq_true_eq];refine Ev.ite (fun h1=>?_) (fun h1=>no (fun m=>h1 m.1));by_cases h2 : 1 ≤ h ∧ h ≤ 6
 ·rw [decide_eq_true h2]
  refine Ev.step (fun k=>by rw [spec_l16Good.j0]) ?_;simp only [Bool.not_true,Bool.false_eq_true,if_false];rw [chk_congr (show FloorOk w h bl ↔ All (okS w h bl) 0 (bl.length : Int) from ⟨fun m=>(okS_iff w h bl h1 h2).2 m.2.2,fun m=>⟨h1,h2,(okS_iff w h bl h1 h2).1 m⟩⟩)];refine Ev.check (fun k i=>spec_l16Good.l0 k i w h bl) (bl.length : Int) (okS w h bl) true false 0 ?_ ?_ 0 (by omega) (by omega)
  ·refine Ev.step (fun k=>by rw [spec_l16Good.l0]) ?_
   simp only [Int.lt_irrefl,if_false];exact Ev.now _
  ·intro i h0 hlt r hr
   have e1 : wrap64 (i - 1) = i - 1:=wrap64_id (by omega) (by omega);have e2 : wrap64 (i + 1) = i + 1:=wrap64_id (by omega) (by omega);refine Ev.step (fun k=>by rw [spec_l16Good.l0]) ?_;simp (disch:=omega) only [if_pos,e1,e2,spec_in w h bl _ h1 h2,Option.bind_some];refine Ev.ite (fun g1=>?_) (fun g1=>?_)
   ·have g1:=chk_true.1 g1
    refine Ev.ite (fun g2=>?_) (fun g2=>?_)
    ·try simp (disch:=omega) only [if_pos]
     refine Ev.ite (fun g3=>?_) (fun g3=>?_)
     ·rw [chk_neg (fun m : okS w h bl i=>by have:=m.2 g2;omega)];exact Ev.now _
     ·rw [chk_pos ⟨g1,fun _=>by omega⟩];exact hr
    ·rw [chk_pos ⟨g1,fun x=>absurd x g2⟩];exact hr
   ·rw [chk_neg (fun m : okS w h bl i=>g1 (chk_true.2 m.1))];exact Ev.now _
 ·rw [decide_eq_false h2]
  exact no (fun m=>h2 m.2.1)
end Go.Proofs.Ytbpccdbkaiigcaa.G

namespace Go.Proofs.Ytbpccdbkaiigcaa.G
open Go.RowKit Go.Proofs.YtbpccdbkaiigcaaW.PrintWords Go.Proofs.YtbpccdbkaiigcaaW.PrintLast Go.Proofs.YtbpccdbkaiigcaaW.PrintMore
attribute [local go_sem] max2_int min2_int max_two min_two max_three min_three max_four min_four   -- for this text's walks alone

def spec_l16Near.f (a0_0:Int) (a0_1:Int) (a1_0:Int) (a1_1:Int):Option (Bool):=(spec_l1Most.f (wrap64 (a0_0 - a1_0)) (wrap64 (a1_0 - a0_0))).bind fun t0=>((spec_l1Most.f (wrap64 (a0_1 - a1_1)) (wrap64 (a1_1 - a0_1))).bind fun t1=>(some (decide ((wrap64 (t0 + t1)) ≤ 1))))
theorem spec_l16Near.calls (a0_0:Int) (a0_1:Int) (a1_0:Int) (a1_1:Int) (r:Bool) (w:World) (h:spec_l16Near.f a0_0 a0_1 a1_0 a1_1 = some r) :
  Calls Try.prog 83 #[.agg #[.int .i64 a0_0,.int .i64 a0_1],.agg #[.int .i64 a1_0,.int .i64 a1_1]] w fun e w'=>e = .returned (.bool r) ∧ Below w.heap.size w w':=by
 have hu48:=Try.underlying48;have HB:=zM (Below.refl w.heap.size w);have H:((spec_l1Most.f (wrap64 (a0_0 - a1_0)) (wrap64 (a1_0 - a0_0))).bind fun t0=>((spec_l1Most.f (wrap64 (a0_1 - a1_1)) (wrap64 (a1_1 - a0_1))).bind fun t1=>(some (decide ((wrap64 (t0 + t1)) ≤ 1))))) = some r:=h;clear h;replace H:=Option.bind_eq_some_iff.mp H;obtain ⟨t0,A30,H⟩:=H;replace H:((spec_l1Most.f (wrap64 (a0_1 - a1_1)) (wrap64 (a1_1 - a0_1))).bind fun t1=>(some (decide ((wrap64 (t0 + t1)) ≤ 1)))) = some r:=H;have A3:=zM A30;clear A30;replace H:=Option.bind_eq_some_iff.mp H;obtain ⟨t1,A40,H⟩:=H;replace H:(some (decide ((wrap64 (t0 + t1)) ≤ 1))) = some r:=H;have A4:=zM A40;clear A40;obtain rfl:=Option.some.inj H;go_enter Try.func83,Try.ntmps83;go_wp2_with (first|((with_reducible refine gate_dst (N:=2) rfl ?_);refine zzc 2 #[.int .i64 a0_0,.int .i64 a0_1] 48 ?_;intro gb2 hg w5 hbox hb;have BK2:= zM (hbox);have GW2:= zM ((zq94:w.heap.size ≤ gb2));have GE2:= zM ((zq94:w.heap.size ≤ gb2));replace HB:= zM (zQ zzh hb);clear hb hbox hg)|((with_reducible refine gate_dst (N:=3) rfl ?_);refine zzc 3 #[.int .i64 a1_0,.int .i64 a1_1] 48 ?_;intro gb3 hg w6 hbox hb;have BK3:= zM (hbox);have GW3:= zM ((zq94:w.heap.size ≤ gb3));have GE3:= zM ((zq94:w.heap.size ≤ gb3));replace HB:= zM (zQ zzh hb);have NB2_3:= zM ((zzm hg (zzi BK2):gb2 ≠ gb3));have NB3_2:= zM ((zzM hg (zzi BK2):gb3 ≠ gb2));replace BK2:= zM (blk_below (zzi BK2) hb);clear hb hbox hg;have hnb7:=NB2_3.out;have hnc7:=NB3_2.out;have hcz8_0:=zz0 BK2;have hcz8_1:=zz1 BK2;have hfz8_0:=blk_frozen BK2.out 0;have hfz8_1:=blk_frozen BK2.out 1;have hcz9_0:=zz0 BK3;have hcz9_1:=zz1 BK3;have hfz9_0:=blk_frozen BK3.out 0;have hfz9_1:=blk_frozen BK3.out 1)|(go_at_call 86;(with_reducible refine (spec_l1Most.calls (wrap64 (a0_0 - a1_0)) (wrap64 (a1_0 - a0_0)) t0 _ A3.out).mono ?_);rintro e w' ⟨rfl,⟨nd,rfl⟩⟩;(try first|exact ⟨rfl,_,World.drewN_drewN _ _ _⟩|exact ⟨rfl,_,zW _ _ _ _⟩))|(go_at_call 86;(with_reducible refine (spec_l1Most.calls (wrap64 (a0_1 - a1_1)) (wrap64 (a1_1 - a0_1)) t1 _ A4.out).mono ?_);rintro e w' ⟨rfl,⟨nd,rfl⟩⟩;(try first|exact ⟨rfl,_,World.drewN_drewN _ _ _⟩|exact ⟨rfl,_,zW _ _ _ _⟩)))
 repeat (go_quiet (first|((with_reducible refine gate_dst (N:=2) rfl ?_);refine zzc 2 #[.int .i64 a0_0,.int .i64 a0_1] 48 ?_;intro gb2 hg w5 hbox hb;have BK2:= zM (hbox);have GW2:= zM ((zq94:w.heap.size ≤ gb2));have GE2:= zM ((zq94:w.heap.size ≤ gb2));replace HB:= zM (zQ zzh hb);clear hb hbox hg)|((with_reducible refine gate_dst (N:=3) rfl ?_);refine zzc 3 #[.int .i64 a1_0,.int .i64 a1_1] 48 ?_;intro gb3 hg w6 hbox hb;have BK3:= zM (hbox);have GW3:= zM ((zq94:w.heap.size ≤ gb3));have GE3:= zM ((zq94:w.heap.size ≤ gb3));replace HB:= zM (zQ zzh hb);have NB2_3:= zM ((zzm hg (zzi BK2):gb2 ≠ gb3));have NB3_2:= zM ((zzM hg (zzi BK2):gb3 ≠ gb2));replace BK2:= zM (blk_below (zzi BK2) hb);clear hb hbox hg;have hnb7:=NB2_3.out;have hnc7:=NB3_2.out;have hcz8_0:=zz0 BK2;have hcz8_1:=zz1 BK2;have hfz8_0:=blk_frozen BK2.out 0;have hfz8_1:=blk_frozen BK2.out 1;have hcz9_0:=zz0 BK3;have hcz9_1:=zz1 BK3;have hfz9_0:=blk_frozen BK3.out 0;have hfz9_1:=blk_frozen BK3.out 1)|(go_at_call 86;(with_reducible refine (spec_l1Most.calls (wrap64 (a0_0 - a1_0)) (wrap64 (a1_0 - a0_0)) t0 _ A3.out).mono ?_);rintro e w' ⟨rfl,⟨nd,rfl⟩⟩;(try first|exact ⟨rfl,_,World.drewN_drewN _ _ _⟩|exact ⟨rfl,_,zW _ _ _ _⟩))|(go_at_call 86;(with_reducible refine (spec_l1Most.calls (wrap64 (a0_1 - a1_1)) (wrap64 (a1_1 - a0_1)) t1 _ A4.out).mono ?_);rintro e w' ⟨rfl,⟨nd,rfl⟩⟩;(try first|exact ⟨rfl,_,World.drewN_drewN _ _ _⟩|exact ⟨rfl,_,zW _ _ _ _⟩)));try go_wp2_with (first|((with_reducible refine gate_dst (N:=2) rfl ?_);refine zzc 2 #[.int .i64 a0_0,.int .i64 a0_1] 48 ?_;intro gb2 hg w5 hbox hb;have BK2:= zM (hbox);have GW2:= zM ((zq94:w.heap.size ≤ gb2));have GE2:= zM ((zq94:w.heap.size ≤ gb2));replace HB:= zM (zQ zzh hb);clear hb hbox hg)|((with_reducible refine gate_dst (N:=3) rfl ?_);refine zzc 3 #[.int .i64 a1_0,.int .i64 a1_1] 48 ?_;intro gb3 hg w6 hbox hb;have BK3:= zM (hbox);have GW3:= zM ((zq94:w.heap.size ≤ gb3));have GE3:= zM ((zq94:w.heap.size ≤ gb3));replace HB:= zM (zQ zzh hb);have NB2_3:= zM ((zzm hg (zzi BK2):gb2 ≠ gb3));have NB3_2:= zM ((zzM hg (zzi BK2):gb3 ≠ gb2));replace BK2:= zM (blk_below (zzi BK2) hb);clear hb hbox hg;have hnb7:=NB2_3.out;have hnc7:=NB3_2.out;have hcz8_0:=zz0 BK2;have hcz8_1:=zz1 BK2;have hfz8_0:=blk_frozen BK2.out 0;have hfz8_1:=blk_frozen BK2.out 1;have hcz9_0:=zz0 BK3;have hcz9_1:=zz1 BK3;have hfz9_0:=blk_frozen BK3.out 0;have hfz9_1:=blk_frozen BK3.out 1)|(go_at_call 86;(with_reducible refine (spec_l1Most.calls (wrap64 (a0_0 - a1_0)) (wrap64 (a1_0 - a0_0)) t0 _ A3.out).mono ?_);rintro e w' ⟨rfl,⟨nd,rfl⟩⟩;(try first|exact ⟨rfl,_,World.drewN_drewN _ _ _⟩|exact ⟨rfl,_,zW _ _ _ _⟩))|(go_at_call 86;(with_reducible refine (spec_l1Most.calls (wrap64 (a0_1 - a1_1)) (wrap64 (a1_1 - a0_1)) t1 _ A4.out).mono ?_);rintro e w' ⟨rfl,⟨nd,rfl⟩⟩;(try first|exact ⟨rfl,_,World.drewN_drewN _ _ _⟩|exact ⟨rfl,_,zW _ _ _ _⟩))))
 go_ret;exact ⟨zq84,zzh⟩



def spec_l16Path.l0:Nat → List (S48) → Int → Int → Int → List (S48) → Option (Bool)
 | 0,_,_,_,_,_=>none
 | k + 1,x1,x5,x0,x2,x3=>if x5 < (x1.length:Int) then (if 0 ≤ x5 then ((spec_l16Free.f k x0 x2 x3 ((rd_T48 x1 x5).f0) ((rd_T48 x1 x5).f1)).bind fun t1=>(if t1 = true then (if x5 > 0 then (if 0 ≤ (wrap64 (x5 - 1)) then (if (wrap64 (x5 - 1)) < (x1.length:Int) then ((spec_l16Near.f ((rd_T48 x1 (wrap64 (x5 - 1))).f0) ((rd_T48 x1 (wrap64 (x5 - 1))).f1) ((rd_T48 x1 x5).f0) ((rd_T48 x1 x5).f1)).bind fun t4=>(if t4 = true then (spec_l16Path.l0 k x1 (wrap64 (x5 + 1)) x0 x2 x3) else (some false))) else (none)) else (none)) else (spec_l16Path.l0 k x1 (wrap64 (x5 + 1)) x0 x2 x3)) else (some false))) else (none)) else ((spec_l1In.f (x1.length:Int) 1 25).bind fun t5=>(some t5))
def spec_l16Path.f (k:Nat) (a0_0:Int) (a0_1:Int) (l0_2:List (S48)) (l1:List (S48)):Option (Bool):=spec_l16Path.l0 k l1 0 a0_0 a0_1 l0_2
def spec_l16Path.T4:Bool × List (List Nat × List Nat):=(true,[([],[]),([],[]),([],[]),([1,2],[1,2]),([3],[3]),([0,4],[0,4]),([5],[5]),([6,5],[6]),([7],[7]),([8,7],[7,8]),([9,7,7],[7,9]),([10],[10]),([10],[10]),([12,10],[10,12]),([11,13,10],[10,11,13]),([14,10],[10,14]),([10],[10]),([10],[10]),([16,17,10],[10,16,17]),([18,10],[10,18]),([15,19,10,10],[10,15,19]),([20,10],[10,20]),([10,21,7],[7,10,21]),([7,22],[7,22])])
def spec_l16Path.B4:List Nat:=[0,0,0,6,14,31,63,127,255,511,1023,2047,2047,6143,16383,32767,2047,2047,198655,460799,1048575,2097151,4194303,8388607]
theorem spec_l16Path.tab4:rtab .any (opsOf Try.f57 4) = spec_l16Path.T4:=by kernel_rfl
theorem spec_l16Path.bits4:waitsOk spec_l16Path.T4.2 spec_l16Path.B4 = true:=by kernel_rfl
theorem spec_l16Path.calls (k:Nat) (a0_0:Int) (a0_1:Int) (A0_2:Option Addr) (c0_2:Nat) (l0_2:List (S48)) (A1:Option Addr) (c1:Nat) (l1:List (S48)) (r:Bool) (w:World) (hr0_2:Kd.C k48 w A0_2 l0_2.length l0_2) (hc0_2:l0_2.length ≤ c0_2) (hr1:Kd.C k48 w A1 l1.length l1) (hc1:l1.length ≤ c1) (h:spec_l16Path.f k a0_0 a0_1 l0_2 l1 = some r) :
  Calls Try.prog 57 #[.agg #[.int .i64 a0_0,.int .i64 a0_1,.slice A0_2 l0_2.length c0_2],.slice A1 l1.length c1] w fun e w'=>e = .returned (.bool r) ∧ Below w.heap.size w w':=by
 have hu29:=Try.underlying29;have hu48:=Try.underlying48;have HR0_2:=zM hr0_2;have HC0_2:=zM hc0_2;clear hr0_2 hc0_2;have HR1:=zM hr1;have HC1:=zM hc1;clear hr1 hc1;have HB:=zM (Below.refl w.heap.size w);have H:(spec_l16Path.l0 k l1 0 a0_0 a0_1 l0_2) = some r:=h;clear h;have H':=zM H;clear H;go_enter Try.func57,Try.ntmps57;go_wp2_with (first|((with_reducible refine gate_dst (N:=2) rfl ?_);refine zzc 2 #[.int .i64 a0_0,.int .i64 a0_1,.slice A0_2 l0_2.length c0_2] 29 ?_;intro gb0 hg w3 hbox hb;have BK0:= zM (hbox);have GW0:= zM ((zq94:w.heap.size ≤ gb0));have GE0:= zM ((zq94:w.heap.size ≤ gb0));replace HB:= zM (zQ zzh hb);clear hb hbox hg));go_loopg [5] k (fun kq v5 w' => ∃ (x5_1:Int),v5 = .int .i64 x5_1 ∧ Aside0 (spec_l16Path.l0 kq l1 x5_1 a0_0 a0_1 l0_2 = some r) ∧ Aside0 (kq ≤ k) ∧ Aside0 (w'.heap[gb0]? = some (.cells #[.int .i64 a0_0,.int .i64 a0_1,(.slice A0_2 l0_2.length c0_2)] 29 (0,0))) ∧ Aside0 (Below w.heap.size w w'))
 case atStart=>exact ⟨(0),zq91,H',⟨Nat.le_refl _⟩,⟨zzi BK0⟩,⟨zzh⟩⟩
 case round =>
  clear H';(try clear c1);(try clear p2);obtain ⟨x5_1,rfl,HA,HK1,BK0,HB⟩:=hrel;cases gk with
  | zero=>exact absurd HA.out (by simp [spec_l16Path.l0])
  | succ k1 =>
   have H:=HA.out;clear HA;simp only [spec_l16Path.l0] at H;by_cases c4:x5_1 < (l1.length:Int)
   ·rw [if_pos c4] at H
    have c4b0:decide (x5_1 < (l1.length:Int)) = true:=decide_eq_true c4;clear c4;by_cases c5:0 ≤ x5_1
    ·rw [if_pos c5] at H
     have c5b0:decide (0 ≤ x5_1) = true:=decide_eq_true c5;clear c5;replace H:=Option.bind_eq_some_iff.mp H;obtain ⟨t1,A60,H⟩:=H;replace H:(if t1 = true then (if x5_1 > 0 then (if 0 ≤ (wrap64 (x5_1 - 1)) then (if (wrap64 (x5_1 - 1)) < (l1.length:Int) then ((spec_l16Near.f ((rd_T48 l1 (wrap64 (x5_1 - 1))).f0) ((rd_T48 l1 (wrap64 (x5_1 - 1))).f1) ((rd_T48 l1 x5_1).f0) ((rd_T48 l1 x5_1).f1)).bind fun t2=>(if t2 = true then (spec_l16Path.l0 k1 l1 (wrap64 (x5_1 + 1)) a0_0 a0_1 l0_2) else (some false))) else (none)) else (none)) else (spec_l16Path.l0 k1 l1 (wrap64 (x5_1 + 1)) a0_0 a0_1 l0_2)) else (some false)) = some r:=H;have A6:=zM A60;clear A60;by_cases c7:t1 = true
     ·subst c7
      (have H1:(if x5_1 > 0 then (if 0 ≤ (wrap64 (x5_1 - 1)) then (if (wrap64 (x5_1 - 1)) < (l1.length:Int) then ((spec_l16Near.f ((rd_T48 l1 (wrap64 (x5_1 - 1))).f0) ((rd_T48 l1 (wrap64 (x5_1 - 1))).f1) ((rd_T48 l1 x5_1).f0) ((rd_T48 l1 x5_1).f1)).bind fun t2=>(if t2 = true then (spec_l16Path.l0 k1 l1 (wrap64 (x5_1 + 1)) a0_0 a0_1 l0_2) else (some false))) else (none)) else (none)) else (spec_l16Path.l0 k1 l1 (wrap64 (x5_1 + 1)) a0_0 a0_1 l0_2)) = some r:=by rw [if_pos rfl] at H;exact H);clear H;have H:=H1;clear H1;by_cases c8:x5_1 > 0
      ·rw [if_pos c8] at H
       (have c8b0:decide (0 < x5_1) = true:=decide_eq_true c8;clear c8;obtain ⟨ji9,hji9⟩ : ∃ j_:Int,(wrap64 (x5_1 - 1)) = j_:=⟨_,rfl⟩;replace H:(if 0 ≤ (ji9) then (if (ji9) < (l1.length:Int) then ((spec_l16Near.f ((rd_T48 l1 (ji9)).f0) ((rd_T48 l1 (ji9)).f1) ((rd_T48 l1 x5_1).f0) ((rd_T48 l1 x5_1).f1)).bind fun t2=>(if t2 = true then (spec_l16Path.l0 k1 l1 (wrap64 (x5_1 + 1)) a0_0 a0_1 l0_2) else (some false))) else (none)) else (none)) = some r:=by first|(rw [hji9] at H;exact H)|(simp only [hji9] at H ⊢;exact H));(try rw [hji9] at A6);have hji9w:(IntKind.i64.wrap (x5_1 - 1)) = ji9:=(i64_w _).trans hji9;by_cases c10:0 ≤ (ji9)
       ·rw [if_pos c10] at H
        have c10b0:decide (0 ≤ (ji9)) = true:=decide_eq_true c10;clear c10;by_cases c11:(ji9) < (l1.length:Int)
        ·rw [if_pos c11] at H
         have c11b0:decide ((ji9) < (l1.length:Int)) = true:=decide_eq_true c11;clear c11;replace H:=Option.bind_eq_some_iff.mp H;obtain ⟨t2,A3,H⟩:=H;replace H:(if t2 = true then (spec_l16Path.l0 k1 l1 (wrap64 (x5_1 + 1)) a0_0 a0_1 l0_2) else (some false)) = some r:=H;have A12:=zM A3;clear A3;by_cases c13:t2 = true
         ·subst c13
          (have H1:(spec_l16Path.l0 k1 l1 (wrap64 (x5_1 + 1)) a0_0 a0_1 l0_2) = some r:=by rw [if_pos rfl] at H;exact H);clear H;have H:=H1;clear H1;have H':=zM H;clear H;try go_wp2
          replace BK0:= zM (zK BK0.out);replace HB:= zM (zF HB.out);have p4:0 ≤ (x5_1:Int):=zzd;have q4:x5_1 < (l1.length:Int):=zzd;obtain ⟨ad4,e4,hx4_0,hx4_1⟩:=at_T48 HR1.out x5_1 p4 q4;have hw4_1:=hx4_1;have hw4_0:=hx4_0;cases e4;replace hx4_0:=zS HB.out hx4_0;replace hx4_1:=zS HB.out hx4_1;replace p4:=eq_true p4;replace q4:=eq_true q4;have p5:0 ≤ ((ji9):Int):=zzd;have q5:(ji9) < (l1.length:Int):=zzd;obtain ⟨ad5,e5,hx5_0,hx5_1⟩:=at_T48 HR1.out (ji9) p5 q5;have hw5_1:=hx5_1;have hw5_0:=hx5_0;obtain rfl:ad4 = ad5:=(by injection e5);replace hx5_0:=zS HB.out hx5_0;replace hx5_1:=zS HB.out hx5_1;replace p5:=eq_true p5;replace q5:=eq_true q5;have p6:0 ≤ (x5_1:Int):=zzd;have q6:x5_1 < (l1.length:Int):=zzd;obtain ⟨ad6,e6,hx6_0,hx6_1⟩:=at_T48 HR1.out x5_1 p6 q6;have hw6_1:=hx6_1;have hw6_0:=hx6_0;obtain rfl:ad4 = ad6:=(by injection e6);replace hx6_0:=zS HB.out hx6_0;replace hx6_1:=zS HB.out hx6_1;replace p6:=eq_true p6;replace q6:=eq_true q6;refine start_ (n:=24) (S:=fun w'=>w'.cell? ⟨gb0,0,none⟩ = some (.int .i64 a0_0) ∧ w'.cell? ⟨gb0,1,none⟩ = some (.int .i64 a0_1) ∧ w'.cell? ⟨gb0,2,none⟩ = some (.slice A0_2 l0_2.length c0_2) ∧ w'.cell? (ad4.add ((x5_1).toNat * 2)) = some (.int .i64 ((rd_T48 l1 x5_1).f0)) ∧ w'.cell? ⟨(ad4.add ((x5_1).toNat * 2)).block,(ad4.add ((x5_1).toNat * 2)).off + 1,none⟩ = some (.int .i64 ((rd_T48 l1 x5_1).f1)) ∧ w'.cell? (ad4.add (((ji9)).toNat * 2)) = some (.int .i64 ((rd_T48 l1 (ji9)).f0)) ∧ w'.cell? ⟨(ad4.add (((ji9)).toNat * 2)).block,(ad4.add (((ji9)).toNat * 2)).off + 1,none⟩ = some (.int .i64 ((rd_T48 l1 (ji9)).f1)) ∧ w'.cell? (ad4.add ((x5_1).toNat * 2)) = some (.int .i64 ((rd_T48 l1 x5_1).f0)) ∧ w'.cell? ⟨(ad4.add ((x5_1).toNat * 2)).block,(ad4.add ((x5_1).toNat * 2)).off + 1,none⟩ = some (.int .i64 ((rd_T48 l1 x5_1).f1))) (ds:=[]) #[false,false,false,false,false,false,false,false,false,false,false,false,false,false,false,false,false,false,false,false,false,false,false,false] (by kernel_rfl) rfl rfl ⟨zz0 BK0,zz1 BK0,zz2 BK0,(zS HB.out hw4_0 :),(zS HB.out hw4_1 :),(zS HB.out hw5_0 :),(zS HB.out hw5_1 :),(zS HB.out hw6_0 :),(zS HB.out hw6_1 :)⟩ (fun hHeld=>?_);refine with_tabW spec_l16Path.tab4 spec_l16Path.bits4 (fun HT_ HW_=>?_)
          generalize wr.drew = w14 at BK0 HB hx4_0 hx4_1 hx5_0 hx5_1 hx6_0 hx6_1 hHeld ⊢;refine zzp 1 13 (zzb 24 2) ?_ (hc:=zzx HT_);refine zzp 2 14 (zzb 24 6) ?_ (hc:=zzx HT_);refine zzp 3 15 (zzb 24 14) ?_ (hc:=zzx HT_);refine zzt 0 12 (zzb 24 15) hHeld ?_ (hc:=zzy HT_ HW_) (hy:=by rintro w' ⟨s0,s1,s2,s3,s4,s5,s6,s7,s8⟩;go_simp;with_reducible rfl);refine zzt 4 16 (zzb 24 31) hHeld ?_ (hc:=zzy HT_ HW_) (hy:=by rintro w' ⟨s0,s1,s2,s3,s4,s5,s6,s7,s8⟩;go_simp;with_reducible rfl);refine zzo 5 17 (zzb 24 63) (hc:=zzw HT_) (fun K hK=>?_);refine zzf Try.func82 #[.agg #[.int .i64 a0_0,.int .i64 a0_1,.slice A0_2 l0_2.length c0_2],.agg #[.int .i64 ((rd_T48 l1 x5_1).f0),.int .i64 ((rd_T48 l1 x5_1).f1)]] ?_;with_reducible refine (spec_l16Free.calls k1 a0_0 a0_1 _ _ l0_2 ((rd_T48 l1 x5_1).f0) ((rd_T48 l1 x5_1).f1) true _ ?side1 ?side2 A6.out).mono ?_
          (case side1=>repeat (first|exact (zO HR0_2.out HB.out)|(with_reducible first|refine zG ?_ _|refine zH ?_ _|refine zI ?_)));(case side2=>exact HC0_2.out);rintro e w15 ⟨rfl,hb⟩;refine ⟨_,rfl,?_⟩;replace BK0:= zM (blk_below (zzi BK0) hb);replace HB:= zM (zQ zzh hb);(try clear hb);(try clear hb2);(try clear hk);(try clear hi);refine hK.out _ _ ⟨zz0 BK0,zz1 BK0,zz2 BK0,(zS HB.out hw4_0 :),(zS HB.out hw4_1 :),(zS HB.out hw5_0 :),(zS HB.out hw5_1 :),(zS HB.out hw6_0 :),(zS HB.out hw6_1 :)⟩ (fun hHeld=>?_);clear hK K;refine zzn 17 ?_;refine zzp 6 18 (zzb 24 127) ?_ (hc:=zzx HT_);refine zzp 7 19 (zzb 24 255) ?_ (hc:=zzx HT_);refine zzp 8 20 (zzb 24 511) ?_ (hc:=zzx HT_);refine zzp 9 21 (zzb 24 1023) ?_ (hc:=zzx HT_);refine zzp 10 22 (zzb 24 2047) ?_ (hc:=zzx HT_);refine zzp 11 23 (zzb 24 4095) ?_ (hc:=zzx HT_);refine zzp 12 24 (zzb 24 8191) ?_ (hc:=zzx HT_);refine zzp 13 25 (zzb 24 16383) ?_ (hc:=zzx HT_);refine zzp 14 26 (zzb 24 32767) ?_ (hc:=zzx HT_);refine zzp 16 28 (zzb 24 98303) ?_ (hc:=zzx HT_);refine zzp 17 29 (zzb 24 229375) ?_ (hc:=zzx HT_);refine zzp 18 30 (zzb 24 491519) ?_ (hc:=zzx HT_);refine zzt 15 27 (zzb 24 524287) hHeld ?_ (hc:=zzy HT_ HW_) (hy:=by rintro w' ⟨s0,s1,s2,s3,s4,s5,s6,s7,s8⟩;go_simp;with_reducible rfl);refine zzt 19 31 (zzb 24 1048575) hHeld ?_ (hc:=zzy HT_ HW_) (hy:=by rintro w' ⟨s0,s1,s2,s3,s4,s5,s6,s7,s8⟩;go_simp;with_reducible rfl);refine zzo 20 32 (zzb 24 2097151) (hc:=zzw HT_) (fun K hK=>?_);refine goes_ Try.func83 (by kernel_rfl) rfl #[.agg #[.int .i64 ((rd_T48 l1 (ji9)).f0),.int .i64 ((rd_T48 l1 (ji9)).f1)],.agg #[.int .i64 ((rd_T48 l1 x5_1).f0),.int .i64 ((rd_T48 l1 x5_1).f1)]] (by rfl) rfl rfl zq70 ?_
          (with_reducible refine (spec_l16Near.calls ((rd_T48 l1 (ji9)).f0) ((rd_T48 l1 (ji9)).f1) ((rd_T48 l1 x5_1).f0) ((rd_T48 l1 x5_1).f1) true _ A12.out).mono ?_);rintro e w16 ⟨rfl,hb⟩;refine ⟨_,rfl,?_⟩;replace BK0:= zM (blk_below (zzi BK0) hb);replace HB:= zM (zQ zzh hb);(try clear hb);(try clear hb2);(try clear hk);(try clear hi);refine hK.out _ _ ⟨zz0 BK0,zz1 BK0,zz2 BK0,(zS HB.out hw4_0 :),(zS HB.out hw4_1 :),(zS HB.out hw5_0 :),(zS HB.out hw5_1 :),(zS HB.out hw6_0 :),(zS HB.out hw6_1 :)⟩ (fun hHeld=>?_);clear hK K;refine zzn 32 ?_;refine zzp 21 33 (zzb 24 4194303) ?_ (hc:=zzx HT_);refine zzp 22 34 (zzb 24 8388607) ?_ (hc:=zzx HT_);refine zzp 23 35 (zzb 24 16777215) ?_ (hc:=zzx HT_);refine done_ (done_of HT_.out (by kernel_rfl)) ?_;try go_wp2
          go_roundg k1
          case measure=>have:=HK1.out;omega
          case rel=>exact ⟨(wrap64 (x5_1 + 1)),zq91,H',⟨zq98⟩,⟨zzi BK0⟩,⟨zzh⟩⟩
         ·replace c13:=Bool.eq_false_iff.mpr c13
          subst c13;have H1:(some false) = some r:=by rw [if_neg (show ¬ (false = true) by decide)] at H;exact H
          clear H;have H:=H1;clear H1;obtain rfl:=Option.some.inj H;try go_wp2
          replace BK0:= zM (zK BK0.out);replace HB:= zM (zF HB.out);have p4:0 ≤ (x5_1:Int):=zzd;have q4:x5_1 < (l1.length:Int):=zzd;obtain ⟨ad4,e4,hx4_0,hx4_1⟩:=at_T48 HR1.out x5_1 p4 q4;have hw4_1:=hx4_1;have hw4_0:=hx4_0;cases e4;replace hx4_0:=zS HB.out hx4_0;replace hx4_1:=zS HB.out hx4_1;replace p4:=eq_true p4;replace q4:=eq_true q4;have p5:0 ≤ ((ji9):Int):=zzd;have q5:(ji9) < (l1.length:Int):=zzd;obtain ⟨ad5,e5,hx5_0,hx5_1⟩:=at_T48 HR1.out (ji9) p5 q5;have hw5_1:=hx5_1;have hw5_0:=hx5_0;obtain rfl:ad4 = ad5:=(by injection e5);replace hx5_0:=zS HB.out hx5_0;replace hx5_1:=zS HB.out hx5_1;replace p5:=eq_true p5;replace q5:=eq_true q5;have p6:0 ≤ (x5_1:Int):=zzd;have q6:x5_1 < (l1.length:Int):=zzd;obtain ⟨ad6,e6,hx6_0,hx6_1⟩:=at_T48 HR1.out x5_1 p6 q6;have hw6_1:=hx6_1;have hw6_0:=hx6_0;obtain rfl:ad4 = ad6:=(by injection e6);replace hx6_0:=zS HB.out hx6_0;replace hx6_1:=zS HB.out hx6_1;replace p6:=eq_true p6;replace q6:=eq_true q6;refine start_ (n:=24) (S:=fun w'=>w'.cell? ⟨gb0,0,none⟩ = some (.int .i64 a0_0) ∧ w'.cell? ⟨gb0,1,none⟩ = some (.int .i64 a0_1) ∧ w'.cell? ⟨gb0,2,none⟩ = some (.slice A0_2 l0_2.length c0_2) ∧ w'.cell? (ad4.add ((x5_1).toNat * 2)) = some (.int .i64 ((rd_T48 l1 x5_1).f0)) ∧ w'.cell? ⟨(ad4.add ((x5_1).toNat * 2)).block,(ad4.add ((x5_1).toNat * 2)).off + 1,none⟩ = some (.int .i64 ((rd_T48 l1 x5_1).f1)) ∧ w'.cell? (ad4.add (((ji9)).toNat * 2)) = some (.int .i64 ((rd_T48 l1 (ji9)).f0)) ∧ w'.cell? ⟨(ad4.add (((ji9)).toNat * 2)).block,(ad4.add (((ji9)).toNat * 2)).off + 1,none⟩ = some (.int .i64 ((rd_T48 l1 (ji9)).f1)) ∧ w'.cell? (ad4.add ((x5_1).toNat * 2)) = some (.int .i64 ((rd_T48 l1 x5_1).f0)) ∧ w'.cell? ⟨(ad4.add ((x5_1).toNat * 2)).block,(ad4.add ((x5_1).toNat * 2)).off + 1,none⟩ = some (.int .i64 ((rd_T48 l1 x5_1).f1))) (ds:=[]) #[false,false,false,false,false,false,false,false,false,false,false,false,false,false,false,false,false,false,false,false,false,false,false,false] (by kernel_rfl) rfl rfl ⟨zz0 BK0,zz1 BK0,zz2 BK0,(zS HB.out hw4_0 :),(zS HB.out hw4_1 :),(zS HB.out hw5_0 :),(zS HB.out hw5_1 :),(zS HB.out hw6_0 :),(zS HB.out hw6_1 :)⟩ (fun hHeld=>?_);refine with_tabW spec_l16Path.tab4 spec_l16Path.bits4 (fun HT_ HW_=>?_)
          generalize wr.drew = w17 at BK0 HB hx4_0 hx4_1 hx5_0 hx5_1 hx6_0 hx6_1 hHeld ⊢;refine zzp 1 13 (zzb 24 2) ?_ (hc:=zzx HT_);refine zzp 2 14 (zzb 24 6) ?_ (hc:=zzx HT_);refine zzp 3 15 (zzb 24 14) ?_ (hc:=zzx HT_);refine zzt 0 12 (zzb 24 15) hHeld ?_ (hc:=zzy HT_ HW_) (hy:=by rintro w' ⟨s0,s1,s2,s3,s4,s5,s6,s7,s8⟩;go_simp;with_reducible rfl);refine zzt 4 16 (zzb 24 31) hHeld ?_ (hc:=zzy HT_ HW_) (hy:=by rintro w' ⟨s0,s1,s2,s3,s4,s5,s6,s7,s8⟩;go_simp;with_reducible rfl);refine zzo 5 17 (zzb 24 63) (hc:=zzw HT_) (fun K hK=>?_);refine zzf Try.func82 #[.agg #[.int .i64 a0_0,.int .i64 a0_1,.slice A0_2 l0_2.length c0_2],.agg #[.int .i64 ((rd_T48 l1 x5_1).f0),.int .i64 ((rd_T48 l1 x5_1).f1)]] ?_;with_reducible refine (spec_l16Free.calls k1 a0_0 a0_1 _ _ l0_2 ((rd_T48 l1 x5_1).f0) ((rd_T48 l1 x5_1).f1) true _ ?side1 ?side2 A6.out).mono ?_
          (case side1=>repeat (first|exact (zO HR0_2.out HB.out)|(with_reducible first|refine zG ?_ _|refine zH ?_ _|refine zI ?_)));(case side2=>exact HC0_2.out);rintro e w18 ⟨rfl,hb⟩;refine ⟨_,rfl,?_⟩;replace BK0:= zM (blk_below (zzi BK0) hb);replace HB:= zM (zQ zzh hb);(try clear hb);(try clear hb2);(try clear hk);(try clear hi);refine hK.out _ _ ⟨zz0 BK0,zz1 BK0,zz2 BK0,(zS HB.out hw4_0 :),(zS HB.out hw4_1 :),(zS HB.out hw5_0 :),(zS HB.out hw5_1 :),(zS HB.out hw6_0 :),(zS HB.out hw6_1 :)⟩ (fun hHeld=>?_);clear hK K;refine zzn 17 ?_;refine zzp 6 18 (zzb 24 127) ?_ (hc:=zzx HT_);refine zzp 7 19 (zzb 24 255) ?_ (hc:=zzx HT_);refine zzp 8 20 (zzb 24 511) ?_ (hc:=zzx HT_);refine zzp 9 21 (zzb 24 1023) ?_ (hc:=zzx HT_);refine zzp 10 22 (zzb 24 2047) ?_ (hc:=zzx HT_);refine zzp 11 23 (zzb 24 4095) ?_ (hc:=zzx HT_);refine zzp 12 24 (zzb 24 8191) ?_ (hc:=zzx HT_);refine zzp 13 25 (zzb 24 16383) ?_ (hc:=zzx HT_);refine zzp 14 26 (zzb 24 32767) ?_ (hc:=zzx HT_);refine zzp 16 28 (zzb 24 98303) ?_ (hc:=zzx HT_);refine zzp 17 29 (zzb 24 229375) ?_ (hc:=zzx HT_);refine zzp 18 30 (zzb 24 491519) ?_ (hc:=zzx HT_);refine zzt 15 27 (zzb 24 524287) hHeld ?_ (hc:=zzy HT_ HW_) (hy:=by rintro w' ⟨s0,s1,s2,s3,s4,s5,s6,s7,s8⟩;go_simp;with_reducible rfl);refine zzt 19 31 (zzb 24 1048575) hHeld ?_ (hc:=zzy HT_ HW_) (hy:=by rintro w' ⟨s0,s1,s2,s3,s4,s5,s6,s7,s8⟩;go_simp;with_reducible rfl);refine zzo 20 32 (zzb 24 2097151) (hc:=zzw HT_) (fun K hK=>?_);refine goes_ Try.func83 (by kernel_rfl) rfl #[.agg #[.int .i64 ((rd_T48 l1 (ji9)).f0),.int .i64 ((rd_T48 l1 (ji9)).f1)],.agg #[.int .i64 ((rd_T48 l1 x5_1).f0),.int .i64 ((rd_T48 l1 x5_1).f1)]] (by rfl) rfl rfl zq70 ?_
          (with_reducible refine (spec_l16Near.calls ((rd_T48 l1 (ji9)).f0) ((rd_T48 l1 (ji9)).f1) ((rd_T48 l1 x5_1).f0) ((rd_T48 l1 x5_1).f1) false _ A12.out).mono ?_);rintro e w19 ⟨rfl,hb⟩;refine ⟨_,rfl,?_⟩;replace BK0:= zM (blk_below (zzi BK0) hb);replace HB:= zM (zQ zzh hb);(try clear hb);(try clear hb2);(try clear hk);(try clear hi);refine hK.out _ _ ⟨zz0 BK0,zz1 BK0,zz2 BK0,(zS HB.out hw4_0 :),(zS HB.out hw4_1 :),(zS HB.out hw5_0 :),(zS HB.out hw5_1 :),(zS HB.out hw6_0 :),(zS HB.out hw6_1 :)⟩ (fun hHeld=>?_);clear hK K;refine zzn 32 ?_;refine zzp 21 33 (zzb 24 4194303) ?_ (hc:=zzx HT_);refine zzp 22 34 (zzb 24 8388607) ?_ (hc:=zzx HT_);refine zzp 23 35 (zzb 24 16777215) ?_ (hc:=zzx HT_);refine done_ (done_of HT_.out (by kernel_rfl)) ?_;try go_wp2
          go_ret;exact ⟨by first|rfl|(simp [errW_none,errW_some] <;> rfl)|(simp only [← hji9];first|rfl|(simp [errW_none,errW_some] <;> rfl))|(simp [*,errW_none,errW_some] <;> rfl),zzh⟩
        ·rw [if_neg c11] at H
         exact absurd H (by simp)
       ·rw [if_neg c10] at H
        exact absurd H (by simp)
      ·rw [if_neg c8] at H
       (have c8b0:decide (0 < x5_1) = false:=decide_eq_false c8;clear c8;have H':=zM H;clear H;try go_wp2);replace BK0:= zM (zK BK0.out);replace HB:= zM (zF HB.out);have p4:0 ≤ (x5_1:Int):=zzd;have q4:x5_1 < (l1.length:Int):=zzd;obtain ⟨ad4,e4,hx4_0,hx4_1⟩:=at_T48 HR1.out x5_1 p4 q4;have hw4_1:=hx4_1;have hw4_0:=hx4_0;cases e4;replace hx4_0:=zS HB.out hx4_0;replace hx4_1:=zS HB.out hx4_1;replace p4:=eq_true p4;replace q4:=eq_true q4;refine start_ (n:=24) (S:=fun w'=>w'.cell? ⟨gb0,0,none⟩ = some (.int .i64 a0_0) ∧ w'.cell? ⟨gb0,1,none⟩ = some (.int .i64 a0_1) ∧ w'.cell? ⟨gb0,2,none⟩ = some (.slice A0_2 l0_2.length c0_2) ∧ w'.cell? (ad4.add ((x5_1).toNat * 2)) = some (.int .i64 ((rd_T48 l1 x5_1).f0)) ∧ w'.cell? ⟨(ad4.add ((x5_1).toNat * 2)).block,(ad4.add ((x5_1).toNat * 2)).off + 1,none⟩ = some (.int .i64 ((rd_T48 l1 x5_1).f1))) (ds:=[]) #[false,false,false,false,false,false,false,false,false,false,false,false,false,false,false,false,false,false,false,false,false,false,false,false] (by kernel_rfl) rfl rfl ⟨zz0 BK0,zz1 BK0,zz2 BK0,(zS HB.out hw4_0 :),(zS HB.out hw4_1 :)⟩ (fun hHeld=>?_);refine with_tabW spec_l16Path.tab4 spec_l16Path.bits4 (fun HT_ HW_=>?_);generalize wr.drew = w20 at BK0 HB hx4_0 hx4_1 hHeld ⊢;refine zzp 1 13 (zzb 24 2) ?_ (hc:=zzx HT_);refine zzp 2 14 (zzb 24 6) ?_ (hc:=zzx HT_);refine zzp 3 15 (zzb 24 14) ?_ (hc:=zzx HT_);refine zzt 0 12 (zzb 24 15) hHeld ?_ (hc:=zzy HT_ HW_) (hy:=by rintro w' ⟨s0,s1,s2,s3,s4⟩;go_simp;with_reducible rfl);refine zzt 4 16 (zzb 24 31) hHeld ?_ (hc:=zzy HT_ HW_) (hy:=by rintro w' ⟨s0,s1,s2,s3,s4⟩;go_simp;with_reducible rfl)
       (refine zzo 5 17 (zzb 24 63) (hc:=zzw HT_) (fun K hK=>?_);refine zzf Try.func82 #[.agg #[.int .i64 a0_0,.int .i64 a0_1,.slice A0_2 l0_2.length c0_2],.agg #[.int .i64 ((rd_T48 l1 x5_1).f0),.int .i64 ((rd_T48 l1 x5_1).f1)]] ?_;with_reducible refine (spec_l16Free.calls k1 a0_0 a0_1 _ _ l0_2 ((rd_T48 l1 x5_1).f0) ((rd_T48 l1 x5_1).f1) true _ ?side1 ?side2 A6.out).mono ?_);(case side1=>repeat (first|exact (zO HR0_2.out HB.out)|(with_reducible first|refine zG ?_ _|refine zH ?_ _|refine zI ?_)));(case side2=>exact HC0_2.out);rintro e w21 ⟨rfl,hb⟩;refine ⟨_,rfl,?_⟩;replace BK0:= zM (blk_below (zzi BK0) hb);replace HB:= zM (zQ zzh hb);(try clear hb);(try clear hb2);(try clear hk);(try clear hi);refine hK.out _ _ ⟨zz0 BK0,zz1 BK0,zz2 BK0,(zS HB.out hw4_0 :),(zS HB.out hw4_1 :)⟩ (fun hHeld=>?_);clear hK K;refine zzn 17 ?_;refine zzp 6 18 (zzb 24 127) ?_ (hc:=zzx HT_);refine zzp 7 19 (zzb 24 255) ?_ (hc:=zzx HT_);refine zzp 8 20 (zzb 24 511) ?_ (hc:=zzx HT_);refine zzp 9 21 (zzb 24 1023) ?_ (hc:=zzx HT_);refine zzp 10 22 (zzb 24 2047) ?_ (hc:=zzx HT_);refine zzu 11 23 (zzb 24 4095) ?_ (hc:=zzx HT_);refine zzu 12 24 (zzb 24 8191) ?_ (hc:=zzx HT_);refine zzu 13 25 (zzb 24 16383) ?_ (hc:=zzx HT_);refine zzu 14 26 (zzb 24 32767) ?_ (hc:=zzx HT_);refine zzu 15 27 (zzb 24 65535) ?_ (hc:=zzx HT_);refine zzu 16 28 (zzb 24 131071) ?_ (hc:=zzx HT_);refine zzu 17 29 (zzb 24 262143) ?_ (hc:=zzx HT_);refine zzu 18 30 (zzb 24 524287) ?_ (hc:=zzx HT_);refine zzu 19 31 (zzb 24 1048575) ?_ (hc:=zzx HT_);refine zzu 20 32 (zzb 24 2097151) ?_ (hc:=zzx HT_);refine zzu 21 33 (zzb 24 4194303) ?_ (hc:=zzx HT_);refine zzp 22 34 (zzb 24 8388607) ?_ (hc:=zzx HT_);refine zzp 23 35 (zzb 24 16777215) ?_ (hc:=zzx HT_)
       (refine done_ (done_of HT_.out (by kernel_rfl)) ?_;try go_wp2);go_roundg k1
       case measure=>have:=HK1.out;omega
       case rel=>exact ⟨(wrap64 (x5_1 + 1)),zq91,H',⟨zq98⟩,⟨zzi BK0⟩,⟨zzh⟩⟩
     ·replace c7:=Bool.eq_false_iff.mpr c7
      subst c7;have H1:(some false) = some r:=by rw [if_neg (show ¬ (false = true) by decide)] at H;exact H
      clear H;have H:=H1;clear H1;obtain rfl:=Option.some.inj H;try go_wp2
      replace BK0:= zM (zK BK0.out);replace HB:= zM (zF HB.out);have p4:0 ≤ (x5_1:Int):=zzd;have q4:x5_1 < (l1.length:Int):=zzd;obtain ⟨ad4,e4,hx4_0,hx4_1⟩:=at_T48 HR1.out x5_1 p4 q4;have hw4_1:=hx4_1;have hw4_0:=hx4_0;cases e4;replace hx4_0:=zS HB.out hx4_0;replace hx4_1:=zS HB.out hx4_1;replace p4:=eq_true p4;replace q4:=eq_true q4;refine start_ (n:=24) (S:=fun w'=>w'.cell? ⟨gb0,0,none⟩ = some (.int .i64 a0_0) ∧ w'.cell? ⟨gb0,1,none⟩ = some (.int .i64 a0_1) ∧ w'.cell? ⟨gb0,2,none⟩ = some (.slice A0_2 l0_2.length c0_2) ∧ w'.cell? (ad4.add ((x5_1).toNat * 2)) = some (.int .i64 ((rd_T48 l1 x5_1).f0)) ∧ w'.cell? ⟨(ad4.add ((x5_1).toNat * 2)).block,(ad4.add ((x5_1).toNat * 2)).off + 1,none⟩ = some (.int .i64 ((rd_T48 l1 x5_1).f1))) (ds:=[]) #[false,false,false,false,false,false,false,false,false,false,false,false,false,false,false,false,false,false,false,false,false,false,false,false] (by kernel_rfl) rfl rfl ⟨zz0 BK0,zz1 BK0,zz2 BK0,(zS HB.out hw4_0 :),(zS HB.out hw4_1 :)⟩ (fun hHeld=>?_);refine with_tabW spec_l16Path.tab4 spec_l16Path.bits4 (fun HT_ HW_=>?_);generalize wr.drew = w22 at BK0 HB hx4_0 hx4_1 hHeld ⊢;refine zzp 1 13 (zzb 24 2) ?_ (hc:=zzx HT_);refine zzp 2 14 (zzb 24 6) ?_ (hc:=zzx HT_);refine zzp 3 15 (zzb 24 14) ?_ (hc:=zzx HT_);refine zzt 0 12 (zzb 24 15) hHeld ?_ (hc:=zzy HT_ HW_) (hy:=by rintro w' ⟨s0,s1,s2,s3,s4⟩;go_simp;with_reducible rfl);refine zzt 4 16 (zzb 24 31) hHeld ?_ (hc:=zzy HT_ HW_) (hy:=by rintro w' ⟨s0,s1,s2,s3,s4⟩;go_simp;with_reducible rfl);refine zzo 5 17 (zzb 24 63) (hc:=zzw HT_) (fun K hK=>?_)
      (refine zzf Try.func82 #[.agg #[.int .i64 a0_0,.int .i64 a0_1,.slice A0_2 l0_2.length c0_2],.agg #[.int .i64 ((rd_T48 l1 x5_1).f0),.int .i64 ((rd_T48 l1 x5_1).f1)]] ?_;with_reducible refine (spec_l16Free.calls k1 a0_0 a0_1 _ _ l0_2 ((rd_T48 l1 x5_1).f0) ((rd_T48 l1 x5_1).f1) false _ ?side1 ?side2 A6.out).mono ?_);(case side1=>repeat (first|exact (zO HR0_2.out HB.out)|(with_reducible first|refine zG ?_ _|refine zH ?_ _|refine zI ?_)));(case side2=>exact HC0_2.out);rintro e w23 ⟨rfl,hb⟩;refine ⟨_,rfl,?_⟩;replace BK0:= zM (blk_below (zzi BK0) hb);replace HB:= zM (zQ zzh hb);(try clear hb);(try clear hb2);(try clear hk);(try clear hi);refine hK.out _ _ ⟨zz0 BK0,zz1 BK0,zz2 BK0,(zS HB.out hw4_0 :),(zS HB.out hw4_1 :)⟩ (fun hHeld=>?_);clear hK K;refine zzn 17 ?_;refine zzp 6 18 (zzb 24 127) ?_ (hc:=zzx HT_);refine zzp 7 19 (zzb 24 255) ?_ (hc:=zzx HT_);refine zzu 8 20 (zzb 24 511) ?_ (hc:=zzx HT_);refine zzu 9 21 (zzb 24 1023) ?_ (hc:=zzx HT_);refine zzu 10 22 (zzb 24 2047) ?_ (hc:=zzx HT_);refine zzu 11 23 (zzb 24 4095) ?_ (hc:=zzx HT_);refine zzu 12 24 (zzb 24 8191) ?_ (hc:=zzx HT_);refine zzu 13 25 (zzb 24 16383) ?_ (hc:=zzx HT_);refine zzu 14 26 (zzb 24 32767) ?_ (hc:=zzx HT_);refine zzu 15 27 (zzb 24 65535) ?_ (hc:=zzx HT_);refine zzu 16 28 (zzb 24 131071) ?_ (hc:=zzx HT_);refine zzu 17 29 (zzb 24 262143) ?_ (hc:=zzx HT_);refine zzu 18 30 (zzb 24 524287) ?_ (hc:=zzx HT_);refine zzu 19 31 (zzb 24 1048575) ?_ (hc:=zzx HT_);refine zzu 20 32 (zzb 24 2097151) ?_ (hc:=zzx HT_);refine zzu 21 33 (zzb 24 4194303) ?_ (hc:=zzx HT_);refine zzu 22 34 (zzb 24 8388607) ?_ (hc:=zzx HT_);refine zzp 23 35 (zzb 24 16777215) ?_ (hc:=zzx HT_)
      (refine done_ (done_of HT_.out (by kernel_rfl)) ?_;try go_wp2);go_ret;exact ⟨zq84,zzh⟩
    ·rw [if_neg c5] at H
     exact absurd H (by simp)
   ·rw [if_neg c4] at H
    have c4b0:decide (x5_1 < (l1.length:Int)) = false:=decide_eq_false c4;clear c4;replace H:=Option.bind_eq_some_iff.mp H;obtain ⟨t7,A8,H⟩:=H;replace H:(some t7) = some r:=H;have A24:=zM A8;clear A8;obtain rfl:=Option.some.inj H;go_wp2_with (first|((with_reducible refine gate_callee (f:=80) rfl ?_);refine goesL_ (some 38) rfl rfl Try.func80 (by kernel_rfl) rfl #[.int .i64 (l1.length:Int),.int .i64 1,.int .i64 25] rfl zq77 ?_;(with_reducible refine (spec_l1In.calls (l1.length:Int) 1 25 t7 _ A24.out).mono ?_);rintro e w' ⟨rfl,⟨nd,rfl⟩⟩;refine ⟨_,rfl,?_⟩));go_ret;exact ⟨zq84,zzh⟩



def spec_IsValidPath.f (k:Nat) (a0_0:Int) (a0_1:Int) (l0_2:List (S48)) (l1:List (S48)):Option (Bool):=(spec_l16Good.f k a0_0 a0_1 l0_2).bind fun t0=>(if t0 = true then ((spec_l16Path.f k a0_0 a0_1 l0_2 l1).bind fun t1=>(some t1)) else (some false))
end Go.Proofs.Ytbpccdbkaiigcaa.G

namespace Go.Proofs.Ytbpccdbkaiigcaa.G
open Go.RowKit Go.Proofs.YtbpccdbkaiigcaaW.PrintWords Go.Proofs.YtbpccdbkaiigcaaW.PrintLast
def eqc (a b : S48) : Prop:=a.f0 = b.f0 ∧ a.f1 = b.f1
def HasC (l : List S48) (c : S48) : Prop := ¬ All (fun j => ¬ eqc (rd_T48 l j) c) 0 (l.length : Int)
def Free (w h : Int) (bl : List S48) (c : S48) : Prop:=In w h c ∧ ¬ HasC bl c
theorem eqc_bool (a b : S48) : (a.f0 == b.f0 && (a.f1 == b.f1)) = true ↔ eqc a b:=by
 unfold eqc;simp
theorem spec_blocked (w h : Int) (bl : List S48) (c : S48) (hb : (bl.length : Int) ≤ 1099511627776) : Ev (fun k=>spec_l16Blocked.f k w h bl c.f0 c.f1) (chk (HasC bl c) true false):=by
 unfold spec_l16Blocked.f
 have h:=Ev.check (fun k i=>spec_l16Blocked.l0 k i w h bl c.f0 c.f1) (bl.length : Int) (fun j => ¬ eqc (rd_T48 bl j) c) false true 0 (by
  refine Ev.step (fun k=>by rw [spec_l16Blocked.l0]) ?_;simp only [Int.lt_irrefl,if_false]
  exact Ev.now _) (by
  intro i h0 hlt r hr;refine Ev.step (fun k=>by rw [spec_l16Blocked.l0]) ?_;simp (disch:=omega) only [if_pos,wrap64_id];refine Ev.ite (fun g=>?_) (fun g=>?_)
  ·rw [chk_neg (fun m=>m ((eqc_bool _ _).1 g))];exact Ev.now _
  ·rw [chk_pos (fun m=>g ((eqc_bool _ _).2 m))];exact hr) 0 (by omega) (by omega)
 refine Ev.eq h ?_;by_cases ha : All (fun j => ¬ eqc (rd_T48 bl j) c) 0 (bl.length : Int)
 ·rw [chk_pos ha,chk_neg (fun m : HasC bl c=>m ha)]
 ·rw [chk_neg ha,chk_pos (show HasC bl c from ha)]
theorem impl_contains (bl : List S48) (c : S48) (hb : (bl.length : Int) ≤ 1099511627776) : Ev (fun k=>impl_Cell_84.f k bl c.f0 c.f1) (chk (HasC bl c) true false):=by
 unfold impl_Cell_84.f impl_Cell_97.f
 have main : ∀ (d : Nat) (i : Int),0 ≤ i → i + d = (bl.length : Int) → ∃ v,Ev (fun k=>impl_Cell_97.l0 k bl (bl.length : Int) i c.f0 c.f1) v ∧ (v ≥ 0 ↔ ¬ All (fun j => ¬ eqc (rd_T48 bl j) c) i (bl.length : Int)):=by
  intro d
  induction d with
  | zero =>
   intro i h0 hd;refine ⟨-1,?_,?_⟩
   ·refine Ev.step (fun k=>by rw [impl_Cell_97.l0]) ?_
    simp (disch:=omega) only [if_neg];exact Ev.now _
   ·constructor
    ·intro h;omega
    ·intro h;exact absurd (fun j h1 h2=>by omega) h
  | succ d ih =>
   intro i h0 hd;by_cases e : (c.f0 == (rd_T48 bl i).f0 && (c.f1 == (rd_T48 bl i).f1)) = true
   ·refine ⟨i,?_,?_⟩
    ·refine Ev.step (fun k=>by rw [impl_Cell_97.l0]) ?_
     simp (disch:=omega) only [if_pos];exact Ev.now _
    ·refine ⟨fun _ a=>a i (by omega) (by omega) ?_,fun _=>h0⟩
     have:=(eqc_bool _ _).1 e;exact ⟨this.1.symm,this.2.symm⟩
   ·obtain ⟨v,hv,hi⟩:=ih (i + 1) (by omega) (by omega)
    refine ⟨v,?_,?_⟩
    ·refine Ev.step (fun k=>by rw [impl_Cell_97.l0]) ?_
     simp (disch:=omega) only [if_pos,wrap64_id];simp only [if_neg e];exact hv
    ·rw [hi,All.step (show i < (bl.length : Int) by omega)]
     exact ⟨fun h a=>h a.2,fun h a=>h ⟨fun e2=>e ((eqc_bool _ _).2 ⟨e2.1.symm,e2.2.symm⟩),a⟩⟩
 obtain ⟨v,hv,hi⟩:=main bl.length 0 (by omega) (by omega);refine Ev.bind hv ?_;refine Ev.val ?_;by_cases hh : HasC bl c
 ·rw [chk_pos hh];exact decide_eq_true (hi.2 hh)
 ·rw [chk_neg hh];exact decide_eq_false (fun h=>hh (hi.1 h))
theorem impl_free (w h : Int) (bl : List S48) (c : S48) (hw : 1 ≤ w ∧ w ≤ 6) (hh : 1 ≤ h ∧ h ≤ 6) (hb : (bl.length : Int) ≤ 1099511627776) : Ev (fun k=>impl_isFree.f k w h bl c.f0 c.f1) (chk (Free w h bl c) true false):=by
 unfold impl_isFree.f;rw [impl_on w h bl c hw hh];simp only [Option.bind_some];refine Ev.ite (fun g=>?_) (fun g=>?_)
 ·refine Ev.bind (impl_contains bl c hb) ?_
  refine Ev.val ?_;by_cases hc : HasC bl c
  ·rw [chk_pos hc,chk_neg (fun m : Free w h bl c=>m.2 hc)];rfl
  ·rw [chk_neg hc,chk_pos (show Free w h bl c from ⟨chk_true.1 g,hc⟩)];rfl
 ·rw [chk_neg (fun m : Free w h bl c=>g (chk_true.2 m.1))];exact Ev.now _
theorem spec_free (w h : Int) (bl : List S48) (c : S48) (hw : 1 ≤ w ∧ w ≤ 6) (hh : 1 ≤ h ∧ h ≤ 6) (hb : (bl.length : Int) ≤ 1099511627776) : Ev (fun k=>spec_l16Free.f k w h bl c.f0 c.f1) (chk (Free w h bl c) true false):=by
 unfold spec_l16Free.f;rw [spec_in w h bl c hw hh];simp only [Option.bind_some];refine Ev.ite (fun g=>?_) (fun g=>?_)
 ·refine Ev.bind (spec_blocked w h bl c hb) ?_
  refine Ev.val ?_;by_cases hc : HasC bl c
  ·rw [chk_pos hc,chk_neg (fun m : Free w h bl c=>m.2 hc)];rfl
  ·rw [chk_neg hc,chk_pos (show Free w h bl c from ⟨chk_true.1 g,hc⟩)];rfl
 ·rw [chk_neg (fun m : Free w h bl c=>g (chk_true.2 m.1))];exact Ev.now _
def Near (a b : S48) : Prop:=mx (a.f0 - b.f0) (b.f0 - a.f0) + mx (a.f1 - b.f1) (b.f1 - a.f1) ≤ 1
theorem mx_cases (a b : Int) : mx a b = a ∨ mx a b = b:=by unfold mx;split <;> omega
theorem near_imp (a b : S48) (ha : (0 ≤ a.f0 ∧ a.f0 ≤ 5) ∧ (0 ≤ a.f1 ∧ a.f1 ≤ 5)) (hb : (0 ≤ b.f0 ∧ b.f0 ≤ 5) ∧ (0 ≤ b.f1 ∧ b.f1 ≤ 5)) : impl_besides.f a.f0 a.f1 b.f0 b.f1 = some (chk (Near a b) true false):=by
 have c1:=mx_cases (a.f0 - b.f0) (b.f0 - a.f0);have c2:=mx_cases (a.f1 - b.f1) (b.f1 - a.f1);unfold impl_besides.f impl_size.f;simp (disch:=omega) only [wrap64_id,Option.bind_some];rw [show -(a.f0 - b.f0) = b.f0 - a.f0 from by omega,show -(a.f1 - b.f1) = b.f1 - a.f1 from by omega];rw [wrap64_id (by omega) (by omega)];by_cases hn : Near a b
 ·rw [chk_pos hn];congr 1;have hn':=hn;unfold Near at hn';exact decide_eq_true hn'
 ·rw [chk_neg hn];congr 1;have hn':=hn;unfold Near at hn';exact decide_eq_false hn'
theorem near_spec (a b : S48) (ha : (0 ≤ a.f0 ∧ a.f0 ≤ 5) ∧ (0 ≤ a.f1 ∧ a.f1 ≤ 5)) (hb : (0 ≤ b.f0 ∧ b.f0 ≤ 5) ∧ (0 ≤ b.f1 ∧ b.f1 ≤ 5)) : spec_l16Near.f a.f0 a.f1 b.f0 b.f1 = some (chk (Near a b) true false):=by
 have c1:=mx_cases (a.f0 - b.f0) (b.f0 - a.f0);have c2:=mx_cases (a.f1 - b.f1) (b.f1 - a.f1);unfold spec_l16Near.f;simp (disch:=omega) only [wrap64_id,spec_most_eq,Option.bind_some];by_cases hn : Near a b
 ·rw [chk_pos hn];congr 1;have hn':=hn;unfold Near at hn';exact decide_eq_true hn'
 ·rw [chk_neg hn];congr 1;have hn':=hn;unfold Near at hn';exact decide_eq_false hn'
theorem check_all {P : Int → Prop} (r0 : Bool) (g : Nat → Int → Option Bool) (n : Int) (hend : Ev (fun k=>g k n) r0) (hstep : ∀ i,0 ≤ i → i < n → All P 0 i → (P i → Ev (fun k=>g k (i + 1)) (chk (All P (i + 1) n) r0 false)) → Ev (fun k=>g k i) (chk (All P i n) r0 false)) : ∀ (d : Nat) (i : Int),0 ≤ i → i + d = n → All P 0 i → Ev (fun k=>g k i) (chk (All P i n) r0 false):=by
 intro d
 induction d with
 | zero =>
  (intro i h0 hd ha;obtain rfl : i = n:=by omega);rw [chk_pos (All.end_ P i)];exact hend
 | succ d ih =>
  intro i h0 hd ha;refine hstep i h0 (by omega) ha (fun hp=>ih (i + 1) (by omega) (by omega) (fun j a b=>?_));by_cases e : j = i
  ·rw [e];exact hp
  ·exact ha j a (by omega)
def stepOk (w h : Int) (bl p : List S48) (i : Int) : Prop:=Free w h bl (rd_T48 p i) ∧ (0 < i → Near (rd_T48 p (i - 1)) (rd_T48 p i))
def PathOk (w h : Int) (bl p : List S48) : Prop:=FloorOk w h bl ∧ (1 ≤ (p.length : Int) ∧ (p.length : Int) ≤ 25) ∧ All (stepOk w h bl p) 0 (p.length : Int)
theorem step_in {w h : Int} {bl p : List S48} (hw : 1 ≤ w ∧ w ≤ 6) (hh : 1 ≤ h ∧ h ≤ 6) {i : Int} (m : Free w h bl (rd_T48 p i)) : (0 ≤ (rd_T48 p i).f0 ∧ (rd_T48 p i).f0 ≤ 5) ∧ (0 ≤ (rd_T48 p i).f1 ∧ (rd_T48 p i).f1 ≤ 5):=by
 have:=m.1;unfold In at this;omega
theorem impl_path (w h : Int) (bl : List S48) (hb : (bl.length : Int) ≤ 1099511627776) (p : List S48) : Ev (fun k=>impl_IsValidPath.f k w h bl p) (chk (PathOk w h bl p) true false):=by
 have no : ¬ PathOk w h bl p → Ev (fun k=>impl_IsValidPath.j0 k p true w h bl) (chk (PathOk w h bl p) true false):=by
  intro hn;rw [chk_neg hn];refine Ev.step (fun k=>by rw [impl_IsValidPath.j0]) ?_;simp only [if_true];exact Ev.now _
 unfold impl_IsValidPath.f;refine Ev.bind (impl_floor w h bl hb) ?_;refine Ev.ite (fun hf=>?_) (fun hf=>no (fun m=>hf (chk_true.2 m.1)));have hf:=chk_true.1 hf;have hw:=hf.1;have hh:=hf.2.1;simp only [impl_within_eq,Option.bind_some];by_cases hl : 1 ≤ (p.length : Int) ∧ (p.length : Int) ≤ 25
 ·rw [decide_eq_true hl]
  refine Ev.step (fun k=>by rw [impl_IsValidPath.j0]) ?_;simp only [Bool.not_true,Bool.false_eq_true,if_false];rw [chk_congr (show PathOk w h bl p ↔ All (stepOk w h bl p) 0 (p.length : Int) from ⟨fun m=>m.2.2,fun m=>⟨hf,hl,m⟩⟩)];refine check_all true (fun k i=>impl_IsValidPath.l0 k p p (p.length : Int) i w h bl) (p.length : Int) ?_ ?_ p.length 0 (by omega) (by omega) (fun j a b=>by omega)
  ·refine Ev.step (fun k=>by rw [impl_IsValidPath.l0]) ?_
   simp only [Int.lt_irrefl,if_false];exact Ev.now _
  ·intro i h0 hlt ha nx
   refine Ev.step (fun k=>by rw [impl_IsValidPath.l0]) ?_;simp (disch:=omega) only [if_pos];refine Ev.bind (impl_free w h bl (rd_T48 p i) hw hh hb) ?_;refine Ev.ite (fun g=>?_) (fun g=>?_)
   ·have g:=chk_true.1 g
    rw [wrap64_id (x:=i + 1) (by omega) (by omega),chk_congr (All.step hlt)];refine Ev.ite (fun g1=>?_) (fun g1=>?_)
    ·simp (disch:=omega) only [if_pos,wrap64_id]
     rw [near_imp _ _ (step_in hw hh (ha (i - 1) (by omega) (by omega)).1) (step_in hw hh g)];simp only [Option.bind_some];refine Ev.ite (fun g2=>?_) (fun g2=>?_)
     ·have ok : stepOk w h bl p i:=⟨g,fun _=>chk_true.1 g2⟩
      rw [chk_congr (show stepOk w h bl p i ∧ All (stepOk w h bl p) (i + 1) (p.length : Int) ↔ All (stepOk w h bl p) (i + 1) (p.length : Int) from ⟨fun m=>m.2,fun m=>⟨ok,m⟩⟩)];exact nx ok
     ·rw [chk_neg (fun m=>g2 (chk_true.2 (m.1.2 (by omega))))];exact Ev.now _
    ·have ok : stepOk w h bl p i:=⟨g,fun h=>absurd h (by omega)⟩
     rw [chk_congr (show stepOk w h bl p i ∧ All (stepOk w h bl p) (i + 1) (p.length : Int) ↔ All (stepOk w h bl p) (i + 1) (p.length : Int) from ⟨fun m=>m.2,fun m=>⟨ok,m⟩⟩)];exact nx ok
   ·rw [chk_neg (fun m=>g (chk_true.2 (m i (by omega) hlt).1))];exact Ev.now _
 ·rw [decide_eq_false hl]
  exact no (fun m=>hl m.2.1)
theorem spec_path {w h : Int} {bl : List S48} (hf : FloorOk w h bl) (hb : (bl.length : Int) ≤ 1099511627776) (p : List S48) (hp : (p.length : Int) ≤ 1099511627776) : Ev (fun k=>spec_l16Path.f k w h bl p) (chk (PathOk w h bl p) true false):=by
 have hw:=hf.1;have hh:=hf.2.1;unfold spec_l16Path.f
 have main:=check_all (P:=stepOk w h bl p) (decide (1 ≤ (p.length : Int) ∧ (p.length : Int) ≤ 25)) (fun k i=>spec_l16Path.l0 k p i w h bl) (p.length : Int) (by
   refine Ev.step (fun k=>by rw [spec_l16Path.l0]) ?_;simp only [Int.lt_irrefl,if_false,spec_l1In_eq,Option.bind_some]
   exact Ev.now _) (by
   intro i h0 hlt ha nx;refine Ev.step (fun k=>by rw [spec_l16Path.l0]) ?_;simp (disch:=omega) only [if_pos];refine Ev.bind (spec_free w h bl (rd_T48 p i) hw hh hb) ?_;refine Ev.ite (fun g=>?_) (fun g=>?_)
   ·have g:=chk_true.1 g
    rw [wrap64_id (x:=i + 1) (by omega) (by omega),chk_congr (All.step hlt)];refine Ev.ite (fun g1=>?_) (fun g1=>?_)
    ·simp (disch:=omega) only [if_pos,wrap64_id]
     rw [near_spec _ _ (step_in hw hh (ha (i - 1) (by omega) (by omega)).1) (step_in hw hh g)];simp only [Option.bind_some];refine Ev.ite (fun g2=>?_) (fun g2=>?_)
     ·have ok : stepOk w h bl p i:=⟨g,fun _=>chk_true.1 g2⟩
      rw [chk_congr (show stepOk w h bl p i ∧ All (stepOk w h bl p) (i + 1) (p.length : Int) ↔ All (stepOk w h bl p) (i + 1) (p.length : Int) from ⟨fun m=>m.2,fun m=>⟨ok,m⟩⟩)];exact nx ok
     ·rw [chk_neg (fun m=>g2 (chk_true.2 (m.1.2 (by omega))))];exact Ev.now _
    ·have ok : stepOk w h bl p i:=⟨g,fun h=>absurd h (by omega)⟩
     rw [chk_congr (show stepOk w h bl p i ∧ All (stepOk w h bl p) (i + 1) (p.length : Int) ↔ All (stepOk w h bl p) (i + 1) (p.length : Int) from ⟨fun m=>m.2,fun m=>⟨ok,m⟩⟩)];exact nx ok
   ·rw [chk_neg (fun m=>g (chk_true.2 (m i (by omega) hlt).1))];exact Ev.now _) p.length 0 (by omega) (by omega) (fun j a b=>by omega)
 refine Ev.eq main ?_;by_cases hal : All (stepOk w h bl p) 0 (p.length : Int)
 ·rw [chk_pos hal]
  by_cases hl : 1 ≤ (p.length : Int) ∧ (p.length : Int) ≤ 25
  ·rw [decide_eq_true hl,chk_pos (show PathOk w h bl p from ⟨hf,hl,hal⟩)]
  ·rw [decide_eq_false hl,chk_neg (fun m : PathOk w h bl p=>hl m.2.1)]
 ·rw [chk_neg hal,chk_neg (fun m : PathOk w h bl p=>hal m.2.2)]
end Go.Proofs.Ytbpccdbkaiigcaa.G

/- Maps from cells to whole numbers and to bools, told as functions. -/
namespace Go.Proofs.Ytbpccdbkaiigcaa.G
open Go.RowKit Go.Maps Go.Proofs.YtbpccdbkaiigcaaW.PrintWords Go.Proofs.YtbpccdbkaiigcaaW.PrintLast
theorem laidOutP : laidOutB Try.prog = true:=by kernel_rfl
theorem keyed48 : Keyed Try.prog 48:=Keyed.of_law (deep_law_laid laidOutP (m:=2) (by omega) (of_decide_eq_true (by kernel_rfl)) (by kernel_rfl) (by rw [Try.underlying48]))
def kl (c : S48) : Lit := .string (keyBytes [.int .i64 c.f0,.int .i64 c.f1])
def W64 (c : S48) : Prop:=(Lit.int .i64 c.f0).wf = true ∧ (Lit.int .i64 c.f1).wf = true
def cv (c : S48) : Value := .agg #[.int .i64 c.f0,.int .i64 c.f1]
theorem cells48 : Try.prog.cellsOf 48 = 2:=by kernel_rfl
theorem cells3 : Try.prog.cellsOf 3 = 1:=by kernel_rfl
theorem keyT48 : Try.prog.keyType 48 = true:=by kernel_rfl
theorem formed48 {a b : Value} : (Value.agg #[a,b]).formed Try.prog 48 = true:=by simp [Value.formed,Try.underlying48,cells48]
theorem sizes48 : ∃ n,Try.prog.types.size = n + 1:=⟨Try.prog.types.size - 1,by kernel_rfl⟩
theorem lits48 {c : S48} (h : W64 c) (n : Nat) : Try.prog.keyLits (n + 2) 48 [.int .i64 c.f0,.int .i64 c.f1] = some [.int .i64 c.f0,.int .i64 c.f1]:=by
 simp [Program.keyLits,Try.underlying48,Try.underlying3,cells48,cells3,h.1,h.2]
theorem keyOf_struct {P : Program} {k : TypeId} {v : Value} {fs : Array Field} (hu : P.underlying k = some (.struct fs)) (hk : P.keyType k = true) (hf : v.formed P k = true) (cs : List Value) (hc : v.cells.toList = cs) (n : Nat) (hn : P.types.size = n + 1) (ls : List Lit) (hl : P.keyLits (n + 2) k cs = some ls) : keyOf P k v = some (.string (keyBytes ls)):=by
 unfold keyOf;rw [hu];simp only [hk,hf,Bool.and_self,if_true];rw [hn,hc,hl];rfl
theorem key48 {c : S48} (h : W64 c) : keyOf Try.prog 48 (cv c) = some (kl c):=by
 obtain ⟨n,hn⟩:=sizes48;exact keyOf_struct Try.underlying48 keyT48 formed48 _ rfl n hn _ (lits48 h n)
theorem kl_inj {c d : S48} (hc : W64 c) (hd : W64 d) (h : kl c = kl d) : c = d:=by
 (have h1:=key48 hc;rw [h] at h1;have this : cv c = cv d:=Keyed.inj keyed48 h1 (key48 hd);have h2 : (cv c).cells.toList = (cv d).cells.toList:=by rw [this]);have h3 : [Value.int .i64 c.f0,Value.int .i64 c.f1] = [Value.int .i64 d.f0,Value.int .i64 d.f1]:=h2;injection h3 with e1 e2;injection e2 with e2 _;injection e1 with _ e1;injection e2 with _ e2;cases c;cases d;subst e1;subst e2;rfl
theorem isKey_kl {c : S48} (h : W64 c) : WideAt.IsKeyLit (kl c):=keyed48.key (key48 h)
abbrev Mp:=S48 → Option Int
def upd (m : Mp) (c : S48) (v : Int) : Mp:=fun d=>if d.f0 = c.f0 ∧ d.f1 = c.f1 then some v else m d
theorem upd_same (m : Mp) (c : S48) (v : Int) : upd m c v c = some v:=if_pos ⟨rfl,rfl⟩
theorem upd_other (m : Mp) {c d : S48} (v : Int) (h : d ≠ c) : upd m c v d = m d:=if_neg (fun e=>h (by cases c;cases d;obtain ⟨rfl,rfl⟩:=e;rfl))
theorem zero3 (w : World) : (zeroValue 3).run Try.prog w = .ok (.int .i64 0) w:=by kernel_rfl
theorem zero4 (w : World) : (zeroValue 4).run Try.prog w = .ok (.bool false) w:=by kernel_rfl
def MapI (w : World) (b n : Nat) (m : Mp) : Prop := ∃ D : DataW Unit,w.ownsMap Try.prog 48 (plainElem Try.prog 3) b n D ∧ ∀ c,W64 c → Maps.has D (kl c) = (m c).isSome ∧ D.atKey (kl c) (.lit (.int .i64 0)) = .lit (.int .i64 ((m c).getD 0))
theorem MapI.lt {w : World} {b n : Nat} {m : Mp} (h : MapI w b n m) : b < w.heap.size:=by obtain ⟨D,h,_⟩:=h;exact h.lt
theorem MapI.step {w w1 : World} {b n : Nat} {m : Mp} (h : MapI w b n m) (hm : w1.heap[b]? = w.heap[b]?) : MapI w1 b n m:=by
 obtain ⟨D,⟨es,clock,hb,r⟩,h⟩:=h;exact ⟨D,⟨es,clock,hm.trans hb,r⟩,h⟩
theorem MapI.below {w w1 : World} {b n : Nat} {m : Mp} (h : MapI w b n m) (hb : Below w.heap.size w w1) : MapI w1 b n m:=h.step (hb.block b h.lt)
theorem MapI.grown {w w1 : World} {b n : Nat} {m : Mp} {row : Option Nat} (h : MapI w b n m) (hg : w.grownBy w1 row) (hne : some b ≠ row) : MapI w1 b n m:=h.step (hg.block b h.lt hne)
theorem MapI.cells {w : World} {b n : Nat} {m : Mp} (h : MapI w b n m) {g : Nat} {cs : Array Value} {t : TypeId} {p : Nat × Nat} (hg : w.heap[g]? = some (.cells cs t p)) : b ≠ g:=by
 rintro rfl;obtain ⟨D,⟨es,clock,hb,r⟩,h⟩:=h;rw [hg] at hb;cases hb
theorem mapI_made (w : World) : MapI (w.alloc (.map #[] 0)) w.heap.size 0 (fun _=>none):=⟨_,World.ownsMap_made w Try.prog 48 _,fun c _=>⟨rfl,rfl⟩⟩
theorem mapI_put {D : DataW Unit} {m : Mp} (hD : Maps.IsMap D) (h : ∀ c,W64 c → Maps.has D (kl c) = (m c).isSome ∧ D.atKey (kl c) (.lit (.int .i64 0)) = .lit (.int .i64 ((m c).getD 0))) {c : S48} (hc : W64 c) (v : Int) :
  ∀ d,W64 d → Maps.has (D.put (kl c) (.lit (.int .i64 v))) (kl d) = (upd m c v d).isSome ∧ (D.put (kl c) (.lit (.int .i64 v))).atKey (kl d) (.lit (.int .i64 0)) = .lit (.int .i64 ((upd m c v d).getD 0)):=by
 intro d hd;by_cases e : d = c
 ·subst e
  rw [upd_same];exact ⟨Maps.has_put_same hD (isKey_kl hc) _,Maps.atKey_put_same hD (isKey_kl hc) _ _⟩
 ·have hne : kl d ≠ kl c:=fun h'=>e (kl_inj hd hc h')
  rw [upd_other m v e,Maps.has_put_other hne,Maps.atKey_put_other hne];exact h d hd
theorem mapI_update {w : World} {b n : Nat} {m : Mp} (h : MapI w b n m) (hn : n < maxLen) {c : S48} (hc : W64 c) {v : Int} (hv : (Lit.int .i64 v).wf = true) : ∃ w',(Instr.mapUpdate 84 (.map (some b)) (cv c) (.int .i64 v)).run Try.prog w = .ok () w' ∧ MapI w' b (n + 1) (upd m c v) ∧ w.grownBy w' (some b):=by
 obtain ⟨D,ho,h⟩:=h;obtain ⟨w',hrun,h1,h2⟩:=ho.update keyed48 Try.underlying84 hn (key48 hc) (plainElem_int Try.underlying3 hv);exact ⟨w',hrun,⟨_,h1,mapI_put ho.isMap h hc v⟩,h2⟩
theorem mapI_run {w : World} {b n : Nat} {m : Mp} (h : MapI w b n m) {c : S48} (hc : W64 c) : (Instr.lookup 84 (.map (some b)) (cv c) false).run Try.prog w = .ok (.int .i64 ((m c).getD 0)) w:=by
 obtain ⟨D,ho,h⟩:=h;obtain ⟨v,hrun,hat,_⟩:=ho.lookup_int keyed48 Try.underlying84 Try.underlying3 (zero3 w) (key48 hc);rw [(h c hc).2] at hat;injection hat with hat;injection hat with _ hat;rw [hat];exact hrun
section
variable {ops : Array Oper} {rest : List Oper} {o : Oper} {a : Act} {Q : Exit → Act → World → Prop} {w : World} {b n : Nat} {m : Mp} {c : S48}
theorem wpI_lookup_ok (hg : o.guard = none) (mo x : Operand) (hop : o.op = Op.lookup 84 mo x true) (hm : a.eval mo = .map (some b)) (hx : a.eval x = cv c) (h : MapI w b n m) (hc : W64 c)
  (hK : wpList Try.prog ops Q rest (a.put o.dst (.tuple #[.int .i64 ((m c).getD 0),.bool (m c).isSome])) w) : wpList Try.prog ops Q (o :: rest) a w:=by
 obtain ⟨D,ho,h⟩:=h;refine wpList_lookup_own_ok_int w hg mo x 84 hop 48 3 .i64 keyed48 Try.underlying84 Try.underlying3 (zero3 w) b n D hm ho (cv c) (kl c) hx (key48 hc) ?_;intro v hat _;rw [(h c hc).2] at hat;injection hat with hat;injection hat with _ hat;rw [← hat,(h c hc).1];exact hK
theorem wpI_lookup_ok' (hg : o.guard = none) (mo x : Operand) (hop : o.op = Op.lookup 84 mo x true) (hm : a.eval mo = .map (some b)) (hx : a.eval x = cv c) (h : MapI w b n m) (hc : W64 c) {v : Int} {i : Bool} (hv : (m c).getD 0 = v) (hi : (m c).isSome = i)
  (hK : wpList Try.prog ops Q rest (a.put o.dst (.tuple #[.int .i64 v,.bool i])) w) : wpList Try.prog ops Q (o :: rest) a w:=by
 subst hv;subst hi;exact wpI_lookup_ok hg mo x hop hm hx h hc hK
theorem wpI_lookup (hg : o.guard = none) (mo x : Operand) (hop : o.op = Op.lookup 84 mo x false) (hm : a.eval mo = .map (some b)) (hx : a.eval x = cv c) (h : MapI w b n m) (hc : W64 c)
  (hK : wpList Try.prog ops Q rest (a.put o.dst (.int .i64 ((m c).getD 0))) w) : wpList Try.prog ops Q (o :: rest) a w:=by
 obtain ⟨D,ho,h⟩:=h;refine wpList_lookup_own_int w hg mo x 84 hop 48 3 .i64 keyed48 Try.underlying84 Try.underlying3 (zero3 w) b n D hm ho (cv c) (kl c) hx (key48 hc) ?_;intro v hat _;rw [(h c hc).2] at hat;injection hat with hat;injection hat with _ hat;rw [← hat];exact hK
theorem wpI_insert (hg : o.guard = none) (mo x v : Operand) (hop : o.op = Op.insert 84 mo x v) (hm : a.eval mo = .map (some b)) (hx : a.eval x = cv c) {k : Int} (hv : a.eval v = .int .i64 k) (h : MapI w b n m) (hn : n < maxLen) (hc : W64 c) (hk : (Lit.int .i64 k).wf = true)
  (hK : ∀ w',MapI w' b (n + 1) (upd m c k) → w.grownBy w' (some b) → wpList Try.prog ops Q rest (a.put o.dst undef) w') : wpList Try.prog ops Q (o :: rest) a w:=by
 (refine wpList_plain hg fun K' hK'=>?_);obtain ⟨w',hrun,r1,r2⟩:=mapI_update h hn hc hk;unfold Oper.wp;simp [execOp,hop,hm,hx,hv,hrun,Result.andThen];exact hK' _ _ (hK w' r1 r2)
end
end Go.Proofs.Ytbpccdbkaiigcaa.G

/- The search by breadth, as a pure function, and what the walks hold of the world while they search. -/
namespace Go.Proofs.Ytbpccdbkaiigcaa.G
open Go.RowKit Go.Proofs.YtbpccdbkaiigcaaW.PrintWords Go.Proofs.YtbpccdbkaiigcaaW.PrintLast Go.Proofs.YtbpccdbkaiigcaaW.PrintMore
def stepIn (x : Int) : List S48 → Mp → List S48 → Mp × List S48
 | [],m,q=>(m,q)
 | d :: ds,m,q=>match m d with
  | some _=>stepIn x ds m q
  | none=>stepIn x ds (upd m d x) (q ++ [d])
def bfs (nb : S48 → List S48) : Nat → Mp → List S48 → Option Mp
 | 0,_,_=>none
 | _ + 1,m,[]=>some m
 | k + 1,m,c :: q=>match m c with
  | none=>none
  | some v=>if q.length < 1000 ∧ 0 ≤ v ∧ v < 1000 then bfs nb k (stepIn (v + 1) (nb c) m q).1 (stepIn (v + 1) (nb c) m q).2 else none
theorem stepIn_some {x : Int} {d : S48} {ds : List S48} {m : Mp} {q : List S48} {v : Int} (h : m d = some v) : stepIn x (d :: ds) m q = stepIn x ds m q:=by rw [stepIn,h]
theorem stepIn_none {x : Int} {d : S48} {ds : List S48} {m : Mp} {q : List S48} (h : m d = none) : stepIn x (d :: ds) m q = stepIn x ds (upd m d x) (q ++ [d]):=by rw [stepIn,h]
theorem drop48 (ds : List S48) (x : Int) (h0 : 0 ≤ x) (h1 : x < (ds.length : Int)) : ds.drop x.toNat = rd_T48 ds x :: ds.drop (x + 1).toNat:=by
 unfold rd_T48;rw [List.getD_eq_getElem?_getD,List.getElem?_eq_getElem (by omega),show (x + 1).toNat = x.toNat + 1 from by omega];exact List.drop_eq_getElem_cons (by omega)
theorem mem48 (ds : List S48) (x : Int) (h0 : 0 ≤ x) (h1 : x < (ds.length : Int)) : rd_T48 ds x ∈ ds:=by
 unfold rd_T48;rw [List.getD_eq_getElem?_getD,List.getElem?_eq_getElem (by omega)];exact List.getElem_mem _
structure SF (w0 w : World) (fc : Array Value) (g2 b n : Nat) (m : Mp) (v6 : Value) (l : List S48) (vn : Value) (ds : List S48) : Prop where
 fl : w.heap[g2]? = some (.cells fc 29 (0,0))
 mp : MapI w b n m
 mb : w0.heap.size ≤ b
 gb : w0.heap.size ≤ g2
 ln : Kd.Q k48 48 w w0.heap.size (fun k=>k ≠ b ∧ k ≠ g2) v6 l
 nb : Kd.R k48 48 w w0.heap.size (fun k=>(k ≠ b ∧ k ≠ g2) ∧ some k ≠ v6.ownBlock) vn ds
 bl : Below w0.heap.size w0 w
theorem SF.below {w0 w w1 : World} {fc : Array Value} {g2 b n : Nat} {m : Mp} {v6 vn : Value} {l ds : List S48} (h : SF w0 w fc g2 b n m v6 l vn ds) (hb : Below w.heap.size w w1) : SF w0 w1 fc g2 b n m v6 l vn ds :=
 ⟨blk_below h.fl hb,h.mp.below hb,h.mb,h.gb,Kd.Q_below h.ln hb,Kd.R_below h.nb hb,below_step h.bl hb⟩
theorem SF.put {w0 w w1 : World} {fc : Array Value} {g2 b n n' : Nat} {m m' : Mp} {v6 vn : Value} {l ds : List S48} (h : SF w0 w fc g2 b n m v6 l vn ds) (hm : MapI w1 b n' m') (hg : w.grownBy w1 (some b)) : SF w0 w1 fc g2 b n' m' v6 l vn ds :=
 ⟨(hg.block g2 (blk_lt h.fl) (fun e=>h.mp.cells h.fl (Option.some.inj e).symm)).trans h.fl,hm,h.mb,h.gb,Kd.Q_grown h.ln hg (fun k hk e=>hk.1 (Option.some.inj e)),Kd.R_grown h.nb hg (fun k hk e=>hk.1.1 (Option.some.inj e)),h.bl.grown hg h.bl.size (fun k hk=>by cases hk;exact h.mb)⟩
theorem SF.app {w0 w w1 : World} {fc : Array Value} {g2 b n : Nat} {m : Mp} {v6 v7 vn : Value} {l l' ds : List S48} (h : SF w0 w fc g2 b n m v6 l vn ds) (hq : Kd.Q k48 48 w1 w0.heap.size (fun k=>k ≠ b ∧ k ≠ g2) v7 l') (hb : Below w0.heap.size w0 w1) (hg : w.grownBy w1 v6.ownBlock) (hat : v7.ownBlock = v6.ownBlock ∨ ∃ b,v7.ownBlock = some b ∧ w.heap.size ≤ b) : SF w0 w1 fc g2 b n m v7 l' vn ds :=
 ⟨(hg.block g2 (blk_lt h.fl) (Kd.Q_ne h.ln h.fl (by decide))).trans h.fl,h.mp.grown hg (Kd.Q_away h.ln (fun k hk=>hk.1)),h.mb,h.gb,hq,Kd.R_after h.nb hg hat,hb⟩
theorem SF.near {w0 w w1 : World} {fc : Array Value} {g2 b n : Nat} {m : Mp} {v6 vn vn' : Value} {l ds ds' : List S48} (h : SF w0 w fc g2 b n m v6 l vn ds) (hb : Below w.heap.size w w1) (hr : Kd.R k48 48 w1 w.heap.size (fun _=>True) vn' ds') : SF w0 w1 fc g2 b n m v6 l vn' ds' :=
 have h':=h.below hb
 ⟨h'.fl,h'.mp,h.mb,h.gb,h'.ln,Kd.R_lower (Kd.R_mono (Kd.R_bound hr) (fun k hk=>⟨⟨fun e=>by have:=h.mp.lt;have:=hk.2.1;omega,fun e=>by have:=blk_lt h.fl;have:=hk.2.1;omega⟩,fun e=>by have:=Kd.Q_lt h.ln k e.symm;have:=hk.2.1;omega⟩)) h.bl.size,h'.bl⟩
theorem SF.next {w0 w : World} {fc : Array Value} {g2 b n : Nat} {m : Mp} {A : Option Addr} {nn c : Nat} {vn : Value} {x : S48} {l ds : List S48} (h : SF w0 w fc g2 b n m (.slice A nn c) (x :: l) vn ds) : SF w0 w fc g2 b n m (.slice (if c = 1 then A else A.map (·.add (1 * 2))) (nn - 1) (c - 1)) l (.slice none 0 0) [] :=
 ⟨h.fl,h.mp,h.mb,h.gb,Kd.Q_drop (k:=1) h.ln (by simp),Kd.R_nil _ _ _ _ _,h.bl⟩
end Go.Proofs.Ytbpccdbkaiigcaa.G

namespace Go.Proofs.Ytbpccdbkaiigcaa.G
open Go.RowKit Go.Proofs.YtbpccdbkaiigcaaW.PrintWords Go.Proofs.YtbpccdbkaiigcaaW.PrintLast Go.Proofs.YtbpccdbkaiigcaaW.PrintMore
attribute [local go_sem] max2_int min2_int max_two min_two max_three min_three max_four min_four   -- for this text's walks alone

def impl_around.l0:Nat → List (S48) → List (S48) → Int → Int → Int → Int → List (S48) → Int → Int → Option ((List (S48)))
 | 0,_,_,_,_,_,_,_,_,_=>none
 | k + 1,x5,x15,x16,x17,x0,x1,x2,x3,x4=>if x17 < x16 then (if 0 ≤ x17 then (if x17 < (x15.length:Int) then ((impl_isFree.f k x0 x1 x2 (wrap64 (x3 + ((rd_T48 x15 x17).f0))) (wrap64 (x4 + ((rd_T48 x15 x17).f1)))).bind fun t5=>(if t5 = true then (if x5.length < 8796093022208 then (impl_around.l0 k (x5 ++ [(⟨wrap64 (x3 + ((rd_T48 x15 x17).f0)),wrap64 (x4 + ((rd_T48 x15 x17).f1))⟩ : S48)]) x15 x16 (wrap64 (x17 + 1)) x0 x1 x2 x3 x4) else (none)) else (impl_around.l0 k x5 x15 x16 (wrap64 (x17 + 1)) x0 x1 x2 x3 x4))) else (none)) else (none)) else (some x5)
def impl_around.f (k:Nat) (a0_0:Int) (a0_1:Int) (l0_2:List (S48)) (a1_0:Int) (a1_1:Int):Option ((List (S48))):=(some (([(⟨0,(-1)⟩ : S48),(⟨(-1),0⟩ : S48),(⟨0,0⟩ : S48),(⟨1,0⟩ : S48),(⟨0,1⟩ : S48)]:List (S48)):List (S48))).bind fun y0=>(impl_around.l0 k (([]:List (S48))) y0 (y0.length:Int) 0 a0_0 a0_1 l0_2 a1_0 a1_1)
theorem impl_around.calls (k:Nat) (a0_0:Int) (a0_1:Int) (A0_2:Option Addr) (c0_2:Nat) (l0_2:List (S48)) (a1_0:Int) (a1_1:Int) (r:List (S48)) (w:World) (hr0_2:Kd.C k48 w A0_2 l0_2.length l0_2) (hc0_2:l0_2.length ≤ c0_2) (h:impl_around.f k a0_0 a0_1 l0_2 a1_0 a1_1 = some r) :
  Calls Try.prog 70 #[.agg #[.int .i64 a0_0,.int .i64 a0_1,.slice A0_2 l0_2.length c0_2],.agg #[.int .i64 a1_0,.int .i64 a1_1]] w fun e w' => ∃ v0_:Value,e = .returned (v0_) ∧ Kd.R k48 48 w' w.heap.size (fun _=>True) v0_ r ∧ Below w.heap.size w w':=by
 (have hu29:=Try.underlying29;have hu48:=Try.underlying48;have HR0_2:=zM hr0_2;have HC0_2:=zM hc0_2;clear hr0_2 hc0_2;have HB:=zM (Below.refl w.heap.size w);have H:((some (([(⟨0,(-1)⟩ : S48),(⟨(-1),0⟩ : S48),(⟨0,0⟩ : S48),(⟨1,0⟩ : S48),(⟨0,1⟩ : S48)]:List (S48)):List (S48))).bind fun y0=>(impl_around.l0 k (([]:List (S48))) y0 (y0.length:Int) 0 a0_0 a0_1 l0_2 a1_0 a1_1)) = some r:=h;clear h;obtain ⟨y1,hy1⟩ : ∃ y_:List (S48),y_ = (([]:List (S48))):=⟨_,rfl⟩;replace H:((some (([(⟨0,(-1)⟩ : S48),(⟨(-1),0⟩ : S48),(⟨0,0⟩ : S48),(⟨1,0⟩ : S48),(⟨0,1⟩ : S48)]:List (S48)):List (S48))).bind fun y0=>(impl_around.l0 k y1 y0 (y0.length:Int) 0 a0_0 a0_1 l0_2 a1_0 a1_1)) = some r:=by first|(rw [hy1];with_reducible exact H)|(have H2_:=(Option.bind_some _ _).symm.trans H;rw [hy1];with_reducible exact H2_)|(have H2_:=(Option.bind_some _ _).symm.trans H;with_reducible exact H2_)|with_reducible exact H|(rw [hy1];exact H)|exact H);have Ny1:=zM hy1;clear hy1;obtain ⟨y0,hy0⟩ : ∃ y_:List (S48),y_ = (([(⟨0,(-1)⟩ : S48),(⟨(-1),0⟩ : S48),(⟨0,0⟩ : S48),(⟨1,0⟩ : S48),(⟨0,1⟩ : S48)]:List (S48))):=⟨_,rfl⟩;replace H:(impl_around.l0 k y1 y0 (y0.length:Int) 0 a0_0 a0_1 l0_2 a1_0 a1_1) = some r:=by first|(rw [hy0];with_reducible exact H)|(have H2_:=(Option.bind_some _ _).symm.trans H;rw [hy0];with_reducible exact H2_)|(have H2_:=(Option.bind_some _ _).symm.trans H;with_reducible exact H2_)|with_reducible exact H|(rw [hy0];exact H)|exact H
 have Ny0:=zM hy0;clear hy0;have H':=zM H;clear H;go_enter Try.func70,Try.ntmps70;go_wp2_with (first|((with_reducible refine gate_dst (N:=2) rfl ?_);refine zzc 2 #[.int .i64 a0_0,.int .i64 a0_1,.slice A0_2 l0_2.length c0_2] 29 ?_;intro gb2 hg w3 hbox hb;have BK2:= zM (hbox);have GW2:= zM ((zq94:w.heap.size ≤ gb2));have GE2:= zM ((zq94:w.heap.size ≤ gb2));replace HB:= zM (zQ zzh hb);clear hb hbox hg)|((with_reducible refine gate_dst (N:=3) rfl ?_);refine zzc 3 #[.int .i64 a1_0,.int .i64 a1_1] 48 ?_;intro gb3 hg w4 hbox hb;have BK3:= zM (hbox);have GW3:= zM ((zq94:w.heap.size ≤ gb3));have GE3:= zM ((zq94:w.heap.size ≤ gb3));replace HB:= zM (zQ zzh hb);have NB2_3:= zM ((zzm hg (zzi BK2):gb2 ≠ gb3));have NB3_2:= zM ((zzM hg (zzi BK2):gb3 ≠ gb2));replace BK2:= zM (blk_below (zzi BK2) hb);clear hb hbox hg)|((with_reducible refine gate_dst (N:=9) rfl ?_);refine Kd.R_lit k48 _ 48 ?hg (N:=9) ?hd (xs:=([]:List (S48))) (inner:=[]) (ok:=fun _=>True) (okp:=fun _=>True) ?hr ?hp (fun _ hk=>hk) trivial (Below.refl _ _) (Nat.le_refl _) (by simp) ?_;(case hd=>rfl);(case hg=>rfl);(case hr=>first|(go_simp;done)|(go_simp;rfl));(case hp=>exact (Reps.none _ _));intro v4 w5 ho6 hb hg_ hnew_;clear hg_ hnew_;(first|rw [← Ny1.out] at ho6|(simp only [Int.reduceToNat] at ho6;rw [← Ny1.out] at ho6));have HO5:= zM (Kd.R_lower (Kd.R_newB ho6 (g:=gb3) (o := .cells #[.int .i64 a1_0,.int .i64 a1_1] 48 (0,0)) (zzi BK3)) (zR zzh));replace BK2:= zM (blk_below (zzi BK2) hb);replace BK3:= zM (blk_below (zzi BK3) hb);replace HB:= zM (zQ zzh hb);clear hb ho6)|((with_reducible refine gate_dst (N:=15) rfl ?_);refine Kd.R_lit k48 _ 48 ?hg (N:=15) ?hd (xs:=([(⟨0,(-1)⟩ : S48),(⟨(-1),0⟩ : S48),(⟨0,0⟩ : S48),(⟨1,0⟩ : S48),(⟨0,1⟩ : S48)]:List (S48))) (inner:=[.int .i64 0,.int .i64 (-1),.int .i64 (-1),.int .i64 0,.int .i64 0,.int .i64 0,.int .i64 1,.int .i64 0,.int .i64 0,.int .i64 1]) (ok:=fun _=>True) (okp:=fun _=>True) ?hr ?hp (fun _ hk=>hk) trivial (Below.refl _ _) (Nat.le_refl _) (by simp) ?_;(case hd=>rfl);(case hg=>rfl);(case hr=>first|(go_simp;done)|(go_simp;rfl));(case hp=>exact (Reps.c2 (show Kd.M k48 _ _ _ (⟨0,(-1)⟩ : S48) [.int .i64 0,.int .i64 (-1)] from (k48_mkM _ _ _ (⟨0,(-1)⟩ : S48) )) (Reps.c2 (show Kd.M k48 _ _ _ (⟨(-1),0⟩ : S48) [.int .i64 (-1),.int .i64 0] from (k48_mkM _ _ _ (⟨(-1),0⟩ : S48) )) (Reps.c2 (show Kd.M k48 _ _ _ (⟨0,0⟩ : S48) [.int .i64 0,.int .i64 0] from (k48_mkM _ _ _ (⟨0,0⟩ : S48) )) (Reps.c2 (show Kd.M k48 _ _ _ (⟨1,0⟩ : S48) [.int .i64 1,.int .i64 0] from (k48_mkM _ _ _ (⟨1,0⟩ : S48) )) (Reps.c2 (show Kd.M k48 _ _ _ (⟨0,1⟩ : S48) [.int .i64 0,.int .i64 1] from (k48_mkM _ _ _ (⟨0,1⟩ : S48) )) (Reps.none _ _)))))));intro v6 w7 ho8 hb hg_ hnew_;clear hg_ hnew_;(first|rw [← Ny0.out] at ho8|(simp only [Int.reduceToNat] at ho8;rw [← Ny0.out] at ho8));have HO7:= zM (Kd.R_lower (Kd.R_newB (Kd.R_new' ho8 (Kd.R_lt (zzl HO5))) (g:=gb3) (o := .cells #[.int .i64 a1_0,.int .i64 a1_1] 48 (0,0)) (zzi BK3)) (zR zzh));replace HO5:= zM (Kd.R_elder' (zzl HO5) (Kd.R_base ho8) hb);replace BK2:= zM (blk_below (zzi BK2) hb);replace BK3:= zM (blk_below (zzi BK3) hb);replace HB:= zM (zQ zzh hb);clear hb ho8;obtain ⟨Ao9,co9,eo9⟩:=Kd.R_slice HO7.out;subst eo9))
 go_loopg [5,17] k (fun kq v5 v17 w' => ∃ (x5_1:List (S48)) (x17_1:Int),v17 = .int .i64 x17_1 ∧ Aside0 (impl_around.l0 kq x5_1 y0 (y0.length:Int) x17_1 a0_0 a0_1 l0_2 a1_0 a1_1 = some r) ∧ Aside0 (kq ≤ k) ∧ Aside0 (Kd.R k48 48 w' w.heap.size (fun k_=>some k_ ≠ ((.slice Ao9 y0.length co9):Value).ownBlock ∧ k_ ≠ gb3) v5 x5_1) ∧ Aside0 (Kd.R k48 48 w' w.heap.size (fun k_=>some k_ ≠ (v5:Value).ownBlock ∧ k_ ≠ gb3) (.slice Ao9 y0.length co9) y0) ∧ Aside0 (w'.heap[gb2]? = some (.cells #[.int .i64 a0_0,.int .i64 a0_1,(.slice A0_2 l0_2.length c0_2)] 29 (0,0))) ∧ Aside0 (w'.heap[gb3]? = some (.cells #[.int .i64 a1_0,.int .i64 a1_1] 48 (0,0))) ∧ Aside0 (Below w.heap.size w w'))
 case atStart=>exact ⟨(y1),(0),zq91,H',⟨Nat.le_refl _⟩,⟨zq80⟩,⟨by (with_reducible repeat (first|apply zA|apply zB|apply zC));exact Kd.R_mono HO7.out (fun _ hk=>⟨hk.1.2,hk.2⟩)⟩,⟨zzi BK2⟩,⟨zzi BK3⟩,⟨zzh⟩⟩
 case round =>
  clear H';(try clear c2);(try clear p2);(try clear c7);obtain ⟨x5_1,x17_1,rfl,HA,HK1,HO_5,HO_15,BK2,BK3,HB⟩:=hrel;cases gk with
  | zero=>exact absurd HA.out (by simp [impl_around.l0])
  | succ k1 =>
   have H:=HA.out;clear HA;simp only [impl_around.l0] at H;by_cases c10:x17_1 < (y0.length:Int)
   ·rw [if_pos c10] at H
    have c10b0:decide (x17_1 < (y0.length:Int)) = true:=decide_eq_true c10;clear c10;by_cases c11:0 ≤ x17_1
    ·rw [if_pos c11] at H
     have c11b0:decide (0 ≤ x17_1) = true:=decide_eq_true c11;clear c11;by_cases c12:x17_1 < (y0.length:Int)
     ·rw [if_pos c12] at H
      have c12b0:decide (x17_1 < (y0.length:Int)) = true:=decide_eq_true c12;clear c12;replace H:=Option.bind_eq_some_iff.mp H;obtain ⟨t8,A9,H⟩:=H;replace H:(if t8 = true then (if x5_1.length < 8796093022208 then (impl_around.l0 k1 (x5_1 ++ [(⟨wrap64 (a1_0 + ((rd_T48 y0 x17_1).f0)),wrap64 (a1_1 + ((rd_T48 y0 x17_1).f1))⟩ : S48)]) y0 (y0.length:Int) (wrap64 (x17_1 + 1)) a0_0 a0_1 l0_2 a1_0 a1_1) else (none)) else (impl_around.l0 k1 x5_1 y0 (y0.length:Int) (wrap64 (x17_1 + 1)) a0_0 a0_1 l0_2 a1_0 a1_1)) = some r:=H;have A13:=zM A9;clear A9;by_cases c14:t8 = true
      ·subst c14
       (have H1:(if x5_1.length < 8796093022208 then (impl_around.l0 k1 (x5_1 ++ [(⟨wrap64 (a1_0 + ((rd_T48 y0 x17_1).f0)),wrap64 (a1_1 + ((rd_T48 y0 x17_1).f1))⟩ : S48)]) y0 (y0.length:Int) (wrap64 (x17_1 + 1)) a0_0 a0_1 l0_2 a1_0 a1_1) else (none)) = some r:=by rw [if_pos rfl] at H;exact H);clear H;have H:=H1;clear H1;by_cases c15:x5_1.length < 8796093022208
       ·rw [if_pos c15] at H
        (have LMc15:=zM c15;clear c15;obtain ⟨y10,hy10⟩ : ∃ y_:List (S48),y_ = (x5_1 ++ [(⟨wrap64 (a1_0 + ((rd_T48 y0 x17_1).f0)),wrap64 (a1_1 + ((rd_T48 y0 x17_1).f1))⟩ : S48)]):=⟨_,rfl⟩;replace H:(impl_around.l0 k1 y10 y0 (y0.length:Int) (wrap64 (x17_1 + 1)) a0_0 a0_1 l0_2 a1_0 a1_1) = some r:=by first|(rw [hy10];with_reducible exact H)|(have H2_:=(Option.bind_some _ _).symm.trans H;rw [hy10];with_reducible exact H2_)|(have H2_:=(Option.bind_some _ _).symm.trans H;with_reducible exact H2_)|with_reducible exact H|(rw [hy10];exact H)|exact H);have Ny10:=zM hy10;clear hy10;have H':=zM H;clear H;have p11:0 ≤ (x17_1:Int):=zzd;have q11:x17_1 < (y0.length:Int):=zzd;obtain ⟨ad11,e11,hx11_0,hx11_1⟩:=at_T48 (zN HO_15.out).2.2 x17_1 p11 q11;cases e11;replace p11:=eq_true p11;replace q11:=eq_true q11;go_wp2_with (first|((with_reducible refine gate_dst (N:=7) rfl ?_);refine zzc 7 #[.int .i64 0,.int .i64 0] 48 ?_;intro gb12 hg w16 hbox hb;replace HO_5:= zM (zP (Kd.R_elderB (zzl HO_5) gb12 (Nat.le_of_eq hg.symm)) hb);replace HO_15:= zM (zP (Kd.R_elderB (zzl HO_15) gb12 (Nat.le_of_eq hg.symm)) hb);have BK12:= zM (hbox);have GW12:= zM ((zq94:w.heap.size ≤ gb12));have GE12:= zM ((zq94:w.heap.size ≤ gb12));replace HB:= zM (zQ zzh hb);have NB2_12:= zM ((zzm hg (zzi BK2):gb2 ≠ gb12));have NB12_2:= zM ((zzM hg (zzi BK2):gb12 ≠ gb2));replace BK2:= zM (blk_below (zzi BK2) hb);have NB3_12:= zM ((zzm hg (zzi BK3):gb3 ≠ gb12));have NB12_3:= zM ((zzM hg (zzi BK3):gb12 ≠ gb3));replace BK3:= zM (blk_below (zzi BK3) hb);clear hb hbox hg;have hnb17:=NB12_2.out;have hnc17:=NB2_12.out;have hnb18:=NB12_3.out;have hnc18:=NB3_12.out;have hcz19_0:=zz0 BK12;have hcz19_1:=zz1 BK12;have hfz19_0:=blk_frozen BK12.out 0;have hfz19_1:=blk_frozen BK12.out 1;have hnb20:=NB3_2.out;have hnc20:=NB2_3.out;have hcz21_0:=zz0 BK3;have hcz21_1:=zz1 BK3;have hfz21_0:=blk_frozen BK3.out 0;have hfz21_1:=blk_frozen BK3.out 1)|((with_reducible refine gate_dst (N:=8) rfl ?_);refine zzc 8 #[.int .i64 0,.int .i64 0] 48 ?_;intro gb13 hg w22 hbox hb;replace HO_5:= zM (zP (Kd.R_elderB zq25 gb13 (Nat.le_of_eq hg.symm)) hb);replace HO_15:= zM (zP (Kd.R_elderB zq24 gb13 (Nat.le_of_eq hg.symm)) hb);have BK13:= zM (hbox);have GW13:= zM ((zq94:w.heap.size ≤ gb13));have GE13:= zM ((zq94:w.heap.size ≤ gb13));replace HB:= zM (zQ zzh hb);have NB2_13:= zM ((zq9:gb2 ≠ gb13));have NB13_2:= zM ((zq10:gb13 ≠ gb2));replace BK2:= zM (blk_below (g:=gb2) (o := .cells #[.int .i64 a0_0,.int .i64 a0_1,.slice A0_2 l0_2.length c0_2] 29 (0,0)) zq29 hb);have NB3_13:= zM ((zq13:gb3 ≠ gb13));have NB13_3:= zM ((zq14:gb13 ≠ gb3));replace BK3:= zM (blk_below (g:=gb3) (o := .cells #[.int .i64 a1_0,.int .i64 a1_1] 48 (0,0)) zq30 hb);have NB12_13:= zM ((zq6:gb12 ≠ gb13));have NB13_12:= zM ((zq7:gb13 ≠ gb12));replace BK12:= zM (blk_below (g:=gb12) (o := .cells #[.int .i64 ((rd_T48 y0 x17_1).f0),.int .i64 ((rd_T48 y0 x17_1).f1)] 48 (0,0)) zq18 hb);clear hb hbox hg;have hnb23:=NB13_2.out;have hnc23:=NB2_13.out;have hnb24:=NB13_3.out;have hnc24:=NB3_13.out;have hnb25:=NB13_12.out;have hnc25:=NB12_13.out;have hcz26_0:=zz0 BK13;have hcz26_1:=zz1 BK13;have hfz26_0:=blk_frozen BK13.out 0;have hfz26_1:=blk_frozen BK13.out 1;have hcz27_0:=zz0 BK2;have hcz27_1:=zz1 BK2;have hcz27_2:=zz2 BK2;have hfz27_0:=blk_frozen BK2.out 0;have hfz27_1:=blk_frozen BK2.out 1;have hfz27_2:=blk_frozen BK2.out 2)|((with_reducible refine gate_callee (f:=58) rfl ?_);refine goesL_ (some 34) rfl rfl Try.func58 (by kernel_rfl) rfl #[.agg #[.int .i64 a0_0,.int .i64 a0_1,.slice A0_2 l0_2.length c0_2],.agg #[.int .i64 (wrap64 (a1_0 + ((rd_T48 y0 x17_1).f0))),.int .i64 (wrap64 (a1_1 + ((rd_T48 y0 x17_1).f1)))]] rfl zq77 ?_;(with_reducible refine (impl_isFree.calls k1 a0_0 a0_1 _ _ l0_2 (wrap64 (a1_0 + ((rd_T48 y0 x17_1).f0))) (wrap64 (a1_1 + ((rd_T48 y0 x17_1).f1))) true _ ?side1 ?side2 A13.out).mono ?_);(case side1=>exact zO HR0_2.out zzh);(case side2=>exact HC0_2.out);rintro e w28 ⟨rfl,hb⟩;refine ⟨_,rfl,?_⟩;replace HO_5:= zM (zP zq22 hb);replace HO_15:= zM (zP zq21 hb);replace BK2:= zM (blk_below (g:=gb2) (o := .cells #[.int .i64 a0_0,.int .i64 a0_1,.slice A0_2 l0_2.length c0_2] 29 (0,0)) zq31 hb);replace BK3:= zM (blk_below (g:=gb3) (o := .cells #[.int .i64 a1_0,.int .i64 a1_1] 48 (0,0)) zq32 hb);replace BK12:= zM (blk_below (g:=gb12) (o := .cells #[.int .i64 ((rd_T48 y0 x17_1).f0),.int .i64 ((rd_T48 y0 x17_1).f1)] 48 (0,0)) zq26 hb);replace BK13:= zM (blk_below (g:=gb13) (o := .cells #[.int .i64 (wrap64 (a1_0 + ((rd_T48 y0 x17_1).f0))),.int .i64 (wrap64 (a1_1 + ((rd_T48 y0 x17_1).f1)))] 48 (0,0)) zq15 hb);replace HB:= zM (zQ zzh hb);(try clear hb);(try clear hb2);(try clear hk);(try clear hi);have hcz29_0:=zz0 BK13;have hcz29_1:=zz1 BK13;have hfz29_0:=blk_frozen BK13.out 0;have hfz29_1:=blk_frozen BK13.out 1)|((with_reducible refine gate_builtin (b := .append) (xs := #[.tmp 35,.tmp 37]) rfl ?_);at_builtin;refine Kd.R_append k48 (w0:=w) w.heap.size rfl (.tmp 35) (.tmp 37) 27 48 (.agg #[(.int .i64 0),(.int .i64 0)]) 16 rfl Try.underlying27 info48 rfl (by decide) (by omega) u5 x5_1 (⟨wrap64 (a1_0 + ((rd_T48 y0 x17_1).f0)),wrap64 (a1_1 + ((rd_T48 y0 x17_1).f1))⟩ : S48) [.int .i64 (wrap64 (a1_0 + ((rd_T48 y0 x17_1).f0))),.int .i64 (wrap64 (a1_1 + ((rd_T48 y0 x17_1).f1)))] (fun k_=>some k_ ≠ (.slice (some ad11) y0.length co9:Value).ownBlock ∧ k_ ≠ gb3 ∧ k_ ≠ gb12 ∧ k_ ≠ gb13) (fun _=>False) rfl rfl ?aP (fun _ hk=>hk.elim) ?aF ?aO ?aB ?aS ?aL ?_;(case aP=>exact k48_mkM _ _ _ (⟨wrap64 (a1_0 + ((rd_T48 y0 x17_1).f0)),wrap64 (a1_1 + ((rd_T48 y0 x17_1).f1))⟩ : S48));(case aB=>exact zzh);(case aF=>exact (fun k_ hk=>⟨Kd.fresh' (Kd.R_lt (zzl HO_15)) k_ hk,Kd.freshB (g:=gb3) (o := .cells #[.int .i64 a1_0,.int .i64 a1_1] 48 (0,0)) (zzi BK3) k_ hk,Kd.freshB (g:=gb12) (o := .cells #[.int .i64 ((rd_T48 y0 x17_1).f0),.int .i64 ((rd_T48 y0 x17_1).f1)] 48 (0,0)) (zzi BK12) k_ hk,Kd.freshB (g:=gb13) (o := .cells #[.int .i64 (wrap64 (a1_0 + ((rd_T48 y0 x17_1).f0))),.int .i64 (wrap64 (a1_1 + ((rd_T48 y0 x17_1).f1)))] 48 (0,0)) (zzi BK13) k_ hk⟩));(case aO=>exact (by (with_reducible repeat (first|apply zA|apply zB|apply zC));exact Kd.R_mono HO_5.out (fun _ hk=>⟨hk.1.1.1,⟨hk.1.1.2,⟨hk.1.2,hk.2⟩⟩⟩)));(case aS=>exact (zR zzh));(case aL=>have:=LMc15.out;omega);intro v14 w30 ho hb hg hat;rw [← Ny10.out] at ho;replace HO_15:= zM (Kd.R_after (ok:=(fun k_=>k_ ≠ gb3 ∧ k_ ≠ gb12 ∧ k_ ≠ gb13)) (by (with_reducible repeat (first|apply zA|apply zB|apply zC));exact Kd.R_mono HO_15.out (fun _ hk=>⟨⟨hk.1.1.2,⟨hk.1.2,hk.2⟩⟩,hk.1.1.1⟩)) hg hat);replace BK2:= zM (blk_grown (g:=gb2) (o := .cells #[.int .i64 a0_0,.int .i64 a0_1,.slice A0_2 l0_2.length c0_2] 29 (0,0)) (zzi BK2) hg (Kd.R_ne HO_5.out BK2.out (by decide)));replace BK3:= zM (blk_grown (g:=gb3) (o := .cells #[.int .i64 a1_0,.int .i64 a1_1] 48 (0,0)) (zzi BK3) hg (Kd.R_away HO_5.out (fun _ hk=>hk.1.1.2)));replace BK12:= zM (blk_grown (g:=gb12) (o := .cells #[.int .i64 ((rd_T48 y0 x17_1).f0),.int .i64 ((rd_T48 y0 x17_1).f1)] 48 (0,0)) (zzi BK12) hg (Kd.R_away HO_5.out (fun _ hk=>hk.1.2)));replace BK13:= zM (blk_grown (g:=gb13) (o := .cells #[.int .i64 (wrap64 (a1_0 + ((rd_T48 y0 x17_1).f0))),.int .i64 (wrap64 (a1_1 + ((rd_T48 y0 x17_1).f1)))] 48 (0,0)) (zzi BK13) hg (Kd.R_away HO_5.out (fun _ hk=>hk.2)));replace HB:= zM (hb);have HO15:= zM (ho);clear HO_5;clear ho hb hg hat))
        go_roundg k1
        case measure=>have:=HK1.out;omega
        case rel=>exact ⟨(y10),(wrap64 (x17_1 + 1)),zq91,H',⟨zq98⟩,⟨by (with_reducible repeat (first|apply zA|apply zB|apply zC));exact Kd.R_mono HO15.out (fun _ hk=>⟨hk.1,hk.2.1⟩)⟩,⟨by (with_reducible repeat (first|apply zA|apply zB|apply zC));exact Kd.R_mono HO_15.out (fun _ hk=>⟨hk.2,hk.1.1⟩)⟩,⟨zzi BK2⟩,⟨zzi BK3⟩,⟨zzh⟩⟩
       ·rw [if_neg c15] at H
        exact absurd H (by simp)
      ·replace c14:=Bool.eq_false_iff.mpr c14
       subst c14;have H1:(impl_around.l0 k1 x5_1 y0 (y0.length:Int) (wrap64 (x17_1 + 1)) a0_0 a0_1 l0_2 a1_0 a1_1) = some r:=by rw [if_neg (show ¬ (false = true) by decide)] at H;exact H
       clear H;have H:=H1;clear H1;have H':=zM H;clear H;have p11:0 ≤ (x17_1:Int):=zzd;have q11:x17_1 < (y0.length:Int):=zzd;obtain ⟨ad11,e11,hx11_0,hx11_1⟩:=at_T48 (zN HO_15.out).2.2 x17_1 p11 q11;cases e11;replace p11:=eq_true p11;replace q11:=eq_true q11;go_wp2_with (first|((with_reducible refine gate_dst (N:=7) rfl ?_);refine zzc 7 #[.int .i64 0,.int .i64 0] 48 ?_;intro gb12 hg w31 hbox hb;replace HO_5:= zM (zP (Kd.R_elderB (zzl HO_5) gb12 (Nat.le_of_eq hg.symm)) hb);replace HO_15:= zM (zP (Kd.R_elderB (zzl HO_15) gb12 (Nat.le_of_eq hg.symm)) hb);have BK12:= zM (hbox);have GW12:= zM ((zq94:w.heap.size ≤ gb12));have GE12:= zM ((zq94:w.heap.size ≤ gb12));replace HB:= zM (zQ zzh hb);have NB2_12:= zM ((zzm hg (zzi BK2):gb2 ≠ gb12));have NB12_2:= zM ((zzM hg (zzi BK2):gb12 ≠ gb2));replace BK2:= zM (blk_below (zzi BK2) hb);have NB3_12:= zM ((zzm hg (zzi BK3):gb3 ≠ gb12));have NB12_3:= zM ((zzM hg (zzi BK3):gb12 ≠ gb3));replace BK3:= zM (blk_below (zzi BK3) hb);clear hb hbox hg;have hnb32:=NB12_2.out;have hnc32:=NB2_12.out;have hnb33:=NB12_3.out;have hnc33:=NB3_12.out;have hcz34_0:=zz0 BK12;have hcz34_1:=zz1 BK12;have hfz34_0:=blk_frozen BK12.out 0;have hfz34_1:=blk_frozen BK12.out 1;have hnb35:=NB3_2.out;have hnc35:=NB2_3.out;have hcz36_0:=zz0 BK3;have hcz36_1:=zz1 BK3;have hfz36_0:=blk_frozen BK3.out 0;have hfz36_1:=blk_frozen BK3.out 1)|((with_reducible refine gate_dst (N:=8) rfl ?_);refine zzc 8 #[.int .i64 0,.int .i64 0] 48 ?_;intro gb13 hg w37 hbox hb;replace HO_5:= zM (zP (Kd.R_elderB zq25 gb13 (Nat.le_of_eq hg.symm)) hb);replace HO_15:= zM (zP (Kd.R_elderB zq24 gb13 (Nat.le_of_eq hg.symm)) hb);have BK13:= zM (hbox);have GW13:= zM ((zq94:w.heap.size ≤ gb13));have GE13:= zM ((zq94:w.heap.size ≤ gb13));replace HB:= zM (zQ zzh hb);have NB2_13:= zM ((zq9:gb2 ≠ gb13));have NB13_2:= zM ((zq10:gb13 ≠ gb2));replace BK2:= zM (blk_below (g:=gb2) (o := .cells #[.int .i64 a0_0,.int .i64 a0_1,.slice A0_2 l0_2.length c0_2] 29 (0,0)) zq29 hb);have NB3_13:= zM ((zq13:gb3 ≠ gb13));have NB13_3:= zM ((zq14:gb13 ≠ gb3));replace BK3:= zM (blk_below (g:=gb3) (o := .cells #[.int .i64 a1_0,.int .i64 a1_1] 48 (0,0)) zq30 hb);have NB12_13:= zM ((zq6:gb12 ≠ gb13));have NB13_12:= zM ((zq7:gb13 ≠ gb12));replace BK12:= zM (blk_below (g:=gb12) (o := .cells #[.int .i64 ((rd_T48 y0 x17_1).f0),.int .i64 ((rd_T48 y0 x17_1).f1)] 48 (0,0)) zq18 hb);clear hb hbox hg;have hnb38:=NB13_2.out;have hnc38:=NB2_13.out;have hnb39:=NB13_3.out;have hnc39:=NB3_13.out;have hnb40:=NB13_12.out;have hnc40:=NB12_13.out;have hcz41_0:=zz0 BK13;have hcz41_1:=zz1 BK13;have hfz41_0:=blk_frozen BK13.out 0;have hfz41_1:=blk_frozen BK13.out 1;have hcz42_0:=zz0 BK2;have hcz42_1:=zz1 BK2;have hcz42_2:=zz2 BK2;have hfz42_0:=blk_frozen BK2.out 0;have hfz42_1:=blk_frozen BK2.out 1;have hfz42_2:=blk_frozen BK2.out 2)|((with_reducible refine gate_callee (f:=58) rfl ?_);refine goesL_ (some 34) rfl rfl Try.func58 (by kernel_rfl) rfl #[.agg #[.int .i64 a0_0,.int .i64 a0_1,.slice A0_2 l0_2.length c0_2],.agg #[.int .i64 (wrap64 (a1_0 + ((rd_T48 y0 x17_1).f0))),.int .i64 (wrap64 (a1_1 + ((rd_T48 y0 x17_1).f1)))]] rfl zq77 ?_;(with_reducible refine (impl_isFree.calls k1 a0_0 a0_1 _ _ l0_2 (wrap64 (a1_0 + ((rd_T48 y0 x17_1).f0))) (wrap64 (a1_1 + ((rd_T48 y0 x17_1).f1))) false _ ?side1 ?side2 A13.out).mono ?_);(case side1=>exact zO HR0_2.out zzh);(case side2=>exact HC0_2.out);rintro e w43 ⟨rfl,hb⟩;refine ⟨_,rfl,?_⟩;replace HO_5:= zM (zP zq22 hb);replace HO_15:= zM (zP zq21 hb);replace BK2:= zM (blk_below (g:=gb2) (o := .cells #[.int .i64 a0_0,.int .i64 a0_1,.slice A0_2 l0_2.length c0_2] 29 (0,0)) zq31 hb);replace BK3:= zM (blk_below (g:=gb3) (o := .cells #[.int .i64 a1_0,.int .i64 a1_1] 48 (0,0)) zq32 hb);replace BK12:= zM (blk_below (g:=gb12) (o := .cells #[.int .i64 ((rd_T48 y0 x17_1).f0),.int .i64 ((rd_T48 y0 x17_1).f1)] 48 (0,0)) zq26 hb);replace BK13:= zM (blk_below (g:=gb13) (o := .cells #[.int .i64 (wrap64 (a1_0 + ((rd_T48 y0 x17_1).f0))),.int .i64 (wrap64 (a1_1 + ((rd_T48 y0 x17_1).f1)))] 48 (0,0)) zq15 hb);replace HB:= zM (zQ zzh hb);(try clear hb);(try clear hb2);(try clear hk);(try clear hi)))
       go_roundg k1
       case measure=>have:=HK1.out;omega
       case rel=>exact ⟨(x5_1),(wrap64 (x17_1 + 1)),zq91,H',⟨zq98⟩,⟨by (with_reducible repeat (first|apply zA|apply zB|apply zC));exact Kd.R_mono HO_5.out (fun _ hk=>⟨hk.1.1.1,hk.1.1.2⟩)⟩,⟨by (with_reducible repeat (first|apply zA|apply zB|apply zC));exact Kd.R_mono HO_15.out (fun _ hk=>⟨hk.1.1.1,hk.1.1.2⟩)⟩,⟨zzi BK2⟩,⟨zzi BK3⟩,⟨zzh⟩⟩
     ·rw [if_neg c12] at H
      exact absurd H (by simp)
    ·rw [if_neg c11] at H
     exact absurd H (by simp)
   ·rw [if_neg c10] at H
    have c10b0:decide (x17_1 < (y0.length:Int)) = false:=decide_eq_false c10;clear c10;obtain rfl:=Option.some.inj H;go_wp2;go_ret;exact ⟨_,zq84,by (with_reducible repeat (first|apply zA|apply zB|apply zC));exact Kd.R_mono HO_5.out (fun _ hk=>trivial),zzh⟩

end Go.Proofs.Ytbpccdbkaiigcaa.G

/- The walk of impl.stepsFrom: what it hands back is the map that the search by breadth makes. -/
namespace Go.Proofs.Ytbpccdbkaiigcaa.G
open Go.RowKit Go.Proofs.YtbpccdbkaiigcaaW.PrintWords Go.Proofs.YtbpccdbkaiigcaaW.PrintLast Go.Proofs.YtbpccdbkaiigcaaW.PrintMore
structure Nbs (a0_0 a0_1 : Int) (l0_2 : List S48) (G : S48 → Prop) (nb : S48 → List S48) : Prop where
 wf : ∀ d,G d → W64 d
 len : ∀ d,G d → (nb d).length ≤ 5
 cl : ∀ d,G d → ∀ e ∈ nb d,G e
 run : ∀ d,G d → ∃ k,impl_around.f k a0_0 a0_1 l0_2 d.f0 d.f1 = some (nb d)
theorem grown_blk {w w1 : World} {b g : Nat} {cs : Array Value} {t : TypeId} (hg : w.grownBy w1 (some b)) (h : w.heap[g]? = some (.cells cs t (0,0))) (hne : g ≠ b) : w1.heap[g]? = some (.cells cs t (0,0)):=(hg.block g (blk_lt h) (fun e=>hne (Option.some.inj e))).trans h
theorem wf_small {x : Int} (h0 : -1 ≤ x) (h1 : x ≤ 2000) : (Lit.int .i64 x).wf = true:=wf_iff.2 ⟨by omega,by omega⟩
theorem impl_stepsFrom.calls (a0_0 a0_1 : Int) (A0_2 : Option Addr) (c0_2 : Nat) (l0_2 : List S48) (c1 : S48) (G : S48 → Prop) (nb : S48 → List S48) (K : Nat) (r : Mp) (w : World) (hr0_2 : Kd.C k48 w A0_2 l0_2.length l0_2) (hc0_2 : l0_2.length ≤ c0_2) (hnb : Nbs a0_0 a0_1 l0_2 G nb) (hG : G c1) (hK : K ≤ 1000) (h : bfs nb K (upd (fun _=>none) c1 0) [c1] = some r) :
  Calls Try.prog 65 #[.agg #[.int .i64 a0_0,.int .i64 a0_1,.slice A0_2 l0_2.length c0_2],.agg #[.int .i64 c1.f0,.int .i64 c1.f1]] w fun e w' => ∃ (b n : Nat),e = .returned (.map (some b)) ∧ w.heap.size ≤ b ∧ n ≤ 10000 ∧ MapI w' b n r ∧ Below w.heap.size w w':=by
 have hu29:=Try.underlying29;have hu48:=Try.underlying48;have HR0:=Aside0.mk hr0_2;have HC0:=Aside0.mk hc0_2;have HN:=Aside0.mk hnb;have HH:=Aside0.mk h;have hw1:=hnb.wf c1 hG;clear hr0_2 hc0_2 hnb h;have hmm := @run_makeMap Try.prog;go_enter Try.func65,Try.ntmps65;go_wp2_with (first|((with_reducible refine gate_dst (N:=2) rfl ?_);refine zzc 2 #[.int .i64 a0_0,.int .i64 a0_1,.slice A0_2 l0_2.length c0_2] 29 ?_;intro g2 hgg2 w2 hbox hb;have HF2:=Aside0.mk hbox;have HB2:=Aside0.mk hb;have HG2:=Aside0.mk hgg2;clear hbox hb hgg2;have hf20:=zz0 HF2;have hf21:=zz1 HF2;have hf22:=zz2 HF2)|((with_reducible refine gate_dst (N:=3) rfl ?_);refine zzc 3 #[.int .i64 c1.f0,.int .i64 c1.f1] 48 ?_;intro g3 hgg3 w3 hbox hb;have HF3:=Aside0.mk hbox;have HB3:=Aside0.mk hb;have HG3:=Aside0.mk hgg3;clear hbox hb hgg3;have hf30:=zz0 HF3;have hf31:=zz1 HF3;have hf32 : (w3.alloc (.map #[] 0)).cell? ⟨g3,0,none⟩ = some (.int .i64 c1.f0):=(blk_cell (blk_below HF3.out (below_alloc (Below.refl _ _) _)) 0).trans rfl;have hf33 : (w3.alloc (.map #[] 0)).cell? ⟨g3,1,none⟩ = some (.int .i64 c1.f1):=(blk_cell (blk_below HF3.out (below_alloc (Below.refl _ _) _)) 1).trans rfl)|(refine wpI_insert (c:=c1) rfl (.tmp 11) (.tmp 12) (.const (.int .i64 0)) rfl rfl rfl rfl (mapI_made w3) (by decide) hw1 (by decide) ?_;intro w4 hm4 hg4;have HF4:=Aside0.mk (grown_blk hg4 (blk_below HF3.out (below_alloc (Below.refl _ _) _)) (Nat.ne_of_lt (blk_lt HF3.out)));have HM4:=Aside0.mk hm4;have HG4:=Aside0.mk hg4;have hf40:=zz0 HF4;have hf41:=zz1 HF4;clear hm4 hg4)|((with_reducible refine gate_dst (N:=15) rfl ?_);refine Kd.R_lit k48 _ 48 ?hg (N:=15) ?hd (xs:=([c1] : List S48)) (inner:=[.int .i64 c1.f0,.int .i64 c1.f1]) (ok:=fun _=>True) (okp:=fun _=>True) ?hr ?hp (fun _ hk=>hk) trivial (Below.refl _ _) (Nat.le_refl _) (by simp) ?_;(case hd=>rfl);(case hg=>rfl);(case hr=>first|(go_simp;done)|(go_simp;rfl));(case hp=>exact (Reps.c2 (show Kd.M k48 _ _ _ c1 [.int .i64 c1.f0,.int .i64 c1.f1] from k48_mkM _ _ _ c1) (Reps.none _ _)));intro v15 w15 hR hB hg_ hnew_;clear hg_ hnew_;have HR5:=Aside0.mk hR;have HB5:=Aside0.mk hB;clear hR hB))
 (have hl2 : g2 < w2.heap.size:=blk_lt HF2.out;have hf2 : w3.heap[g2]? = some (.cells #[.int .i64 a0_0,.int .i64 a0_1,.slice A0_2 l0_2.length c0_2] 29 (0,0)):=blk_below HF2.out HB3.out;have HFL:=Aside0.mk (grown_blk HG4.out (blk_below hf2 (below_alloc (Below.refl _ _) (.map #[] 0))) (Nat.ne_of_lt (blk_lt hf2)));have hb0 : w.heap.size ≤ w3.heap.size:=Nat.le_trans HB2.out.size HB3.out.size;have hgb : w.heap.size ≤ g2:=by have:=HG2.out;omega);have hb4a:=below_step (below_step HB2.out HB3.out) (below_alloc (Below.refl _ _) (.map #[] 0));have HB4:=Aside0.mk (hb4a.grown HG4.out hb4a.size (fun k hk=>by cases hk;exact hb0));obtain ⟨b,hbb⟩ : ∃ b,w3.heap.size = b:=⟨_,rfl⟩;have HS5 : Aside0 (SF w w15 #[.int .i64 a0_0,.int .i64 a0_1,.slice A0_2 l0_2.length c0_2] g2 w3.heap.size 1 (upd (fun _=>none) c1 0) v15 [c1] (.slice none 0 0) []):=Aside0.mk ⟨blk_below HFL.out HB5.out,HM4.out.below HB5.out,hb0,hgb,Kd.Q_of_R (Kd.R_lower (Kd.R_mono (Kd.R_bound HR5.out) (fun k hk=>⟨fun e=>by have:=HM4.out.lt;have:=hk.2.1;omega,fun e=>by have:=blk_lt HFL.out;have:=hk.2.1;omega⟩)) HB4.out.size),Kd.R_nil _ _ _ _ _,below_step HB4.out HB5.out⟩;clear hl2 hf2 hb0 hgb hb4a HR5 HB5 HF2 HF3 HB2 HB3 HG2 HG3 HF4 HM4 HG4 HFL HB4;rw [hbb] at HS5;simp only [hbb];go_loopg [6] K (fun kq v6 w' => ∃ (m : Mp) (q : List S48) (n : Nat),Aside0 (bfs nb kq m q = some r) ∧ Aside0 (kq ≤ K) ∧ Aside0 (n + 5 * kq ≤ 5 * K + 1) ∧ Aside0 (∀ d ∈ q,G d) ∧ Aside0 (SF w w' #[.int .i64 a0_0,.int .i64 a0_1,.slice A0_2 l0_2.length c0_2] g2 b n m v6 q (.slice none 0 0) []))
 case atStart=>exact ⟨_,_,1,HH,⟨Nat.le_refl _⟩,⟨by omega⟩,⟨fun d hd=>by rw [List.mem_singleton] at hd;subst hd;exact hG⟩,HS5⟩
 case round =>
  clear HH HS5 hG;obtain ⟨m,q,n,HA,HK1,HNN,HQ,HS⟩:=hrel
  cases gk with
  | zero=>exact absurd HA.out (by simp [bfs])
  | succ k1 =>
   cases q with
   | nil =>
    have e:=HA.out;rw [bfs] at e;obtain rfl:=Option.some.inj e;obtain ⟨A6,c6,e6,_⟩:=Kd.Q_slice HS.out.ln;subst e6;clear HA e;go_wp2;go_ret;exact ⟨b,n,rfl,HS.out.mb,by have:=HNN.out;omega,HS.out.mp,HS.out.bl⟩
   | cons c q =>
    have e:=HA.out;rw [bfs] at e
    cases hc : m c with
    | none=>rw [hc] at e;exact absurd e (by simp)
    | some v =>
     rw [hc] at e;dsimp only at e;by_cases hg : q.length < 1000 ∧ 0 ≤ v ∧ v < 1000
     ·rw [if_pos hg] at e
      have HE:=Aside0.mk e;have HV:=Aside0.mk hg;have HC:=Aside0.mk hc;have HGc:=Aside0.mk (HQ.out c List.mem_cons_self);have HGq : Aside0 (∀ d ∈ q,G d):=Aside0.mk (fun d hd=>HQ.out d (List.mem_cons_of_mem _ hd));clear e hg hc HA HQ;obtain ⟨A6,c6,e6,hcap6⟩:=Kd.Q_slice HS.out.ln;subst e6;obtain ⟨ad6,ea,hx0,hx1⟩:=at_T48 (Kd.Q_reads' HS.out.ln).2.2 0 (Int.le_refl _) (by simp);subst ea;rw [show (rd_T48 (c :: q) 0) = c from rfl,show ad6.add ((0 : Int).toNat * 2) = ad6 from by cases ad6;rfl] at hx0 hx1;have hf0 : wr.cell? ⟨g2,0,none⟩ = some (.int .i64 a0_0):=(blk_cell HS.out.fl 0).trans rfl;have hf1 : wr.cell? ⟨g2,1,none⟩ = some (.int .i64 a0_1):=(blk_cell HS.out.fl 1).trans rfl;have hf2 : wr.cell? ⟨g2,2,none⟩ = some (.slice A0_2 l0_2.length c0_2):=(blk_cell HS.out.fl 2).trans rfl;obtain ⟨ka,hka⟩:=HN.out.run c HGc.out;have HKA:=Aside0.mk hka;clear hka;have hl6 : (c :: q).length = q.length + 1:=rfl;have hcond : decide (0 < ((q.length + 1 : Nat) : Int)) = true:=decide_eq_true (by omega);rw [hl6] at *;go_wp2;refine start_ (n:=7) (S:=fun w'=>w'.cell? ⟨g2,0,none⟩ = some (.int .i64 a0_0) ∧ w'.cell? ⟨g2,1,none⟩ = some (.int .i64 a0_1) ∧ w'.cell? ⟨g2,2,none⟩ = some (.slice A0_2 l0_2.length c0_2) ∧ w'.cell? ad6 = some (.int .i64 c.f0) ∧ w'.cell? ⟨ad6.block,ad6.off + 1,none⟩ = some (.int .i64 c.f1)) (ds:=[4]) #[false,false,false,false,false,false,false] (by kernel_rfl) rfl rfl ⟨hf0,hf1,hf2,hx0,hx1⟩ (fun hHeld=>?_);refine zzt 0 21 (zzb 7 1) hHeld ?_ (hy:=by intro w' s0;obtain ⟨s1,s2,s3,s4,s5⟩:=s0;go_simp;with_reducible rfl);refine zzp 1 22 (zzb 7 3) ?_;refine zzp 2 23 (zzb 7 7) ?_
      refine zzt 3 24 (zzb 7 15) hHeld ?_ (hy:=by intro w' s0;obtain ⟨s1,s2,s3,s4,s5⟩:=s0;go_simp;with_reducible rfl);refine zzp 6 27 (zzb 7 79) ?_;have HSd:=Aside0.mk (HS.out.below (below_drew1 (Below.refl _ _)));have HRd:=Aside0.mk (Kd.C_below HR0.out HSd.out.bl);generalize wr.drew = wd at HSd HRd hHeld ⊢;refine last_ (i:=4) (N:=(some 25)) #[true,true,true,true,true,false,true] rfl rfl (by kernel_rfl) (by decide) (fun K hK=>?_);refine call_ 70 #[.agg #[.int .i64 a0_0,.int .i64 a0_1,.slice A0_2 l0_2.length c0_2],.agg #[.int .i64 c.f0,.int .i64 c.f1]] (by rfl) rfl ?hrun4 ?_
      case hrun4 =>
       unfold execOp;simp [resolve,Deferred.ofValue,invoke,Act.eval,enters_ Try.func70 (by kernel_rfl) rfl]
      refine (impl_around.calls ka a0_0 a0_1 A0_2 c0_2 l0_2 c.f0 c.f1 (nb c) _ HRd.out HC0.out HKA.out).mono ?_;rintro e w25 ⟨v25,rfl,hR,hB⟩;refine ⟨_,rfl,?_⟩;obtain ⟨A25,c25,rfl⟩:=Kd.R_slice hR;have HS1:=Aside0.mk (HSd.out.near hB hR);clear hR hB hHeld HSd HRd HS hf0 hf1 hf2 hx0 hx1;refine hK.out _ _ ?_;clear hK K;refine zzn 25 ?_;refine zzp 5 26 (zzb 7 127) ?_;refine done_ (by kernel_rfl) ?_;go_wp2;go_loopw [6,27] (fun v6 v27 w' => ∃ (x : Int) (m' : Mp) (q' : List S48) (n' : Nat),v27 = .int .i64 x ∧ Aside0 (0 ≤ x ∧ x ≤ ((nb c).length : Int)) ∧ Aside0 (stepIn (v + 1) ((nb c).drop x.toNat) m' q' = stepIn (v + 1) (nb c) m q) ∧ Aside0 (m' c = some v) ∧ Aside0 ((q'.length : Int) ≤ q.length + x) ∧ Aside0 ((n' : Int) ≤ n + x) ∧ Aside0 (∀ d ∈ q',G d) ∧ Aside0 (SF w w' #[.int .i64 a0_0,.int .i64 a0_1,.slice A0_2 l0_2.length c0_2] g2 b n' m' v6 (c :: q') (.slice A25 (nb c).length c25) (nb c))) (fun _ v27 _=>(nb c).length - (intOf v27).toNat)
      case atStart=>exact ⟨0,m,q,n,rfl,⟨Int.le_refl _,by omega⟩,⟨rfl⟩,HC,⟨by omega⟩,⟨by omega⟩,HGq,HS1⟩
      case round =>
       clear HS1 HC HGq;obtain ⟨x,m',q',n',rfl,HX,HST,HC,HQL,HNL,HGq,HS⟩:=hrel;have h5:=HN.out.len c HGc.out;by_cases hlt : x < ((nb c).length : Int)
       ·obtain ⟨ad25,ea,hy0,hy1⟩:=at_T48 (Kd.R_reads' HS.out.nb).2.2 x HX.out.1 hlt
        cases ea;obtain ⟨d,hd⟩ : ∃ d,rd_T48 (nb c) x = d:=⟨_,rfl⟩;have hst:=HST.out;rw [drop48 (nb c) x HX.out.1 hlt,hd] at hst;have HGd : Aside0 (G d):=Aside0.mk (HN.out.cl c HGc.out d (by rw [← hd];exact mem48 _ x HX.out.1 hlt));rw [hd] at hy0 hy1;have hX1 : 0 ≤ x + 1 ∧ x + 1 ≤ ((nb c).length : Int):=by have:=HX.out;omega
        have HX1:=Aside0.mk hX1;have hwx : wrap64 (x + 1) = x + 1:=wrap64_id (by omega) (by omega);have p0 : decide (x < ((nb c).length : Int)) = true:=decide_eq_true hlt;have p1:=eq_true HX.out.1;have p2:=eq_true hlt;obtain ⟨A6,c6,e6,hcap6⟩:=Kd.Q_slice HS.out.ln;subst e6;obtain ⟨ad6,ea,hx0,hx1⟩:=at_T48 (Kd.Q_reads' HS.out.ln).2.2 0 (Int.le_refl _) (by simp);subst ea;rw [show (rd_T48 (c :: q') 0) = c from rfl,show ad6.add ((0 : Int).toNat * 2) = ad6 from by cases ad6;rfl] at hx0 hx1;clear hX1 hlt hd HST
        cases hmd : m' d with
        | some y =>
         rw [stepIn_some hmd] at hst;have HST:=Aside0.mk hst;have HD:=Aside0.mk hmd;clear hst hmd;go_wp2_with (first|((with_reducible refine gate_dst (N:=8) rfl ?_);refine zzc 8 #[.int .i64 0,.int .i64 0] 48 ?_;intro g8 hgg8 w8 hbox hb;have HF8:=Aside0.mk hbox;have HB8:=Aside0.mk hb;have HG8:=Aside0.mk hgg8;clear hbox hb hgg8;have hz0:=zz0 HF8;have hz1:=zz1 HF8;have hzf0:=blk_frozen HF8.out 0;have hzf1:=blk_frozen HF8.out 1)|(at_lookup;have HB9:=Aside0.mk (below_set (j:=1) (v := .int .i64 d.f1) (below_set (j:=0) (v := .int .i64 d.f0) HB8.out (Nat.le_of_eq HG8.out.symm)) (Nat.le_of_eq HG8.out.symm));have HF9 : Aside0 (((w8.setCell ⟨g8,0,none⟩ (.int .i64 d.f0)).setCell ⟨g8,1,none⟩ (.int .i64 d.f1)).heap[g8]? = some (.cells #[.int .i64 d.f0,.int .i64 d.f1] 48 (0,0))):=Aside0.mk (blk_put (cs := #[.int .i64 d.f0,.int .i64 0]) (blk_put (cs := #[.int .i64 0,.int .i64 0]) HF8.out 0 _ rfl) 1 _ rfl);have HS9:=Aside0.mk (HS.out.below HB9.out);refine wpI_lookup_ok' (c:=d) rfl (.tmp 32) (.tmp 33) rfl rfl rfl HS9.out.mp (HN.out.wf d HGd.out) (v:=y) (i:=true) (by rw [HD.out];rfl) (by rw [HD.out];rfl) ?_;clear HB9 hz0 hz1 hzf0 hzf1 HF8 HB8 HG8;generalize ((w8.setCell ⟨g8,0,none⟩ (.int .i64 d.f0)).setCell ⟨g8,1,none⟩ (.int .i64 d.f1)) = w9 at HF9 HS9 ⊢;have hc90:=zz0 HF9;have hc91:=zz1 HF9));go_roundw
         case measure=>simp [intOf];have:=HX1.out;have:=HX.out;omega
         case rel=>exact ⟨x + 1,m',q',n',(by rw [hwx]),HX1,HST,HC,⟨by have:=HQL.out;omega⟩,⟨by have:=HNL.out;omega⟩,HGq,HS9⟩
        | none =>
         rw [stepIn_none hmd] at hst;have HST:=Aside0.mk hst;have HD:=Aside0.mk hmd;clear hst hmd;go_wp2_with (first|((with_reducible refine gate_dst (N:=8) rfl ?_);refine zzc 8 #[.int .i64 0,.int .i64 0] 48 ?_;intro g8 hgg8 w8 hbox hb;have HF8:=Aside0.mk hbox;have HB8:=Aside0.mk hb;have HG8:=Aside0.mk hgg8;clear hbox hb hgg8;have hz0:=zz0 HF8;have hz1:=zz1 HF8;have hzf0:=blk_frozen HF8.out 0;have hzf1:=blk_frozen HF8.out 1)|(at_lookup;have HB9:=Aside0.mk (below_set (j:=1) (v := .int .i64 d.f1) (below_set (j:=0) (v := .int .i64 d.f0) HB8.out (Nat.le_of_eq HG8.out.symm)) (Nat.le_of_eq HG8.out.symm));have HF9 : Aside0 (((w8.setCell ⟨g8,0,none⟩ (.int .i64 d.f0)).setCell ⟨g8,1,none⟩ (.int .i64 d.f1)).heap[g8]? = some (.cells #[.int .i64 d.f0,.int .i64 d.f1] 48 (0,0))):=Aside0.mk (blk_put (cs := #[.int .i64 d.f0,.int .i64 0]) (blk_put (cs := #[.int .i64 0,.int .i64 0]) HF8.out 0 _ rfl) 1 _ rfl);have HS9:=Aside0.mk (HS.out.below HB9.out);refine wpI_lookup_ok' (c:=d) rfl (.tmp 32) (.tmp 33) rfl rfl rfl HS9.out.mp (HN.out.wf d HGd.out) (v:=0) (i:=false) (by rw [HD.out];rfl) (by rw [HD.out];rfl) ?_;clear HB9 hz0 hz1 hzf0 hzf1 HF8 HB8 HG8;generalize ((w8.setCell ⟨g8,0,none⟩ (.int .i64 d.f0)).setCell ⟨g8,1,none⟩ (.int .i64 d.f1)) = w9 at HF9 HS9 ⊢;have hc90:=zz0 HF9;have hc91:=zz1 HF9));obtain ⟨ad7,ea,hx0,hx1⟩:=at_T48 (Kd.Q_reads' HS9.out.ln).2.2 0 (Int.le_refl _) (by simp);cases ea;rw [show (rd_T48 (c :: q') 0) = c from rfl,show ad6.add ((0 : Int).toNat * 2) = ad6 from by cases ad6;rfl] at hx0 hx1
         have HSd:=Aside0.mk (HS9.out.below (below_drew1 (Below.refl _ _)))
         have hrun : (Instr.lookup 84 (.map (some b)) (.agg #[.int .i64 c.f0,.int .i64 c.f1]) false).run Try.prog w9.drew = .ok (.int .i64 v) w9.drew:=by
          have e:=mapI_run HSd.out.mp (HN.out.wf c HGc.out);rw [HC.out] at e;exact e
         have hwv : wrap64 (v + 1) = v + 1:=wrap64_id (by have:=HV.out;omega) (by have:=HV.out;omega);refine start_ (n:=9) (S:=fun w'=>w'.cell? ⟨g8,0,none⟩ = some (.int .i64 d.f0) ∧ w'.cell? ⟨g8,1,none⟩ = some (.int .i64 d.f1) ∧ w'.cell? ad6 = some (.int .i64 c.f0) ∧ w'.cell? ⟨ad6.block,ad6.off + 1,none⟩ = some (.int .i64 c.f1) ∧ (Instr.lookup 84 (.map (some b)) (.agg #[.int .i64 c.f0,.int .i64 c.f1]) false).run Try.prog w' = .ok (.int .i64 v) w') (ds:=[8]) #[false,false,false,false,false,false,false,false,false] (by kernel_rfl) rfl rfl ⟨hc90,hc91,hx0,hx1,hrun⟩ (fun hHeld=>?_);refine zzp 0 39 (zzb 9 1) ?_;refine zzt 1 40 (zzb 9 3) hHeld ?_ (hy:=by intro w' s0;obtain ⟨s1,s2,s3,s4,s5⟩:=s0;go_simp;with_reducible rfl);refine zzp 2 41 (zzb 9 7) ?_;refine zzp 3 42 (zzb 9 15) ?_;refine zzp 4 43 (zzb 9 31) ?_;refine zzt 5 44 (zzb 9 63) hHeld ?_ (hy:=by intro w' s0;obtain ⟨s1,s2,s3,s4,s5⟩:=s0;go_simp;with_reducible rfl);refine zzt 6 45 (zzb 9 127) hHeld ?_ (hy:=by intro w' s0;obtain ⟨s1,s2,s3,s4,s5⟩:=s0;go_simp;with_reducible rfl);refine zzp 7 46 (zzb 9 255) ?_;refine last_ (i:=8) (N:=none) #[true,true,true,true,true,true,true,true,true] rfl rfl (by kernel_rfl) (by decide) (fun K hK=>?_);obtain ⟨w10,hrun10,hm10,hg10⟩:=mapI_update HSd.out.mp (Nat.lt_of_lt_of_le (show n' < 10000 by have:=HNL.out;have:=HNN.out;have:=HX.out;omega) (show 10000 ≤ maxLen by decide)) (HN.out.wf d HGd.out) (v:=v + 1) (wf_small (by have:=HV.out;omega) (by have:=HV.out;omega));have hrun11 : (Instr.mapUpdate 84 (.map (some b)) (.agg #[.int .i64 d.f0,.int .i64 d.f1]) (.int .i64 (v + 1))).run Try.prog w9.drew = .ok () w10:=hrun10
         refine skip_ (w1:=w10) (by rfl) rfl ?hr8 ?_
         case hr8=>first|(go_simp;done)|(go_simp;rfl)
         refine hK.out _ _ ?_;clear hK K;have HS10:=Aside0.mk (HSd.out.put hm10 hg10);have HF10:=Aside0.mk (grown_blk hg10 (blk_below HF9.out (below_drew1 (Below.refl _ _))) (fun e=>HS9.out.mp.cells HF9.out e.symm));have hc100:=zz0 HF10;have hc101:=zz1 HF10;clear hm10 hg10 hrun hrun10 hrun11 hHeld hx0 hx1 hc90 hc91 HSd HF9 HS9 HF10;refine done_ (by kernel_rfl) ?_;go_wp2_with (first|(at_builtin;refine Kd.Q_append k48 (W:=w10) w.heap.size rfl (.tmp 47) (.tmp 49) 27 48 _ 16 rfl Try.underlying27 info48 rfl (by decide) (by decide) _ (c :: q') d [.int .i64 d.f0,.int .i64 d.f1] (fun k=>k ≠ b ∧ k ≠ g2) (fun _=>False) rfl rfl (k48_mkM _ _ _ d) (fun _ hk=>hk.elim) (fun k hk=>⟨fun e=>by have:=HS10.out.mp.lt;omega,fun e=>by have:=blk_lt HS10.out.fl;omega⟩) HS10.out.ln HS10.out.bl HS10.out.bl.size (by have:=HQL.out;have:=HV.out;have:=HX.out;simp only [List.length_cons];omega) ?_;intro v50 w50 hQ hB hg hat;have HS50:=Aside0.mk (HS10.out.app hQ hB hg hat);clear hQ hB hg hat HS10));go_roundw
         case measure=>simp [intOf];have:=HX1.out;have:=HX.out;omega
         case rel=>exact ⟨x + 1,_,_,n' + 1,(by rw [hwx]),HX1,HST,⟨(upd_other _ _ (fun e=>by have h1:=HC.out;have h2:=HD.out;rw [e] at h1;rw [h1] at h2;cases h2)).trans HC.out⟩,⟨by have:=HQL.out;rw [List.length_append,List.length_singleton];omega⟩,⟨by have:=HNL.out;omega⟩,⟨fun e he=>by rcases List.mem_append.1 he with he|he;exact HGq.out e he;rw [List.mem_singleton] at he;subst he;exact HGd.out⟩,HS50⟩
       ·have p0 : decide (x < ((nb c).length : Int)) = false:=decide_eq_false hlt
        have hst:=HST.out;rw [List.drop_eq_nil_of_le (by have:=HX.out;omega)] at hst;have HEND:=Aside0.mk hst;clear hst HST;obtain ⟨A6,c6,e6,hcap6⟩:=Kd.Q_slice HS.out.ln;subst e6;obtain ⟨i048,hi48,_,hsz48,_⟩:=info_parts info48;have hcut:=cut_from (P:=Try.prog) 27 48 .i64 Try.underlying27 hi48 2 hsz48 A6 (c :: q').length c6 1 (by decide) (by simp only [List.length_cons];omega);obtain ⟨A7,hA7⟩ : ∃ A7,(if c6 = 1 then A6 else A6.map (·.add (1 * 2))) = A7:=⟨_,rfl⟩;obtain ⟨c7,hc7⟩ : ∃ c7,c6 - 1 = c7:=⟨_,rfl⟩
        have hcut2 : ∀ W : World,(Instr.slice 27 (.slice A6 (q'.length + 1) c6) (some (.int .i64 1)) none none).run Try.prog W = .ok (.slice A7 q'.length c7) W:=fun W=>by
         rw [← hA7,← hc7];exact hcut W
        have hs7 : SF w wr #[.int .i64 a0_0,.int .i64 a0_1,.slice A0_2 l0_2.length c0_2] g2 b n' m' (.slice A7 q'.length c7) q' (.slice none 0 0) []:=by
         rw [← hA7,← hc7];exact HS.out.next
        have HS7:=Aside0.mk hs7;clear HS hs7 hcut hA7 hc7;go_wp2;go_roundg k1
        case measure=>have:=HK1.out;omega
        case rel=>exact ⟨m',q',n',⟨by have e:=HE.out;rw [← HEND.out] at e;exact e⟩,⟨zq98⟩,⟨by have:=HNN.out;have:=HNL.out;have:=HX.out;omega⟩,HGq,HS7⟩
     ·rw [if_neg hg] at e;exact absurd e (by simp)
end Go.Proofs.Ytbpccdbkaiigcaa.G

/- The table of the numbers of steps: as a list of rows, and what the walks hold of the world while it is built. -/
namespace Go.Proofs.Ytbpccdbkaiigcaa.G
open Go.RowKit Go.Proofs.YtbpccdbkaiigcaaW.PrintWords Go.Proofs.YtbpccdbkaiigcaaW.PrintLast Go.Proofs.YtbpccdbkaiigcaaW.PrintMore
def rowOf (f : S48 → Int) (y : Int) : Nat → List Int
 | 0=>[]
 | x + 1=>rowOf f y x ++ [f ⟨x,y⟩]
def tabOf (f : S48 → Int) (wd : Nat) : Nat → List (List Int)
 | 0=>[]
 | y + 1=>tabOf f wd y ++ [rowOf f y wd]
theorem rowOf_len (f : S48 → Int) (y : Int) : ∀ x,(rowOf f y x).length = x
 | 0=>rfl
 | x + 1=>by rw [rowOf,List.length_append,rowOf_len f y x];rfl
theorem tabOf_len (f : S48 → Int) (wd : Nat) : ∀ y,(tabOf f wd y).length = y
 | 0=>rfl
 | y + 1=>by rw [tabOf,List.length_append,tabOf_len f wd y];rfl
abbrev SS:=Kd.slice 3 (Kd.int .i64)
structure TB (w0 w : World) (ok : Nat → Prop) (v7 : Value) (rows : List (List Int)) (v9 : Value) (row : List Int) : Prop where
 out : Kd.S SS 72 w w0.heap.size (fun k=>ok k ∧ some k ≠ v9.ownBlock) v7 rows
 row : Kd.R (Kd.int .i64) 3 w w0.heap.size ok v9 row
 bl : Below w0.heap.size w0 w
section
variable {w0 w w1 : World} {ok : Nat → Prop} {v7 v9 v1 : Value} {rows : List (List Int)} {row row' : List Int}
theorem TB.below (h : TB w0 w ok v7 rows v9 row) (hb : Below w.heap.size w w1) : TB w0 w1 ok v7 rows v9 row:=⟨Kd.S_below h.out hb,Kd.R_below h.row hb,below_step h.bl hb⟩
theorem TB.new (ho : Kd.S SS 72 w w0.heap.size ok v7 rows) (h0 : Below w0.heap.size w0 w) (hb : Below w.heap.size w w1) (hr : Kd.R (Kd.int .i64) 3 w1 w.heap.size (fun _=>True) v1 row') (hok : ∀ k,w.heap.size ≤ k → ok k) : TB w0 w1 ok v7 rows v1 row' :=
 ⟨Kd.S_elder' ho (Kd.R_base hr) hb,Kd.R_lower (Kd.R_mono (Kd.R_bound hr) (fun k hk=>hok k hk.2.1)) h0.size,below_step h0 hb⟩
theorem TB.grow (h : TB w0 w ok v7 rows v9 row) (hr : Kd.R (Kd.int .i64) 3 w1 w0.heap.size ok v1 row') (hb : Below w0.heap.size w0 w1) (hg : w.grownBy w1 v9.ownBlock) (hat : v1.ownBlock = v9.ownBlock ∨ ∃ b,v1.ownBlock = some b ∧ w.heap.size ≤ b) : TB w0 w1 ok v7 rows v1 row' :=
 ⟨Kd.S_after h.out hg hat,hr,hb⟩
theorem TB.apart (h : TB w0 w ok v7 rows v9 row) : ∀ k,some k = v9.ownBlock → ok k ∧ some k ≠ v7.ownBlock:=fun k hk=>⟨h.row.1 k hk.symm,fun e=>by
 obtain ⟨cells,hc⟩:=Kd.R_typed h.row k hk.symm
 exact Kd.S_ne h.out hc (by decide) e⟩
end
end Go.Proofs.Ytbpccdbkaiigcaa.G

/- The table of the numbers of steps: read at a cell, written at a cell; what the reference's walk holds of the world. -/
namespace Go.Proofs.Ytbpccdbkaiigcaa.G
open Go.RowKit Go.Proofs.YtbpccdbkaiigcaaW.PrintWords Go.Proofs.YtbpccdbkaiigcaaW.PrintLast Go.Proofs.YtbpccdbkaiigcaaW.PrintMore
theorem rowOf_get (f : S48 → Int) (y : Int) : ∀ (n i : Nat),(rowOf f y n)[i]? = if i < n then some (f ⟨(i : Int),y⟩) else none
 | 0,i=>by simp [rowOf]
 | n + 1,i=>by
  rw [rowOf]
  by_cases h : i < n
  ·rw [List.getElem?_append_left (by rw [rowOf_len];exact h),rowOf_get f y n i,if_pos h,if_pos (by omega)]
  ·rw [List.getElem?_append_right (by rw [rowOf_len];omega),rowOf_len]
   by_cases e : i = n
   ·subst e
    rw [Nat.sub_self,if_pos (by omega)]
    rfl
   ·rw [if_neg (by omega),List.getElem?_eq_none (by simp;omega)]
theorem tabOf_get (f : S48 → Int) (wd : Nat) : ∀ (n i : Nat),(tabOf f wd n)[i]? = if i < n then some (rowOf f (i : Int) wd) else none
 | 0,i=>by simp [tabOf]
 | n + 1,i=>by
  rw [tabOf]
  by_cases h : i < n
  ·rw [List.getElem?_append_left (by rw [tabOf_len];exact h),tabOf_get f wd n i,if_pos h,if_pos (by omega)]
  ·rw [List.getElem?_append_right (by rw [tabOf_len];omega),tabOf_len]
   by_cases e : i = n
   ·subst e
    rw [Nat.sub_self,if_pos (by omega)]
    rfl
   ·rw [if_neg (by omega),List.getElem?_eq_none (by simp;omega)]
theorem tab_row (f : S48 → Int) (wd n : Nat) (y : Int) (h0 : 0 ≤ y) (h1 : y < (n : Int)) : rd_L5 (tabOf f wd n) y = rowOf f y wd:=by
 unfold rd_L5;rw [List.getD_eq_getElem?_getD,tabOf_get,if_pos (by omega),show ((y.toNat : Nat) : Int) = y from by omega];rfl
theorem row_rd (f : S48 → Int) (y : Int) (n : Nat) (x : Int) (h0 : 0 ≤ x) (h1 : x < (n : Int)) : rd (rowOf f y n) x = f ⟨x,y⟩:=by
 unfold rd;rw [List.getD_eq_getElem?_getD,rowOf_get,if_pos (by omega),show ((x.toNat : Nat) : Int) = x from by omega];rfl
structure SQ (w0 w : World) (fc : Array Value) (g2 : Nat) (v6 : Value) (T : List (List Int)) (v10 : Value) (l : List S48) (vn : Value) (ds : List S48) : Prop where
 fl : w.heap[g2]? = some (.cells fc 29 (0,0))
 tb : Kd.S SS 72 w w0.heap.size (fun _=>True) v6 T
 qu : Kd.R k48 48 w w0.heap.size (fun _=>True) v10 l
 nx : Kd.R k48 48 w w0.heap.size (fun k=>True ∧ some k ≠ v10.ownBlock) vn ds
 bl : Below w0.heap.size w0 w
section
variable {w0 w w1 : World} {fc : Array Value} {g2 : Nat} {v6 v10 v11 vn vn' : Value} {T T' : List (List Int)} {l l' ds ds' : List S48}
theorem SQ.below (h : SQ w0 w fc g2 v6 T v10 l vn ds) (hb : Below w.heap.size w w1) : SQ w0 w1 fc g2 v6 T v10 l vn ds:=⟨blk_below h.fl hb,Kd.S_below h.tb hb,Kd.R_below h.qu hb,Kd.R_below h.nx hb,below_step h.bl hb⟩
end
end Go.Proofs.Ytbpccdbkaiigcaa.G

namespace Go.Proofs.Ytbpccdbkaiigcaa.G
open Go.RowKit Go.Proofs.YtbpccdbkaiigcaaW.PrintWords Go.Proofs.YtbpccdbkaiigcaaW.PrintLast Go.Proofs.YtbpccdbkaiigcaaW.PrintMore
attribute [local go_sem] max2_int min2_int max_two min_two max_three min_three max_four min_four   -- for this text's walks alone

def spec_l16Next.l0:Nat → List (S48) → List (S48) → Int → Int → Int → List (S48) → Option ((List (S48)))
 | 0,_,_,_,_,_,_=>none
 | k + 1,x5,x6,x7,x0,x1,x2=>if x7 < (x5.length:Int) then (if 0 ≤ x7 then ((spec_l16Free.f k x0 x1 x2 ((rd_T48 x5 x7).f0) ((rd_T48 x5 x7).f1)).bind fun t3=>(if t3 = true then (if x6.length < 8796093022208 then (spec_l16Next.l0 k x5 (x6 ++ [(⟨(rd_T48 x5 x7).f0,(rd_T48 x5 x7).f1⟩ : S48)]) (wrap64 (x7 + 1)) x0 x1 x2) else (none)) else (spec_l16Next.l0 k x5 x6 (wrap64 (x7 + 1)) x0 x1 x2))) else (none)) else (some x6)
def spec_l16Next.f (k:Nat) (a0_0:Int) (a0_1:Int) (l0_2:List (S48)) (a1_0:Int) (a1_1:Int):Option ((List (S48))):=spec_l16Next.l0 k (([(⟨a1_0,wrap64 (a1_1 - 1)⟩ : S48),(⟨wrap64 (a1_0 - 1),a1_1⟩ : S48),(⟨a1_0,a1_1⟩ : S48),(⟨wrap64 (a1_0 + 1),a1_1⟩ : S48),(⟨a1_0,wrap64 (a1_1 + 1)⟩ : S48)]:List (S48))) (([]:List (S48))) 0 a0_0 a0_1 l0_2
theorem spec_l16Next.calls (k:Nat) (a0_0:Int) (a0_1:Int) (A0_2:Option Addr) (c0_2:Nat) (l0_2:List (S48)) (a1_0:Int) (a1_1:Int) (r:List (S48)) (w:World) (hr0_2:Kd.C k48 w A0_2 l0_2.length l0_2) (hc0_2:l0_2.length ≤ c0_2) (h:spec_l16Next.f k a0_0 a0_1 l0_2 a1_0 a1_1 = some r) :
  Calls Try.prog 64 #[.agg #[.int .i64 a0_0,.int .i64 a0_1,.slice A0_2 l0_2.length c0_2],.agg #[.int .i64 a1_0,.int .i64 a1_1]] w fun e w' => ∃ v0_:Value,e = .returned (v0_) ∧ Kd.R k48 48 w' w.heap.size (fun _=>True) v0_ r ∧ Below w.heap.size w w':=by
 (have hu29:=Try.underlying29;have hu48:=Try.underlying48;have HR0_2:=zM hr0_2;have HC0_2:=zM hc0_2;clear hr0_2 hc0_2;have HB:=zM (Below.refl w.heap.size w);have H:(spec_l16Next.l0 k (([(⟨a1_0,wrap64 (a1_1 - 1)⟩ : S48),(⟨wrap64 (a1_0 - 1),a1_1⟩ : S48),(⟨a1_0,a1_1⟩ : S48),(⟨wrap64 (a1_0 + 1),a1_1⟩ : S48),(⟨a1_0,wrap64 (a1_1 + 1)⟩ : S48)]:List (S48))) (([]:List (S48))) 0 a0_0 a0_1 l0_2) = some r:=h;clear h;obtain ⟨y0,hy0⟩ : ∃ y_:List (S48),y_ = (([(⟨a1_0,wrap64 (a1_1 - 1)⟩ : S48),(⟨wrap64 (a1_0 - 1),a1_1⟩ : S48),(⟨a1_0,a1_1⟩ : S48),(⟨wrap64 (a1_0 + 1),a1_1⟩ : S48),(⟨a1_0,wrap64 (a1_1 + 1)⟩ : S48)]:List (S48))):=⟨_,rfl⟩;replace H:(spec_l16Next.l0 k y0 (([]:List (S48))) 0 a0_0 a0_1 l0_2) = some r:=by first|(rw [hy0];with_reducible exact H)|(have H2_:=(Option.bind_some _ _).symm.trans H;rw [hy0];with_reducible exact H2_)|(have H2_:=(Option.bind_some _ _).symm.trans H;with_reducible exact H2_)|with_reducible exact H|(rw [hy0];exact H)|exact H);have Ny0:=zM hy0;clear hy0;obtain ⟨y1,hy1⟩ : ∃ y_:List (S48),y_ = (([]:List (S48))):=⟨_,rfl⟩;replace H:(spec_l16Next.l0 k y0 y1 0 a0_0 a0_1 l0_2) = some r:=by first|(rw [hy1];with_reducible exact H)|(have H2_:=(Option.bind_some _ _).symm.trans H;rw [hy1];with_reducible exact H2_)|(have H2_:=(Option.bind_some _ _).symm.trans H;with_reducible exact H2_)|with_reducible exact H|(rw [hy1];exact H)|exact H
 have Ny1:=zM hy1;clear hy1;have H':=zM H;clear H;go_enter Try.func64,Try.ntmps64;go_wp2_with (first|((with_reducible refine gate_dst (N:=2) rfl ?_);refine zzc 2 #[.int .i64 a0_0,.int .i64 a0_1,.slice A0_2 l0_2.length c0_2] 29 ?_;intro gb2 hg w3 hbox hb;have BK2:= zM (hbox);have GW2:= zM ((zq94:w.heap.size ≤ gb2));have GE2:= zM ((zq94:w.heap.size ≤ gb2));replace HB:= zM (zQ zzh hb);clear hb hbox hg)|((with_reducible refine gate_dst (N:=3) rfl ?_);refine zzc 3 #[.int .i64 a1_0,.int .i64 a1_1] 48 ?_;intro gb3 hg w4 hbox hb;have BK3:= zM (hbox);have GW3:= zM ((zq94:w.heap.size ≤ gb3));have GE3:= zM ((zq94:w.heap.size ≤ gb3));replace HB:= zM (zQ zzh hb);have NB2_3:= zM ((zzm hg (zzi BK2):gb2 ≠ gb3));have NB3_2:= zM ((zzM hg (zzi BK2):gb3 ≠ gb2));replace BK2:= zM (blk_below (zzi BK2) hb);clear hb hbox hg;have hnb5:=NB3_2.out;have hnc5:=NB2_3.out;have hcz6_0:=zz0 BK3;have hcz6_1:=zz1 BK3;have hfz6_0:=blk_frozen BK3.out 0;have hfz6_1:=blk_frozen BK3.out 1)|((with_reducible refine gate_dst (N:=33) rfl ?_);refine Kd.R_lit k48 _ 48 ?hg (N:=33) ?hd (xs:=([(⟨a1_0,wrap64 (a1_1 - 1)⟩ : S48),(⟨wrap64 (a1_0 - 1),a1_1⟩ : S48),(⟨a1_0,a1_1⟩ : S48),(⟨wrap64 (a1_0 + 1),a1_1⟩ : S48),(⟨a1_0,wrap64 (a1_1 + 1)⟩ : S48)]:List (S48))) (inner:=[.int .i64 a1_0,.int .i64 (wrap64 (a1_1 - 1)),.int .i64 (wrap64 (a1_0 - 1)),.int .i64 a1_1,.int .i64 a1_0,.int .i64 a1_1,.int .i64 (wrap64 (a1_0 + 1)),.int .i64 a1_1,.int .i64 a1_0,.int .i64 (wrap64 (a1_1 + 1))]) (ok:=fun _=>True) (okp:=fun _=>True) ?hr ?hp (fun _ hk=>hk) trivial (Below.refl _ _) (Nat.le_refl _) (by simp) ?_;(case hd=>rfl);(case hg=>rfl);(case hr=>first|(go_simp;done)|(go_simp;rfl));(case hp=>exact (Reps.c2 (show Kd.M k48 _ _ _ (⟨a1_0,wrap64 (a1_1 - 1)⟩ : S48) [.int .i64 a1_0,.int .i64 (wrap64 (a1_1 - 1))] from (k48_mkM _ _ _ (⟨a1_0,wrap64 (a1_1 - 1)⟩ : S48) )) (Reps.c2 (show Kd.M k48 _ _ _ (⟨wrap64 (a1_0 - 1),a1_1⟩ : S48) [.int .i64 (wrap64 (a1_0 - 1)),.int .i64 a1_1] from (k48_mkM _ _ _ (⟨wrap64 (a1_0 - 1),a1_1⟩ : S48) )) (Reps.c2 (show Kd.M k48 _ _ _ (⟨a1_0,a1_1⟩ : S48) [.int .i64 a1_0,.int .i64 a1_1] from (k48_mkM _ _ _ (⟨a1_0,a1_1⟩ : S48) )) (Reps.c2 (show Kd.M k48 _ _ _ (⟨wrap64 (a1_0 + 1),a1_1⟩ : S48) [.int .i64 (wrap64 (a1_0 + 1)),.int .i64 a1_1] from (k48_mkM _ _ _ (⟨wrap64 (a1_0 + 1),a1_1⟩ : S48) )) (Reps.c2 (show Kd.M k48 _ _ _ (⟨a1_0,wrap64 (a1_1 + 1)⟩ : S48) [.int .i64 a1_0,.int .i64 (wrap64 (a1_1 + 1))] from (k48_mkM _ _ _ (⟨a1_0,wrap64 (a1_1 + 1)⟩ : S48) )) (Reps.none _ _)))))));intro v4 w7 ho8 hb hg_ hnew_;clear hg_ hnew_;(first|rw [← Ny0.out] at ho8|(simp only [Int.reduceToNat] at ho8;rw [← Ny0.out] at ho8));have HO5:= zM (Kd.R_lower (Kd.R_newB ho8 (g:=gb3) (o := .cells #[.int .i64 a1_0,.int .i64 a1_1] 48 (0,0)) (zzi BK3)) (zR zzh));replace BK2:= zM (blk_below (zzi BK2) hb);replace BK3:= zM (blk_below (zzi BK3) hb);replace HB:= zM (zQ zzh hb);clear hb ho8)|((with_reducible refine gate_dst (N:=34) rfl ?_);refine Kd.R_lit k48 _ 48 ?hg (N:=34) ?hd (xs:=([]:List (S48))) (inner:=[]) (ok:=fun _=>True) (okp:=fun _=>True) ?hr ?hp (fun _ hk=>hk) trivial (Below.refl _ _) (Nat.le_refl _) (by simp) ?_;(case hd=>rfl);(case hg=>rfl);(case hr=>first|(go_simp;done)|(go_simp;rfl));(case hp=>exact (Reps.none _ _));intro v8 w9 ho10 hb hg_ hnew_;clear hg_ hnew_;(first|rw [← Ny1.out] at ho10|(simp only [Int.reduceToNat] at ho10;rw [← Ny1.out] at ho10));have HO6:= zM (Kd.R_lower (Kd.R_newB (Kd.R_new' ho10 (Kd.R_lt (zzl HO5))) (g:=gb3) (o := .cells #[.int .i64 a1_0,.int .i64 a1_1] 48 (0,0)) (zzi BK3)) (zR zzh));replace HO5:= zM (Kd.R_elder' (zzl HO5) (Kd.R_base ho10) hb);replace BK2:= zM (blk_below (zzi BK2) hb);replace BK3:= zM (blk_below (zzi BK3) hb);replace HB:= zM (zQ zzh hb);clear hb ho10))
 go_loopg [6,7] k (fun kq v6 v7 w' => ∃ (x6_1:List (S48)) (x7_1:Int),v7 = .int .i64 x7_1 ∧ Aside0 (spec_l16Next.l0 kq y0 x6_1 x7_1 a0_0 a0_1 l0_2 = some r) ∧ Aside0 (kq ≤ k) ∧ Aside0 (Kd.R k48 48 w' w.heap.size (fun k_=>some k_ ≠ (v6:Value).ownBlock ∧ k_ ≠ gb3) v4 y0) ∧ Aside0 (Kd.R k48 48 w' w.heap.size (fun k_=>some k_ ≠ (v4:Value).ownBlock ∧ k_ ≠ gb3) v6 x6_1) ∧ Aside0 (w'.heap[gb2]? = some (.cells #[.int .i64 a0_0,.int .i64 a0_1,(.slice A0_2 l0_2.length c0_2)] 29 (0,0))) ∧ Aside0 (w'.heap[gb3]? = some (.cells #[.int .i64 a1_0,.int .i64 a1_1] 48 (0,0))) ∧ Aside0 (Below w.heap.size w w'))
 case atStart=>exact ⟨(y1),(0),zq91,H',⟨Nat.le_refl _⟩,⟨zq80⟩,⟨by (with_reducible repeat (first|apply zA|apply zB|apply zC));exact Kd.R_mono HO6.out (fun _ hk=>⟨hk.1.2,hk.2⟩)⟩,⟨zzi BK2⟩,⟨zzi BK3⟩,⟨zzh⟩⟩
 case round =>
  clear H';(try clear c2);(try clear p2);(try clear c5);(try clear c6);(try clear p6);(try clear hcz6_0);(try clear hcz6_1);(try clear hfz6_0);(try clear hfz6_1);obtain ⟨x6_1,x7_1,rfl,HA,HK1,HO_5,HO_6,BK2,BK3,HB⟩:=hrel;cases gk with
  | zero=>exact absurd HA.out (by simp [spec_l16Next.l0])
  | succ k1 =>
   have H:=HA.out;clear HA;simp only [spec_l16Next.l0] at H;by_cases c11:x7_1 < (y0.length:Int)
   ·rw [if_pos c11] at H
    have c11b0:decide (x7_1 < (y0.length:Int)) = true:=decide_eq_true c11;clear c11;by_cases c12:0 ≤ x7_1
    ·rw [if_pos c12] at H
     have c12b0:decide (0 ≤ x7_1) = true:=decide_eq_true c12;clear c12;replace H:=Option.bind_eq_some_iff.mp H;obtain ⟨t7,A9,H⟩:=H;replace H:(if t7 = true then (if x6_1.length < 8796093022208 then (spec_l16Next.l0 k1 y0 (x6_1 ++ [(⟨(rd_T48 y0 x7_1).f0,(rd_T48 y0 x7_1).f1⟩ : S48)]) (wrap64 (x7_1 + 1)) a0_0 a0_1 l0_2) else (none)) else (spec_l16Next.l0 k1 y0 x6_1 (wrap64 (x7_1 + 1)) a0_0 a0_1 l0_2)) = some r:=H;have A13:=zM A9;clear A9;by_cases c14:t7 = true
     ·subst c14
      (have H1:(if x6_1.length < 8796093022208 then (spec_l16Next.l0 k1 y0 (x6_1 ++ [(⟨(rd_T48 y0 x7_1).f0,(rd_T48 y0 x7_1).f1⟩ : S48)]) (wrap64 (x7_1 + 1)) a0_0 a0_1 l0_2) else (none)) = some r:=by rw [if_pos rfl] at H;exact H);clear H;have H:=H1;clear H1;by_cases c15:x6_1.length < 8796093022208
      ·rw [if_pos c15] at H
       (have LMc15:=zM c15;clear c15;obtain ⟨y10,hy10⟩ : ∃ y_:List (S48),y_ = (x6_1 ++ [(⟨(rd_T48 y0 x7_1).f0,(rd_T48 y0 x7_1).f1⟩ : S48)]):=⟨_,rfl⟩;replace H:(spec_l16Next.l0 k1 y0 y10 (wrap64 (x7_1 + 1)) a0_0 a0_1 l0_2) = some r:=by first|(rw [hy10];with_reducible exact H)|(have H2_:=(Option.bind_some _ _).symm.trans H;rw [hy10];with_reducible exact H2_)|(have H2_:=(Option.bind_some _ _).symm.trans H;with_reducible exact H2_)|with_reducible exact H|(rw [hy10];exact H)|exact H);have Ny10:=zM hy10;clear hy10;have H':=zM H;clear H;obtain ⟨Ao16,co16,eo16⟩:=Kd.R_slice HO_5.out;subst eo16;try go_wp2
       replace HO_5:= zM (zC HO_5.out);replace HO_6:= zM (zC HO_6.out);replace BK2:= zM (zK BK2.out);replace BK3:= zM (zK BK3.out);replace HB:= zM (zF HB.out);have p11:0 ≤ (x7_1:Int):=zzd;have q11:x7_1 < (y0.length:Int):=zzd;obtain ⟨ad11,e11,hx11_0,hx11_1⟩:=at_T48 (zN HO_5.out).2.2 x7_1 p11 q11;cases e11;replace p11:=eq_true p11;replace q11:=eq_true q11;refine start_ (n:=6) (S:=fun w'=>w'.cell? ⟨gb2,0,none⟩ = some (.int .i64 a0_0) ∧ w'.cell? ⟨gb2,1,none⟩ = some (.int .i64 a0_1) ∧ w'.cell? ⟨gb2,2,none⟩ = some (.slice A0_2 l0_2.length c0_2) ∧ w'.cell? (ad11.add ((x7_1).toNat * 2)) = some (.int .i64 ((rd_T48 y0 x7_1).f0)) ∧ w'.cell? ⟨(ad11.add ((x7_1).toNat * 2)).block,(ad11.add ((x7_1).toNat * 2)).off + 1,none⟩ = some (.int .i64 ((rd_T48 y0 x7_1).f1))) (ds:=[]) #[false,false,false,false,false,false] (by kernel_rfl) rfl rfl ⟨zz0 BK2,zz1 BK2,zz2 BK2,hx11_0,hx11_1⟩ (fun hHeld=>?_);generalize wr.drew = w17 at HO_5 HO_6 BK2 BK3 HB hx11_0 hx11_1 hHeld ⊢;refine zzp 1 42 (zzb 6 2) ?_;refine zzp 2 43 (zzb 6 6) ?_;refine zzp 3 44 (zzb 6 14) ?_;refine zzt 0 41 (zzb 6 15) hHeld ?_ (hy:=by rintro w' ⟨s0,s1,s2,s3,s4⟩;go_simp;with_reducible rfl);refine zzt 4 45 (zzb 6 31) hHeld ?_ (hy:=by rintro w' ⟨s0,s1,s2,s3,s4⟩;go_simp;with_reducible rfl);refine zzo 5 46 (zzb 6 63) (fun K hK=>?_);refine zzf Try.func82 #[.agg #[.int .i64 a0_0,.int .i64 a0_1,.slice A0_2 l0_2.length c0_2],.agg #[.int .i64 ((rd_T48 y0 x7_1).f0),.int .i64 ((rd_T48 y0 x7_1).f1)]] ?_;with_reducible refine (spec_l16Free.calls k1 a0_0 a0_1 _ _ l0_2 ((rd_T48 y0 x7_1).f0) ((rd_T48 y0 x7_1).f1) true _ ?side1 ?side2 A13.out).mono ?_
       (case side1=>repeat (first|exact (zO HR0_2.out HB.out)|(with_reducible first|refine zG ?_ _|refine zH ?_ _|refine zI ?_)));(case side2=>exact HC0_2.out);rintro e w18 ⟨rfl,hb⟩;have HS3_:=(hb.cell (World.block_lt_of_cell? _ _ (hHeld.2.2.2.1))).trans (hHeld.2.2.2.1);have HS4_:=(hb.cell (World.block_lt_of_cell? _ _ (hHeld.2.2.2.2))).trans (hHeld.2.2.2.2);refine ⟨_,rfl,?_⟩;replace HO_5:= zM (zP (zzl HO_5) hb);replace HO_6:= zM (zP (zzl HO_6) hb);replace BK2:= zM (blk_below (zzi BK2) hb);replace BK3:= zM (blk_below (zzi BK3) hb);replace HB:= zM (zQ zzh hb);(try clear hb);(try clear hb2);(try clear hk);(try clear hi);refine hK.out _ _ ⟨zz0 BK2,zz1 BK2,zz2 BK2,HS3_,HS4_⟩ (fun hHeld=>?_);clear hK K;refine zzn 46 ?_;refine done_ (by kernel_rfl) ?_;have p12:0 ≤ (x7_1:Int):=zzd;have q12:x7_1 < (y0.length:Int):=zzd;obtain ⟨ad12,e12,hx12_0,hx12_1⟩:=at_T48 (zN HO_5.out).2.2 x7_1 p12 q12;obtain rfl:ad11 = ad12:=(by injection e12);replace p12:=eq_true p12;replace q12:=eq_true q12;try go_wp2_with (first|((with_reducible refine gate_builtin (b := .append) (xs := #[.tmp 47,.tmp 52]) rfl ?_);at_builtin;refine Kd.R_append k48 (w0:=w) w.heap.size rfl (.tmp 47) (.tmp 52) 27 48 (.agg #[(.int .i64 0),(.int .i64 0)]) 16 rfl Try.underlying27 info48 rfl (by decide) (by omega) u6 x6_1 (⟨(rd_T48 y0 x7_1).f0,(rd_T48 y0 x7_1).f1⟩ : S48) [.int .i64 ((rd_T48 y0 x7_1).f0),.int .i64 ((rd_T48 y0 x7_1).f1)] (fun k_=>some k_ ≠ (.slice (some ad11) y0.length co16:Value).ownBlock ∧ k_ ≠ gb3) (fun _=>False) rfl rfl ?aP (fun _ hk=>hk.elim) ?aF ?aO ?aB ?aS ?aL ?_;(case aP=>exact k48_mkM _ _ _ (⟨(rd_T48 y0 x7_1).f0,(rd_T48 y0 x7_1).f1⟩ : S48));(case aB=>exact zzh);(case aF=>exact (fun k_ hk=>⟨Kd.fresh' (Kd.R_lt (zzl HO_5)) k_ hk,Kd.freshB (g:=gb3) (o := .cells #[.int .i64 a1_0,.int .i64 a1_1] 48 (0,0)) (zzi BK3) k_ hk⟩));(case aO=>exact (zzl HO_6));(case aS=>exact (zR zzh));(case aL=>have:=LMc15.out;omega);intro v13 w19 ho hb hg hat;rw [← Ny10.out] at ho;replace HO_5:= zM (Kd.R_after (ok:=(fun k_=>k_ ≠ gb3)) zq81 hg hat);replace BK2:= zM (blk_grown (g:=gb2) (o := .cells #[.int .i64 a0_0,.int .i64 a0_1,.slice A0_2 l0_2.length c0_2] 29 (0,0)) (zzi BK2) hg (Kd.R_ne HO_6.out BK2.out (by decide)));replace BK3:= zM (blk_grown (g:=gb3) (o := .cells #[.int .i64 a1_0,.int .i64 a1_1] 48 (0,0)) (zzi BK3) hg (Kd.R_away HO_6.out (fun _ hk=>hk.2)));replace HB:= zM (hb);have HO14:= zM (ho);clear HO_6;clear ho hb hg hat))
       go_roundg k1
       case measure=>have:=HK1.out;omega
       case rel=>exact ⟨(y10),(wrap64 (x7_1 + 1)),zq91,H',⟨zq98⟩,⟨zq81⟩,⟨zzl HO14⟩,⟨zzi BK2⟩,⟨zzi BK3⟩,⟨zzh⟩⟩
      ·rw [if_neg c15] at H
       exact absurd H (by simp)
     ·replace c14:=Bool.eq_false_iff.mpr c14
      subst c14;have H1:(spec_l16Next.l0 k1 y0 x6_1 (wrap64 (x7_1 + 1)) a0_0 a0_1 l0_2) = some r:=by rw [if_neg (show ¬ (false = true) by decide)] at H;exact H
      clear H;have H:=H1;clear H1;have H':=zM H;clear H;obtain ⟨Ao20,co20,eo20⟩:=Kd.R_slice HO_5.out;subst eo20;try go_wp2
      replace HO_5:= zM (zC HO_5.out);replace HO_6:= zM (zC HO_6.out);replace BK2:= zM (zK BK2.out);replace BK3:= zM (zK BK3.out);replace HB:= zM (zF HB.out);have p11:0 ≤ (x7_1:Int):=zzd;have q11:x7_1 < (y0.length:Int):=zzd;obtain ⟨ad11,e11,hx11_0,hx11_1⟩:=at_T48 (zN HO_5.out).2.2 x7_1 p11 q11;cases e11;replace p11:=eq_true p11;replace q11:=eq_true q11;refine start_ (n:=6) (S:=fun w'=>w'.cell? ⟨gb2,0,none⟩ = some (.int .i64 a0_0) ∧ w'.cell? ⟨gb2,1,none⟩ = some (.int .i64 a0_1) ∧ w'.cell? ⟨gb2,2,none⟩ = some (.slice A0_2 l0_2.length c0_2) ∧ w'.cell? (ad11.add ((x7_1).toNat * 2)) = some (.int .i64 ((rd_T48 y0 x7_1).f0)) ∧ w'.cell? ⟨(ad11.add ((x7_1).toNat * 2)).block,(ad11.add ((x7_1).toNat * 2)).off + 1,none⟩ = some (.int .i64 ((rd_T48 y0 x7_1).f1))) (ds:=[]) #[false,false,false,false,false,false] (by kernel_rfl) rfl rfl ⟨zz0 BK2,zz1 BK2,zz2 BK2,hx11_0,hx11_1⟩ (fun hHeld=>?_);generalize wr.drew = w21 at HO_5 HO_6 BK2 BK3 HB hx11_0 hx11_1 hHeld ⊢;refine zzp 1 42 (zzb 6 2) ?_;refine zzp 2 43 (zzb 6 6) ?_;refine zzp 3 44 (zzb 6 14) ?_;refine zzt 0 41 (zzb 6 15) hHeld ?_ (hy:=by rintro w' ⟨s0,s1,s2,s3,s4⟩;go_simp;with_reducible rfl);refine zzt 4 45 (zzb 6 31) hHeld ?_ (hy:=by rintro w' ⟨s0,s1,s2,s3,s4⟩;go_simp;with_reducible rfl);refine zzo 5 46 (zzb 6 63) (fun K hK=>?_);refine zzf Try.func82 #[.agg #[.int .i64 a0_0,.int .i64 a0_1,.slice A0_2 l0_2.length c0_2],.agg #[.int .i64 ((rd_T48 y0 x7_1).f0),.int .i64 ((rd_T48 y0 x7_1).f1)]] ?_;with_reducible refine (spec_l16Free.calls k1 a0_0 a0_1 _ _ l0_2 ((rd_T48 y0 x7_1).f0) ((rd_T48 y0 x7_1).f1) false _ ?side1 ?side2 A13.out).mono ?_
      (case side1=>repeat (first|exact (zO HR0_2.out HB.out)|(with_reducible first|refine zG ?_ _|refine zH ?_ _|refine zI ?_)));(case side2=>exact HC0_2.out);rintro e w22 ⟨rfl,hb⟩;have HS3_:=(hb.cell (World.block_lt_of_cell? _ _ (hHeld.2.2.2.1))).trans (hHeld.2.2.2.1);have HS4_:=(hb.cell (World.block_lt_of_cell? _ _ (hHeld.2.2.2.2))).trans (hHeld.2.2.2.2);refine ⟨_,rfl,?_⟩;replace HO_5:= zM (zP (zzl HO_5) hb);replace HO_6:= zM (zP (zzl HO_6) hb);replace BK2:= zM (blk_below (zzi BK2) hb);replace BK3:= zM (blk_below (zzi BK3) hb);replace HB:= zM (zQ zzh hb);(try clear hb);(try clear hb2);(try clear hk);(try clear hi);refine hK.out _ _ ⟨zz0 BK2,zz1 BK2,zz2 BK2,HS3_,HS4_⟩ (fun hHeld=>?_);clear hK K;refine zzn 46 ?_;refine done_ (by kernel_rfl) ?_;try go_wp2
      go_roundg k1
      case measure=>have:=HK1.out;omega
      case rel=>exact ⟨(x6_1),(wrap64 (x7_1 + 1)),zq91,H',⟨zq98⟩,⟨zzl HO_5⟩,⟨zzl HO_6⟩,⟨zzi BK2⟩,⟨zzi BK3⟩,⟨zzh⟩⟩
    ·rw [if_neg c12] at H
     exact absurd H (by simp)
   ·rw [if_neg c11] at H
    have c11b0:decide (x7_1 < (y0.length:Int)) = false:=decide_eq_false c11;clear c11;obtain rfl:=Option.some.inj H;obtain ⟨Ao23,co23,eo23⟩:=Kd.R_slice HO_5.out;subst eo23;go_wp2;go_ret;exact ⟨_,zq84,zq82,zzh⟩

end Go.Proofs.Ytbpccdbkaiigcaa.G

/- The walks of spec.PathLengthTo. -/
namespace Go.Proofs.Ytbpccdbkaiigcaa.G
open Go.RowKit Go.Proofs.YtbpccdbkaiigcaaW.PrintWords Go.Proofs.YtbpccdbkaiigcaaW.PrintLast Go.Proofs.YtbpccdbkaiigcaaW.PrintMore
structure Nbs' (a0_0 a0_1 : Int) (l0_2 : List S48) (G : S48 → Prop) (nb : S48 → List S48) : Prop where
 inn : ∀ d,G d → (0 ≤ d.f0 ∧ d.f0 < a0_0) ∧ (0 ≤ d.f1 ∧ d.f1 < a0_1)
 len : ∀ d,G d → (nb d).length ≤ 5
 cl : ∀ d,G d → ∀ e ∈ nb d,G e
 run : ∀ d,G d → ∃ k,spec_l16Next.f k a0_0 a0_1 l0_2 d.f0 d.f1 = some (nb d)
end Go.Proofs.Ytbpccdbkaiigcaa.G

/- The neighbours of a free cell, and that the search by breadth comes to its end. -/
namespace Go.Proofs.Ytbpccdbkaiigcaa.G
open Go.RowKit Go.Proofs.YtbpccdbkaiigcaaW.PrintWords Go.Proofs.YtbpccdbkaiigcaaW.PrintLast
noncomputable def sel (w h : Int) (bl : List S48) (d : S48) : List S48:=chk (Free w h bl d) [d] []
noncomputable def nbOf (w h : Int) (bl : List S48) (c : S48) : List S48:=((((([] ++ sel w h bl ⟨c.f0,c.f1 - 1⟩) ++ sel w h bl ⟨c.f0 - 1,c.f1⟩) ++ sel w h bl ⟨c.f0,c.f1⟩) ++ sel w h bl ⟨c.f0 + 1,c.f1⟩) ++ sel w h bl ⟨c.f0,c.f1 + 1⟩)
theorem sel_len (w h : Int) (bl : List S48) (d : S48) : (sel w h bl d).length ≤ 1:=by
 unfold sel;by_cases hf : Free w h bl d
 ·rw [chk_pos hf];simp
 ·rw [chk_neg hf];simp
theorem sel_mem {w h : Int} {bl : List S48} {d e : S48} : e ∈ sel w h bl d ↔ e = d ∧ Free w h bl d:=by
 unfold sel;by_cases hf : Free w h bl d
 ·rw [chk_pos hf];simp [hf]
 ·rw [chk_neg hf];simp [hf]
theorem nb_len (w h : Int) (bl : List S48) (c : S48) : (nbOf w h bl c).length ≤ 5:=by
 unfold nbOf;simp only [List.length_append,List.length_nil];have h1:=sel_len w h bl ⟨c.f0,c.f1 - 1⟩;have h2:=sel_len w h bl ⟨c.f0 - 1,c.f1⟩;have h3:=sel_len w h bl ⟨c.f0,c.f1⟩;have h4:=sel_len w h bl ⟨c.f0 + 1,c.f1⟩;have h5:=sel_len w h bl ⟨c.f0,c.f1 + 1⟩;omega
theorem nb_mem {w h : Int} {bl : List S48} {c e : S48} : e ∈ nbOf w h bl c ↔ Free w h bl e ∧ (e = ⟨c.f0,c.f1 - 1⟩ ∨ e = ⟨c.f0 - 1,c.f1⟩ ∨ e = ⟨c.f0,c.f1⟩ ∨ e = ⟨c.f0 + 1,c.f1⟩ ∨ e = ⟨c.f0,c.f1 + 1⟩):=by
 unfold nbOf;simp only [List.mem_append,List.not_mem_nil,false_or,sel_mem];constructor
 ·rintro ((((⟨rfl,h⟩|⟨rfl,h⟩)|⟨rfl,h⟩)|⟨rfl,h⟩)|⟨rfl,h⟩) <;> simp [h]
 ·rintro ⟨h,(rfl|rfl|rfl|rfl|rfl)⟩ <;> simp [h]
theorem free_in {w h : Int} {bl : List S48} {c : S48} (hf : FloorOk w h bl) (hc : Free w h bl c) : (0 ≤ c.f0 ∧ c.f0 ≤ 5) ∧ (0 ≤ c.f1 ∧ c.f1 ≤ 5):=by
 have:=hf.1;have:=hf.2.1;have:=hc.1;unfold In at this;omega
theorem impl_nb {w h : Int} {bl : List S48} (hf : FloorOk w h bl) (hb : (bl.length : Int) ≤ 1099511627776) {c : S48} (hc : Free w h bl c) : Ev (fun k=>impl_around.f k w h bl c.f0 c.f1) (nbOf w h bl c):=by
 (have hin:=free_in hf hc;unfold impl_around.f;simp only [Option.bind_some];obtain ⟨L,hL⟩ : ∃ L : List S48,[(⟨0,(-1)⟩ : S48),(⟨(-1),0⟩ : S48),(⟨0,0⟩ : S48),(⟨1,0⟩ : S48),(⟨0,1⟩ : S48)] = L:=⟨_,rfl⟩;have hl : L.length = 5:=by rw [← hL];rfl);rw [hL,hl]
 have step : ∀ (i : Int) (acc : List S48) (d : S48) (r : List S48),0 ≤ i → i < 5 → acc.length ≤ 10 → wrap64 (c.f0 + (rd_T48 L i).f0) = d.f0 → wrap64 (c.f1 + (rd_T48 L i).f1) = d.f1 → Ev (fun k=>impl_around.l0 k (acc ++ sel w h bl d) L 5 (i + 1) w h bl c.f0 c.f1) r → Ev (fun k=>impl_around.l0 k acc L ((5 : Nat) : Int) i w h bl c.f0 c.f1) r:=by
  (intro i acc d r i0 i1 ha e0 e1 hr;refine Ev.step (fun k=>by rw [impl_around.l0]) ?_;have q5 : i < ((5 : Nat) : Int):=i1;have q6 : i < (L.length : Int):=by rw [hl];exact i1);simp only [if_pos q5,if_pos q6,if_pos i0,e0,e1,wrap64_id (x:=i + 1) (by omega) (by omega)];refine Ev.bind (impl_free w h bl d hf.1 hf.2.1 hb) ?_;unfold sel at hr;by_cases hd : Free w h bl d
  ·rw [chk_pos hd] at hr ⊢
   simp only [if_true,if_pos (show acc.length < 8796093022208 by omega)];exact hr
  ·rw [chk_neg hd] at hr ⊢
   simp only [Bool.false_eq_true,if_false];rw [List.append_nil] at hr;exact hr
 have s1:=sel_len w h bl ⟨c.f0,c.f1 - 1⟩;have s2:=sel_len w h bl ⟨c.f0 - 1,c.f1⟩;have s3:=sel_len w h bl ⟨c.f0,c.f1⟩;have s4:=sel_len w h bl ⟨c.f0 + 1,c.f1⟩;have s5:=sel_len w h bl ⟨c.f0,c.f1 + 1⟩;refine step 0 [] ⟨c.f0,c.f1 - 1⟩ _ (by omega) (by omega) (by simp) zq85 (by rw [← hL];show wrap64 (c.f1 + (-1)) = c.f1 - 1;rw [wrap64_id (by omega) (by omega)];omega) ?_;refine step 1 _ ⟨c.f0 - 1,c.f1⟩ _ (by omega) (by omega) (by simp;omega) (by rw [← hL];show wrap64 (c.f0 + (-1)) = c.f0 - 1;rw [wrap64_id (by omega) (by omega)];omega) zq86 ?_;refine step 2 _ ⟨c.f0,c.f1⟩ _ (by omega) (by omega) (by simp;omega) zq85 zq86 ?_;refine step 3 _ ⟨c.f0 + 1,c.f1⟩ _ (by omega) (by omega) (by simp;omega) (by rw [← hL];show wrap64 (c.f0 + 1) = c.f0 + 1;rw [wrap64_id (by omega) (by omega)]) zq86 ?_;refine step 4 _ ⟨c.f0,c.f1 + 1⟩ _ (by omega) (by omega) (by simp;omega) zq85 (by rw [← hL];show wrap64 (c.f1 + 1) = c.f1 + 1;rw [wrap64_id (by omega) (by omega)]) ?_;refine Ev.step (fun k=>by rw [impl_around.l0]) ?_;simp only [if_neg (show ¬ ((4 : Int) + 1 < 5) by decide)];exact Ev.now _
theorem nbs_impl {w h : Int} {bl : List S48} (hf : FloorOk w h bl) (hb : (bl.length : Int) ≤ 1099511627776) : Nbs w h bl (Free w h bl) (nbOf w h bl) where
 wf:=fun d hd=>by have:=free_in hf hd;exact ⟨wf_small (by omega) (by omega),wf_small (by omega) (by omega)⟩
 len:=fun d _=>nb_len w h bl d
 cl:=fun d _ e he=>(nb_mem.1 he).1
 run:=fun d hd=>Ev.rounds (impl_nb hf hb hd)
def unseen (m : Mp) : List S48 → Nat
 | []=>0
 | c :: cs=>(if (m c).isSome then 0 else 1) + unseen m cs
theorem unseen_le (m : Mp) (d : S48) (x : Int) : ∀ cs,unseen (upd m d x) cs ≤ unseen m cs
 | []=>Nat.le_refl _
 | c :: cs=>by
  have ih:=unseen_le m d x cs
  unfold unseen
  by_cases e : c = d
  ·subst e
   rw [upd_same]
   simp
   omega
  ·rw [upd_other m x e];omega
theorem unseen_lt (m : Mp) (d : S48) (x : Int) (hm : m d = none) : ∀ cs,d ∈ cs → unseen (upd m d x) cs + 1 ≤ unseen m cs
 | [],h=>by cases h
 | c :: cs,h=>by
  have le:=unseen_le m d x cs
  unfold unseen
  by_cases e : c = d
  ·subst e
   rw [upd_same,hm]
   simp
   omega
  ·rw [upd_other m x e]
   have:=unseen_lt m d x hm cs (by rcases List.mem_cons.1 h with h|h;exact absurd h.symm e;exact h)
   omega
theorem stepIn_inv {all : List S48} {G : S48 → Prop} (hall : ∀ d,G d → d ∈ all) (x P : Int) (hx : 0 ≤ x ∧ x ≤ P) : ∀ (ds : List S48) (m : Mp) (q : List S48),(∀ d ∈ ds,G d) → (∀ d ∈ q,(m d).isSome ∧ G d) → (∀ d v,m d = some v → 0 ≤ v ∧ v ≤ P) →
  (stepIn x ds m q).2.length + unseen (stepIn x ds m q).1 all ≤ q.length + unseen m all ∧ (∀ d ∈ (stepIn x ds m q).2,((stepIn x ds m q).1 d).isSome ∧ G d) ∧ (∀ d v,(stepIn x ds m q).1 d = some v → 0 ≤ v ∧ v ≤ P)
 | [],m,q,_,h2,h3=>⟨Nat.le_refl _,h2,h3⟩
 | d :: ds,m,q,h1,h2,h3=>by
  cases hm : m d with
  | some y =>
   rw [stepIn_some hm]
   exact stepIn_inv hall x P hx ds m q (fun e he=>h1 e (List.mem_cons_of_mem _ he)) h2 h3
  | none =>
   rw [stepIn_none hm]
   have hd:=h1 d List.mem_cons_self
   have r:=stepIn_inv hall x P hx ds (upd m d x) (q ++ [d]) (fun e he=>h1 e (List.mem_cons_of_mem _ he)) (fun e he=>by
    rcases List.mem_append.1 he with he|he
    ·refine ⟨?_,(h2 e he).2⟩
     by_cases e' : e = d
     ·subst e';rw [upd_same];rfl
     ·rw [upd_other m x e'];exact (h2 e he).1
    ·rw [List.mem_singleton] at he
     subst he
     rw [upd_same]
     exact ⟨rfl,hd⟩) (fun e v he=>by
    by_cases e' : e = d
    ·subst e';rw [upd_same] at he;injection he with he;omega
    ·rw [upd_other m x e'] at he;exact h3 e v he)
   have u:=unseen_lt m d x hm all (hall d hd)
   rw [List.length_append,List.length_singleton] at r
   exact ⟨by omega,r.2⟩
theorem bfs_ends {all : List S48} {G : S48 → Prop} {nb : S48 → List S48} (hall : ∀ d,G d → d ∈ all) (hcl : ∀ d,G d → ∀ e ∈ nb d,G e) : ∀ (k : Nat) (m : Mp) (q : List S48) (P : Int),q.length + unseen m all < k → P + k ≤ 900 → 0 ≤ P → (∀ d ∈ q,(m d).isSome ∧ G d) → (∀ d v,m d = some v → 0 ≤ v ∧ v ≤ P) → ∃ r,bfs nb k m q = some r
 | 0,m,q,P,h,_,_,_,_=>by omega
 | k + 1,m,[],P,_,_,_,_,_=>⟨m,rfl⟩
 | k + 1,m,c :: q,P,h,hP,hP0,hq,hv=>by
  have hc:=hq c List.mem_cons_self
  obtain ⟨v,hmc⟩:=Option.isSome_iff_exists.1 hc.1
  have hvv:=hv c v hmc
  rw [bfs,hmc]
  dsimp only
  rw [List.length_cons] at h
  rw [if_pos ⟨by omega,hvv.1,by omega⟩]
  have r:=stepIn_inv hall (v + 1) (P + 1) ⟨by omega,by omega⟩ (nb c) m q (hcl c hc.2) (fun d hd=>hq d (List.mem_cons_of_mem _ hd)) (fun d y e=>by have:=hv d y e;omega)
  exact bfs_ends hall hcl k _ _ (P + 1) (by omega) (by omega) (by omega) r.2.1 r.2.2
def grid : List S48:=(List.range 6).flatMap fun (y : Nat)=>(List.range 6).map fun (x : Nat)=>(⟨(x : Int),(y : Int)⟩ : S48)
theorem grid_mem {c : S48} (h : (0 ≤ c.f0 ∧ c.f0 ≤ 5) ∧ (0 ≤ c.f1 ∧ c.f1 ≤ 5)) : c ∈ grid:=by
 unfold grid;rw [List.mem_flatMap];refine ⟨c.f1.toNat,List.mem_range.2 (by omega),List.mem_map.2 ⟨c.f0.toNat,List.mem_range.2 (by omega),?_⟩⟩;cases c;simp only [S48.mk.injEq];simp only at h;omega
theorem unseen_bd (m : Mp) : ∀ cs,unseen m cs ≤ cs.length
 | []=>Nat.le_refl _
 | c :: cs=>by
  have:=unseen_bd m cs
  unfold unseen
  rw [List.length_cons]
  split <;> omega
theorem bfs_floor {w h : Int} {bl : List S48} (hf : FloorOk w h bl) {c : S48} (hc : Free w h bl c) : ∃ r,bfs (nbOf w h bl) 100 (upd (fun _=>none) c 0) [c] = some r:=by
 refine bfs_ends (all:=grid) (G:=Free w h bl) (fun d hd=>grid_mem (free_in hf hd)) (fun d _ e he=>(nb_mem.1 he).1) 100 _ _ 0 ?_ (by omega) (by omega) ?_ ?_
 ·have:=unseen_bd (upd (fun _=>none) c 0) grid
  have e : grid.length = 36:=rfl;rw [List.length_singleton];omega
 ·intro d hd
  rw [List.mem_singleton] at hd;subst hd;rw [upd_same];exact ⟨rfl,hc⟩
 ·intro d v e
  by_cases h : d = c
  ·subst h;rw [upd_same] at e;injection e with e;omega
  ·rw [upd_other _ _ h] at e;cases e
theorem spec_asked (w h : Int) (bl : List S48) (hb : (bl.length : Int) ≤ 1099511627776) (a b : S48) : Ev (fun k=>spec_l16Asked.f k w h bl a.f0 a.f1 b.f0 b.f1) (chk (FloorOk w h bl ∧ Free w h bl a ∧ Free w h bl b) true false):=by
 unfold spec_l16Asked.f;refine Ev.bind (spec_floor w h bl hb) ?_;by_cases hf : FloorOk w h bl
 ·rw [chk_pos hf]
  simp only [if_true];refine Ev.bind (spec_free w h bl a hf.1 hf.2.1 hb) ?_;by_cases ha : Free w h bl a
  ·rw [chk_pos ha]
   simp only [if_true];refine Ev.bind (spec_free w h bl b hf.1 hf.2.1 hb) ?_;by_cases hb2 : Free w h bl b
   ·rw [chk_pos hb2,chk_pos ⟨hf,ha,hb2⟩];exact Ev.now _
   ·rw [chk_neg hb2,chk_neg (fun x=>hb2 x.2.2)];exact Ev.now _
  ·rw [chk_neg ha,chk_neg (fun x=>ha x.2.1)];exact Ev.now _
 ·rw [chk_neg hf,chk_neg (fun x=>hf x.1)];exact Ev.now _
end Go.Proofs.Ytbpccdbkaiigcaa.G

/- The search by breadth finds the least numbers of steps. -/
namespace Go.Proofs.Ytbpccdbkaiigcaa.G
open Go.RowKit Go.Proofs.YtbpccdbkaiigcaaW.PrintWords Go.Proofs.YtbpccdbkaiigcaaW.PrintLast
def Rch (nb : S48 → List S48) (c : S48) : Nat → S48 → Prop
 | 0,x=>x = c
 | n + 1,x => ∃ y,Rch nb c n y ∧ x ∈ nb y
structure BI (nb : S48 → List S48) (c0 : S48) (D : S48 → Prop) (m : Mp) (q : List S48) (hd : Int) : Prop where
 st : m c0 = some 0
 snd : ∀ x v,m x = some v → 0 ≤ v ∧ Rch nb c0 v.toNat x
 cls : ∀ x v,m x = some v → x ∉ q → ¬ D x → ∀ y ∈ nb x,∃ u,m y = some u ∧ u ≤ v + 1
 seen : ∀ x ∈ q,∃ v,m x = some v ∧ hd ≤ v
 top : ∀ x v,m x = some v → v ≤ hd + 1
 srt : q.Pairwise (fun x y => ∀ u v,m x = some u → m y = some v → u ≤ v)
theorem stepIn_bi {nb : S48 → List S48} {c0 c : S48} {v : Int} : ∀ (ds : List S48) (m : Mp) (q : List S48),BI nb c0 (fun x=>x = c) m q v → m c = some v → (∀ y ∈ nb c,y ∈ ds ∨ ∃ u,m y = some u ∧ u ≤ v + 1) → (∀ d ∈ ds,d ∈ nb c) →
  BI nb c0 (fun _=>False) (stepIn (v + 1) ds m q).1 (stepIn (v + 1) ds m q).2 v
 | [],m,q,h,hc,hdone,_=>by
  show BI nb c0 (fun _=>False) m q v
  refine ⟨h.st,h.snd,fun x u hx hq _ y hy=>?_,h.seen,h.top,h.srt⟩
  by_cases e : x = c
  ·subst e
   rw [hc] at hx
   obtain rfl:=Option.some.inj hx
   rcases hdone y hy with h1|h1
   ·cases h1
   ·exact h1
  ·exact h.cls x u hx hq e y hy
 | d :: ds,m,q,h,hc,hdone,hin=>by
  cases hd : m d with
  | some y =>
   rw [stepIn_some hd]
   refine stepIn_bi ds m q h hc (fun y' hy'=>?_) (fun e he=>hin e (List.mem_cons_of_mem _ he))
   rcases hdone y' hy' with h1|h1
   ·rcases List.mem_cons.1 h1 with h1|h1
    ·subst h1;exact Or.inr ⟨y,hd,h.top _ _ hd⟩
    ·exact Or.inl h1
   ·exact Or.inr h1
  | none =>
   rw [stepIn_none hd]
   have ne : ∀ x u,m x = some u → x ≠ d:=fun x u hx e=>by rw [e,hd] at hx;cases hx
   have up : ∀ x u,m x = some u → upd m d (v + 1) x = some u:=fun x u hx=>by rw [upd_other m _ (ne x u hx)];exact hx
   have hv0:=(h.snd c v hc).1
   have back : ∀ x u,upd m d (v + 1) x = some u → (x = d ∧ u = v + 1) ∨ (x ≠ d ∧ m x = some u):=fun x u hx=>by
    by_cases e : x = d
    ·subst e;rw [upd_same] at hx;exact Or.inl ⟨rfl,(Option.some.inj hx).symm⟩
    ·rw [upd_other m _ e] at hx;exact Or.inr ⟨e,hx⟩
   refine stepIn_bi ds (upd m d (v + 1)) (q ++ [d]) ⟨up _ _ h.st,?_,?_,?_,?_,?_⟩ (up _ _ hc) (fun y hy=>?_) (fun e he=>hin e (List.mem_cons_of_mem _ he))
   ·intro x u hx
    rcases back x u hx with ⟨rfl,rfl⟩|⟨_,hx⟩
    ·refine ⟨by omega,?_⟩
     rw [show (v + 1).toNat = v.toNat + 1 from by omega]
     exact ⟨c,(h.snd c v hc).2,hin x List.mem_cons_self⟩
    ·exact h.snd x u hx
   ·intro x u hx hq hne y hy
    rw [List.mem_append] at hq
    rcases back x u hx with ⟨rfl,rfl⟩|⟨hxd,hx⟩
    ·exact absurd (Or.inr (List.mem_singleton.2 rfl)) hq
    ·obtain ⟨u',hu',hle⟩:=h.cls x u hx (fun hm=>hq (Or.inl hm)) hne y hy
     exact ⟨u',up _ _ hu',hle⟩
   ·intro x hx
    rcases List.mem_append.1 hx with hx|hx
    ·obtain ⟨u,hu,hle⟩:=h.seen x hx
     exact ⟨u,up _ _ hu,hle⟩
    ·rw [List.mem_singleton] at hx
     subst hx
     exact ⟨v + 1,upd_same _ _ _,by omega⟩
   ·intro x u hx
    rcases back x u hx with ⟨rfl,rfl⟩|⟨_,hx⟩
    ·omega
    ·exact h.top x u hx
   ·rw [List.pairwise_append]
    refine ⟨?_,List.pairwise_singleton _ _,?_⟩
    ·refine List.Pairwise.imp_of_mem (fun {x y} hx hy hr u u' hu hu'=>?_) h.srt
     obtain ⟨ux,hux,_⟩:=h.seen x hx
     obtain ⟨uy,huy,_⟩:=h.seen y hy
     rw [up _ _ hux] at hu
     rw [up _ _ huy] at hu'
     obtain rfl:=Option.some.inj hu
     obtain rfl:=Option.some.inj hu'
     exact hr _ _ hux huy
    ·intro x hx y hy u u' hu hu'
     rw [List.mem_singleton] at hy
     subst hy
     rw [upd_same] at hu'
     obtain rfl:=Option.some.inj hu'
     obtain ⟨ux,hux,_⟩:=h.seen x hx
     rw [up _ _ hux] at hu
     obtain rfl:=Option.some.inj hu
     exact h.top _ _ hux
   ·rcases hdone y hy with h1|⟨u,hu,hle⟩
    ·rcases List.mem_cons.1 h1 with h1|h1
     ·subst h1;exact Or.inr ⟨v + 1,upd_same _ _ _,by omega⟩
     ·exact Or.inl h1
    ·exact Or.inr ⟨u,up _ _ hu,hle⟩
theorem bfs_bi {nb : S48 → List S48} {c0 : S48} : ∀ (k : Nat) (m : Mp) (q : List S48) (hd : Int) (r : Mp),BI nb c0 (fun _=>False) m q hd → bfs nb k m q = some r → ∃ hd',BI nb c0 (fun _=>False) r [] hd'
 | 0,m,q,hd,r,_,h=>by simp [bfs] at h
 | k + 1,m,[],hd,r,hi,h=>by
  rw [bfs] at h
  obtain rfl:=Option.some.inj h
  exact ⟨hd,hi⟩
 | k + 1,m,c :: q,hd,r,hi,h=>by
  rw [bfs] at h
  obtain ⟨v,hv,hle⟩:=hi.seen c List.mem_cons_self
  rw [hv] at h
  dsimp only at h
  by_cases g : q.length < 1000 ∧ 0 ≤ v ∧ v < 1000
  ·rw [if_pos g] at h
   have s:=List.pairwise_cons.1 hi.srt
   refine bfs_bi k _ _ v r (stepIn_bi (nb c) m q ⟨hi.st,hi.snd,fun x u hx hq hne y hy=>hi.cls x u hx (fun hm=>?_) id y hy,fun x hx=>?_,fun x u hx=>?_,s.2⟩ hv (fun y hy=>Or.inl hy) (fun d hd=>hd)) h
   ·rcases List.mem_cons.1 hm with hm|hm
    ·exact hne hm
    ·exact hq hm
   ·obtain ⟨u,hu,_⟩:=hi.seen x (List.mem_cons_of_mem _ hx)
    exact ⟨u,hu,s.1 x hx v u hv hu⟩
   ·have:=hi.top x u hx;omega
  ·rw [if_neg g] at h;cases h
structure Dist (nb : S48 → List S48) (c : S48) (m : Mp) : Prop where
 snd : ∀ x v,m x = some v → 0 ≤ v ∧ Rch nb c v.toNat x
 least : ∀ n x,Rch nb c n x → ∃ v,m x = some v ∧ v ≤ (n : Int)
 near : ∀ x v,m x = some v → ∀ y ∈ nb x,∃ u,m y = some u ∧ u ≤ v + 1
theorem bfs_dist {nb : S48 → List S48} {c : S48} {K : Nat} {r : Mp} (h : bfs nb K (upd (fun _=>none) c 0) [c] = some r) : Dist nb c r:=by
 have only : ∀ x v,upd (fun _=>none) c 0 x = some v → x = c ∧ v = 0:=fun x v hx=>by
  by_cases e : x = c
  ·subst e;rw [upd_same] at hx;exact ⟨rfl,(Option.some.inj hx).symm⟩
  ·rw [upd_other _ _ e] at hx;cases hx
 (obtain ⟨hd,hi⟩:=bfs_bi K _ _ 0 r ⟨upd_same _ _ _,fun x v hx=>by obtain ⟨rfl,rfl⟩:=only x v hx;exact ⟨by omega,rfl⟩,fun x v hx hq=>by obtain ⟨rfl,rfl⟩:=only x v hx;exact absurd (List.mem_singleton.2 rfl) hq,fun x hx=>by rw [List.mem_singleton] at hx;subst hx;exact ⟨0,upd_same _ _ _,by omega⟩,fun x v hx=>by obtain ⟨rfl,rfl⟩:=only x v hx;omega,List.pairwise_singleton _ _⟩ h;have nr : ∀ x v,r x = some v → ∀ y ∈ nb x,∃ u,r y = some u ∧ u ≤ v + 1:=fun x v hx y hy=>hi.cls x v hx (by simp) id y hy);refine ⟨hi.snd,?_,nr⟩;intro n
 induction n with
 | zero=>intro x hx;obtain rfl : x = c:=hx;exact ⟨0,hi.st,by omega⟩
 | succ n ih =>
  rintro x ⟨y,hy,hx⟩;obtain ⟨v,hv,hle⟩:=ih y hy;obtain ⟨u,hu,hle2⟩:=nr y v hv x hx;exact ⟨u,hu,by omega⟩
end Go.Proofs.Ytbpccdbkaiigcaa.G

namespace Go.Proofs.Ytbpccdbkaiigcaa.G
open Go.RowKit Go.Proofs.YtbpccdbkaiigcaaW.PrintWords Go.Proofs.YtbpccdbkaiigcaaW.PrintLast Go.Proofs.YtbpccdbkaiigcaaW.PrintMore
attribute [local go_sem] max2_int min2_int max_two min_two max_three min_three max_four min_four   -- for this text's walks alone

def spec_l1Least.f (a0:Int) (a1:Int):Option (Int):=if a0 < a1 then (some a0) else (some a1)
theorem spec_l1Least.calls (a0:Int) (a1:Int) (r:Int) (w:World) (h:spec_l1Least.f a0 a1 = some r) :
  Calls Try.prog 101 #[.int .i64 a0,.int .i64 a1] w fun e w'=>e = .returned (.int .i64 r) ∧ Drawn0 w w':=by
 have H:(if a0 < a1 then (some a0) else (some a1)) = some r:=h;clear h;by_cases c3:a0 < a1
 ·rw [if_pos c3] at H
  have c3b0:decide (a0 < a1) = true:=decide_eq_true c3;clear c3;obtain rfl:=Option.some.inj H;go_enter Try.func101,Try.ntmps101;go_wp2;go_ret;exact ⟨zq91,zq89⟩
 ·rw [if_neg c3] at H
  have c3b0:decide (a0 < a1) = false:=decide_eq_false c3;clear c3;obtain rfl:=Option.some.inj H;go_enter Try.func101,Try.ntmps101;go_wp2;go_ret;exact ⟨zq91,zq89⟩



def spec_l16At.f (l0:List (S48)) (a1:Int):Option (Int × Int):=(spec_l1Least.f a1 (wrap64 ((l0.length:Int) - 1))).bind fun t0=>(if 0 ≤ t0 then (if t0 < (l0.length:Int) then (some ((rd_T48 l0 t0).f0,(rd_T48 l0 t0).f1)) else (none)) else (none))
theorem spec_l16At.calls (A0:Option Addr) (c0:Nat) (l0:List (S48)) (a1:Int) (r1:Int) (r2:Int) (w:World) (hr0:Kd.C k48 w A0 l0.length l0) (hc0:l0.length ≤ c0) (h:spec_l16At.f l0 a1 = some (r1,r2)) :
  Calls Try.prog 98 #[.slice A0 l0.length c0,.int .i64 a1] w fun e w'=>e = .returned (.agg #[.int .i64 r1,.int .i64 r2]) ∧ Below w.heap.size w w':=by
 have hu48:=Try.underlying48;have HR0:=zM hr0;have HC0:=zM hc0;clear hr0 hc0;have HB:=zM (Below.refl w.heap.size w);have H:((spec_l1Least.f a1 (wrap64 ((l0.length:Int) - 1))).bind fun t0=>(if 0 ≤ t0 then (if t0 < (l0.length:Int) then (some ((rd_T48 l0 t0).f0,(rd_T48 l0 t0).f1)) else (none)) else (none))) = some (r1,r2):=h;clear h;replace H:=Option.bind_eq_some_iff.mp H;obtain ⟨t0,A30,H⟩:=H;replace H:(if 0 ≤ t0 then (if t0 < (l0.length:Int) then (some ((rd_T48 l0 t0).f0,(rd_T48 l0 t0).f1)) else (none)) else (none)) = some (r1,r2):=H;have A3:=zM A30;clear A30;by_cases c4:0 ≤ t0
 ·rw [if_pos c4] at H
  have c4b0:decide (0 ≤ t0) = true:=decide_eq_true c4;clear c4;by_cases c5:t0 < (l0.length:Int)
  ·rw [if_pos c5] at H
   have c5b0:decide (t0 < (l0.length:Int)) = true:=decide_eq_true c5;clear c5;simp only [Option.some.injEq,Prod.mk.injEq] at H;obtain ⟨rfl,rfl⟩:=H;go_enter Try.func98,Try.ntmps98;go_wp2_with (first|((with_reducible refine gate_dst (N:=4) rfl ?_);refine zzc 4 #[.int .i64 0,.int .i64 0] 48 ?_;intro gb1 hg w6 hbox hb;have BK1:= zM (hbox);have GW1:= zM ((zq94:w.heap.size ≤ gb1));have GE1:= zM ((zq94:w.heap.size ≤ gb1));replace HB:= zM (zQ zzh hb);clear hb hbox hg)|((with_reducible refine gate_callee (f:=101) rfl ?_);refine goesL_ (some 10) rfl rfl Try.func101 (by kernel_rfl) rfl #[.int .i64 a1,.int .i64 (wrap64 ((l0.length:Int) - 1))] rfl zq77 ?_;(with_reducible refine (spec_l1Least.calls a1 (wrap64 ((l0.length:Int) - 1)) t0 _ A3.out).mono ?_);rintro e w' ⟨rfl,⟨nd,rfl⟩⟩;refine ⟨_,rfl,?_⟩;(try (rw [drewN_self w6];generalize hq_:World.drewN w6 _ = w6;replace BK1: Aside0 (w6.heap[gb1]? = some (.cells #[.int .i64 0,.int .i64 0] 48 (0,0))):=⟨by rw [← hq_];exact (zzi BK1)⟩;replace HB: Aside0 (Below w.heap.size w w6):=⟨by rw [← hq_];exact zzh⟩;clear hq_));have p2:0 ≤ (t0:Int):=zzd;have q2:t0 < (l0.length:Int):=zzd;obtain ⟨ad2,e2,hx2_0,hx2_1⟩:=at_T48 HR0.out t0 p2 q2;cases e2;replace hx2_0:=zS HB.out hx2_0;replace hx2_1:=zS HB.out hx2_1;replace p2:=eq_true p2;replace q2:=eq_true q2;have hcz7_0:=zz0 BK1;have hcz7_1:=zz1 BK1;have hfz7_0:=blk_frozen BK1.out 0;have hfz7_1:=blk_frozen BK1.out 1));refine bodyPost_ret (results_cell_row rfl _ _ gb1 48 #[.int .i64 ((rd_T48 l0 t0).f0),.int .i64 ((rd_T48 l0 t0).f1)] (0,0) _ rfl (by (with_reducible repeat (first|refine zJ ?_ _|refine zK ?_|refine zL ?_ _));refine blk_put (cs := #[.int .i64 ((rd_T48 l0 t0).f0),.int .i64 0]) ?_ 1 _ rfl;(with_reducible repeat (first|refine zJ ?_ _|refine zK ?_|refine zL ?_ _));refine blk_put (cs := #[.int .i64 0,.int .i64 0]) ?_ 0 _ rfl;(with_reducible repeat (first|refine zJ ?_ _|refine zK ?_|refine zL ?_ _));exact BK1.out) Try.underlying48 rfl (by kernel_rfl)) rfl ?_
   exact ⟨zq84,zzh⟩
  ·rw [if_neg c5] at H
   exact absurd H (by simp)
 ·rw [if_neg c4] at H
  exact absurd H (by simp)



attribute [local go_sem high] eqA48
def spec_l16Hit.f (l0:List (S48)) (l1:List (S48)) (a2:Int):Option (Bool):=(spec_l16At.f l0 a2).bind fun bt0=>((spec_l16At.f l1 a2).bind fun bt1=>(if (bt0.1 == bt1.1 && (bt0.2 == bt1.2)) = true then (some true) else (if a2 > 0 then ((spec_l16At.f l0 a2).bind fun bt2=>((spec_l16At.f l1 (wrap64 (a2 - 1))).bind fun bt3=>(if (bt2.1 == bt3.1 && (bt2.2 == bt3.2)) = true then ((spec_l16At.f l0 (wrap64 (a2 - 1))).bind fun bt4=>((spec_l16At.f l1 a2).bind fun bt5=>(some (bt4.1 == bt5.1 && (bt4.2 == bt5.2))))) else (some false)))) else (some false))))


def spec_l16Collision.l0:Nat → List (S48) → List (S48) → Int → Option (Int)
 | 0,_,_,_=>none
 | k + 1,x0,x1,x5=>(spec_l1Most.f (x0.length:Int) (x1.length:Int)).bind fun t0=>(if x5 < t0 then ((spec_l16Hit.f x0 x1 x5).bind fun t1=>(if t1 = true then (some x5) else (spec_l16Collision.l0 k x0 x1 (wrap64 (x5 + 1))))) else (some (-1)))
def spec_l16Collision.f (k:Nat) (l0:List (S48)) (l1:List (S48)):Option (Int):=spec_l16Collision.l0 k l0 l1 0


def spec_FirstCollision.j0:Nat → List (S48) → List (S48) → Bool → Option (Int × Bool × Bool)
 | 0,_,_,_=>none
 | k + 1,x1,x2,x24=>if x24 = true then (some (0,false,false)) else ((spec_l16Collision.f k x1 x2).bind fun t0=>(if t0 < 0 then (some (0,false,true)) else (some (t0,true,true))))
def spec_FirstCollision.f (k:Nat) (a0_0:Int) (a0_1:Int) (l0_2:List (S48)) (l1:List (S48)) (l2:List (S48)):Option (Int × Bool × Bool):=(spec_l16Good.f k a0_0 a0_1 l0_2).bind fun t0=>(if t0 = true then ((spec_l16Path.f k a0_0 a0_1 l0_2 l1).bind fun t1=>(if t1 = true then ((spec_l16Path.f k a0_0 a0_1 l0_2 l2).bind fun t2=>(spec_FirstCollision.j0 k l1 l2 (!t2))) else (spec_FirstCollision.j0 k l1 l2 true))) else (spec_FirstCollision.j0 k l1 l2 true))
end Go.Proofs.Ytbpccdbkaiigcaa.G

namespace Go.Proofs.Ytbpccdbkaiigcaa.G
open Go.RowKit Go.Proofs.YtbpccdbkaiigcaaW.PrintWords Go.Proofs.YtbpccdbkaiigcaaW.PrintLast Go.Proofs.YtbpccdbkaiigcaaW.PrintMore
theorem least_eq (a b : Int) : spec_l1Least.f a b = some (mn a b):=by
 unfold spec_l1Least.f mn;split <;> split <;> first|rfl|(congr 1;omega)
theorem mn_cases (a b : Int) : (mn a b = a ∨ mn a b = b) ∧ mn a b ≤ a ∧ mn a b ≤ b:=by unfold mn;split <;> omega
def cat (p : List S48) (i : Int) : S48:=rd_T48 p (mn i ((p.length : Int) - 1))
theorem impl_cat (p : List S48) (h1 : 1 ≤ (p.length : Int)) (h2 : (p.length : Int) ≤ 25) (i : Int) (h0 : 0 ≤ i) : impl_cellAt.f p i = some ((cat p i).f0,(cat p i).f1):=by
 have m:=mn_cases i ((p.length : Int) - 1);unfold impl_cellAt.f;rw [wrap64_id (by omega) (by omega)];simp (disch:=omega) only [if_pos];rfl
theorem spec_cat (p : List S48) (h1 : 1 ≤ (p.length : Int)) (h2 : (p.length : Int) ≤ 25) (i : Int) (h0 : 0 ≤ i) : spec_l16At.f p i = some ((cat p i).f0,(cat p i).f1):=by
 have m:=mn_cases i ((p.length : Int) - 1);unfold spec_l16At.f;rw [wrap64_id (by omega) (by omega),least_eq];simp (disch:=omega) only [Option.bind_some,if_pos];rfl
def Hit (p q : List S48) (i : Int) : Prop:=eqc (cat p i) (cat q i) ∨ (0 < i ∧ eqc (cat p i) (cat q (i - 1)) ∧ eqc (cat p (i - 1)) (cat q i))
noncomputable def collF (p q : List S48) : Nat → Int → Int
 | 0,_ => -1
 | d + 1,i=>chk (Hit p q i) i (collF p q d (i + 1))
theorem collF_succ (p q : List S48) (d : Nat) (i : Int) : collF p q (d + 1) i = chk (Hit p q i) i (collF p q d (i + 1)):=rfl
theorem mx_two (a b : Int) : (mx a b = a ∨ mx a b = b) ∧ a ≤ mx a b ∧ b ≤ mx a b:=by unfold mx;split <;> omega
def ans (t : Int) : Int × Bool × Bool:=if t < 0 then (0,false,true) else (t,true,true)
theorem impl_coll (p q : List S48) (hp : 1 ≤ (p.length : Int) ∧ (p.length : Int) ≤ 25) (hq : 1 ≤ (q.length : Int) ∧ (q.length : Int) ≤ 25) : ∀ (d : Nat) (i : Int),0 ≤ i → i + d = mx (p.length : Int) (q.length : Int) → Ev (fun k=>impl_FirstCollision.l0 k p q (mx (p.length : Int) (q.length : Int)) i) (ans (collF p q d i)):=by
 have mm:=mx_two (p.length : Int) (q.length : Int);intro d
 induction d with
 | zero =>
  intro i h0 hd;refine Ev.step (fun k=>by rw [impl_FirstCollision.l0]) ?_;simp (disch:=omega) only [if_neg];exact Ev.now _
 | succ d ih =>
  intro i h0 hd;have nx:=ih (i + 1) (by omega) (by omega)
  have yes : Hit p q i → Ev (fun _=>some (i,true,true)) (ans (collF p q (d + 1) i)):=by
   intro m;rw [collF_succ,chk_pos m];unfold ans;rw [if_neg (by omega)];exact Ev.now _
  have no : ¬ Hit p q i → Ev (fun k=>impl_FirstCollision.l0 k p q (mx (p.length : Int) (q.length : Int)) (i + 1)) (ans (collF p q (d + 1) i)):=by
   intro m;rw [collF_succ,chk_neg m];exact nx
  refine Ev.step (fun k=>by rw [impl_FirstCollision.l0]) ?_;simp (disch:=omega) only [if_pos];rw [impl_cat p hp.1 hp.2 i h0,impl_cat q hq.1 hq.2 i h0];simp only [Option.bind_some];rw [wrap64_id (x:=i + 1) (by omega) (by omega)];refine Ev.ite (fun e1=>yes (Or.inl ((eqc_bool _ _).1 e1))) (fun e1=>?_);refine Ev.ite (fun g=>?_) (fun g=>no (fun m=>m.elim (fun m=>e1 ((eqc_bool _ _).2 m)) (fun m=>g m.1)));rw [wrap64_id (by omega) (by omega),impl_cat p hp.1 hp.2 (i - 1) (by omega),impl_cat q hq.1 hq.2 (i - 1) (by omega)];simp only [Option.bind_some];refine Ev.ite (fun e2=>?_) (fun e2=>no (fun m=>m.elim (fun m=>e1 ((eqc_bool _ _).2 m)) (fun m=>e2 ((eqc_bool _ _).2 m.2.1))));refine Ev.ite (fun e3=>yes (Or.inr ⟨g,(eqc_bool _ _).1 e2,?_⟩)) (fun e3=>no (fun m=>m.elim (fun m=>e1 ((eqc_bool _ _).2 m)) (fun m=>e3 ((eqc_bool _ _).2 ⟨m.2.2.1.symm,m.2.2.2.symm⟩))));have:=(eqc_bool _ _).1 e3;exact ⟨this.1.symm,this.2.symm⟩
noncomputable def collR (w h : Int) (bl p q : List S48) : Int × Bool × Bool:=chk (PathOk w h bl p ∧ PathOk w h bl q) (ans (collF p q (mx (p.length : Int) (q.length : Int)).toNat 0)) (0,false,false)
theorem impl_first (w h : Int) (bl : List S48) (hb : (bl.length : Int) ≤ 1099511627776) (p q : List S48) : Ev (fun k=>impl_FirstCollision.f k w h bl p q) (collR w h bl p q):=by
 have no : ¬ (PathOk w h bl p ∧ PathOk w h bl q) → Ev (fun k=>impl_FirstCollision.j0 k p q true) (collR w h bl p q):=by
  intro hn;unfold collR;rw [chk_neg hn];refine Ev.step (fun k=>by rw [impl_FirstCollision.j0]) ?_;simp only [if_true];exact Ev.now _
 unfold impl_FirstCollision.f;refine Ev.bind (impl_path w h bl hb p) ?_;refine Ev.ite (fun g=>?_) (fun g=>no (fun m=>g (chk_true.2 m.1)));refine Ev.bind (impl_path w h bl hb q) ?_;have g:=chk_true.1 g;by_cases g2 : PathOk w h bl q
 ·rw [chk_pos g2]
  have mm:=mx_two (p.length : Int) (q.length : Int);have l1:=g.2.1;refine Ev.step (fun k=>by rw [impl_FirstCollision.j0]) ?_;simp only [Bool.not_true,Bool.false_eq_true,if_false];unfold collR;rw [chk_pos ⟨g,g2⟩];exact impl_coll p q g.2.1 g2.2.1 _ 0 (by omega) (by omega)
 ·rw [chk_neg g2]
  exact no (fun m=>g2 m.2)
end Go.Proofs.Ytbpccdbkaiigcaa.G

/- The first shortest path beside others, as a pure function: levels, ends and sets from behind; that the two ways to tell it agree. -/
namespace Go.Proofs.Ytbpccdbkaiigcaa.G
open Go.RowKit Go.Proofs.YtbpccdbkaiigcaaW.PrintWords Go.Proofs.YtbpccdbkaiigcaaW.PrintLast
theorem eqc_iff {a b : S48} : eqc a b ↔ a = b:=by
 cases a;cases b;unfold eqc;simp
def HitAt (os : List (List S48)) (a b : S48) (t : Int) : Prop := ∃ p ∈ os,cat p t = b ∨ (0 < t ∧ cat p t = a ∧ cat p (t - 1) = b)
theorem hitAt_same {os : List (List S48)} {b : S48} {t : Int} : HitAt os b b t ↔ ∃ p ∈ os,cat p t = b:=by
 constructor
 ·rintro ⟨p,hp,h|h⟩
  ·exact ⟨p,hp,h⟩
  ·exact ⟨p,hp,h.2.1⟩
 ·rintro ⟨p,hp,h⟩
  exact ⟨p,hp,Or.inl h⟩
theorem hitAt_nil {a b : S48} {t : Int} : ¬ HitAt [] a b t:=by rintro ⟨p,hp,_⟩;cases hp
noncomputable def fil (P : S48 → Prop) (l : List S48) : List S48:=l.filter (fun c=>chk (P c) true false)
noncomputable def fnd (P : S48 → Prop) (l : List S48) : Option S48:=(fil P l).head?
theorem fil_nil (P : S48 → Prop) : fil P [] = []:=rfl
theorem fil_app (P : S48 → Prop) (l k : List S48) : fil P (l ++ k) = fil P l ++ fil P k:=List.filter_append ..
theorem fil_one_pos {P : S48 → Prop} {c : S48} (h : P c) : fil P [c] = [c]:=by unfold fil;simp [chk_pos h]
theorem fil_one_neg {P : S48 → Prop} {c : S48} (h : ¬ P c) : fil P [c] = []:=by unfold fil;simp [chk_neg h]
theorem fil_mem {P : S48 → Prop} {l : List S48} {c : S48} : c ∈ fil P l ↔ c ∈ l ∧ P c:=by
 unfold fil;rw [List.mem_filter];exact ⟨fun h=>⟨h.1,chk_true.1 h.2⟩,fun h=>⟨h.1,chk_true.2 h.2⟩⟩
theorem fnd_nil (P : S48 → Prop) : fnd P [] = none:=rfl
theorem fnd_pos {P : S48 → Prop} {c : S48} {l : List S48} (h : P c) : fnd P (c :: l) = some c:=by unfold fnd fil;simp [List.filter_cons,chk_pos h]
theorem fnd_neg {P : S48 → Prop} {c : S48} {l : List S48} (h : ¬ P c) : fnd P (c :: l) = fnd P l:=by unfold fnd fil;simp [List.filter_cons,chk_neg h]
theorem fnd_mem {P : S48 → Prop} {l : List S48} {c : S48} (h : fnd P l = some c) : c ∈ l ∧ P c:=fil_mem.1 (List.mem_of_mem_head? h)
theorem bef_irr {a : S48} : ¬ Bef a a:=by unfold Bef;omega
theorem bef_tr {a b c : S48} (h : Bef a b) (k : Bef b c) : Bef a c:=by unfold Bef at *;omega
theorem srt_eq : ∀ {l k : List S48},l.Pairwise Bef → k.Pairwise Bef → (∀ c,c ∈ l ↔ c ∈ k) → l = k
 | [],[],_,_,_=>rfl
 | [],b :: k,_,_,h=>by have:=(h b).2 List.mem_cons_self;cases this
 | a :: l,[],_,_,h=>by have:=(h a).1 List.mem_cons_self;cases this
 | a :: l,b :: k,hl,hk,h=>by
  have l1:=List.pairwise_cons.1 hl
  have k1:=List.pairwise_cons.1 hk
  have e : a = b:=by
   rcases List.mem_cons.1 ((h a).1 List.mem_cons_self) with e|e
   ·exact e
   ·rcases List.mem_cons.1 ((h b).2 List.mem_cons_self) with e'|e'
    ·exact e'.symm
    ·exact absurd (bef_tr (l1.1 b e') (k1.1 a e)) bef_irr
  subst e
  rw [srt_eq l1.2 k1.2 (fun c=>⟨fun hc=>?_,fun hc=>?_⟩)]
  ·rcases List.mem_cons.1 ((h c).1 (List.mem_cons_of_mem _ hc)) with e|e
   ·subst e;exact absurd (l1.1 c hc) bef_irr
   ·exact e
  ·rcases List.mem_cons.1 ((h c).2 (List.mem_cons_of_mem _ hc)) with e|e
   ·subst e;exact absurd (k1.1 c hc) bef_irr
   ·exact e
theorem fil_srt {P : S48 → Prop} {l : List S48} (h : l.Pairwise Bef) : (fil P l).Pairwise Bef:=List.Pairwise.filter _ h
theorem fnd_eq {P Q : S48 → Prop} {l k : List S48} (hl : l.Pairwise Bef) (hk : k.Pairwise Bef) (h : ∀ c,(c ∈ l ∧ P c) ↔ (c ∈ k ∧ Q c)) : fnd P l = fnd Q k:=by
 unfold fnd;rw [srt_eq (fil_srt hl) (fil_srt hk) (fun c=>by rw [fil_mem,fil_mem];exact h c)]
def rowC (y : Int) (n : Nat) : List S48:=(List.range n).map fun (x : Nat)=>(⟨(x : Int),y⟩ : S48)
def cellsTo (w : Nat) (n : Nat) : List S48:=(List.range n).flatMap fun (y : Nat)=>rowC (y : Int) w
theorem rowC_succ (y : Int) (n : Nat) : rowC y (n + 1) = rowC y n ++ [⟨(n : Int),y⟩]:=by unfold rowC;rw [List.range_succ,List.map_append];rfl
theorem cellsTo_succ (w n : Nat) : cellsTo w (n + 1) = cellsTo w n ++ rowC (n : Int) w:=by unfold cellsTo;rw [List.range_succ,List.flatMap_append];simp
theorem rowC_mem {y : Int} {n : Nat} {c : S48} : c ∈ rowC y n ↔ (0 ≤ c.f0 ∧ c.f0 < n) ∧ c.f1 = y:=by
 unfold rowC;rw [List.mem_map];constructor
 ·rintro ⟨x,hx,rfl⟩
  rw [List.mem_range] at hx;exact ⟨⟨by show (0 : Int) ≤ x;omega,by show (x : Int) < n;omega⟩,rfl⟩
 ·rintro ⟨⟨h0,h1⟩,h2⟩
  refine ⟨c.f0.toNat,List.mem_range.2 (by omega),?_⟩;cases c;simp only [S48.mk.injEq];simp only at h0 h2;exact ⟨by omega,h2.symm⟩
theorem cellsTo_mem {w n : Nat} {c : S48} : c ∈ cellsTo w n ↔ (0 ≤ c.f0 ∧ c.f0 < w) ∧ (0 ≤ c.f1 ∧ c.f1 < n):=by
 unfold cellsTo;rw [List.mem_flatMap];constructor
 ·rintro ⟨y,hy,hc⟩
  rw [List.mem_range] at hy;have:=rowC_mem.1 hc;exact ⟨this.1,by omega,by omega⟩
 ·rintro ⟨h0,h1,h2⟩
  exact ⟨c.f1.toNat,List.mem_range.2 (by omega),rowC_mem.2 ⟨h0,by omega⟩⟩
theorem rowC_srt (y : Int) : ∀ n,(rowC y n).Pairwise Bef
 | 0=>List.Pairwise.nil
 | n + 1=>by
  rw [rowC_succ,List.pairwise_append]
  refine ⟨rowC_srt y n,List.pairwise_singleton _ _,fun a ha b hb=>?_⟩
  rw [List.mem_singleton] at hb
  subst hb
  have:=rowC_mem.1 ha
  refine Or.inr ⟨this.2,?_⟩
  exact this.1.2
theorem cellsTo_srt (w : Nat) : ∀ n,(cellsTo w n).Pairwise Bef
 | 0=>List.Pairwise.nil
 | n + 1=>by
  rw [cellsTo_succ,List.pairwise_append]
  refine ⟨cellsTo_srt w n,rowC_srt _ _,fun a ha b hb=>Or.inl ?_⟩
  have h1:=cellsTo_mem.1 ha
  have h2:=rowC_mem.1 hb
  omega
theorem cellsTo_len (w : Nat) : ∀ n,(cellsTo w n).length = n * w
 | 0=>by unfold cellsTo;simp
 | n + 1=>by rw [cellsTo_succ,List.length_append,cellsTo_len w n];unfold rowC;simp;rw [Nat.add_mul];simp
noncomputable def cells (w h : Int) : List S48:=cellsTo w.toNat h.toNat
theorem cells_mem {w h : Int} {c : S48} : c ∈ cells w h ↔ In w h c:=by
 unfold cells In;rw [cellsTo_mem];omega
theorem sel_srt (w h : Int) (bl : List S48) (d : S48) : (sel w h bl d).Pairwise Bef:=by
 unfold sel;by_cases hf : Free w h bl d
 ·rw [chk_pos hf];exact List.pairwise_singleton _ _
 ·rw [chk_neg hf];exact List.Pairwise.nil
theorem nb_srt (w h : Int) (bl : List S48) (c : S48) : (nbOf w h bl c).Pairwise Bef:=by
 unfold nbOf;simp only [List.pairwise_append,sel_srt,List.mem_append,sel_mem,List.Pairwise.nil,List.not_mem_nil,true_and,and_true,false_or];refine ⟨⟨⟨⟨?_,?_⟩,?_⟩,?_⟩,?_⟩
 ·intro a ha;cases ha
 ·rintro a ha b ⟨rfl,_⟩
  have ha:=ha.1;subst ha;left;show c.f1 - 1 < c.f1;omega
 ·rintro a ha b ⟨rfl,_⟩
  rcases ha with ⟨rfl,_⟩|⟨rfl,_⟩
  ·left;show c.f1 - 1 < c.f1;omega
  ·right;exact ⟨rfl,by show c.f0 - 1 < c.f0;omega⟩
 ·rintro a ha b ⟨rfl,_⟩
  rcases ha with (⟨rfl,_⟩|⟨rfl,_⟩)|⟨rfl,_⟩
  ·left;show c.f1 - 1 < c.f1;omega
  ·right;exact ⟨rfl,by show c.f0 - 1 < c.f0 + 1;omega⟩
  ·right;exact ⟨rfl,by show c.f0 < c.f0 + 1;omega⟩
 ·rintro a ha b ⟨rfl,_⟩
  rcases ha with ((⟨rfl,_⟩|⟨rfl,_⟩)|⟨rfl,_⟩)|⟨rfl,_⟩
  ·left;show c.f1 - 1 < c.f1 + 1;omega
  ·left;show c.f1 < c.f1 + 1;omega
  ·left;show c.f1 < c.f1 + 1;omega
  ·left;show c.f1 < c.f1 + 1;omega
theorem near_comm {a b : S48} : Near a b ↔ Near b a:=by
 unfold Near mx;constructor <;> intro h <;> (repeat' split) <;> (repeat' split at h) <;> omega
theorem near_five {a b : S48} : Near a b ↔ (b = ⟨a.f0,a.f1 - 1⟩ ∨ b = ⟨a.f0 - 1,a.f1⟩ ∨ b = ⟨a.f0,a.f1⟩ ∨ b = ⟨a.f0 + 1,a.f1⟩ ∨ b = ⟨a.f0,a.f1 + 1⟩):=by
 cases a with|mk a0 a1 =>
 cases b with|mk b0 b1 =>
 simp only [S48.mk.injEq];unfold Near mx;simp only;constructor
 ·intro h;(repeat' split at h) <;> omega
 ·intro h;(repeat' split) <;> omega
theorem nb_iff {w h : Int} {bl : List S48} {c e : S48} : e ∈ nbOf w h bl c ↔ Free w h bl e ∧ Near c e:=by
 rw [nb_mem,near_five]
section
variable (w h : Int) (bl : List S48) (os : List (List S48)) (a b : S48)
def Can (l : List S48) (t : Int) (c : S48) : Prop := ∃ d ∈ l,Near d c ∧ ¬ HitAt os d c t
noncomputable def lev : Nat → List S48
 | 0=>[a]
 | t + 1=>fil (fun c=>Free w h bl c ∧ Can os (lev t) ((t + 1 : Nat) : Int) c) (cells w h)
def Rest (t : Nat) : Prop := ∀ s : Nat,t ≤ s → s ≤ 24 → ¬ HitAt os b b (s : Int)
def EndS (t : Nat) : Prop:=b ∈ lev w h bl os a t ∧ Rest os b t
noncomputable def firstN (P : Nat → Prop) : Nat → Nat → Option Nat
 | 0,_=>none
 | d + 1,t=>chk (P t) (some t) (firstN P d (t + 1))
def Lead (l : List S48) (t : Int) (c : S48) : Prop := ∃ d ∈ l,Near c d ∧ ¬ HitAt os c d t
noncomputable def gdl (e : Nat) : Nat → List S48
 | 0=>[b]
 | j + 1=>fil (fun c=>Lead os (gdl e j) ((e - j : Nat) : Int) c) (lev w h bl os a (e - (j + 1)))
def GI (e : Nat) : Nat → S48 → Prop
 | 0,c=>c = b
 | j + 1,c => ∃ d,GI e j d ∧ c ∈ nbOf w h bl d ∧ ¬ HitAt os c d ((e - j : Nat) : Int)
noncomputable def nxS (e t : Nat) (c : S48) : Option S48:=fnd (fun d=>Near c d ∧ ¬ HitAt os c d (t : Int)) (gdl w h bl os a b e (e - t))
noncomputable def nxI (e t : Nat) (c : S48) : Option S48:=fnd (fun d=>GI w h bl os b e (e - t) d ∧ ¬ HitAt os c d (t : Int)) (nbOf w h bl c)
end
def trace (nx : Nat → S48 → Option S48) (a : S48) : Nat → Option (List S48)
 | 0=>some [a]
 | t + 1=>match trace nx a t with
  | none=>none
  | some p=>match nx (t + 1) (rd_T48 p (t : Int)) with
   | none=>none
   | some c=>some (p ++ [c])
theorem trace_len {nx : Nat → S48 → Option S48} {a : S48} : ∀ {t : Nat} {p : List S48},trace nx a t = some p → p.length = t + 1
 | 0,p,h=>by rw [trace] at h;obtain rfl:=Option.some.inj h;rfl
 | t + 1,p,h=>by
  rw [trace] at h
  cases hq : trace nx a t with
  | none=>rw [hq] at h;cases h
  | some q =>
   rw [hq] at h
   dsimp only at h
   cases hc : nx (t + 1) (rd_T48 q (t : Int)) with
   | none=>rw [hc] at h;cases h
   | some c =>
    rw [hc] at h
    obtain rfl:=Option.some.inj h
    rw [List.length_append,trace_len hq]
    rfl
theorem trace_step {nx : Nat → S48 → Option S48} {a c : S48} {t : Nat} {p : List S48} (h : trace nx a t = some p) (hc : nx (t + 1) (rd_T48 p (t : Int)) = some c) : trace nx a (t + 1) = some (p ++ [c]):=by
 rw [trace,h];dsimp only;rw [hc]
theorem firstN_some {P : Nat → Prop} : ∀ {d t e : Nat},firstN P d t = some e → P e ∧ t ≤ e ∧ e < t + d
 | 0,t,e,h=>by cases h
 | d + 1,t,e,h=>by
  rw [firstN] at h
  by_cases hp : P t
  ·rw [chk_pos hp] at h
   obtain rfl:=Option.some.inj h
   exact ⟨hp,Nat.le_refl _,by omega⟩
  ·rw [chk_neg hp] at h
   have:=firstN_some h
   exact ⟨this.1,by omega,by omega⟩
theorem firstN_least {P : Nat → Prop} : ∀ {d t e : Nat},firstN P d t = some e → ∀ s,t ≤ s → s < e → ¬ P s
 | 0,t,e,h=>by cases h
 | d + 1,t,e,h=>by
  rw [firstN] at h
  by_cases hp : P t
  ·rw [chk_pos hp] at h
   obtain rfl:=Option.some.inj h
   intro s h0 h1
   omega
  ·rw [chk_neg hp] at h
   intro s h0 h1
   by_cases e' : s = t
   ·rw [e'];exact hp
   ·exact firstN_least h s (by omega) h1
theorem firstN_none {P : Nat → Prop} : ∀ {d t : Nat},firstN P d t = none → ∀ s,t ≤ s → s < t + d → ¬ P s
 | 0,t,h=>fun s h0 h1=>by omega
 | d + 1,t,h=>by
  rw [firstN] at h
  by_cases hp : P t
  ·rw [chk_pos hp] at h;cases h
  ·rw [chk_neg hp] at h
   intro s h0 h1
   by_cases e : s = t
   ·rw [e];exact hp
   ·exact firstN_none h s (by omega) (by omega)
theorem firstN_of {P : Nat → Prop} : ∀ {d t e : Nat},P e → (∀ s,t ≤ s → s < e → ¬ P s) → t ≤ e → e < t + d → firstN P d t = some e
 | 0,t,e,_,_,_,h=>by omega
 | d + 1,t,e,hp,hl,h0,h1=>by
  rw [firstN]
  by_cases e' : t = e
  ·subst e';rw [chk_pos hp]
  ·rw [chk_neg (hl t (Nat.le_refl _) (by omega))]
   exact firstN_of hp (fun s a b=>hl s (by omega) b) (by omega) (by omega)
section
variable {w h : Int} {bl : List S48} {os : List (List S48)} {a b : S48}
theorem lev_free (ha : Free w h bl a) : ∀ t,∀ c ∈ lev w h bl os a t,Free w h bl c
 | 0,c,hc=>by rw [lev,List.mem_singleton] at hc;subst hc;exact ha
 | t + 1,c,hc=>by rw [lev] at hc;exact (fil_mem.1 hc).2.1
theorem lev_mem {t : Nat} {c : S48} : c ∈ lev w h bl os a (t + 1) ↔ Free w h bl c ∧ Can os (lev w h bl os a t) ((t + 1 : Nat) : Int) c:=by
 rw [lev,fil_mem,cells_mem];exact ⟨fun x=>x.2,fun x=>⟨x.1.1,x⟩⟩
theorem lev_srt : ∀ t,(lev w h bl os a t).Pairwise Bef
 | 0=>by rw [lev];exact List.pairwise_singleton _ _
 | t + 1=>by rw [lev];exact fil_srt (cellsTo_srt _ _)
theorem gdl_srt {e : Nat} : ∀ j,(gdl w h bl os a b e j).Pairwise Bef
 | 0=>by rw [gdl];exact List.pairwise_singleton _ _
 | j + 1=>by rw [gdl];exact fil_srt (lev_srt _)
theorem gi_free (hb : Free w h bl b) {e : Nat} : ∀ {j : Nat} {c : S48},GI w h bl os b e j c → Free w h bl c
 | 0,c,hc=>by obtain rfl : c = b:=hc;exact hb
 | j + 1,c,hc=>by obtain ⟨d,_,hn,_⟩:=hc;exact (nb_iff.1 hn).1
theorem gdl_mem (ha : Free w h bl a) (hb : Free w h bl b) {e : Nat} (he : b ∈ lev w h bl os a e) : ∀ {j : Nat},j ≤ e → ∀ {c : S48},c ∈ gdl w h bl os a b e j ↔ c ∈ lev w h bl os a (e - j) ∧ GI w h bl os b e j c
 | 0,_,c=>by
  rw [gdl,GI,List.mem_singleton]
  exact ⟨fun x=>⟨by rw [x];exact he,x⟩,fun x=>x.2⟩
 | j + 1,hj,c=>by
  rw [gdl,GI,fil_mem]
  have ih := @gdl_mem ha hb e he j (by omega)
  constructor
  ·rintro ⟨hc,d,hd,hn,hh⟩
   exact ⟨hc,d,((ih (c:=d)).1 hd).2,nb_iff.2 ⟨lev_free ha _ c hc,near_comm.1 hn⟩,hh⟩
  ·rintro ⟨hc,d,hd,hn,hh⟩
   refine ⟨hc,d,(ih (c:=d)).2 ⟨?_,hd⟩,near_comm.1 (nb_iff.1 hn).2,hh⟩
   have e1 : e - j = (e - (j + 1)) + 1:=by omega
   rw [e1,lev_mem]
   rw [e1] at hh
   exact ⟨gi_free hb hd,c,hc,near_comm.1 (nb_iff.1 hn).2,hh⟩
theorem end_iff (ha : Free w h bl a) (hb : Free w h bl b) (e : Nat) : b ∈ lev w h bl os a e ↔ GI w h bl os b e e a:=by
 have key : ∀ j,j ≤ e → ((∃ c,c ∈ lev w h bl os a (e - j) ∧ GI w h bl os b e j c) ↔ b ∈ lev w h bl os a e):=by
  intro j
  induction j with
  | zero =>
   intro _;constructor
   ·rintro ⟨c,hc,hg⟩;obtain rfl : c = b:=hg;exact hc
   ·intro hb';exact ⟨b,hb',rfl⟩
  | succ j ih =>
   (intro hj;rw [← ih (by omega)];have e1 : e - j = (e - (j + 1)) + 1:=by omega);constructor
   ·rintro ⟨c,hc,d,hd,hn,hh⟩
    refine ⟨d,?_,hd⟩;rw [e1,lev_mem];rw [e1] at hh;exact ⟨gi_free hb hd,c,hc,near_comm.1 (nb_iff.1 hn).2,hh⟩
   ·rintro ⟨d,hd,hg⟩
    rw [e1,lev_mem] at hd;obtain ⟨hf,c,hc,hn,hh⟩:=hd;rw [← e1] at hh;exact ⟨c,hc,d,hg,nb_iff.2 ⟨lev_free ha _ c hc,near_comm.1 hn⟩,hh⟩
 have:=key e (Nat.le_refl _);rw [Nat.sub_self,lev] at this;rw [← this];constructor
 ·rintro ⟨c,hc,hg⟩;rw [List.mem_singleton] at hc;subst hc;exact hg
 ·intro hg;exact ⟨a,List.mem_singleton.2 rfl,hg⟩
theorem nx_eq (ha : Free w h bl a) (hb : Free w h bl b) {e : Nat} (he : b ∈ lev w h bl os a e) {t : Nat} (ht : t < e) {c : S48} (hc : c ∈ lev w h bl os a t) : nxS w h bl os a b e (t + 1) c = nxI w h bl os b e (t + 1) c:=by
 unfold nxS nxI;refine fnd_eq (gdl_srt _) (nb_srt _ _ _ _) (fun d=>?_);rw [gdl_mem ha hb he (by omega),show e - (e - (t + 1)) = t + 1 from by omega,nb_iff];constructor
 ·rintro ⟨⟨h1,h2⟩,h3,h4⟩;exact ⟨⟨lev_free ha _ d h1,h3⟩,h2,h4⟩
 ·rintro ⟨⟨h1,h2⟩,h3,h4⟩;exact ⟨⟨lev_mem.2 ⟨h1,c,hc,h2,h4⟩,h3⟩,h2,h4⟩
theorem nx_some (ha : Free w h bl a) (hb : Free w h bl b) {e t : Nat} (ht : t < e) {c : S48} (hc : c ∈ lev w h bl os a t) (hg : GI w h bl os b e (e - t) c) : ∃ d,nxI w h bl os b e (t + 1) c = some d ∧ d ∈ lev w h bl os a (t + 1) ∧ GI w h bl os b e (e - (t + 1)) d ∧ Near c d ∧ ¬ HitAt os c d ((t + 1 : Nat) : Int):=by
 (have e1 : e - t = (e - (t + 1)) + 1:=by omega);rw [e1] at hg;obtain ⟨d,hd,hn,hh⟩:=hg;rw [show e - (e - (t + 1)) = t + 1 from by omega] at hh;have hm : d ∈ fil (fun d=>GI w h bl os b e (e - (t + 1)) d ∧ ¬ HitAt os c d ((t + 1 : Nat) : Int)) (nbOf w h bl c):=fil_mem.2 ⟨nb_iff.2 ⟨gi_free hb hd,near_comm.1 (nb_iff.1 hn).2⟩,hd,hh⟩
 cases hf : nxI w h bl os b e (t + 1) c with
 | none =>
  unfold nxI fnd at hf;rw [List.head?_eq_none_iff] at hf;rw [hf] at hm;cases hm
 | some d' =>
  have hf2:=hf;unfold nxI at hf;have hm':=fnd_mem hf;have hnb:=nb_iff.1 hm'.1;exact ⟨d',rfl,lev_mem.2 ⟨hnb.1,c,hc,hnb.2,hm'.2.2⟩,hm'.2.1,hnb.2,hm'.2.2⟩
structure PathI (w h : Int) (bl : List S48) (os : List (List S48)) (a b : S48) (e t : Nat) (p : List S48) : Prop where
 len : p.length = t + 1
 hd : rd_T48 p 0 = a
 on : ∀ s : Nat,s ≤ t → rd_T48 p (s : Int) ∈ lev w h bl os a s ∧ GI w h bl os b e (e - s) (rd_T48 p (s : Int))
 step : ∀ s : Nat,s < t → Near (rd_T48 p (s : Int)) (rd_T48 p ((s + 1 : Nat) : Int)) ∧ ¬ HitAt os (rd_T48 p (s : Int)) (rd_T48 p ((s + 1 : Nat) : Int)) ((s + 1 : Nat) : Int)
theorem rd_app_lt {p : List S48} {c : S48} {i : Nat} (hi : i < p.length) : rd_T48 (p ++ [c]) (i : Int) = rd_T48 p (i : Int):=by
 unfold rd_T48;rw [Int.toNat_natCast,List.getD_eq_getElem?_getD,List.getD_eq_getElem?_getD,List.getElem?_append_left hi]
theorem rd_app_eq {p : List S48} {c : S48} {i : Nat} (hi : i = p.length) : rd_T48 (p ++ [c]) (i : Int) = c:=by
 unfold rd_T48;subst hi;rw [Int.toNat_natCast,List.getD_eq_getElem?_getD,List.getElem?_append_right (Nat.le_refl _),Nat.sub_self];rfl
theorem trace_both (ha : Free w h bl a) (hb : Free w h bl b) {e : Nat} (he : b ∈ lev w h bl os a e) : ∀ t,t ≤ e → ∃ p,trace (nxI w h bl os b e) a t = some p ∧ trace (nxS w h bl os a b e) a t = some p ∧ PathI w h bl os a b e t p
 | 0,_=>⟨[a],rfl,rfl,rfl,rfl,fun s hs=>by
   obtain rfl : s = 0:=by omega
   exact ⟨by rw [lev];exact List.mem_singleton.2 rfl,(end_iff ha hb e).1 he⟩,fun s hs=>by omega⟩
 | t + 1,ht=>by
  obtain ⟨p,h1,h2,hp⟩:=trace_both ha hb he t (by omega)
  obtain ⟨hc,hg⟩:=hp.on t (Nat.le_refl _)
  obtain ⟨d,hd,hl,hgd,hn,hh⟩:=nx_some ha hb (show t < e by omega) hc hg
  refine ⟨p ++ [d],trace_step h1 hd,trace_step h2 (by rw [nx_eq ha hb he (by omega) hc];exact hd),?_,?_,?_,?_⟩
  ·rw [List.length_append,hp.len];rfl
  ·have:=rd_app_lt (c:=d) (i:=0) (p:=p) (by rw [hp.len];omega)
   exact this.trans hp.hd
  ·intro s hs
   by_cases e1 : s = t + 1
   ·subst e1
    rw [rd_app_eq hp.len.symm]
    exact ⟨hl,hgd⟩
   ·rw [rd_app_lt (by rw [hp.len];omega)]
    exact hp.on s (by omega)
  ·intro s hs
   by_cases e1 : s = t
   ·subst e1
    rw [rd_app_eq hp.len.symm,rd_app_lt (by rw [hp.len];omega)]
    exact ⟨hn,hh⟩
   ·rw [rd_app_lt (by rw [hp.len];omega),rd_app_lt (by rw [hp.len];omega)]
    exact hp.step s (by omega)
end
noncomputable def safeP (w h : Int) (bl : List S48) (os : List (List S48)) (a b : S48) : Option (List S48):=chk (HitAt os a a 0) none ((firstN (EndS w h bl os a b) 25 0).bind fun e=>trace (nxS w h bl os a b e) a e)
def EndI (w h : Int) (bl : List S48) (os : List (List S48)) (a b : S48) (e : Nat) : Prop:=(∀ s : Nat,e ≤ s → s ≤ 25 → ¬ ∃ p ∈ os,cat p (s : Int) = b) ∧ GI w h bl os b e e a
noncomputable def safeI (w h : Int) (bl : List S48) (os : List (List S48)) (a b : S48) : Option (List S48):=chk (HitAt os a a 0) none ((firstN (EndI w h bl os a b) 25 0).bind fun e=>trace (nxI w h bl os b e) a e)
theorem cat_last {p : List S48} (h1 : 1 ≤ (p.length : Int)) (h2 : (p.length : Int) ≤ 25) : cat p 25 = cat p 24:=by
 unfold cat mn;rw [if_pos (by omega)];by_cases e : (p.length : Int) - 1 < 24
 ·rw [if_pos e]
 ·rw [if_neg e];congr 1;omega
theorem end_eq {w h : Int} {bl : List S48} {os : List (List S48)} {a b : S48} (ha : Free w h bl a) (hb : Free w h bl b) (ho : ∀ p ∈ os,1 ≤ (p.length : Int) ∧ (p.length : Int) ≤ 25) {e : Nat} (he : e ≤ 24) : EndS w h bl os a b e ↔ EndI w h bl os a b e:=by
 unfold EndS EndI;rw [end_iff ha hb e,and_comm];refine and_congr ⟨fun hr s h0 h1=>?_,fun hr s h0 h1 hh=>hr s h0 (by omega) (hitAt_same.1 hh)⟩ Iff.rfl;rintro ⟨p,hp,hc⟩;by_cases e1 : s = 25
 ·subst e1
  exact hr 24 he (Nat.le_refl _) (hitAt_same.2 ⟨p,hp,by rw [← hc];exact (cat_last (ho p hp).1 (ho p hp).2).symm⟩)
 ·exact hr s h0 (by omega) (hitAt_same.2 ⟨p,hp,hc⟩)
theorem firstN_congr {P Q : Nat → Prop} : ∀ {d t : Nat},(∀ s,t ≤ s → s < t + d → (P s ↔ Q s)) → firstN P d t = firstN Q d t
 | 0,t,_=>rfl
 | d + 1,t,h=>by
  rw [firstN,firstN,chk_congr (h t (Nat.le_refl _) (by omega)),firstN_congr (fun s a b=>h s (by omega) (by omega))]
theorem safe_eq {w h : Int} {bl : List S48} {os : List (List S48)} {a b : S48} (ha : Free w h bl a) (hb : Free w h bl b) (ho : ∀ p ∈ os,1 ≤ (p.length : Int) ∧ (p.length : Int) ≤ 25) : safeI w h bl os a b = safeP w h bl os a b:=by
 unfold safeI safeP;rw [firstN_congr (P:=EndI w h bl os a b) (Q:=EndS w h bl os a b) (fun s _ h1=>(end_eq ha hb ho (by omega)).symm)];congr 1
 cases hf : firstN (EndS w h bl os a b) 25 0 with
 | none=>rfl
 | some e =>
  (obtain ⟨p,h1,h2,_⟩:=trace_both ha hb (firstN_some hf).1.1 e (Nat.le_refl _);show trace _ a e = trace _ a e);rw [h1,h2]
end Go.Proofs.Ytbpccdbkaiigcaa.G

/- The path along falling numbers of steps, as a pure function. -/
namespace Go.Proofs.Ytbpccdbkaiigcaa.G
open Go.RowKit Go.Proofs.YtbpccdbkaiigcaaW.PrintWords Go.Proofs.YtbpccdbkaiigcaaW.PrintLast Go.Proofs.YtbpccdbkaiigcaaW.PrintMore
def firstAt (m : Mp) (x : Int) : List S48 → Option S48
 | []=>none
 | d :: ds=>if (m d).getD 0 = x then some d else firstAt m x ds
def leadOn (nb : S48 → List S48) (m : Mp) : Nat → List S48 → List S48
 | 0,p=>p
 | n + 1,p=>match firstAt m (n : Int) (nb (rd_T48 p ((p.length : Int) - 1))) with
  | some c=>leadOn nb m n (p ++ [c])
  | none=>leadOn nb m n p
structure SR (w0 w : World) (fc : Array Value) (g2 b n : Nat) (m : Mp) (v6 : Value) (l : List S48) (vn : Value) (ds : List S48) : Prop where
 fl : w.heap[g2]? = some (.cells fc 29 (0,0))
 mp : MapI w b n m
 mb : w0.heap.size ≤ b
 gb : w0.heap.size ≤ g2
 ln : Kd.R k48 48 w w0.heap.size (fun k=>k ≠ b ∧ k ≠ g2) v6 l
 nb : Kd.R k48 48 w w0.heap.size (fun k=>(k ≠ b ∧ k ≠ g2) ∧ some k ≠ v6.ownBlock) vn ds
 bl : Below w0.heap.size w0 w
theorem SR.below {w0 w w1 : World} {fc : Array Value} {g2 b n : Nat} {m : Mp} {v6 vn : Value} {l ds : List S48} (h : SR w0 w fc g2 b n m v6 l vn ds) (hb : Below w.heap.size w w1) : SR w0 w1 fc g2 b n m v6 l vn ds :=
 ⟨blk_below h.fl hb,h.mp.below hb,h.mb,h.gb,Kd.R_below h.ln hb,Kd.R_below h.nb hb,below_step h.bl hb⟩
theorem SR.put {w0 w w1 : World} {fc : Array Value} {g2 b n n' : Nat} {m m' : Mp} {v6 vn : Value} {l ds : List S48} (h : SR w0 w fc g2 b n m v6 l vn ds) (hm : MapI w1 b n' m') (hg : w.grownBy w1 (some b)) : SR w0 w1 fc g2 b n' m' v6 l vn ds :=
 ⟨(hg.block g2 (blk_lt h.fl) (fun e=>h.mp.cells h.fl (Option.some.inj e).symm)).trans h.fl,hm,h.mb,h.gb,Kd.R_grown h.ln hg (fun k hk e=>hk.1 (Option.some.inj e)),Kd.R_grown h.nb hg (fun k hk e=>hk.1.1 (Option.some.inj e)),h.bl.grown hg h.bl.size (fun k hk=>by cases hk;exact h.mb)⟩
theorem SR.app {w0 w w1 : World} {fc : Array Value} {g2 b n : Nat} {m : Mp} {v6 v7 vn : Value} {l l' ds : List S48} (h : SR w0 w fc g2 b n m v6 l vn ds) (hq : Kd.R k48 48 w1 w0.heap.size (fun k=>k ≠ b ∧ k ≠ g2) v7 l') (hb : Below w0.heap.size w0 w1) (hg : w.grownBy w1 v6.ownBlock) (hat : v7.ownBlock = v6.ownBlock ∨ ∃ b,v7.ownBlock = some b ∧ w.heap.size ≤ b) : SR w0 w1 fc g2 b n m v7 l' vn ds :=
 ⟨(hg.block g2 (blk_lt h.fl) (Kd.R_ne h.ln h.fl (by decide))).trans h.fl,h.mp.grown hg (Kd.R_away h.ln (fun k hk=>hk.1)),h.mb,h.gb,hq,Kd.R_after h.nb hg hat,hb⟩
theorem SR.near {w0 w w1 : World} {fc : Array Value} {g2 b n : Nat} {m : Mp} {v6 vn vn' : Value} {l ds ds' : List S48} (h : SR w0 w fc g2 b n m v6 l vn ds) (hb : Below w.heap.size w w1) (hr : Kd.R k48 48 w1 w.heap.size (fun _=>True) vn' ds') : SR w0 w1 fc g2 b n m v6 l vn' ds' :=
 have h':=h.below hb
 ⟨h'.fl,h'.mp,h.mb,h.gb,h'.ln,Kd.R_lower (Kd.R_mono (Kd.R_bound hr) (fun k hk=>⟨⟨fun e=>by have:=h.mp.lt;have:=hk.2.1;omega,fun e=>by have:=blk_lt h.fl;have:=hk.2.1;omega⟩,fun e=>by have:=Kd.R_lt h.ln k e.symm;have:=hk.2.1;omega⟩)) h.bl.size,h'.bl⟩
theorem SR.open {w0 w : World} {fc : Array Value} {g2 b n : Nat} {m : Mp} {v6 vn : Value} {l ds : List S48} (h : SR w0 w fc g2 b n m v6 l vn ds) : SR w0 w fc g2 b n m v6 l (.slice none 0 0) []:=⟨h.fl,h.mp,h.mb,h.gb,h.ln,Kd.R_nil _ _ _ _ _,h.bl⟩
end Go.Proofs.Ytbpccdbkaiigcaa.G

/- The path along falling numbers of steps is the first shortest path. -/
namespace Go.Proofs.Ytbpccdbkaiigcaa.G
open Go.RowKit Go.Proofs.YtbpccdbkaiigcaaW.PrintWords Go.Proofs.YtbpccdbkaiigcaaW.PrintLast
theorem firstAt_fnd (m : Mp) (x : Int) : ∀ ds,firstAt m x ds = fnd (fun d=>(m d).getD 0 = x) ds
 | []=>rfl
 | d :: ds=>by
  rw [firstAt]
  by_cases g : (m d).getD 0 = x
  ·rw [if_pos g,fnd_pos (P:=fun d=>(m d).getD 0 = x) g]
  ·rw [if_neg g,fnd_neg (P:=fun d=>(m d).getD 0 = x) g];exact firstAt_fnd m x ds
section
variable {w h : Int} {bl : List S48} {a b : S48}
theorem gi_rch {e : Nat} : ∀ {j : Nat} {c : S48},GI w h bl [] b e j c ↔ Rch (nbOf w h bl) b j c
 | 0,c=>Iff.rfl
 | j + 1,c=>by
  rw [GI,Rch]
  constructor
  ·rintro ⟨d,h1,h2,_⟩;exact ⟨d,gi_rch.1 h1,h2⟩
  ·rintro ⟨d,h1,h2⟩;exact ⟨d,gi_rch.2 h1,h2,hitAt_nil⟩
theorem ends_rch (ha : Free w h bl a) (hb : Free w h bl b) {e : Nat} : EndS w h bl [] a b e ↔ Rch (nbOf w h bl) b e a:=by
 unfold EndS;rw [end_iff ha hb e,gi_rch];exact ⟨fun x=>x.1,fun x=>⟨x,fun s _ _=>hitAt_nil⟩⟩
theorem lev_go (ha : Free w h bl a) (hb : Free w h bl b) : ∀ (i t : Nat) (c : S48),c ∈ lev w h bl [] a t → Rch (nbOf w h bl) b i c → b ∈ lev w h bl [] a (t + i)
 | 0,t,c,hc,hr=>by obtain rfl : c = b:=hr;exact hc
 | i + 1,t,c,hc,hr=>by
  obtain ⟨y,hy,hn⟩:=hr
  have hfy : Free w h bl y:=gi_free (e:=0) hb (gi_rch.2 hy)
  have:=lev_go ha hb i (t + 1) y (lev_mem.2 ⟨hfy,c,hc,near_comm.1 (nb_iff.1 hn).2,hitAt_nil⟩) hy
  rwa [show t + 1 + i = t + (i + 1) from by omega] at this
theorem lead_nx (ha : Free w h bl a) (hb : Free w h bl b) {m : Mp} (hm : Dist (nbOf w h bl) b m) {e t : Nat} (ht : t < e) (hl : ∀ s,s < e → ¬ b ∈ lev w h bl [] a s) {c : S48} (hc : c ∈ lev w h bl [] a t) (hg : GI w h bl [] b e (e - t) c) :
  firstAt m ((e - (t + 1) : Nat) : Int) (nbOf w h bl c) = nxI w h bl [] b e (t + 1) c:=by
 (rw [firstAt_fnd];unfold nxI;refine fnd_eq (nb_srt _ _ _ _) (nb_srt _ _ _ _) (fun d=>?_);refine and_congr_right fun hd=>?_);have hf:=lev_free ha _ c hc;obtain ⟨u,hu,hu1⟩:=hm.least _ _ (gi_rch.1 hg)
 have hu2 : (e - t : Nat) ≤ u.toNat:=by
  apply Classical.byContradiction;intro hn;exact hl (t + u.toNat) (by omega) (lev_go ha hb _ _ _ hc (hm.snd c u hu).2)
 have hu0:=(hm.snd c u hu).1;obtain ⟨x,hx,hx1⟩:=hm.near c u hu d hd;have hx0:=(hm.snd d x hx).1;have hcd : c ∈ nbOf w h bl d:=nb_iff.2 ⟨hf,near_comm.1 (nb_iff.1 hd).2⟩;obtain ⟨y,hy,hy1⟩:=hm.near d x hx c hcd;rw [hu] at hy;obtain rfl:=Option.some.inj hy;rw [hx,Option.getD_some,gi_rch];constructor
 ·intro he
  refine ⟨?_,hitAt_nil⟩;have:=(hm.snd d x hx).2;rwa [show x.toNat = e - (t + 1) from by omega] at this
 ·rintro ⟨hr,_⟩
  obtain ⟨z,hz,hz1⟩:=hm.least _ _ hr;rw [hx] at hz;obtain rfl:=Option.some.inj hz;omega
theorem lead_trace (ha : Free w h bl a) (hb : Free w h bl b) {m : Mp} (hm : Dist (nbOf w h bl) b m) {e : Nat} (he : b ∈ lev w h bl [] a e) (hl : ∀ s,s < e → ¬ b ∈ lev w h bl [] a s) {q : List S48} (hq : trace (nxI w h bl [] b e) a e = some q) : ∀ (j t : Nat) (p : List S48),t + j = e → trace (nxI w h bl [] b e) a t = some p → leadOn (nbOf w h bl) m j p = q
 | 0,t,p,ht,hp=>by
  obtain rfl : t = e:=by omega
  rw [hp] at hq
  exact Option.some.inj hq
 | j + 1,t,p,ht,hp=>by
  obtain ⟨p',h1,_,hI⟩:=trace_both ha hb he t (by omega)
  rw [hp] at h1
  obtain rfl:=Option.some.inj h1
  obtain ⟨hc,hg⟩:=hI.on t (Nat.le_refl _)
  obtain ⟨d,hd,_⟩:=nx_some ha hb (show t < e by omega) hc hg
  have hf:=lead_nx ha hb hm (show t < e by omega) hl hc hg
  rw [leadOn,show (p.length : Int) - 1 = (t : Int) from by rw [hI.len];omega,show ((j : Nat) : Int) = ((e - (t + 1) : Nat) : Int) from by omega,hf,hd]
  exact lead_trace ha hb hm he hl hq j (t + 1) (p ++ [d]) (by omega) (trace_step hp hd)
theorem short_some (ha : Free w h bl a) (hb : Free w h bl b) {m : Mp} (hm : Dist (nbOf w h bl) b m) {v : Int} (hv : m a = some v) (h24 : v ≤ 24) : safeP w h bl [] a b = some (leadOn (nbOf w h bl) m v.toNat [a]):=by
 have hs:=hm.snd a v hv
 have hl : ∀ s,s < v.toNat → ¬ Rch (nbOf w h bl) b s a:=fun s hs' hr=>by
  obtain ⟨u,hu,hle⟩:=hm.least s a hr;rw [hv] at hu;obtain rfl:=Option.some.inj hu;omega
 unfold safeP;rw [chk_neg hitAt_nil,firstN_of (e:=v.toNat) ((ends_rch ha hb).2 hs.2) (fun s _ h1 hx=>hl s h1 ((ends_rch ha hb).1 hx)) (Nat.zero_le _) (by omega)];have he : b ∈ lev w h bl [] a v.toNat:=((ends_rch ha hb).2 hs.2).1;obtain ⟨p,h1,h2,_⟩:=trace_both ha hb he v.toNat (Nat.le_refl _);show trace _ a v.toNat = _
 rw [h2,lead_trace ha hb hm he (fun s hs' hx=>hl s hs' ((ends_rch ha hb).1 ⟨hx,fun s _ _=>hitAt_nil⟩)) h1 v.toNat 0 [a] (by omega) rfl]
theorem short_none (ha : Free w h bl a) (hb : Free w h bl b) {m : Mp} (hm : Dist (nbOf w h bl) b m) (hv : ∀ v,m a = some v → 24 < v) : safeP w h bl [] a b = none:=by
 unfold safeP;rw [chk_neg hitAt_nil]
 cases hf : firstN (EndS w h bl [] a b) 25 0 with
 | none=>rfl
 | some e =>
  have he:=firstN_some hf;obtain ⟨u,hu,hle⟩:=hm.least e a ((ends_rch ha hb).1 he.1);have:=hv u hu;omega
end
noncomputable def safeR (w h : Int) (bl : List S48) (os : List (List S48)) (a b : S48) : List S48 × Bool:=match safeP w h bl os a b with
 | some p=>(p,true)
 | none=>([],false)
theorem safeR_some {w h : Int} {bl : List S48} {os : List (List S48)} {a b : S48} {p : List S48} (e : safeP w h bl os a b = some p) : safeR w h bl os a b = (p,true):=by unfold safeR;rw [e]
theorem safeR_none {w h : Int} {bl : List S48} {os : List (List S48)} {a b : S48} (e : safeP w h bl os a b = none) : safeR w h bl os a b = ([],false):=by unfold safeR;rw [e]
noncomputable def shortR (w h : Int) (bl : List S48) (a b : S48) : List S48 × Bool:=chk (FloorOk w h bl ∧ Free w h bl a ∧ Free w h bl b) (safeR w h bl [] a b) ([],false)
end Go.Proofs.Ytbpccdbkaiigcaa.G

namespace Go.Proofs.Ytbpccdbkaiigcaa.G
open Go.RowKit Go.Proofs.YtbpccdbkaiigcaaW.PrintWords Go.Proofs.YtbpccdbkaiigcaaW.PrintLast Go.Proofs.YtbpccdbkaiigcaaW.PrintMore
attribute [local go_sem] max2_int min2_int max_two min_two max_three min_three max_four min_four   -- for this text's walks alone

attribute [local go_sem high] eqA48
def spec_l16Clear.l0:Nat → List (List (S48)) → Int → Int → Int → Int → Int → Int → Option (Bool)
 | 0,_,_,_,_,_,_,_=>none
 | k + 1,x0,x3,x9,x1,x2,x4,x5=>if x9 < (x0.length:Int) then (if 0 ≤ x9 then ((spec_l16At.f (rd_L6 x0 x9) x3).bind fun bt0=>(if (bt0.1 == x4 && (bt0.2 == x5)) = true then (some false) else (if x3 > 0 then ((spec_l16At.f (rd_L6 x0 x9) x3).bind fun bt3=>(if (bt3.1 == x1 && (bt3.2 == x2)) = true then ((spec_l16At.f (rd_L6 x0 x9) (wrap64 (x3 - 1))).bind fun bt6=>(if (bt6.1 == x4 && (bt6.2 == x5)) = true then (some false) else (spec_l16Clear.l0 k x0 x3 (wrap64 (x9 + 1)) x1 x2 x4 x5))) else (spec_l16Clear.l0 k x0 x3 (wrap64 (x9 + 1)) x1 x2 x4 x5))) else (spec_l16Clear.l0 k x0 x3 (wrap64 (x9 + 1)) x1 x2 x4 x5)))) else (none)) else (some true)
def spec_l16Clear.f (k:Nat) (l0:List (List (S48))) (a1_0:Int) (a1_1:Int) (a2_0:Int) (a2_1:Int) (a3:Int):Option (Bool):=spec_l16Clear.l0 k l0 a3 0 a1_0 a1_1 a2_0 a2_1
def spec_l16Clear.T4:Bool × List (List Nat × List Nat):=(true,[([],[]),([],[]),([0,1],[0,1]),([2],[2]),([],[]),([3,4],[3,4]),([],[]),([5,6],[5,6])])
def spec_l16Clear.B4:List Nat:=[0,0,3,7,0,31,0,127]
theorem spec_l16Clear.tab4:rtab .any (opsOf Try.f91 4) = spec_l16Clear.T4:=by kernel_rfl
theorem spec_l16Clear.bits4:waitsOk spec_l16Clear.T4.2 spec_l16Clear.B4 = true:=by kernel_rfl
def spec_l16Clear.T6:Bool × List (List Nat × List Nat):=(true,[([],[]),([0],[0]),([1],[1]),([2],[2]),([2],[2]),([3,4,2],[2,3,4]),([5,2],[2,5]),([2],[2]),([6,7,2,2],[2,6,7]),([2],[2]),([8,9,2],[2,8,9]),([2,10],[2,10]),([11,8],[11]),([12],[12]),([12],[12]),([13,14,12],[12,13,14]),([15,12],[12,15]),([12],[12]),([17,12],[12,17]),([16,18,12,12],[12,16,18]),([12],[12]),([19,20,12],[12,19,20]),([12,21],[12,21])])
def spec_l16Clear.B6:List Nat:=[0,1,3,7,7,31,63,7,255,7,1023,2047,4095,8191,8191,32767,65535,8191,139263,524287,8191,2097151,4194303]
theorem spec_l16Clear.tab6:rtab .any (opsOf Try.f91 6) = spec_l16Clear.T6:=by kernel_rfl
theorem spec_l16Clear.bits6:waitsOk spec_l16Clear.T6.2 spec_l16Clear.B6 = true:=by kernel_rfl
theorem spec_l16Clear.calls (k:Nat) (A0:Option Addr) (c0:Nat) (l0:List (List (S48))) (a1_0:Int) (a1_1:Int) (a2_0:Int) (a2_1:Int) (a3:Int) (r:Bool) (w:World) (hr0:Kd.C (Kd.slice 48 k48) w A0 l0.length l0) (hc0:l0.length ≤ c0) (h:spec_l16Clear.f k l0 a1_0 a1_1 a2_0 a2_1 a3 = some r) :
  Calls Try.prog 91 #[.slice A0 l0.length c0,.agg #[.int .i64 a1_0,.int .i64 a1_1],.agg #[.int .i64 a2_0,.int .i64 a2_1],.int .i64 a3] w fun e w'=>e = .returned (.bool r) ∧ Below w.heap.size w w':=by
 have hu48:=Try.underlying48;have HR0:=zM hr0;have HC0:=zM hc0;clear hr0 hc0;have HB:=zM (Below.refl w.heap.size w);have H:(spec_l16Clear.l0 k l0 a3 0 a1_0 a1_1 a2_0 a2_1) = some r:=h;clear h;have H':=zM H;clear H;go_enter Try.func91,Try.ntmps91;go_wp2_with (first|((with_reducible refine gate_dst (N:=5) rfl ?_);refine zzc 5 #[.int .i64 a1_0,.int .i64 a1_1] 48 ?_;intro gb0 hg w5 hbox hb;have BK0:= zM (hbox);have GW0:= zM ((zq94:w.heap.size ≤ gb0));have GE0:= zM ((zq94:w.heap.size ≤ gb0));replace HB:= zM (zQ zzh hb);clear hb hbox hg)|((with_reducible refine gate_dst (N:=6) rfl ?_);refine zzc 6 #[.int .i64 a2_0,.int .i64 a2_1] 48 ?_;intro gb1 hg w6 hbox hb;have BK1:= zM (hbox);have GW1:= zM ((zq94:w.heap.size ≤ gb1));have GE1:= zM ((zq94:w.heap.size ≤ gb1));replace HB:= zM (zQ zzh hb);have NB0_1:= zM ((zzm hg (zzi BK0):gb0 ≠ gb1));have NB1_0:= zM ((zzM hg (zzi BK0):gb1 ≠ gb0));replace BK0:= zM (blk_below (zzi BK0) hb);clear hb hbox hg));go_loopg [9] k (fun kq v9 w' => ∃ (x9_1:Int),v9 = .int .i64 x9_1 ∧ Aside0 (spec_l16Clear.l0 kq l0 a3 x9_1 a1_0 a1_1 a2_0 a2_1 = some r) ∧ Aside0 (kq ≤ k) ∧ Aside0 (w'.heap[gb0]? = some (.cells #[.int .i64 a1_0,.int .i64 a1_1] 48 (0,0))) ∧ Aside0 (w'.heap[gb1]? = some (.cells #[.int .i64 a2_0,.int .i64 a2_1] 48 (0,0))) ∧ Aside0 (Below w.heap.size w w'))
 case atStart=>exact ⟨(0),zq91,H',⟨Nat.le_refl _⟩,⟨zzi BK0⟩,⟨zzi BK1⟩,⟨zzh⟩⟩
 case round =>
  clear H';(try clear p2);obtain ⟨x9_1,rfl,HA,HK1,BK0,BK1,HB⟩:=hrel;cases gk with
  | zero=>exact absurd HA.out (by simp [spec_l16Clear.l0])
  | succ k1 =>
   have H:=HA.out;clear HA;simp only [spec_l16Clear.l0] at H;by_cases c7:x9_1 < (l0.length:Int)
   ·rw [if_pos c7] at H
    have c7b0:decide (x9_1 < (l0.length:Int)) = true:=decide_eq_true c7;clear c7;by_cases c8:0 ≤ x9_1
    ·rw [if_pos c8] at H
     have c8b0:decide (0 ≤ x9_1) = true:=decide_eq_true c8;clear c8;replace H:=Option.bind_eq_some_iff.mp H;obtain ⟨⟨t2,t3⟩,A90,H⟩:=H;replace H:(if (t2 == a2_0 && (t3 == a2_1)) = true then (some false) else (if a3 > 0 then ((spec_l16At.f (rd_L6 l0 x9_1) a3).bind fun bt4=>(if (bt4.1 == a1_0 && (bt4.2 == a1_1)) = true then ((spec_l16At.f (rd_L6 l0 x9_1) (wrap64 (a3 - 1))).bind fun bt5=>(if (bt5.1 == a2_0 && (bt5.2 == a2_1)) = true then (some false) else (spec_l16Clear.l0 k1 l0 a3 (wrap64 (x9_1 + 1)) a1_0 a1_1 a2_0 a2_1))) else (spec_l16Clear.l0 k1 l0 a3 (wrap64 (x9_1 + 1)) a1_0 a1_1 a2_0 a2_1))) else (spec_l16Clear.l0 k1 l0 a3 (wrap64 (x9_1 + 1)) a1_0 a1_1 a2_0 a2_1))) = some r:=H;have A9:=zM A90;clear A90;by_cases c10:(t2 == a2_0 && (t3 == a2_1)) = true
     ·rw [if_pos c10] at H
      (have c10b0:(t2 == a2_0 && (t3 == a2_1)) = true:=c10;(try (have c10b1:decide (t2 = a2_0 && (t3 == a2_1)) = true:=by simpa using c10));(try (have c10b2:(t2 == a2_0 && (t3 == a2_1)) = true:=by simpa using c10));clear c10;obtain rfl:=Option.some.inj H;try go_wp2);replace BK0:= zM (zK BK0.out);replace BK1:= zM (zK BK1.out);replace HB:= zM (zF HB.out);have p6:0 ≤ (x9_1:Int):=zzd;have q6:x9_1 < (l0.length:Int):=zzd;obtain ⟨ad6,A6_0,c6_0,e6,hx6_0,hl6_0,hi6_0⟩:=at_L6 HR0.out x9_1 p6 q6;have hw6_0:=hx6_0;cases e6;replace hx6_0:=zS HB.out hx6_0;have HR6_0:=zM hi6_0;have HC6_0:=zM hl6_0;clear hi6_0 hl6_0;replace p6:=eq_true p6;replace q6:=eq_true q6;refine start_ (n:=8) (S:=fun w'=>w'.cell? ⟨gb1,0,none⟩ = some (.int .i64 a2_0) ∧ w'.cell? ⟨gb1,1,none⟩ = some (.int .i64 a2_1) ∧ w'.cell? (ad6.add (x9_1).toNat) = some (.slice A6_0 (rd_L6 l0 x9_1).length c6_0)) (ds:=[]) #[false,false,false,false,false,false,false,false] (by kernel_rfl) rfl rfl ⟨zz0 BK1,zz1 BK1,(zS HB.out hw6_0 :)⟩ (fun hHeld=>?_);refine with_tabW spec_l16Clear.tab4 spec_l16Clear.bits4 (fun HT_ HW_=>?_);generalize wr.drew = w11 at BK0 BK1 HB HR6_0 hx6_0 hHeld ⊢;refine zzp 0 16 (zzb 8 1) ?_ (hc:=zzx HT_);refine zzp 1 17 (zzb 8 3) ?_ (hc:=zzx HT_);refine zzp 2 18 (zzb 8 7) ?_ (hc:=zzx HT_);refine zzp 4 20 (zzb 8 23) ?_ (hc:=zzx HT_);refine zzt 3 19 (zzb 8 31) hHeld ?_ (hc:=zzy HT_ HW_) (hy:=by rintro w' ⟨s0,s1,s2⟩;go_simp;with_reducible rfl);refine zzt 6 22 (zzb 8 95) hHeld ?_ (hc:=zzy HT_ HW_) (hy:=by rintro w' ⟨s0,s1,s2⟩;go_simp;with_reducible rfl)
      (refine zzo 5 21 (zzb 8 127) (hc:=zzw HT_) (fun K hK=>?_);refine zzf Try.func98 #[.slice A6_0 (rd_L6 l0 x9_1).length c6_0,.int .i64 a3] ?_;with_reducible refine (spec_l16At.calls _ _ (rd_L6 l0 x9_1) a3 t2 t3 _ ?side1 ?side2 A9.out).mono ?_);(case side1=>repeat (first|exact (zO HR6_0.out HB.out)|(with_reducible first|refine zG ?_ _|refine zH ?_ _|refine zI ?_)));(case side2=>exact HC6_0.out);rintro e w12 ⟨rfl,hb⟩;refine ⟨_,rfl,?_⟩;replace BK0:= zM (blk_below (zzi BK0) hb);replace BK1:= zM (blk_below (zzi BK1) hb);replace HB:= zM (zQ zzh hb);(try clear hb);(try clear hb2);(try clear hk);(try clear hi);refine hK.out _ _ ⟨zz0 BK1,zz1 BK1,(zS HB.out hw6_0 :)⟩ (fun hHeld=>?_);clear hK K;refine zzn 21 ?_;refine zzp 7 23 (zzb 8 255) ?_ (hc:=zzx HT_);refine done_ (done_of HT_.out (by kernel_rfl)) ?_;try go_wp2
      go_ret;exact ⟨zq84,zzh⟩
     ·rw [if_neg c10] at H
      (have c10b0:(t2 == a2_0 && (t3 == a2_1)) = false:=by simpa using c10);(try (have c10b1:decide (t2 = a2_0 && (t3 == a2_1)) = false:=by simpa using c10));(try (have c10b2:(t2 == a2_0 && (t3 == a2_1)) = false:=by simpa using c10));(try (have c10b3:¬ (t2 = a2_0 && (t3 == a2_1)):=by simpa using c10));clear c10;by_cases c13:a3 > 0
      ·rw [if_pos c13] at H
       have c13b0:decide (0 < a3) = true:=decide_eq_true c13;clear c13;replace H:=Option.bind_eq_some_iff.mp H;obtain ⟨⟨t4,t7⟩,A8,H⟩:=H;replace H:(if (t4 == a1_0 && (t7 == a1_1)) = true then ((spec_l16At.f (rd_L6 l0 x9_1) (wrap64 (a3 - 1))).bind fun bt5=>(if (bt5.1 == a2_0 && (bt5.2 == a2_1)) = true then (some false) else (spec_l16Clear.l0 k1 l0 a3 (wrap64 (x9_1 + 1)) a1_0 a1_1 a2_0 a2_1))) else (spec_l16Clear.l0 k1 l0 a3 (wrap64 (x9_1 + 1)) a1_0 a1_1 a2_0 a2_1)) = some r:=H;have A14:=zM A8;clear A8;by_cases c15:(t4 == a1_0 && (t7 == a1_1)) = true
       ·rw [if_pos c15] at H
        have c15b0:(t4 == a1_0 && (t7 == a1_1)) = true:=c15;(try (have c15b1:decide (t4 = a1_0 && (t7 == a1_1)) = true:=by simpa using c15));(try (have c15b2:(t4 == a1_0 && (t7 == a1_1)) = true:=by simpa using c15));clear c15;replace H:=Option.bind_eq_some_iff.mp H;obtain ⟨⟨t5,t9⟩,A10,H⟩:=H;replace H:(if (t5 == a2_0 && (t9 == a2_1)) = true then (some false) else (spec_l16Clear.l0 k1 l0 a3 (wrap64 (x9_1 + 1)) a1_0 a1_1 a2_0 a2_1)) = some r:=H;have A16:=zM A10;clear A10;by_cases c17:(t5 == a2_0 && (t9 == a2_1)) = true
        ·rw [if_pos c17] at H
         (have c17b0:(t5 == a2_0 && (t9 == a2_1)) = true:=c17;(try (have c17b1:decide (t5 = a2_0 && (t9 == a2_1)) = true:=by simpa using c17));(try (have c17b2:(t5 == a2_0 && (t9 == a2_1)) = true:=by simpa using c17));clear c17;obtain rfl:=Option.some.inj H;try go_wp2);replace BK0:= zM (zK BK0.out);replace BK1:= zM (zK BK1.out);replace HB:= zM (zF HB.out);have p6:0 ≤ (x9_1:Int):=zzd;have q6:x9_1 < (l0.length:Int):=zzd;obtain ⟨ad6,A6_0,c6_0,e6,hx6_0,hl6_0,hi6_0⟩:=at_L6 HR0.out x9_1 p6 q6;have hw6_0:=hx6_0;cases e6;replace hx6_0:=zS HB.out hx6_0;have HR6_0:=zM hi6_0;have HC6_0:=zM hl6_0;clear hi6_0 hl6_0;replace p6:=eq_true p6;replace q6:=eq_true q6;refine start_ (n:=8) (S:=fun w'=>w'.cell? ⟨gb1,0,none⟩ = some (.int .i64 a2_0) ∧ w'.cell? ⟨gb1,1,none⟩ = some (.int .i64 a2_1) ∧ w'.cell? (ad6.add (x9_1).toNat) = some (.slice A6_0 (rd_L6 l0 x9_1).length c6_0)) (ds:=[]) #[false,false,false,false,false,false,false,false] (by kernel_rfl) rfl rfl ⟨zz0 BK1,zz1 BK1,(zS HB.out hw6_0 :)⟩ (fun hHeld=>?_);refine with_tabW spec_l16Clear.tab4 spec_l16Clear.bits4 (fun HT_ HW_=>?_);generalize wr.drew = w18 at BK0 BK1 HB HR6_0 hx6_0 hHeld ⊢;refine zzp 0 16 (zzb 8 1) ?_ (hc:=zzx HT_);refine zzp 1 17 (zzb 8 3) ?_ (hc:=zzx HT_);refine zzp 2 18 (zzb 8 7) ?_ (hc:=zzx HT_);refine zzp 4 20 (zzb 8 23) ?_ (hc:=zzx HT_);refine zzt 3 19 (zzb 8 31) hHeld ?_ (hc:=zzy HT_ HW_) (hy:=by rintro w' ⟨s0,s1,s2⟩;go_simp;with_reducible rfl);refine zzt 6 22 (zzb 8 95) hHeld ?_ (hc:=zzy HT_ HW_) (hy:=by rintro w' ⟨s0,s1,s2⟩;go_simp;with_reducible rfl)
         (refine zzo 5 21 (zzb 8 127) (hc:=zzw HT_) (fun K hK=>?_);refine zzf Try.func98 #[.slice A6_0 (rd_L6 l0 x9_1).length c6_0,.int .i64 a3] ?_;with_reducible refine (spec_l16At.calls _ _ (rd_L6 l0 x9_1) a3 t2 t3 _ ?side1 ?side2 A9.out).mono ?_);(case side1=>repeat (first|exact (zO HR6_0.out HB.out)|(with_reducible first|refine zG ?_ _|refine zH ?_ _|refine zI ?_)));(case side2=>exact HC6_0.out);rintro e w19 ⟨rfl,hb⟩;refine ⟨_,rfl,?_⟩;replace BK0:= zM (blk_below (zzi BK0) hb);replace BK1:= zM (blk_below (zzi BK1) hb);replace HB:= zM (zQ zzh hb);(try clear hb);(try clear hb2);(try clear hk);(try clear hi);refine hK.out _ _ ⟨zz0 BK1,zz1 BK1,(zS HB.out hw6_0 :)⟩ (fun hHeld=>?_);clear hK K;refine zzn 21 ?_;refine zzp 7 23 (zzb 8 255) ?_ (hc:=zzx HT_);refine done_ (done_of HT_.out (by kernel_rfl)) ?_;try go_wp2
         replace BK0:= zM (zK BK0.out);replace BK1:= zM (zK BK1.out);replace HB:= zM (zF HB.out);have p11:0 ≤ (x9_1:Int):=zzd;have q11:x9_1 < (l0.length:Int):=zzd;obtain ⟨ad11,A11_0,c11_0,e11,hx11_0,hl11_0,hi11_0⟩:=at_L6 HR0.out x9_1 p11 q11;have hw11_0:=hx11_0;obtain rfl:ad6 = ad11:=(by injection e11);replace hx11_0:=zS HB.out hx11_0;have HR11_0:=zM hi11_0;have HC11_0:=zM hl11_0;clear hi11_0 hl11_0;replace p11:=eq_true p11;replace q11:=eq_true q11;have p12:0 ≤ (x9_1:Int):=zzd;have q12:x9_1 < (l0.length:Int):=zzd;obtain ⟨ad12,A12_0,c12_0,e12,hx12_0,hl12_0,hi12_0⟩:=at_L6 HR0.out x9_1 p12 q12;have hw12_0:=hx12_0;obtain rfl:ad6 = ad12:=(by injection e12);(have hj2_:=Option.some.inj (hw11_0.symm.trans hw12_0);injection hj2_ with hjA_ hjN_ hjC_;subst hjA_;subst hjC_);replace hx12_0:=zS HB.out hx12_0;have HR12_0:=zM hi12_0;have HC12_0:=zM hl12_0;clear hi12_0 hl12_0;replace p12:=eq_true p12;replace q12:=eq_true q12;refine start_ (n:=23) (S:=fun w'=>w'.cell? ⟨gb0,0,none⟩ = some (.int .i64 a1_0) ∧ w'.cell? ⟨gb0,1,none⟩ = some (.int .i64 a1_1) ∧ w'.cell? ⟨gb1,0,none⟩ = some (.int .i64 a2_0) ∧ w'.cell? ⟨gb1,1,none⟩ = some (.int .i64 a2_1) ∧ w'.cell? (ad6.add (x9_1).toNat) = some (.slice A11_0 (rd_L6 l0 x9_1).length c11_0) ∧ w'.cell? (ad6.add (x9_1).toNat) = some (.slice A11_0 (rd_L6 l0 x9_1).length c11_0)) (ds:=[]) #[false,false,false,false,false,false,false,false,false,false,false,false,false,false,false,false,false,false,false,false,false,false,false] (by kernel_rfl) rfl rfl ⟨zz0 BK0,zz1 BK0,zz0 BK1,zz1 BK1,(zS HB.out hw11_0 :),(zS HB.out hw12_0 :)⟩ (fun hHeld=>?_);refine with_tabW spec_l16Clear.tab6 spec_l16Clear.bits6 (fun HT_ HW_=>?_)
         generalize w19.drew = w20 at BK0 BK1 HB HR11_0 HR12_0 hx11_0 hx12_0 hHeld ⊢;refine zzp 0 24 (zzb 23 1) ?_ (hc:=zzx HT_);refine zzp 1 25 (zzb 23 3) ?_ (hc:=zzx HT_);refine zzp 2 26 (zzb 23 7) ?_ (hc:=zzx HT_);refine zzp 3 27 (zzb 23 15) ?_ (hc:=zzx HT_);refine zzp 4 28 (zzb 23 31) ?_ (hc:=zzx HT_);refine zzp 5 29 (zzb 23 63) ?_ (hc:=zzx HT_);refine zzp 7 31 (zzb 23 191) ?_ (hc:=zzx HT_);refine zzt 6 30 (zzb 23 255) hHeld ?_ (hc:=zzy HT_ HW_) (hy:=by rintro w' ⟨s0,s1,s2,s3,s4,s5⟩;go_simp;with_reducible rfl);refine zzt 9 33 (zzb 23 767) hHeld ?_ (hc:=zzy HT_ HW_) (hy:=by rintro w' ⟨s0,s1,s2,s3,s4,s5⟩;go_simp;with_reducible rfl);refine zzo 8 32 (zzb 23 1023) (hc:=zzw HT_) (fun K hK=>?_);refine zzf Try.func98 #[.slice A11_0 (rd_L6 l0 x9_1).length c11_0,.int .i64 a3] ?_;with_reducible refine (spec_l16At.calls _ _ (rd_L6 l0 x9_1) a3 t4 t7 _ ?side1 ?side2 A14.out).mono ?_
         (case side1=>repeat (first|exact (zO HR11_0.out HB.out)|(with_reducible first|refine zG ?_ _|refine zH ?_ _|refine zI ?_)));(case side2=>exact HC11_0.out);rintro e w21 ⟨rfl,hb⟩;refine ⟨_,rfl,?_⟩;replace BK0:= zM (blk_below (zzi BK0) hb);replace BK1:= zM (blk_below (zzi BK1) hb);replace HB:= zM (zQ zzh hb);(try clear hb);(try clear hb2);(try clear hk);(try clear hi);refine hK.out _ _ ⟨zz0 BK0,zz1 BK0,zz0 BK1,zz1 BK1,(zS HB.out hw11_0 :),(zS HB.out hw12_0 :)⟩ (fun hHeld=>?_);clear hK K;refine zzn 32 ?_;refine zzp 10 34 (zzb 23 2047) ?_ (hc:=zzx HT_);refine zzp 11 35 (zzb 23 4095) ?_ (hc:=zzx HT_);refine zzp 12 36 (zzb 23 8191) ?_ (hc:=zzx HT_);refine zzp 13 37 (zzb 23 16383) ?_ (hc:=zzx HT_);refine zzp 14 38 (zzb 23 32767) ?_ (hc:=zzx HT_);refine zzp 15 39 (zzb 23 65535) ?_ (hc:=zzx HT_);refine zzp 17 41 (zzb 23 196607) ?_ (hc:=zzx HT_);refine zzp 18 42 (zzb 23 458751) ?_ (hc:=zzx HT_);refine zzt 16 40 (zzb 23 524287) hHeld ?_ (hc:=zzy HT_ HW_) (hy:=by rintro w' ⟨s0,s1,s2,s3,s4,s5⟩;go_simp;with_reducible rfl);refine zzt 20 44 (zzb 23 1572863) hHeld ?_ (hc:=zzy HT_ HW_) (hy:=by rintro w' ⟨s0,s1,s2,s3,s4,s5⟩;go_simp;with_reducible rfl);refine zzo 19 43 (zzb 23 2097151) (hc:=zzw HT_) (fun K hK=>?_);refine zzf Try.func98 #[.slice A11_0 (rd_L6 l0 x9_1).length c11_0,.int .i64 (wrap64 (a3 - 1))] ?_;with_reducible refine (spec_l16At.calls _ _ (rd_L6 l0 x9_1) (wrap64 (a3 - 1)) t5 t9 _ ?side1 ?side2 A16.out).mono ?_
         (case side1=>repeat (first|exact (zO HR12_0.out HB.out)|(with_reducible first|refine zG ?_ _|refine zH ?_ _|refine zI ?_)));(case side2=>exact HC12_0.out);rintro e w22 ⟨rfl,hb⟩;refine ⟨_,rfl,?_⟩;replace BK0:= zM (blk_below (zzi BK0) hb);replace BK1:= zM (blk_below (zzi BK1) hb);replace HB:= zM (zQ zzh hb);(try clear hb);(try clear hb2);(try clear hk);(try clear hi);refine hK.out _ _ ⟨zz0 BK0,zz1 BK0,zz0 BK1,zz1 BK1,(zS HB.out hw11_0 :),(zS HB.out hw12_0 :)⟩ (fun hHeld=>?_);clear hK K;refine zzn 43 ?_;refine zzp 21 45 (zzb 23 4194303) ?_ (hc:=zzx HT_);refine zzp 22 46 (zzb 23 8388607) ?_ (hc:=zzx HT_);refine done_ (done_of HT_.out (by kernel_rfl)) ?_;try go_wp2
         go_ret;exact ⟨zq84,zzh⟩
        ·rw [if_neg c17] at H
         (have c17b0:(t5 == a2_0 && (t9 == a2_1)) = false:=by simpa using c17);(try (have c17b1:decide (t5 = a2_0 && (t9 == a2_1)) = false:=by simpa using c17));(try (have c17b2:(t5 == a2_0 && (t9 == a2_1)) = false:=by simpa using c17));(try (have c17b3:¬ (t5 = a2_0 && (t9 == a2_1)):=by simpa using c17));clear c17;have H':=zM H;clear H;try go_wp2
         replace BK0:= zM (zK BK0.out);replace BK1:= zM (zK BK1.out);replace HB:= zM (zF HB.out);have p6:0 ≤ (x9_1:Int):=zzd;have q6:x9_1 < (l0.length:Int):=zzd;obtain ⟨ad6,A6_0,c6_0,e6,hx6_0,hl6_0,hi6_0⟩:=at_L6 HR0.out x9_1 p6 q6;have hw6_0:=hx6_0;cases e6;replace hx6_0:=zS HB.out hx6_0;have HR6_0:=zM hi6_0;have HC6_0:=zM hl6_0;clear hi6_0 hl6_0;replace p6:=eq_true p6;replace q6:=eq_true q6;refine start_ (n:=8) (S:=fun w'=>w'.cell? ⟨gb1,0,none⟩ = some (.int .i64 a2_0) ∧ w'.cell? ⟨gb1,1,none⟩ = some (.int .i64 a2_1) ∧ w'.cell? (ad6.add (x9_1).toNat) = some (.slice A6_0 (rd_L6 l0 x9_1).length c6_0)) (ds:=[]) #[false,false,false,false,false,false,false,false] (by kernel_rfl) rfl rfl ⟨zz0 BK1,zz1 BK1,(zS HB.out hw6_0 :)⟩ (fun hHeld=>?_);refine with_tabW spec_l16Clear.tab4 spec_l16Clear.bits4 (fun HT_ HW_=>?_);generalize wr.drew = w23 at BK0 BK1 HB HR6_0 hx6_0 hHeld ⊢;refine zzp 0 16 (zzb 8 1) ?_ (hc:=zzx HT_);refine zzp 1 17 (zzb 8 3) ?_ (hc:=zzx HT_);refine zzp 2 18 (zzb 8 7) ?_ (hc:=zzx HT_);refine zzp 4 20 (zzb 8 23) ?_ (hc:=zzx HT_);refine zzt 3 19 (zzb 8 31) hHeld ?_ (hc:=zzy HT_ HW_) (hy:=by rintro w' ⟨s0,s1,s2⟩;go_simp;with_reducible rfl);refine zzt 6 22 (zzb 8 95) hHeld ?_ (hc:=zzy HT_ HW_) (hy:=by rintro w' ⟨s0,s1,s2⟩;go_simp;with_reducible rfl);refine zzo 5 21 (zzb 8 127) (hc:=zzw HT_) (fun K hK=>?_);refine zzf Try.func98 #[.slice A6_0 (rd_L6 l0 x9_1).length c6_0,.int .i64 a3] ?_;with_reducible refine (spec_l16At.calls _ _ (rd_L6 l0 x9_1) a3 t2 t3 _ ?side1 ?side2 A9.out).mono ?_
         (case side1=>repeat (first|exact (zO HR6_0.out HB.out)|(with_reducible first|refine zG ?_ _|refine zH ?_ _|refine zI ?_)));(case side2=>exact HC6_0.out);rintro e w24 ⟨rfl,hb⟩;refine ⟨_,rfl,?_⟩;replace BK0:= zM (blk_below (zzi BK0) hb);replace BK1:= zM (blk_below (zzi BK1) hb);replace HB:= zM (zQ zzh hb);(try clear hb);(try clear hb2);(try clear hk);(try clear hi);refine hK.out _ _ ⟨zz0 BK1,zz1 BK1,(zS HB.out hw6_0 :)⟩ (fun hHeld=>?_);clear hK K;refine zzn 21 ?_;refine zzp 7 23 (zzb 8 255) ?_ (hc:=zzx HT_);refine done_ (done_of HT_.out (by kernel_rfl)) ?_;try go_wp2
         replace BK0:= zM (zK BK0.out);replace BK1:= zM (zK BK1.out);replace HB:= zM (zF HB.out);have p11:0 ≤ (x9_1:Int):=zzd;have q11:x9_1 < (l0.length:Int):=zzd;obtain ⟨ad11,A11_0,c11_0,e11,hx11_0,hl11_0,hi11_0⟩:=at_L6 HR0.out x9_1 p11 q11;have hw11_0:=hx11_0;obtain rfl:ad6 = ad11:=(by injection e11);replace hx11_0:=zS HB.out hx11_0;have HR11_0:=zM hi11_0;have HC11_0:=zM hl11_0;clear hi11_0 hl11_0;replace p11:=eq_true p11;replace q11:=eq_true q11;have p12:0 ≤ (x9_1:Int):=zzd;have q12:x9_1 < (l0.length:Int):=zzd;obtain ⟨ad12,A12_0,c12_0,e12,hx12_0,hl12_0,hi12_0⟩:=at_L6 HR0.out x9_1 p12 q12;have hw12_0:=hx12_0;obtain rfl:ad6 = ad12:=(by injection e12);(have hj2_:=Option.some.inj (hw11_0.symm.trans hw12_0);injection hj2_ with hjA_ hjN_ hjC_;subst hjA_;subst hjC_);replace hx12_0:=zS HB.out hx12_0;have HR12_0:=zM hi12_0;have HC12_0:=zM hl12_0;clear hi12_0 hl12_0;replace p12:=eq_true p12;replace q12:=eq_true q12;refine start_ (n:=23) (S:=fun w'=>w'.cell? ⟨gb0,0,none⟩ = some (.int .i64 a1_0) ∧ w'.cell? ⟨gb0,1,none⟩ = some (.int .i64 a1_1) ∧ w'.cell? ⟨gb1,0,none⟩ = some (.int .i64 a2_0) ∧ w'.cell? ⟨gb1,1,none⟩ = some (.int .i64 a2_1) ∧ w'.cell? (ad6.add (x9_1).toNat) = some (.slice A11_0 (rd_L6 l0 x9_1).length c11_0) ∧ w'.cell? (ad6.add (x9_1).toNat) = some (.slice A11_0 (rd_L6 l0 x9_1).length c11_0)) (ds:=[]) #[false,false,false,false,false,false,false,false,false,false,false,false,false,false,false,false,false,false,false,false,false,false,false] (by kernel_rfl) rfl rfl ⟨zz0 BK0,zz1 BK0,zz0 BK1,zz1 BK1,(zS HB.out hw11_0 :),(zS HB.out hw12_0 :)⟩ (fun hHeld=>?_);refine with_tabW spec_l16Clear.tab6 spec_l16Clear.bits6 (fun HT_ HW_=>?_)
         generalize w24.drew = w25 at BK0 BK1 HB HR11_0 HR12_0 hx11_0 hx12_0 hHeld ⊢;refine zzp 0 24 (zzb 23 1) ?_ (hc:=zzx HT_);refine zzp 1 25 (zzb 23 3) ?_ (hc:=zzx HT_);refine zzp 2 26 (zzb 23 7) ?_ (hc:=zzx HT_);refine zzp 3 27 (zzb 23 15) ?_ (hc:=zzx HT_);refine zzp 4 28 (zzb 23 31) ?_ (hc:=zzx HT_);refine zzp 5 29 (zzb 23 63) ?_ (hc:=zzx HT_);refine zzp 7 31 (zzb 23 191) ?_ (hc:=zzx HT_);refine zzt 6 30 (zzb 23 255) hHeld ?_ (hc:=zzy HT_ HW_) (hy:=by rintro w' ⟨s0,s1,s2,s3,s4,s5⟩;go_simp;with_reducible rfl);refine zzt 9 33 (zzb 23 767) hHeld ?_ (hc:=zzy HT_ HW_) (hy:=by rintro w' ⟨s0,s1,s2,s3,s4,s5⟩;go_simp;with_reducible rfl);refine zzo 8 32 (zzb 23 1023) (hc:=zzw HT_) (fun K hK=>?_);refine zzf Try.func98 #[.slice A11_0 (rd_L6 l0 x9_1).length c11_0,.int .i64 a3] ?_;with_reducible refine (spec_l16At.calls _ _ (rd_L6 l0 x9_1) a3 t4 t7 _ ?side1 ?side2 A14.out).mono ?_
         (case side1=>repeat (first|exact (zO HR11_0.out HB.out)|(with_reducible first|refine zG ?_ _|refine zH ?_ _|refine zI ?_)));(case side2=>exact HC11_0.out);rintro e w26 ⟨rfl,hb⟩;refine ⟨_,rfl,?_⟩;replace BK0:= zM (blk_below (zzi BK0) hb);replace BK1:= zM (blk_below (zzi BK1) hb);replace HB:= zM (zQ zzh hb);(try clear hb);(try clear hb2);(try clear hk);(try clear hi);refine hK.out _ _ ⟨zz0 BK0,zz1 BK0,zz0 BK1,zz1 BK1,(zS HB.out hw11_0 :),(zS HB.out hw12_0 :)⟩ (fun hHeld=>?_);clear hK K;refine zzn 32 ?_;refine zzp 10 34 (zzb 23 2047) ?_ (hc:=zzx HT_);refine zzp 11 35 (zzb 23 4095) ?_ (hc:=zzx HT_);refine zzp 12 36 (zzb 23 8191) ?_ (hc:=zzx HT_);refine zzp 13 37 (zzb 23 16383) ?_ (hc:=zzx HT_);refine zzp 14 38 (zzb 23 32767) ?_ (hc:=zzx HT_);refine zzp 15 39 (zzb 23 65535) ?_ (hc:=zzx HT_);refine zzp 17 41 (zzb 23 196607) ?_ (hc:=zzx HT_);refine zzp 18 42 (zzb 23 458751) ?_ (hc:=zzx HT_);refine zzt 16 40 (zzb 23 524287) hHeld ?_ (hc:=zzy HT_ HW_) (hy:=by rintro w' ⟨s0,s1,s2,s3,s4,s5⟩;go_simp;with_reducible rfl);refine zzt 20 44 (zzb 23 1572863) hHeld ?_ (hc:=zzy HT_ HW_) (hy:=by rintro w' ⟨s0,s1,s2,s3,s4,s5⟩;go_simp;with_reducible rfl);refine zzo 19 43 (zzb 23 2097151) (hc:=zzw HT_) (fun K hK=>?_);refine zzf Try.func98 #[.slice A11_0 (rd_L6 l0 x9_1).length c11_0,.int .i64 (wrap64 (a3 - 1))] ?_;with_reducible refine (spec_l16At.calls _ _ (rd_L6 l0 x9_1) (wrap64 (a3 - 1)) t5 t9 _ ?side1 ?side2 A16.out).mono ?_
         (case side1=>repeat (first|exact (zO HR12_0.out HB.out)|(with_reducible first|refine zG ?_ _|refine zH ?_ _|refine zI ?_)));(case side2=>exact HC12_0.out);rintro e w27 ⟨rfl,hb⟩;refine ⟨_,rfl,?_⟩;replace BK0:= zM (blk_below (zzi BK0) hb);replace BK1:= zM (blk_below (zzi BK1) hb);replace HB:= zM (zQ zzh hb);(try clear hb);(try clear hb2);(try clear hk);(try clear hi);refine hK.out _ _ ⟨zz0 BK0,zz1 BK0,zz0 BK1,zz1 BK1,(zS HB.out hw11_0 :),(zS HB.out hw12_0 :)⟩ (fun hHeld=>?_);clear hK K;refine zzn 43 ?_;refine zzp 21 45 (zzb 23 4194303) ?_ (hc:=zzx HT_);refine zzp 22 46 (zzb 23 8388607) ?_ (hc:=zzx HT_);refine done_ (done_of HT_.out (by kernel_rfl)) ?_;try go_wp2
         go_roundg k1
         case measure=>have:=HK1.out;omega
         case rel=>exact ⟨(wrap64 (x9_1 + 1)),zq91,H',⟨zq98⟩,⟨zzi BK0⟩,⟨zzi BK1⟩,⟨zzh⟩⟩
       ·rw [if_neg c15] at H
        (have c15b0:(t4 == a1_0 && (t7 == a1_1)) = false:=by simpa using c15);(try (have c15b1:decide (t4 = a1_0 && (t7 == a1_1)) = false:=by simpa using c15));(try (have c15b2:(t4 == a1_0 && (t7 == a1_1)) = false:=by simpa using c15));(try (have c15b3:¬ (t4 = a1_0 && (t7 == a1_1)):=by simpa using c15));clear c15;have H':=zM H;clear H;try go_wp2
        replace BK0:= zM (zK BK0.out);replace BK1:= zM (zK BK1.out);replace HB:= zM (zF HB.out);have p6:0 ≤ (x9_1:Int):=zzd;have q6:x9_1 < (l0.length:Int):=zzd;obtain ⟨ad6,A6_0,c6_0,e6,hx6_0,hl6_0,hi6_0⟩:=at_L6 HR0.out x9_1 p6 q6;have hw6_0:=hx6_0;cases e6;replace hx6_0:=zS HB.out hx6_0;have HR6_0:=zM hi6_0;have HC6_0:=zM hl6_0;clear hi6_0 hl6_0;replace p6:=eq_true p6;replace q6:=eq_true q6;refine start_ (n:=8) (S:=fun w'=>w'.cell? ⟨gb1,0,none⟩ = some (.int .i64 a2_0) ∧ w'.cell? ⟨gb1,1,none⟩ = some (.int .i64 a2_1) ∧ w'.cell? (ad6.add (x9_1).toNat) = some (.slice A6_0 (rd_L6 l0 x9_1).length c6_0)) (ds:=[]) #[false,false,false,false,false,false,false,false] (by kernel_rfl) rfl rfl ⟨zz0 BK1,zz1 BK1,(zS HB.out hw6_0 :)⟩ (fun hHeld=>?_);refine with_tabW spec_l16Clear.tab4 spec_l16Clear.bits4 (fun HT_ HW_=>?_);generalize wr.drew = w28 at BK0 BK1 HB HR6_0 hx6_0 hHeld ⊢;refine zzp 0 16 (zzb 8 1) ?_ (hc:=zzx HT_);refine zzp 1 17 (zzb 8 3) ?_ (hc:=zzx HT_);refine zzp 2 18 (zzb 8 7) ?_ (hc:=zzx HT_);refine zzp 4 20 (zzb 8 23) ?_ (hc:=zzx HT_);refine zzt 3 19 (zzb 8 31) hHeld ?_ (hc:=zzy HT_ HW_) (hy:=by rintro w' ⟨s0,s1,s2⟩;go_simp;with_reducible rfl);refine zzt 6 22 (zzb 8 95) hHeld ?_ (hc:=zzy HT_ HW_) (hy:=by rintro w' ⟨s0,s1,s2⟩;go_simp;with_reducible rfl);refine zzo 5 21 (zzb 8 127) (hc:=zzw HT_) (fun K hK=>?_);refine zzf Try.func98 #[.slice A6_0 (rd_L6 l0 x9_1).length c6_0,.int .i64 a3] ?_;with_reducible refine (spec_l16At.calls _ _ (rd_L6 l0 x9_1) a3 t2 t3 _ ?side1 ?side2 A9.out).mono ?_
        (case side1=>repeat (first|exact (zO HR6_0.out HB.out)|(with_reducible first|refine zG ?_ _|refine zH ?_ _|refine zI ?_)));(case side2=>exact HC6_0.out);rintro e w29 ⟨rfl,hb⟩;refine ⟨_,rfl,?_⟩;replace BK0:= zM (blk_below (zzi BK0) hb);replace BK1:= zM (blk_below (zzi BK1) hb);replace HB:= zM (zQ zzh hb);(try clear hb);(try clear hb2);(try clear hk);(try clear hi);refine hK.out _ _ ⟨zz0 BK1,zz1 BK1,(zS HB.out hw6_0 :)⟩ (fun hHeld=>?_);clear hK K;refine zzn 21 ?_;refine zzp 7 23 (zzb 8 255) ?_ (hc:=zzx HT_);refine done_ (done_of HT_.out (by kernel_rfl)) ?_;try go_wp2
        replace BK0:= zM (zK BK0.out);replace BK1:= zM (zK BK1.out);replace HB:= zM (zF HB.out);have p11:0 ≤ (x9_1:Int):=zzd;have q11:x9_1 < (l0.length:Int):=zzd;obtain ⟨ad11,A11_0,c11_0,e11,hx11_0,hl11_0,hi11_0⟩:=at_L6 HR0.out x9_1 p11 q11;have hw11_0:=hx11_0;obtain rfl:ad6 = ad11:=(by injection e11);replace hx11_0:=zS HB.out hx11_0;have HR11_0:=zM hi11_0;have HC11_0:=zM hl11_0;clear hi11_0 hl11_0;replace p11:=eq_true p11;replace q11:=eq_true q11;refine start_ (n:=23) (S:=fun w'=>w'.cell? ⟨gb0,0,none⟩ = some (.int .i64 a1_0) ∧ w'.cell? ⟨gb0,1,none⟩ = some (.int .i64 a1_1) ∧ w'.cell? (ad6.add (x9_1).toNat) = some (.slice A11_0 (rd_L6 l0 x9_1).length c11_0)) (ds:=[]) #[false,false,false,false,false,false,false,false,false,false,false,false,false,false,false,false,false,false,false,false,false,false,false] (by kernel_rfl) rfl rfl ⟨zz0 BK0,zz1 BK0,(zS HB.out hw11_0 :)⟩ (fun hHeld=>?_);refine with_tabW spec_l16Clear.tab6 spec_l16Clear.bits6 (fun HT_ HW_=>?_);generalize w29.drew = w30 at BK0 BK1 HB HR11_0 hx11_0 hHeld ⊢;refine zzp 0 24 (zzb 23 1) ?_ (hc:=zzx HT_);refine zzp 1 25 (zzb 23 3) ?_ (hc:=zzx HT_);refine zzp 2 26 (zzb 23 7) ?_ (hc:=zzx HT_);refine zzp 3 27 (zzb 23 15) ?_ (hc:=zzx HT_);refine zzp 4 28 (zzb 23 31) ?_ (hc:=zzx HT_);refine zzp 5 29 (zzb 23 63) ?_ (hc:=zzx HT_);refine zzp 7 31 (zzb 23 191) ?_ (hc:=zzx HT_);refine zzt 6 30 (zzb 23 255) hHeld ?_ (hc:=zzy HT_ HW_) (hy:=by rintro w' ⟨s0,s1,s2⟩;go_simp;with_reducible rfl);refine zzt 9 33 (zzb 23 767) hHeld ?_ (hc:=zzy HT_ HW_) (hy:=by rintro w' ⟨s0,s1,s2⟩;go_simp;with_reducible rfl)
        (refine zzo 8 32 (zzb 23 1023) (hc:=zzw HT_) (fun K hK=>?_);refine zzf Try.func98 #[.slice A11_0 (rd_L6 l0 x9_1).length c11_0,.int .i64 a3] ?_;with_reducible refine (spec_l16At.calls _ _ (rd_L6 l0 x9_1) a3 t4 t7 _ ?side1 ?side2 A14.out).mono ?_);(case side1=>repeat (first|exact (zO HR11_0.out HB.out)|(with_reducible first|refine zG ?_ _|refine zH ?_ _|refine zI ?_)));(case side2=>exact HC11_0.out);rintro e w31 ⟨rfl,hb⟩;refine ⟨_,rfl,?_⟩;replace BK0:= zM (blk_below (zzi BK0) hb);replace BK1:= zM (blk_below (zzi BK1) hb);replace HB:= zM (zQ zzh hb);(try clear hb);(try clear hb2);(try clear hk);(try clear hi);refine hK.out _ _ ⟨zz0 BK0,zz1 BK0,(zS HB.out hw11_0 :)⟩ (fun hHeld=>?_);clear hK K;refine zzn 32 ?_;refine zzp 10 34 (zzb 23 2047) ?_ (hc:=zzx HT_);refine zzp 11 35 (zzb 23 4095) ?_ (hc:=zzx HT_);refine zzp 12 36 (zzb 23 8191) ?_ (hc:=zzx HT_);refine zzu 13 37 (zzb 23 16383) ?_ (hc:=zzx HT_);refine zzu 14 38 (zzb 23 32767) ?_ (hc:=zzx HT_);refine zzu 15 39 (zzb 23 65535) ?_ (hc:=zzx HT_);refine zzu 16 40 (zzb 23 131071) ?_ (hc:=zzx HT_);refine zzu 17 41 (zzb 23 262143) ?_ (hc:=zzx HT_);refine zzu 18 42 (zzb 23 524287) ?_ (hc:=zzx HT_);refine zzu 19 43 (zzb 23 1048575) ?_ (hc:=zzx HT_);refine zzu 20 44 (zzb 23 2097151) ?_ (hc:=zzx HT_);refine zzu 21 45 (zzb 23 4194303) ?_ (hc:=zzx HT_);refine zzp 22 46 (zzb 23 8388607) ?_ (hc:=zzx HT_);refine done_ (done_of HT_.out (by kernel_rfl)) ?_;try go_wp2
        go_roundg k1
        case measure=>have:=HK1.out;omega
        case rel=>exact ⟨(wrap64 (x9_1 + 1)),zq91,H',⟨zq98⟩,⟨zzi BK0⟩,⟨zzi BK1⟩,⟨zzh⟩⟩
      ·rw [if_neg c13] at H
       (have c13b0:decide (0 < a3) = false:=decide_eq_false c13;clear c13;have H':=zM H;clear H;try go_wp2);replace BK0:= zM (zK BK0.out);replace BK1:= zM (zK BK1.out);replace HB:= zM (zF HB.out);have p6:0 ≤ (x9_1:Int):=zzd;have q6:x9_1 < (l0.length:Int):=zzd;obtain ⟨ad6,A6_0,c6_0,e6,hx6_0,hl6_0,hi6_0⟩:=at_L6 HR0.out x9_1 p6 q6;have hw6_0:=hx6_0;cases e6;replace hx6_0:=zS HB.out hx6_0;have HR6_0:=zM hi6_0;have HC6_0:=zM hl6_0;clear hi6_0 hl6_0;replace p6:=eq_true p6;replace q6:=eq_true q6;refine start_ (n:=8) (S:=fun w'=>w'.cell? ⟨gb1,0,none⟩ = some (.int .i64 a2_0) ∧ w'.cell? ⟨gb1,1,none⟩ = some (.int .i64 a2_1) ∧ w'.cell? (ad6.add (x9_1).toNat) = some (.slice A6_0 (rd_L6 l0 x9_1).length c6_0)) (ds:=[]) #[false,false,false,false,false,false,false,false] (by kernel_rfl) rfl rfl ⟨zz0 BK1,zz1 BK1,(zS HB.out hw6_0 :)⟩ (fun hHeld=>?_);refine with_tabW spec_l16Clear.tab4 spec_l16Clear.bits4 (fun HT_ HW_=>?_);generalize wr.drew = w32 at BK0 BK1 HB HR6_0 hx6_0 hHeld ⊢;refine zzp 0 16 (zzb 8 1) ?_ (hc:=zzx HT_);refine zzp 1 17 (zzb 8 3) ?_ (hc:=zzx HT_);refine zzp 2 18 (zzb 8 7) ?_ (hc:=zzx HT_);refine zzp 4 20 (zzb 8 23) ?_ (hc:=zzx HT_);refine zzt 3 19 (zzb 8 31) hHeld ?_ (hc:=zzy HT_ HW_) (hy:=by rintro w' ⟨s0,s1,s2⟩;go_simp;with_reducible rfl);refine zzt 6 22 (zzb 8 95) hHeld ?_ (hc:=zzy HT_ HW_) (hy:=by rintro w' ⟨s0,s1,s2⟩;go_simp;with_reducible rfl);refine zzo 5 21 (zzb 8 127) (hc:=zzw HT_) (fun K hK=>?_);refine zzf Try.func98 #[.slice A6_0 (rd_L6 l0 x9_1).length c6_0,.int .i64 a3] ?_
       (with_reducible refine (spec_l16At.calls _ _ (rd_L6 l0 x9_1) a3 t2 t3 _ ?side1 ?side2 A9.out).mono ?_);(case side1=>repeat (first|exact (zO HR6_0.out HB.out)|(with_reducible first|refine zG ?_ _|refine zH ?_ _|refine zI ?_)));(case side2=>exact HC6_0.out);rintro e w33 ⟨rfl,hb⟩;refine ⟨_,rfl,?_⟩;replace BK0:= zM (blk_below (zzi BK0) hb);replace BK1:= zM (blk_below (zzi BK1) hb);replace HB:= zM (zQ zzh hb);(try clear hb);(try clear hb2);(try clear hk);(try clear hi);refine hK.out _ _ ⟨zz0 BK1,zz1 BK1,(zS HB.out hw6_0 :)⟩ (fun hHeld=>?_);clear hK K;refine zzn 21 ?_;refine zzp 7 23 (zzb 8 255) ?_ (hc:=zzx HT_);refine done_ (done_of HT_.out (by kernel_rfl)) ?_;try go_wp2
       replace BK0:= zM (zK BK0.out);replace BK1:= zM (zK BK1.out);replace HB:= zM (zF HB.out);refine start_ (n:=23) (S:=fun w'=>True) (ds:=[]) #[false,false,false,false,false,false,false,false,false,false,false,false,false,false,false,false,false,false,false,false,false,false,false] (by kernel_rfl) rfl rfl trivial (fun hHeld=>?_);refine with_tabW spec_l16Clear.tab6 spec_l16Clear.bits6 (fun HT_ HW_=>?_);generalize w33.drew = w34 at BK0 BK1 HB hHeld ⊢;refine zzp 0 24 (zzb 23 1) ?_ (hc:=zzx HT_);refine zzp 1 25 (zzb 23 3) ?_ (hc:=zzx HT_);refine zzp 2 26 (zzb 23 7) ?_ (hc:=zzx HT_);refine zzu 3 27 (zzb 23 15) ?_ (hc:=zzx HT_);refine zzu 4 28 (zzb 23 31) ?_ (hc:=zzx HT_);refine zzu 5 29 (zzb 23 63) ?_ (hc:=zzx HT_);refine zzu 6 30 (zzb 23 127) ?_ (hc:=zzx HT_);refine zzu 7 31 (zzb 23 255) ?_ (hc:=zzx HT_);refine zzu 8 32 (zzb 23 511) ?_ (hc:=zzx HT_);refine zzu 9 33 (zzb 23 1023) ?_ (hc:=zzx HT_);refine zzu 10 34 (zzb 23 2047) ?_ (hc:=zzx HT_);refine zzp 11 35 (zzb 23 4095) ?_ (hc:=zzx HT_);refine zzp 12 36 (zzb 23 8191) ?_ (hc:=zzx HT_);refine zzu 13 37 (zzb 23 16383) ?_ (hc:=zzx HT_);refine zzu 14 38 (zzb 23 32767) ?_ (hc:=zzx HT_);refine zzu 15 39 (zzb 23 65535) ?_ (hc:=zzx HT_);refine zzu 16 40 (zzb 23 131071) ?_ (hc:=zzx HT_);refine zzu 17 41 (zzb 23 262143) ?_ (hc:=zzx HT_);refine zzu 18 42 (zzb 23 524287) ?_ (hc:=zzx HT_);refine zzu 19 43 (zzb 23 1048575) ?_ (hc:=zzx HT_);refine zzu 20 44 (zzb 23 2097151) ?_ (hc:=zzx HT_);refine zzu 21 45 (zzb 23 4194303) ?_ (hc:=zzx HT_);refine zzp 22 46 (zzb 23 8388607) ?_ (hc:=zzx HT_)
       (refine done_ (done_of HT_.out (by kernel_rfl)) ?_;try go_wp2);go_roundg k1
       case measure=>have:=HK1.out;omega
       case rel=>exact ⟨(wrap64 (x9_1 + 1)),zq91,H',⟨zq98⟩,⟨zzi BK0⟩,⟨zzi BK1⟩,⟨zzh⟩⟩
    ·rw [if_neg c8] at H
     exact absurd H (by simp)
   ·rw [if_neg c7] at H
    have c7b0:decide (x9_1 < (l0.length:Int)) = false:=decide_eq_false c7;clear c7;obtain rfl:=Option.some.inj H;go_wp2;go_ret;exact ⟨zq84,zzh⟩



def spec_l16Rest.l0:Nat → List (List (S48)) → Int → Int → Int → Option (Bool)
 | 0,_,_,_,_=>none
 | k + 1,x0,x2,x1,x3=>if x2 ≤ 24 then ((spec_l16Clear.f k x0 x1 x3 x1 x3 x2).bind fun t0=>(if t0 = true then (spec_l16Rest.l0 k x0 (wrap64 (x2 + 1)) x1 x3) else (some false))) else (some true)
def spec_l16Rest.f (k:Nat) (l0:List (List (S48))) (a1_0:Int) (a1_1:Int) (a2:Int):Option (Bool):=spec_l16Rest.l0 k l0 a2 a1_0 a1_1
theorem spec_l16Rest.calls (k:Nat) (A0:Option Addr) (c0:Nat) (l0:List (List (S48))) (a1_0:Int) (a1_1:Int) (a2:Int) (r:Bool) (w:World) (hr0:Kd.C (Kd.slice 48 k48) w A0 l0.length l0) (hc0:l0.length ≤ c0) (h:spec_l16Rest.f k l0 a1_0 a1_1 a2 = some r) :
  Calls Try.prog 90 #[.slice A0 l0.length c0,.agg #[.int .i64 a1_0,.int .i64 a1_1],.int .i64 a2] w fun e w'=>e = .returned (.bool r) ∧ Below w.heap.size w w':=by
 have hu48:=Try.underlying48;have HR0:=zM hr0;have HC0:=zM hc0;clear hr0 hc0;have HB:=zM (Below.refl w.heap.size w);have H:(spec_l16Rest.l0 k l0 a2 a1_0 a1_1) = some r:=h;clear h;have H':=zM H;clear H;go_enter Try.func90,Try.ntmps90;go_wp2_with (first|((with_reducible refine gate_dst (N:=4) rfl ?_);refine zzc 4 #[.int .i64 a1_0,.int .i64 a1_1] 48 ?_;intro gb0 hg w4 hbox hb;have BK0:= zM (hbox);have GW0:= zM ((zq94:w.heap.size ≤ gb0));have GE0:= zM ((zq94:w.heap.size ≤ gb0));replace HB:= zM (zQ zzh hb);clear hb hbox hg));go_loopg [2] k (fun kq v2 w' => ∃ (x2_1:Int),v2 = .int .i64 x2_1 ∧ Aside0 (spec_l16Rest.l0 kq l0 x2_1 a1_0 a1_1 = some r) ∧ Aside0 (kq ≤ k) ∧ Aside0 (w'.heap[gb0]? = some (.cells #[.int .i64 a1_0,.int .i64 a1_1] 48 (0,0))) ∧ Aside0 (Below w.heap.size w w'))
 case atStart=>exact ⟨(a2),zq91,H',⟨Nat.le_refl _⟩,⟨zzi BK0⟩,⟨zzh⟩⟩
 case round =>
  clear H';(try clear p2);obtain ⟨x2_1,rfl,HA,HK1,BK0,HB⟩:=hrel;cases gk with
  | zero=>exact absurd HA.out (by simp [spec_l16Rest.l0])
  | succ k1 =>
   have H:=HA.out;clear HA;simp only [spec_l16Rest.l0] at H;by_cases c5:x2_1 ≤ 24
   ·rw [if_pos c5] at H
    have c5b0:decide (x2_1 ≤ 24) = true:=decide_eq_true c5;clear c5;replace H:=Option.bind_eq_some_iff.mp H;obtain ⟨t1,A60,H⟩:=H;replace H:(if t1 = true then (spec_l16Rest.l0 k1 l0 (wrap64 (x2_1 + 1)) a1_0 a1_1) else (some false)) = some r:=H;have A6:=zM A60;clear A60;by_cases c7:t1 = true
    ·subst c7
     (have H1:(spec_l16Rest.l0 k1 l0 (wrap64 (x2_1 + 1)) a1_0 a1_1) = some r:=by rw [if_pos rfl] at H;exact H);clear H;have H:=H1;clear H1;have H':=zM H;clear H;have hcz8_0:=zz0 BK0;have hcz8_1:=zz1 BK0;have hfz8_0:=blk_frozen BK0.out 0;have hfz8_1:=blk_frozen BK0.out 1;go_wp2_with (first|((with_reducible refine gate_callee (f:=91) rfl ?_);refine goesL_ (some 15) rfl rfl Try.func91 (by kernel_rfl) rfl #[.slice A0 l0.length c0,.agg #[.int .i64 a1_0,.int .i64 a1_1],.agg #[.int .i64 a1_0,.int .i64 a1_1],.int .i64 x2_1] rfl zq77 ?_;(with_reducible refine (spec_l16Clear.calls k1 _ _ l0 a1_0 a1_1 a1_0 a1_1 x2_1 true _ ?side1 ?side2 A6.out).mono ?_);(case side1=>repeat (first|exact (zO HR0.out HB.out)|(with_reducible first|refine zG ?_ _|refine zH ?_ _|refine zI ?_)));(case side2=>exact HC0.out);rintro e w9 ⟨rfl,hb⟩;refine ⟨_,rfl,?_⟩;replace BK0:= zM (blk_below (zzi BK0) hb);replace HB:= zM (zQ zzh hb);(try clear hb);(try clear hb2);(try clear hk);(try clear hi)));go_roundg k1
     case measure=>have:=HK1.out;omega
     case rel=>exact ⟨(wrap64 (x2_1 + 1)),zq91,H',⟨zq98⟩,⟨zzi BK0⟩,⟨zzh⟩⟩
    ·replace c7:=Bool.eq_false_iff.mpr c7
     subst c7;have H1:(some false) = some r:=by rw [if_neg (show ¬ (false = true) by decide)] at H;exact H
     clear H;have H:=H1;clear H1;obtain rfl:=Option.some.inj H;have hcz10_0:=zz0 BK0;have hcz10_1:=zz1 BK0;have hfz10_0:=blk_frozen BK0.out 0;have hfz10_1:=blk_frozen BK0.out 1;go_wp2_with (first|((with_reducible refine gate_callee (f:=91) rfl ?_);refine goesL_ (some 15) rfl rfl Try.func91 (by kernel_rfl) rfl #[.slice A0 l0.length c0,.agg #[.int .i64 a1_0,.int .i64 a1_1],.agg #[.int .i64 a1_0,.int .i64 a1_1],.int .i64 x2_1] rfl zq77 ?_;(with_reducible refine (spec_l16Clear.calls k1 _ _ l0 a1_0 a1_1 a1_0 a1_1 x2_1 false _ ?side1 ?side2 A6.out).mono ?_);(case side1=>repeat (first|exact (zO HR0.out HB.out)|(with_reducible first|refine zG ?_ _|refine zH ?_ _|refine zI ?_)));(case side2=>exact HC0.out);rintro e w11 ⟨rfl,hb⟩;refine ⟨_,rfl,?_⟩;replace BK0:= zM (blk_below (zzi BK0) hb);replace HB:= zM (zQ zzh hb);(try clear hb);(try clear hb2);(try clear hk);(try clear hi)));go_ret;exact ⟨zq84,zzh⟩
   ·rw [if_neg c5] at H
    have c5b0:decide (x2_1 ≤ 24) = false:=decide_eq_false c5;clear c5;obtain rfl:=Option.some.inj H;go_wp2;go_ret;exact ⟨zq84,zzh⟩



attribute [local go_sem high] eqA48
def spec_l16Has.l0:Nat → List (S48) → Int → Int → Int → Option (Bool)
 | 0,_,_,_,_=>none
 | k + 1,x0,x5,x1,x2=>if x5 < (x0.length:Int) then (if 0 ≤ x5 then (if (((rd_T48 x0 x5).f0) == x1 && (((rd_T48 x0 x5).f1) == x2)) = true then (some true) else (spec_l16Has.l0 k x0 (wrap64 (x5 + 1)) x1 x2)) else (none)) else (some false)
def spec_l16Has.f (k:Nat) (l0:List (S48)) (a1_0:Int) (a1_1:Int):Option (Bool):=spec_l16Has.l0 k l0 0 a1_0 a1_1
theorem spec_l16Has.calls (k:Nat) (A0:Option Addr) (c0:Nat) (l0:List (S48)) (a1_0:Int) (a1_1:Int) (r:Bool) (w:World) (hr0:Kd.C k48 w A0 l0.length l0) (hc0:l0.length ≤ c0) (h:spec_l16Has.f k l0 a1_0 a1_1 = some r) :
  Calls Try.prog 89 #[.slice A0 l0.length c0,.agg #[.int .i64 a1_0,.int .i64 a1_1]] w fun e w'=>e = .returned (.bool r) ∧ Below w.heap.size w w':=by
 (have hu48:=Try.underlying48;have HR0:=zM hr0;have HC0:=zM hc0;clear hr0 hc0;have HB:=zM (Below.refl w.heap.size w);have H:(spec_l16Has.l0 k l0 0 a1_0 a1_1) = some r:=h;clear h;have H':=zM H;clear H;go_enter Try.func89,Try.ntmps89;go_wp2_with (first|((with_reducible refine gate_dst (N:=3) rfl ?_);refine zzc 3 #[.int .i64 a1_0,.int .i64 a1_1] 48 ?_;intro gb0 hg w3 hbox hb;have BK0:= zM (hbox);have GW0:= zM ((zq94:w.heap.size ≤ gb0));have GE0:= zM ((zq94:w.heap.size ≤ gb0));replace HB:= zM (zQ zzh hb);clear hb hbox hg));repeat (go_quiet (first|((with_reducible refine gate_dst (N:=3) rfl ?_);refine zzc 3 #[.int .i64 a1_0,.int .i64 a1_1] 48 ?_;intro gb0 hg w3 hbox hb;have BK0:= zM (hbox);have GW0:= zM ((zq94:w.heap.size ≤ gb0));have GE0:= zM ((zq94:w.heap.size ≤ gb0));replace HB:= zM (zQ zzh hb);clear hb hbox hg));try go_wp2_with (first|((with_reducible refine gate_dst (N:=3) rfl ?_);refine zzc 3 #[.int .i64 a1_0,.int .i64 a1_1] 48 ?_;intro gb0 hg w3 hbox hb;have BK0:= zM (hbox);have GW0:= zM ((zq94:w.heap.size ≤ gb0));have GE0:= zM ((zq94:w.heap.size ≤ gb0));replace HB:= zM (zQ zzh hb);clear hb hbox hg))));go_loopg [5] k (fun kq v5 w' => ∃ (x5_1:Int),v5 = .int .i64 x5_1 ∧ Aside0 (spec_l16Has.l0 kq l0 x5_1 a1_0 a1_1 = some r) ∧ Aside0 (kq ≤ k) ∧ Aside0 (w'.heap[gb0]? = some (.cells #[.int .i64 a1_0,.int .i64 a1_1] 48 (0,0))) ∧ Aside0 (Below w.heap.size w w'))
 case atStart=>exact ⟨(0),zq91,H',⟨Nat.le_refl _⟩,⟨zzi BK0⟩,⟨zzh⟩⟩
 case round =>
  clear H';(try clear p2);obtain ⟨x5_1,rfl,HA,HK1,BK0,HB⟩:=hrel;cases gk with
  | zero=>exact absurd HA.out (by simp [spec_l16Has.l0])
  | succ k1 =>
   have H:=HA.out;clear HA;simp only [spec_l16Has.l0] at H;by_cases c4:x5_1 < (l0.length:Int)
   ·rw [if_pos c4] at H
    have c4b0:decide (x5_1 < (l0.length:Int)) = true:=decide_eq_true c4;clear c4;by_cases c5:0 ≤ x5_1
    ·rw [if_pos c5] at H
     have c5b0:decide (0 ≤ x5_1) = true:=decide_eq_true c5;clear c5;by_cases c6:(((rd_T48 l0 x5_1).f0) == a1_0 && (((rd_T48 l0 x5_1).f1) == a1_1)) = true
     ·rw [if_pos c6] at H
      (have c6b0:(((rd_T48 l0 x5_1).f0) == a1_0 && (((rd_T48 l0 x5_1).f1) == a1_1)) = true:=c6;(try (have c6b1:decide (((rd_T48 l0 x5_1).f0) = a1_0 && (((rd_T48 l0 x5_1).f1) == a1_1)) = true:=by simpa using c6));(try (have c6b2:(((rd_T48 l0 x5_1).f0) == a1_0 && (((rd_T48 l0 x5_1).f1) == a1_1)) = true:=by simpa using c6));clear c6;obtain rfl:=Option.some.inj H;have p1:0 ≤ (x5_1:Int):=zzd;have q1:x5_1 < (l0.length:Int):=zzd;obtain ⟨ad1,e1,hx1_0,hx1_1⟩:=at_T48 HR0.out x5_1 p1 q1;cases e1;replace hx1_0:=zS HB.out hx1_0;replace hx1_1:=zS HB.out hx1_1;replace p1:=eq_true p1;replace q1:=eq_true q1;have hcz7_0:=zz0 BK0;have hcz7_1:=zz1 BK0;have hfz7_0:=blk_frozen BK0.out 0;have hfz7_1:=blk_frozen BK0.out 1;go_wp2;repeat (go_quiet (fail);try go_wp2));go_ret;exact ⟨zq84,zzh⟩
     ·rw [if_neg c6] at H
      (have c6b0:(((rd_T48 l0 x5_1).f0) == a1_0 && (((rd_T48 l0 x5_1).f1) == a1_1)) = false:=by simpa using c6);(try (have c6b1:decide (((rd_T48 l0 x5_1).f0) = a1_0 && (((rd_T48 l0 x5_1).f1) == a1_1)) = false:=by simpa using c6));(try (have c6b2:(((rd_T48 l0 x5_1).f0) == a1_0 && (((rd_T48 l0 x5_1).f1) == a1_1)) = false:=by simpa using c6));(try (have c6b3:¬ (((rd_T48 l0 x5_1).f0) = a1_0 && (((rd_T48 l0 x5_1).f1) == a1_1)):=by simpa using c6));clear c6;have H':=zM H;clear H;have p1:0 ≤ (x5_1:Int):=zzd;have q1:x5_1 < (l0.length:Int):=zzd;obtain ⟨ad1,e1,hx1_0,hx1_1⟩:=at_T48 HR0.out x5_1 p1 q1;cases e1;replace hx1_0:=zS HB.out hx1_0;replace hx1_1:=zS HB.out hx1_1;replace p1:=eq_true p1;replace q1:=eq_true q1;have hcz8_0:=zz0 BK0;have hcz8_1:=zz1 BK0;have hfz8_0:=blk_frozen BK0.out 0;have hfz8_1:=blk_frozen BK0.out 1;go_wp2;repeat (go_quiet (fail);try go_wp2)
      go_roundg k1
      case measure=>have:=HK1.out;omega
      case rel=>exact ⟨(wrap64 (x5_1 + 1)),zq91,H',⟨zq98⟩,⟨zzi BK0⟩,⟨zzh⟩⟩
    ·rw [if_neg c5] at H
     exact absurd H (by simp)
   ·rw [if_neg c4] at H
    (have c4b0:decide (x5_1 < (l0.length:Int)) = false:=decide_eq_false c4;clear c4;obtain rfl:=Option.some.inj H;go_wp2;repeat (go_quiet (fail);try go_wp2));go_ret;exact ⟨zq84,zzh⟩

end Go.Proofs.Ytbpccdbkaiigcaa.G

/- What l16Clear, l16Rest and l16Has answer. -/
namespace Go.Proofs.Ytbpccdbkaiigcaa.G
open Go.RowKit Go.Proofs.YtbpccdbkaiigcaaW.PrintWords Go.Proofs.YtbpccdbkaiigcaaW.PrintLast
def bits (n k : Nat) : Array Bool:=((List.range n).map (Nat.testBit k)).toArray
theorem rd6_mem {os : List (List S48)} {i : Int} (h0 : 0 ≤ i) (h1 : i < (os.length : Int)) : rd_L6 os i ∈ os:=by
 unfold rd_L6;rw [List.getD_eq_getElem?_getD,List.getElem?_eq_getElem (by omega)];exact List.getElem_mem _
theorem mem_rd6 {os : List (List S48)} {p : List S48} (h : p ∈ os) : ∃ i : Int,0 ≤ i ∧ i < (os.length : Int) ∧ rd_L6 os i = p:=by
 obtain ⟨i,hi,e⟩:=List.mem_iff_getElem.1 h;refine ⟨(i : Int),by omega,by omega,?_⟩;unfold rd_L6;rw [Int.toNat_natCast,List.getD_eq_getElem?_getD,List.getElem?_eq_getElem hi];exact e
def Hit1 (p : List S48) (a b : S48) (t : Int) : Prop:=cat p t = b ∨ (0 < t ∧ cat p t = a ∧ cat p (t - 1) = b)
theorem hitAt_all {os : List (List S48)} {a b : S48} {t : Int} : All (fun j => ¬ Hit1 (rd_L6 os j) a b t) 0 (os.length : Int) ↔ ¬ HitAt os a b t:=by
 constructor
 ·rintro h ⟨p,hp,hh⟩
  obtain ⟨i,h0,h1,rfl⟩:=mem_rd6 hp;exact h i h0 h1 hh
 ·intro h i h0 h1 hh
  exact h ⟨_,rd6_mem h0 h1,hh⟩
theorem eq_bool (a b : S48) : (a.f0 == b.f0 && (a.f1 == b.f1)) = true ↔ a = b:=(eqc_bool a b).trans eqc_iff
def Len (os : List (List S48)) : Prop:=(os.length : Int) ≤ 1099511627776 ∧ ∀ p ∈ os,1 ≤ (p.length : Int) ∧ (p.length : Int) ≤ 25
theorem spec_clear {os : List (List S48)} (ho : Len os) (a b : S48) (t : Int) (h0 : 0 ≤ t) (h1 : t ≤ 30) : Ev (fun k=>spec_l16Clear.f k os a.f0 a.f1 b.f0 b.f1 t) (chk (HitAt os a b t) false true):=by
 unfold spec_l16Clear.f;have hl:=ho.1
 have main:=Ev.check (fun k i=>spec_l16Clear.l0 k os t i a.f0 a.f1 b.f0 b.f1) (os.length : Int) (fun j => ¬ Hit1 (rd_L6 os j) a b t) true false 0 (by
  refine Ev.step (fun k=>by rw [spec_l16Clear.l0]) ?_;simp only [Int.lt_irrefl,if_false]
  exact Ev.now _) (by
  intro i i0 hlt r hr;have hp:=ho.2 _ (rd6_mem i0 hlt);refine Ev.step (fun k=>by rw [spec_l16Clear.l0]) ?_;simp (disch:=omega) only [if_pos];rw [spec_cat _ hp.1 hp.2 t h0];simp only [Option.bind_some];rw [wrap64_id (x:=i + 1) (by omega) (by omega)];refine Ev.ite (fun e1=>?_) (fun e1=>?_)
  ·rw [chk_neg (fun m=>m (Or.inl ((eq_bool _ _).1 e1)))];exact Ev.now _
  ·have e1:=fun m=>e1 ((eq_bool (cat (rd_L6 os i) t) b).2 m)
   refine Ev.ite (fun g=>?_) (fun g=>?_)
   ·refine Ev.ite (fun e2=>?_) (fun e2=>?_)
    ·have e2:=(eq_bool (cat (rd_L6 os i) t) a).1 e2
     rw [wrap64_id (x:=t - 1) (by omega) (by omega),spec_cat _ hp.1 hp.2 (t - 1) (by omega)];simp only [Option.bind_some];refine Ev.ite (fun e3=>?_) (fun e3=>?_)
     ·have e3:=(eq_bool (cat (rd_L6 os i) (t - 1)) b).1 e3
      rw [chk_neg (fun m=>m (Or.inr ⟨g,e2,e3⟩))];exact Ev.now _
     ·have e3:=fun m=>e3 ((eq_bool (cat (rd_L6 os i) (t - 1)) b).2 m)
      rw [chk_pos (fun m=>m.elim e1 (fun m=>e3 m.2.2))];exact hr
    ·have e2:=fun m=>e2 ((eq_bool (cat (rd_L6 os i) t) a).2 m)
     rw [chk_pos (fun m=>m.elim e1 (fun m=>e2 m.2.1))];exact hr
   ·rw [chk_pos (fun m=>m.elim e1 (fun m=>g m.1))];exact hr) 0 (by omega) (by omega)
 refine Ev.eq main ?_;by_cases hh : HitAt os a b t
 ·rw [chk_pos hh,chk_neg (fun m=>hitAt_all.1 m hh)]
 ·rw [chk_neg hh,chk_pos (hitAt_all.2 hh)]
theorem spec_rest {os : List (List S48)} (ho : Len os) (b : S48) (t : Nat) (h1 : t ≤ 25) : Ev (fun k=>spec_l16Rest.f k os b.f0 b.f1 (t : Int)) (chk (Rest os b t) true false):=by
 unfold spec_l16Rest.f
 have main:=Ev.check (fun k i=>spec_l16Rest.l0 k os i b.f0 b.f1) 25 (fun j => ¬ HitAt os b b j) true false 0 (by
  refine Ev.step (fun k=>by rw [spec_l16Rest.l0]) ?_;simp (disch:=omega) only [if_neg]
  exact Ev.now _) (by
  intro i i0 hlt r hr;refine Ev.step (fun k=>by rw [spec_l16Rest.l0]) ?_;simp (disch:=omega) only [if_pos (show i ≤ 24 by omega)];refine Ev.bind (spec_clear ho b b i i0 (by omega)) ?_;rw [wrap64_id (x:=i + 1) (by omega) (by omega)];by_cases hh : HitAt os b b i
  ·rw [chk_pos hh,chk_neg (fun m=>m hh)];exact Ev.now _
  ·rw [chk_neg hh,chk_pos hh];exact hr) (t : Int) (by omega) (by omega)
 refine Ev.eq main (chk_congr (p:=All (fun j => ¬ HitAt os b b j) (t : Int) 25) (q:=Rest os b t) ⟨fun a s s0 s1=>a (s : Int) (by omega) (by omega),fun a i i0 i1=>?_⟩ _ _);have:=a i.toNat (by omega) (by omega);rwa [Int.toNat_of_nonneg (by omega)] at this
theorem spec_has (l : List S48) (hl : (l.length : Int) ≤ 1099511627776) (c : S48) : Ev (fun k=>spec_l16Has.f k l c.f0 c.f1) (chk (c ∈ l) true false):=by
 unfold spec_l16Has.f
 have h:=Ev.check (fun k i=>spec_l16Has.l0 k l i c.f0 c.f1) (l.length : Int) (fun j => ¬ rd_T48 l j = c) false true 0 (by
  refine Ev.step (fun k=>by rw [spec_l16Has.l0]) ?_;simp only [Int.lt_irrefl,if_false]
  exact Ev.now _) (by
  intro i h0 hlt r hr;refine Ev.step (fun k=>by rw [spec_l16Has.l0]) ?_;simp (disch:=omega) only [if_pos,wrap64_id];refine Ev.ite (fun g=>?_) (fun g=>?_)
  ·rw [chk_neg (fun m=>m ((eq_bool _ _).1 g))];exact Ev.now _
  ·rw [chk_pos (fun m=>g ((eq_bool _ _).2 m))];exact hr) 0 (by omega) (by omega)
 refine Ev.eq h ?_;by_cases ha : c ∈ l
 ·rw [chk_pos ha,chk_neg (fun m=>?_)]
  obtain ⟨i,hi,e⟩:=List.mem_iff_getElem.1 ha;refine m (i : Int) (by omega) (by omega) ?_;unfold rd_T48;rw [Int.toNat_natCast,List.getD_eq_getElem?_getD,List.getElem?_eq_getElem hi];exact e
 ·rw [chk_neg ha,chk_pos (show All (fun j => ¬ rd_T48 l j = c) 0 (l.length : Int) from fun i h0 h1 (e : rd_T48 l i = c)=>ha (by rw [← e];exact mem48 l i h0 h1))]
end Go.Proofs.Ytbpccdbkaiigcaa.G
