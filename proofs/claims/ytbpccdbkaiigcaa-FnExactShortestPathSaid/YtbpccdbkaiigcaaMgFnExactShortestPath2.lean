/- Texts of the proof of FnExactShortestPath, joined in build order. -/
import Derived.Test.YtbpccdbkaiigcaaMgFnExactShortestPath1
import Derived.IntWalk
import Derived.DeepKeys4
import Derived.Maps.OwnOps
import Derived.Maps.OwnSet
import Derived.Maps.RangeWalk
-- Written by wip/tools/gen.py out of the translation (the kit's printer, one namespace a seat). Lean checks it.
namespace Go.Proofs.Ytbpccdbkaiigcaa.G
open Go.RowKit Go.Proofs.YtbpccdbkaiigcaaW.PrintWords Go.Proofs.YtbpccdbkaiigcaaW.PrintLast Go.Proofs.YtbpccdbkaiigcaaW.PrintMore
attribute [local go_sem] max2_int min2_int max_two min_two max_three min_three max_four min_four   -- for this text's walks alone
set_option linter.unusedVariables false
set_option linter.unusedSimpArgs false

/-! ### spec_l16Free: function 82 -/
def spec_l16Free.f (k:Nat) (a0_0:Int) (a0_1:Int) (l0_2:List (S48)) (a1_0:Int) (a1_1:Int):Option (Bool):=(spec_l16Inside.f a0_0 a0_1 l0_2 a1_0 a1_1).bind fun t182=>(if t182 = true then ((spec_l16Blocked.f k a0_0 a0_1 l0_2 a1_0 a1_1).bind fun t183=>(some (!t183))) else (some false))
set_option maxHeartbeats 8000000 in
set_option maxRecDepth 100000 in
theorem spec_l16Free.calls (k:Nat) (a0_0:Int) (a0_1:Int) (A0_2:Option Addr) (c0_2:Nat) (l0_2:List (S48)) (a1_0:Int) (a1_1:Int) (r:Bool) (w:World) (hr0_2:Kd.C k48 w A0_2 l0_2.length l0_2) (hc0_2:l0_2.length ≤ c0_2) (h:spec_l16Free.f k a0_0 a0_1 l0_2 a1_0 a1_1 = some r) :
  Calls Try.prog 82 #[.agg #[.int .i64 a0_0,.int .i64 a0_1,.slice A0_2 l0_2.length c0_2],.agg #[.int .i64 a1_0,.int .i64 a1_1]] w fun e w'=>e = .returned (.bool r) ∧ Below w.heap.size w w':=by
 have hu29:=Try.underlying29;have hu48:=Try.underlying48;have HR0_2:=zM hr0_2;have HC0_2:=zM hc0_2;clear hr0_2 hc0_2;have HB:=zM (Below.refl w.heap.size w);have H:((spec_l16Inside.f a0_0 a0_1 l0_2 a1_0 a1_1).bind fun t182=>(if t182 = true then ((spec_l16Blocked.f k a0_0 a0_1 l0_2 a1_0 a1_1).bind fun t183=>(some (!t183))) else (some false))) = some r:=h
 clear h;replace H:=Option.bind_eq_some_iff.mp H;obtain ⟨t182,A30,H⟩:=H;replace H:(if t182 = true then ((spec_l16Blocked.f k a0_0 a0_1 l0_2 a1_0 a1_1).bind fun t183=>(some (!t183))) else (some false)) = some r:=H
 have A3:=zM A30;clear A30;by_cases c4:t182 = true
 ·subst c4
  have H1:((spec_l16Blocked.f k a0_0 a0_1 l0_2 a1_0 a1_1).bind fun t183=>(some (!t183))) = some r:=by rw [if_pos rfl] at H;exact H
  clear H;have H:=H1;clear H1;replace H:=Option.bind_eq_some_iff.mp H;obtain ⟨t183,A50,H⟩:=H;replace H:(some (!t183)) = some r:=H
  have A5:=zM A50;clear A50;obtain rfl:=Option.some.inj H;go_enter Try.func82,Try.ntmps82
  go_wp2_with (first|((with_reducible refine gate_dst (N:=2) rfl ?_);refine box_event ?hg (N:=2) ?hd (cs := #[.int .i64 a0_0,.int .i64 a0_1,.slice A0_2 l0_2.length c0_2]) (t:=29) ?hr ?_;(case hd=>rfl);(case hg=>rfl);(case hr=>first|(go_simp;done)|(go_simp;rfl));intro gb180 hg w6 hbox hb;have n0_:=zM (zQ (by repeat (first|(with_reducible first|exact HB.out|apply zD|apply zE|apply zF)|exact HB.out)) hb);have n1_:=zM (hbox);have n2_:=zM ((by rw [hg];exact (zR (by repeat (first|(with_reducible first|exact HB.out|apply zD|apply zE|apply zF)|exact HB.out))):w.heap.size ≤ gb180));have n3_:=zM ((by rw [hg];exact (zR (by repeat (first|(with_reducible first|exact HB.out|apply zD|apply zE|apply zF)|exact HB.out))):w.heap.size ≤ gb180));clear HB;have HB:=n0_;have BK180:=n1_;have GW180:=n2_;have GE180:=n3_;clear n0_ n1_ n2_ n3_;clear hb hbox hg)|((with_reducible refine gate_dst (N:=3) rfl ?_);refine box_event ?hg (N:=3) ?hd (cs := #[.int .i64 a1_0,.int .i64 a1_1]) (t:=48) ?hr ?_;(case hd=>rfl);(case hg=>rfl);(case hr=>first|(go_simp;done)|(go_simp;rfl));intro gb181 hg w7 hbox hb;have n0_:=zM (blk_below (g:=gb180) (o := .cells #[.int .i64 a0_0,.int .i64 a0_1,.slice A0_2 l0_2.length c0_2] 29 (0,0)) (by (with_reducible repeat (first|refine zJ ?_ _|refine zK ?_|refine zL ?_ _));exact BK180.out) hb);have n1_:=zM (zQ (by repeat (first|(with_reducible first|exact HB.out|apply zD|apply zE|apply zF|refine below_set ?_ GE180.out)|exact HB.out)) hb);have n2_:=zM (hbox);have n3_:=zM ((by rw [hg];exact (zR (by repeat (first|(with_reducible first|exact HB.out|apply zD|apply zE|apply zF|refine below_set ?_ GE180.out)|exact HB.out))):w.heap.size ≤ gb181));have n4_:=zM ((by rw [hg];exact (zR (by repeat (first|(with_reducible first|exact HB.out|apply zD|apply zE|apply zF|refine below_set ?_ GE180.out)|exact HB.out))):w.heap.size ≤ gb181));have n5_:=zM ((by rw [hg];exact Nat.ne_of_lt (blk_lt (g:=gb180) (o := .cells #[.int .i64 a0_0,.int .i64 a0_1,.slice A0_2 l0_2.length c0_2] 29 (0,0)) (by (with_reducible repeat (first|refine zJ ?_ _|refine zK ?_|refine zL ?_ _));exact BK180.out)):gb180 ≠ gb181));have n6_:=zM ((by rw [hg];exact Nat.ne_of_gt (blk_lt (g:=gb180) (o := .cells #[.int .i64 a0_0,.int .i64 a0_1,.slice A0_2 l0_2.length c0_2] 29 (0,0)) (by (with_reducible repeat (first|refine zJ ?_ _|refine zK ?_|refine zL ?_ _));exact BK180.out)):gb181 ≠ gb180));clear BK180;clear HB;have BK180:=n0_;have HB:=n1_;have BK181:=n2_;have GW181:=n3_;have GE181:=n4_;have NB180_181:=n5_;have NB181_180:=n6_;clear n0_ n1_ n2_ n3_ n4_ n5_ n6_;clear hb hbox hg;have hnb8:=NB180_181.out;have hnc8:=NB181_180.out;have hcz9_0:w7.cell? ⟨gb180,0,none⟩ = some (.int .i64 a0_0):=(blk_cell BK180.out 0).trans rfl;have hcz9_1:w7.cell? ⟨gb180,1,none⟩ = some (.int .i64 a0_1):=(blk_cell BK180.out 1).trans rfl;have hcz9_2:w7.cell? ⟨gb180,2,none⟩ = some (.slice A0_2 l0_2.length c0_2):=(blk_cell BK180.out 2).trans rfl;have hfz9_0:=blk_frozen BK180.out 0;have hfz9_1:=blk_frozen BK180.out 1;have hfz9_2:=blk_frozen BK180.out 2;have hcz10_0:w7.cell? ⟨gb181,0,none⟩ = some (.int .i64 a1_0):=(blk_cell BK181.out 0).trans rfl;have hcz10_1:w7.cell? ⟨gb181,1,none⟩ = some (.int .i64 a1_1):=(blk_cell BK181.out 1).trans rfl;have hfz10_0:=blk_frozen BK181.out 0;have hfz10_1:=blk_frozen BK181.out 1)|((with_reducible refine gate_callee (f:=81) rfl ?_);refine goesL_ (some 7) rfl rfl Try.func81 (by kernel_rfl) rfl #[.agg #[.int .i64 a0_0,.int .i64 a0_1,.slice A0_2 l0_2.length c0_2],.agg #[.int .i64 a1_0,.int .i64 a1_1]] rfl (by (try simp only [List.map_toArray,List.map_cons,List.map_nil]);first|done|rfl|(simp only [List.length_drop,List.length_take];rfl)) ?_;(with_reducible refine (spec_l16Inside.calls a0_0 a0_1 _ _ l0_2 a1_0 a1_1 true _ ?side1 ?side2 A3.out).mono ?_);(case side1=>repeat (first|exact (zO HR0_2.out HB.out)|(with_reducible first|refine zG ?_ _|refine zH ?_ _|refine zI ?_)));(case side2=>exact HC0_2.out);rintro e w11 ⟨rfl,hb⟩;refine ⟨_,rfl,?_⟩;have n0_:=zM (blk_below (g:=gb180) (o := .cells #[.int .i64 a0_0,.int .i64 a0_1,.slice A0_2 l0_2.length c0_2] 29 (0,0)) (by (with_reducible repeat (first|refine zJ ?_ _|refine zK ?_|refine zL ?_ _));exact BK180.out) hb);have n1_:=zM (blk_below (g:=gb181) (o := .cells #[.int .i64 a1_0,.int .i64 a1_1] 48 (0,0)) (by (with_reducible repeat (first|refine zJ ?_ _|refine zK ?_|refine zL ?_ _));exact BK181.out) hb);have n2_:=zM (zQ (by repeat (first|(with_reducible first|exact HB.out|apply zD|apply zE|apply zF|refine below_set ?_ GE180.out|refine below_set ?_ GE181.out)|exact HB.out)) hb);clear BK180;clear BK181;clear HB;have BK180:=n0_;have BK181:=n1_;have HB:=n2_;clear n0_ n1_ n2_;(try clear hb);(try clear hb2);(try clear hk);(try clear hi);have hcz12_0:w11.cell? ⟨gb180,0,none⟩ = some (.int .i64 a0_0):=(blk_cell BK180.out 0).trans rfl;have hcz12_1:w11.cell? ⟨gb180,1,none⟩ = some (.int .i64 a0_1):=(blk_cell BK180.out 1).trans rfl;have hcz12_2:w11.cell? ⟨gb180,2,none⟩ = some (.slice A0_2 l0_2.length c0_2):=(blk_cell BK180.out 2).trans rfl;have hfz12_0:=blk_frozen BK180.out 0;have hfz12_1:=blk_frozen BK180.out 1;have hfz12_2:=blk_frozen BK180.out 2;have hcz13_0:w11.cell? ⟨gb181,0,none⟩ = some (.int .i64 a1_0):=(blk_cell BK181.out 0).trans rfl;have hcz13_1:w11.cell? ⟨gb181,1,none⟩ = some (.int .i64 a1_1):=(blk_cell BK181.out 1).trans rfl;have hfz13_0:=blk_frozen BK181.out 0;have hfz13_1:=blk_frozen BK181.out 1)|(go_at_call 96;(with_reducible refine (spec_l16Blocked.calls k a0_0 a0_1 _ _ l0_2 a1_0 a1_1 t183 _ ?side1 ?side2 A5.out).mono ?_);(case side1=>repeat (first|exact (zO HR0_2.out HB.out)|(with_reducible first|refine zG ?_ _|refine zH ?_ _|refine zI ?_)));(case side2=>exact HC0_2.out);rintro e w14 ⟨rfl,hb⟩;have n0_:=zM (blk_below (g:=gb180) (o := .cells #[.int .i64 a0_0,.int .i64 a0_1,.slice A0_2 l0_2.length c0_2] 29 (0,0)) (by (with_reducible repeat (first|refine zJ ?_ _|refine zK ?_|refine zL ?_ _));exact BK180.out) hb);have n1_:=zM (blk_below (g:=gb181) (o := .cells #[.int .i64 a1_0,.int .i64 a1_1] 48 (0,0)) (by (with_reducible repeat (first|refine zJ ?_ _|refine zK ?_|refine zL ?_ _));exact BK181.out) hb);have n2_:=zM (zQ (by repeat (first|(with_reducible first|exact HB.out|apply zD|apply zE|apply zF|refine below_set ?_ GE180.out|refine below_set ?_ GE181.out)|exact HB.out)) hb);clear BK180;clear BK181;clear HB;have BK180:=n0_;have BK181:=n1_;have HB:=n2_;clear n0_ n1_ n2_;(try clear hb);(try clear hb2);(try clear hk);(try clear hi)))
  go_ret
  exact ⟨by first|rfl|(simp [errW_none,errW_some] <;> rfl)|(simp [*,errW_none,errW_some] <;> rfl),by repeat (first|(with_reducible first|exact HB.out|apply zD|apply zE|apply zF|refine below_set ?_ GE180.out|refine below_set ?_ GE181.out)|exact HB.out)⟩
 ·replace c4:=Bool.eq_false_iff.mpr c4
  subst c4;have H1:(some false) = some r:=by rw [if_neg (show ¬ (false = true) by decide)] at H;exact H
  clear H;have H:=H1;clear H1;obtain rfl:=Option.some.inj H;go_enter Try.func82,Try.ntmps82
  go_wp2_with (first|((with_reducible refine gate_dst (N:=2) rfl ?_);refine box_event ?hg (N:=2) ?hd (cs := #[.int .i64 a0_0,.int .i64 a0_1,.slice A0_2 l0_2.length c0_2]) (t:=29) ?hr ?_;(case hd=>rfl);(case hg=>rfl);(case hr=>first|(go_simp;done)|(go_simp;rfl));intro gb180 hg w15 hbox hb;have n0_:=zM (zQ (by repeat (first|(with_reducible first|exact HB.out|apply zD|apply zE|apply zF)|exact HB.out)) hb);have n1_:=zM (hbox);have n2_:=zM ((by rw [hg];exact (zR (by repeat (first|(with_reducible first|exact HB.out|apply zD|apply zE|apply zF)|exact HB.out))):w.heap.size ≤ gb180));have n3_:=zM ((by rw [hg];exact (zR (by repeat (first|(with_reducible first|exact HB.out|apply zD|apply zE|apply zF)|exact HB.out))):w.heap.size ≤ gb180));clear HB;have HB:=n0_;have BK180:=n1_;have GW180:=n2_;have GE180:=n3_;clear n0_ n1_ n2_ n3_;clear hb hbox hg)|((with_reducible refine gate_dst (N:=3) rfl ?_);refine box_event ?hg (N:=3) ?hd (cs := #[.int .i64 a1_0,.int .i64 a1_1]) (t:=48) ?hr ?_;(case hd=>rfl);(case hg=>rfl);(case hr=>first|(go_simp;done)|(go_simp;rfl));intro gb181 hg w16 hbox hb;have n0_:=zM (blk_below (g:=gb180) (o := .cells #[.int .i64 a0_0,.int .i64 a0_1,.slice A0_2 l0_2.length c0_2] 29 (0,0)) (by (with_reducible repeat (first|refine zJ ?_ _|refine zK ?_|refine zL ?_ _));exact BK180.out) hb);have n1_:=zM (zQ (by repeat (first|(with_reducible first|exact HB.out|apply zD|apply zE|apply zF|refine below_set ?_ GE180.out)|exact HB.out)) hb);have n2_:=zM (hbox);have n3_:=zM ((by rw [hg];exact (zR (by repeat (first|(with_reducible first|exact HB.out|apply zD|apply zE|apply zF|refine below_set ?_ GE180.out)|exact HB.out))):w.heap.size ≤ gb181));have n4_:=zM ((by rw [hg];exact (zR (by repeat (first|(with_reducible first|exact HB.out|apply zD|apply zE|apply zF|refine below_set ?_ GE180.out)|exact HB.out))):w.heap.size ≤ gb181));have n5_:=zM ((by rw [hg];exact Nat.ne_of_lt (blk_lt (g:=gb180) (o := .cells #[.int .i64 a0_0,.int .i64 a0_1,.slice A0_2 l0_2.length c0_2] 29 (0,0)) (by (with_reducible repeat (first|refine zJ ?_ _|refine zK ?_|refine zL ?_ _));exact BK180.out)):gb180 ≠ gb181));have n6_:=zM ((by rw [hg];exact Nat.ne_of_gt (blk_lt (g:=gb180) (o := .cells #[.int .i64 a0_0,.int .i64 a0_1,.slice A0_2 l0_2.length c0_2] 29 (0,0)) (by (with_reducible repeat (first|refine zJ ?_ _|refine zK ?_|refine zL ?_ _));exact BK180.out)):gb181 ≠ gb180));clear BK180;clear HB;have BK180:=n0_;have HB:=n1_;have BK181:=n2_;have GW181:=n3_;have GE181:=n4_;have NB180_181:=n5_;have NB181_180:=n6_;clear n0_ n1_ n2_ n3_ n4_ n5_ n6_;clear hb hbox hg;have hnb17:=NB180_181.out;have hnc17:=NB181_180.out;have hcz18_0:w16.cell? ⟨gb180,0,none⟩ = some (.int .i64 a0_0):=(blk_cell BK180.out 0).trans rfl;have hcz18_1:w16.cell? ⟨gb180,1,none⟩ = some (.int .i64 a0_1):=(blk_cell BK180.out 1).trans rfl;have hcz18_2:w16.cell? ⟨gb180,2,none⟩ = some (.slice A0_2 l0_2.length c0_2):=(blk_cell BK180.out 2).trans rfl;have hfz18_0:=blk_frozen BK180.out 0;have hfz18_1:=blk_frozen BK180.out 1;have hfz18_2:=blk_frozen BK180.out 2;have hcz19_0:w16.cell? ⟨gb181,0,none⟩ = some (.int .i64 a1_0):=(blk_cell BK181.out 0).trans rfl;have hcz19_1:w16.cell? ⟨gb181,1,none⟩ = some (.int .i64 a1_1):=(blk_cell BK181.out 1).trans rfl;have hfz19_0:=blk_frozen BK181.out 0;have hfz19_1:=blk_frozen BK181.out 1)|((with_reducible refine gate_callee (f:=81) rfl ?_);refine goesL_ (some 7) rfl rfl Try.func81 (by kernel_rfl) rfl #[.agg #[.int .i64 a0_0,.int .i64 a0_1,.slice A0_2 l0_2.length c0_2],.agg #[.int .i64 a1_0,.int .i64 a1_1]] rfl (by (try simp only [List.map_toArray,List.map_cons,List.map_nil]);first|done|rfl|(simp only [List.length_drop,List.length_take];rfl)) ?_;(with_reducible refine (spec_l16Inside.calls a0_0 a0_1 _ _ l0_2 a1_0 a1_1 false _ ?side1 ?side2 A3.out).mono ?_);(case side1=>repeat (first|exact (zO HR0_2.out HB.out)|(with_reducible first|refine zG ?_ _|refine zH ?_ _|refine zI ?_)));(case side2=>exact HC0_2.out);rintro e w20 ⟨rfl,hb⟩;refine ⟨_,rfl,?_⟩;have n0_:=zM (blk_below (g:=gb180) (o := .cells #[.int .i64 a0_0,.int .i64 a0_1,.slice A0_2 l0_2.length c0_2] 29 (0,0)) (by (with_reducible repeat (first|refine zJ ?_ _|refine zK ?_|refine zL ?_ _));exact BK180.out) hb);have n1_:=zM (blk_below (g:=gb181) (o := .cells #[.int .i64 a1_0,.int .i64 a1_1] 48 (0,0)) (by (with_reducible repeat (first|refine zJ ?_ _|refine zK ?_|refine zL ?_ _));exact BK181.out) hb);have n2_:=zM (zQ (by repeat (first|(with_reducible first|exact HB.out|apply zD|apply zE|apply zF|refine below_set ?_ GE180.out|refine below_set ?_ GE181.out)|exact HB.out)) hb);clear BK180;clear BK181;clear HB;have BK180:=n0_;have BK181:=n1_;have HB:=n2_;clear n0_ n1_ n2_;(try clear hb);(try clear hb2);(try clear hk);(try clear hi)))
  go_ret
  exact ⟨by first|rfl|(simp [errW_none,errW_some] <;> rfl)|(simp [*,errW_none,errW_some] <;> rfl),by repeat (first|(with_reducible first|exact HB.out|apply zD|apply zE|apply zF|refine below_set ?_ GE180.out|refine below_set ?_ GE181.out)|exact HB.out)⟩



/-! ### spec_l16Asked: function 63 -/
def spec_l16Asked.f (k:Nat) (a0_0:Int) (a0_1:Int) (l0_2:List (S48)) (a1_0:Int) (a1_1:Int) (a2_0:Int) (a2_1:Int):Option (Bool):=(spec_l16Good.f k a0_0 a0_1 l0_2).bind fun t380=>(if t380 = true then ((spec_l16Free.f k a0_0 a0_1 l0_2 a1_0 a1_1).bind fun t381=>(if t381 = true then ((spec_l16Free.f k a0_0 a0_1 l0_2 a2_0 a2_1).bind fun t382=>(some t382)) else (some false))) else (some false))
set_option maxHeartbeats 8000000 in
set_option maxRecDepth 100000 in
theorem spec_l16Asked.calls (k:Nat) (a0_0:Int) (a0_1:Int) (A0_2:Option Addr) (c0_2:Nat) (l0_2:List (S48)) (a1_0:Int) (a1_1:Int) (a2_0:Int) (a2_1:Int) (r:Bool) (w:World) (hr0_2:Kd.C k48 w A0_2 l0_2.length l0_2) (hc0_2:l0_2.length ≤ c0_2) (h:spec_l16Asked.f k a0_0 a0_1 l0_2 a1_0 a1_1 a2_0 a2_1 = some r) :
  Calls Try.prog 63 #[.agg #[.int .i64 a0_0,.int .i64 a0_1,.slice A0_2 l0_2.length c0_2],.agg #[.int .i64 a1_0,.int .i64 a1_1],.agg #[.int .i64 a2_0,.int .i64 a2_1]] w fun e w'=>e = .returned (.bool r) ∧ Below w.heap.size w w':=by
 have hu29:=Try.underlying29;have hu48:=Try.underlying48;have HR0_2:=zM hr0_2;have HC0_2:=zM hc0_2;clear hr0_2 hc0_2;have HB:=zM (Below.refl w.heap.size w);have H:((spec_l16Good.f k a0_0 a0_1 l0_2).bind fun t380=>(if t380 = true then ((spec_l16Free.f k a0_0 a0_1 l0_2 a1_0 a1_1).bind fun t381=>(if t381 = true then ((spec_l16Free.f k a0_0 a0_1 l0_2 a2_0 a2_1).bind fun t382=>(some t382)) else (some false))) else (some false))) = some r:=h
 clear h;replace H:=Option.bind_eq_some_iff.mp H;obtain ⟨t380,A40,H⟩:=H;replace H:(if t380 = true then ((spec_l16Free.f k a0_0 a0_1 l0_2 a1_0 a1_1).bind fun t381=>(if t381 = true then ((spec_l16Free.f k a0_0 a0_1 l0_2 a2_0 a2_1).bind fun t382=>(some t382)) else (some false))) else (some false)) = some r:=H
 have A4:=zM A40;clear A40;by_cases c5:t380 = true
 ·subst c5
  have H1:((spec_l16Free.f k a0_0 a0_1 l0_2 a1_0 a1_1).bind fun t381=>(if t381 = true then ((spec_l16Free.f k a0_0 a0_1 l0_2 a2_0 a2_1).bind fun t382=>(some t382)) else (some false))) = some r:=by rw [if_pos rfl] at H;exact H
  clear H;have H:=H1;clear H1;replace H:=Option.bind_eq_some_iff.mp H;obtain ⟨t381,A60,H⟩:=H;replace H:(if t381 = true then ((spec_l16Free.f k a0_0 a0_1 l0_2 a2_0 a2_1).bind fun t382=>(some t382)) else (some false)) = some r:=H
  have A6:=zM A60;clear A60;by_cases c7:t381 = true
  ·subst c7
   have H1:((spec_l16Free.f k a0_0 a0_1 l0_2 a2_0 a2_1).bind fun t382=>(some t382)) = some r:=by rw [if_pos rfl] at H;exact H
   clear H;have H:=H1;clear H1;replace H:=Option.bind_eq_some_iff.mp H;obtain ⟨t382,A80,H⟩:=H;replace H:(some t382) = some r:=H
   have A8:=zM A80;clear A80;obtain rfl:=Option.some.inj H;go_enter Try.func63,Try.ntmps63
   go_wp2_with (first|((with_reducible refine gate_dst (N:=3) rfl ?_);refine box_event ?hg (N:=3) ?hd (cs := #[.int .i64 a0_0,.int .i64 a0_1,.slice A0_2 l0_2.length c0_2]) (t:=29) ?hr ?_;(case hd=>rfl);(case hg=>rfl);(case hr=>first|(go_simp;done)|(go_simp;rfl));intro gb377 hg w9 hbox hb;have n0_:=zM (zQ (by repeat (first|(with_reducible first|exact HB.out|apply zD|apply zE|apply zF)|exact HB.out)) hb);have n1_:=zM (hbox);have n2_:=zM ((by rw [hg];exact (zR (by repeat (first|(with_reducible first|exact HB.out|apply zD|apply zE|apply zF)|exact HB.out))):w.heap.size ≤ gb377));have n3_:=zM ((by rw [hg];exact (zR (by repeat (first|(with_reducible first|exact HB.out|apply zD|apply zE|apply zF)|exact HB.out))):w.heap.size ≤ gb377));clear HB;have HB:=n0_;have BK377:=n1_;have GW377:=n2_;have GE377:=n3_;clear n0_ n1_ n2_ n3_;clear hb hbox hg)|((with_reducible refine gate_dst (N:=4) rfl ?_);refine box_event ?hg (N:=4) ?hd (cs := #[.int .i64 a1_0,.int .i64 a1_1]) (t:=48) ?hr ?_;(case hd=>rfl);(case hg=>rfl);(case hr=>first|(go_simp;done)|(go_simp;rfl));intro gb378 hg w10 hbox hb;have n0_:=zM (blk_below (g:=gb377) (o := .cells #[.int .i64 a0_0,.int .i64 a0_1,.slice A0_2 l0_2.length c0_2] 29 (0,0)) (by (with_reducible repeat (first|refine zJ ?_ _|refine zK ?_|refine zL ?_ _));exact BK377.out) hb);have n1_:=zM (zQ (by repeat (first|(with_reducible first|exact HB.out|apply zD|apply zE|apply zF|refine below_set ?_ GE377.out)|exact HB.out)) hb);have n2_:=zM (hbox);have n3_:=zM ((by rw [hg];exact (zR (by repeat (first|(with_reducible first|exact HB.out|apply zD|apply zE|apply zF|refine below_set ?_ GE377.out)|exact HB.out))):w.heap.size ≤ gb378));have n4_:=zM ((by rw [hg];exact (zR (by repeat (first|(with_reducible first|exact HB.out|apply zD|apply zE|apply zF|refine below_set ?_ GE377.out)|exact HB.out))):w.heap.size ≤ gb378));have n5_:=zM ((by rw [hg];exact Nat.ne_of_lt (blk_lt (g:=gb377) (o := .cells #[.int .i64 a0_0,.int .i64 a0_1,.slice A0_2 l0_2.length c0_2] 29 (0,0)) (by (with_reducible repeat (first|refine zJ ?_ _|refine zK ?_|refine zL ?_ _));exact BK377.out)):gb377 ≠ gb378));have n6_:=zM ((by rw [hg];exact Nat.ne_of_gt (blk_lt (g:=gb377) (o := .cells #[.int .i64 a0_0,.int .i64 a0_1,.slice A0_2 l0_2.length c0_2] 29 (0,0)) (by (with_reducible repeat (first|refine zJ ?_ _|refine zK ?_|refine zL ?_ _));exact BK377.out)):gb378 ≠ gb377));clear BK377;clear HB;have BK377:=n0_;have HB:=n1_;have BK378:=n2_;have GW378:=n3_;have GE378:=n4_;have NB377_378:=n5_;have NB378_377:=n6_;clear n0_ n1_ n2_ n3_ n4_ n5_ n6_;clear hb hbox hg)|((with_reducible refine gate_dst (N:=5) rfl ?_);refine box_event ?hg (N:=5) ?hd (cs := #[.int .i64 a2_0,.int .i64 a2_1]) (t:=48) ?hr ?_;(case hd=>rfl);(case hg=>rfl);(case hr=>first|(go_simp;done)|(go_simp;rfl));intro gb379 hg w11 hbox hb;have n0_:=zM (blk_below (g:=gb377) (o := .cells #[.int .i64 a0_0,.int .i64 a0_1,.slice A0_2 l0_2.length c0_2] 29 (0,0)) (by (with_reducible repeat (first|refine zJ ?_ _|refine zK ?_|refine zL ?_ _));exact BK377.out) hb);have n1_:=zM (blk_below (g:=gb378) (o := .cells #[.int .i64 a1_0,.int .i64 a1_1] 48 (0,0)) (by (with_reducible repeat (first|refine zJ ?_ _|refine zK ?_|refine zL ?_ _));exact BK378.out) hb);have n2_:=zM (zQ (by repeat (first|(with_reducible first|exact HB.out|apply zD|apply zE|apply zF|refine below_set ?_ GE377.out|refine below_set ?_ GE378.out)|exact HB.out)) hb);have n3_:=zM (hbox);have n4_:=zM ((by rw [hg];exact (zR (by repeat (first|(with_reducible first|exact HB.out|apply zD|apply zE|apply zF|refine below_set ?_ GE377.out|refine below_set ?_ GE378.out)|exact HB.out))):w.heap.size ≤ gb379));have n5_:=zM ((by rw [hg];exact (zR (by repeat (first|(with_reducible first|exact HB.out|apply zD|apply zE|apply zF|refine below_set ?_ GE377.out|refine below_set ?_ GE378.out)|exact HB.out))):w.heap.size ≤ gb379));have n6_:=zM ((by rw [hg];exact Nat.ne_of_lt (blk_lt (g:=gb377) (o := .cells #[.int .i64 a0_0,.int .i64 a0_1,.slice A0_2 l0_2.length c0_2] 29 (0,0)) (by (with_reducible repeat (first|refine zJ ?_ _|refine zK ?_|refine zL ?_ _));exact BK377.out)):gb377 ≠ gb379));have n7_:=zM ((by rw [hg];exact Nat.ne_of_gt (blk_lt (g:=gb377) (o := .cells #[.int .i64 a0_0,.int .i64 a0_1,.slice A0_2 l0_2.length c0_2] 29 (0,0)) (by (with_reducible repeat (first|refine zJ ?_ _|refine zK ?_|refine zL ?_ _));exact BK377.out)):gb379 ≠ gb377));have n8_:=zM ((by rw [hg];exact Nat.ne_of_lt (blk_lt (g:=gb378) (o := .cells #[.int .i64 a1_0,.int .i64 a1_1] 48 (0,0)) (by (with_reducible repeat (first|refine zJ ?_ _|refine zK ?_|refine zL ?_ _));exact BK378.out)):gb378 ≠ gb379));have n9_:=zM ((by rw [hg];exact Nat.ne_of_gt (blk_lt (g:=gb378) (o := .cells #[.int .i64 a1_0,.int .i64 a1_1] 48 (0,0)) (by (with_reducible repeat (first|refine zJ ?_ _|refine zK ?_|refine zL ?_ _));exact BK378.out)):gb379 ≠ gb378));clear BK377;clear BK378;clear HB;have BK377:=n0_;have BK378:=n1_;have HB:=n2_;have BK379:=n3_;have GW379:=n4_;have GE379:=n5_;have NB377_379:=n6_;have NB379_377:=n7_;have NB378_379:=n8_;have NB379_378:=n9_;clear n0_ n1_ n2_ n3_ n4_ n5_ n6_ n7_ n8_ n9_;clear hb hbox hg;have hnb12:=NB377_378.out;have hnc12:=NB378_377.out;have hnb13:=NB377_379.out;have hnc13:=NB379_377.out;have hcz14_0:w11.cell? ⟨gb377,0,none⟩ = some (.int .i64 a0_0):=(blk_cell BK377.out 0).trans rfl;have hcz14_1:w11.cell? ⟨gb377,1,none⟩ = some (.int .i64 a0_1):=(blk_cell BK377.out 1).trans rfl;have hcz14_2:w11.cell? ⟨gb377,2,none⟩ = some (.slice A0_2 l0_2.length c0_2):=(blk_cell BK377.out 2).trans rfl;have hfz14_0:=blk_frozen BK377.out 0;have hfz14_1:=blk_frozen BK377.out 1;have hfz14_2:=blk_frozen BK377.out 2)|((with_reducible refine gate_callee (f:=53) rfl ?_);refine goesL_ (some 8) rfl rfl Try.func53 (by kernel_rfl) rfl #[.agg #[.int .i64 a0_0,.int .i64 a0_1,.slice A0_2 l0_2.length c0_2]] rfl (by (try simp only [List.map_toArray,List.map_cons,List.map_nil]);first|done|rfl|(simp only [List.length_drop,List.length_take];rfl)) ?_;(with_reducible refine (spec_l16Good.calls k a0_0 a0_1 _ _ l0_2 true _ ?side1 ?side2 A4.out).mono ?_);(case side1=>repeat (first|exact (zO HR0_2.out HB.out)|(with_reducible first|refine zG ?_ _|refine zH ?_ _|refine zI ?_)));(case side2=>exact HC0_2.out);rintro e w15 ⟨rfl,hb⟩;refine ⟨_,rfl,?_⟩;have n0_:=zM (blk_below (g:=gb377) (o := .cells #[.int .i64 a0_0,.int .i64 a0_1,.slice A0_2 l0_2.length c0_2] 29 (0,0)) (by (with_reducible repeat (first|refine zJ ?_ _|refine zK ?_|refine zL ?_ _));exact BK377.out) hb);have n1_:=zM (blk_below (g:=gb378) (o := .cells #[.int .i64 a1_0,.int .i64 a1_1] 48 (0,0)) (by (with_reducible repeat (first|refine zJ ?_ _|refine zK ?_|refine zL ?_ _));exact BK378.out) hb);have n2_:=zM (blk_below (g:=gb379) (o := .cells #[.int .i64 a2_0,.int .i64 a2_1] 48 (0,0)) (by (with_reducible repeat (first|refine zJ ?_ _|refine zK ?_|refine zL ?_ _));exact BK379.out) hb);have n3_:=zM (zQ (by repeat (first|(with_reducible first|exact HB.out|apply zD|apply zE|apply zF|refine below_set ?_ GE377.out|refine below_set ?_ GE378.out|refine below_set ?_ GE379.out)|exact HB.out)) hb);clear BK377;clear BK378;clear BK379;clear HB;have BK377:=n0_;have BK378:=n1_;have BK379:=n2_;have HB:=n3_;clear n0_ n1_ n2_ n3_;(try clear hb);(try clear hb2);(try clear hk);(try clear hi);have hcz16_0:w15.cell? ⟨gb377,0,none⟩ = some (.int .i64 a0_0):=(blk_cell BK377.out 0).trans rfl;have hcz16_1:w15.cell? ⟨gb377,1,none⟩ = some (.int .i64 a0_1):=(blk_cell BK377.out 1).trans rfl;have hcz16_2:w15.cell? ⟨gb377,2,none⟩ = some (.slice A0_2 l0_2.length c0_2):=(blk_cell BK377.out 2).trans rfl;have hfz16_0:=blk_frozen BK377.out 0;have hfz16_1:=blk_frozen BK377.out 1;have hfz16_2:=blk_frozen BK377.out 2;have hnb17:=NB378_379.out;have hnc17:=NB379_378.out;have hcz18_0:w15.cell? ⟨gb378,0,none⟩ = some (.int .i64 a1_0):=(blk_cell BK378.out 0).trans rfl;have hcz18_1:w15.cell? ⟨gb378,1,none⟩ = some (.int .i64 a1_1):=(blk_cell BK378.out 1).trans rfl;have hfz18_0:=blk_frozen BK378.out 0;have hfz18_1:=blk_frozen BK378.out 1)|(go_at_call 82;(with_reducible refine (spec_l16Free.calls k a0_0 a0_1 _ _ l0_2 a1_0 a1_1 true _ ?side1 ?side2 A6.out).mono ?_);(case side1=>repeat (first|exact (zO HR0_2.out HB.out)|(with_reducible first|refine zG ?_ _|refine zH ?_ _|refine zI ?_)));(case side2=>exact HC0_2.out);rintro e w19 ⟨rfl,hb⟩;have n0_:=zM (blk_below (g:=gb377) (o := .cells #[.int .i64 a0_0,.int .i64 a0_1,.slice A0_2 l0_2.length c0_2] 29 (0,0)) (by (with_reducible repeat (first|refine zJ ?_ _|refine zK ?_|refine zL ?_ _));exact BK377.out) hb);have n1_:=zM (blk_below (g:=gb378) (o := .cells #[.int .i64 a1_0,.int .i64 a1_1] 48 (0,0)) (by (with_reducible repeat (first|refine zJ ?_ _|refine zK ?_|refine zL ?_ _));exact BK378.out) hb);have n2_:=zM (blk_below (g:=gb379) (o := .cells #[.int .i64 a2_0,.int .i64 a2_1] 48 (0,0)) (by (with_reducible repeat (first|refine zJ ?_ _|refine zK ?_|refine zL ?_ _));exact BK379.out) hb);have n3_:=zM (zQ (by repeat (first|(with_reducible first|exact HB.out|apply zD|apply zE|apply zF|refine below_set ?_ GE377.out|refine below_set ?_ GE378.out|refine below_set ?_ GE379.out)|exact HB.out)) hb);clear BK377;clear BK378;clear BK379;clear HB;have BK377:=n0_;have BK378:=n1_;have BK379:=n2_;have HB:=n3_;clear n0_ n1_ n2_ n3_;(try clear hb);(try clear hb2);(try clear hk);(try clear hi);have hcz20_0:w19.cell? ⟨gb377,0,none⟩ = some (.int .i64 a0_0):=(blk_cell BK377.out 0).trans rfl;have hcz20_1:w19.cell? ⟨gb377,1,none⟩ = some (.int .i64 a0_1):=(blk_cell BK377.out 1).trans rfl;have hcz20_2:w19.cell? ⟨gb377,2,none⟩ = some (.slice A0_2 l0_2.length c0_2):=(blk_cell BK377.out 2).trans rfl;have hfz20_0:=blk_frozen BK377.out 0;have hfz20_1:=blk_frozen BK377.out 1;have hfz20_2:=blk_frozen BK377.out 2;have hcz21_0:w19.cell? ⟨gb379,0,none⟩ = some (.int .i64 a2_0):=(blk_cell BK379.out 0).trans rfl;have hcz21_1:w19.cell? ⟨gb379,1,none⟩ = some (.int .i64 a2_1):=(blk_cell BK379.out 1).trans rfl;have hfz21_0:=blk_frozen BK379.out 0;have hfz21_1:=blk_frozen BK379.out 1)|(go_at_call 82;(with_reducible refine (spec_l16Free.calls k a0_0 a0_1 _ _ l0_2 a2_0 a2_1 t382 _ ?side1 ?side2 A8.out).mono ?_);(case side1=>repeat (first|exact (zO HR0_2.out HB.out)|(with_reducible first|refine zG ?_ _|refine zH ?_ _|refine zI ?_)));(case side2=>exact HC0_2.out);rintro e w22 ⟨rfl,hb⟩;have n0_:=zM (blk_below (g:=gb377) (o := .cells #[.int .i64 a0_0,.int .i64 a0_1,.slice A0_2 l0_2.length c0_2] 29 (0,0)) (by (with_reducible repeat (first|refine zJ ?_ _|refine zK ?_|refine zL ?_ _));exact BK377.out) hb);have n1_:=zM (blk_below (g:=gb378) (o := .cells #[.int .i64 a1_0,.int .i64 a1_1] 48 (0,0)) (by (with_reducible repeat (first|refine zJ ?_ _|refine zK ?_|refine zL ?_ _));exact BK378.out) hb);have n2_:=zM (blk_below (g:=gb379) (o := .cells #[.int .i64 a2_0,.int .i64 a2_1] 48 (0,0)) (by (with_reducible repeat (first|refine zJ ?_ _|refine zK ?_|refine zL ?_ _));exact BK379.out) hb);have n3_:=zM (zQ (by repeat (first|(with_reducible first|exact HB.out|apply zD|apply zE|apply zF|refine below_set ?_ GE377.out|refine below_set ?_ GE378.out|refine below_set ?_ GE379.out)|exact HB.out)) hb);clear BK377;clear BK378;clear BK379;clear HB;have BK377:=n0_;have BK378:=n1_;have BK379:=n2_;have HB:=n3_;clear n0_ n1_ n2_ n3_;(try clear hb);(try clear hb2);(try clear hk);(try clear hi)))
   go_ret
   exact ⟨by first|rfl|(simp [errW_none,errW_some] <;> rfl)|(simp [*,errW_none,errW_some] <;> rfl),by repeat (first|(with_reducible first|exact HB.out|apply zD|apply zE|apply zF|refine below_set ?_ GE377.out|refine below_set ?_ GE378.out|refine below_set ?_ GE379.out)|exact HB.out)⟩
  ·replace c7:=Bool.eq_false_iff.mpr c7
   subst c7;have H1:(some false) = some r:=by rw [if_neg (show ¬ (false = true) by decide)] at H;exact H
   clear H;have H:=H1;clear H1;obtain rfl:=Option.some.inj H;go_enter Try.func63,Try.ntmps63
   go_wp2_with (first|((with_reducible refine gate_dst (N:=3) rfl ?_);refine box_event ?hg (N:=3) ?hd (cs := #[.int .i64 a0_0,.int .i64 a0_1,.slice A0_2 l0_2.length c0_2]) (t:=29) ?hr ?_;(case hd=>rfl);(case hg=>rfl);(case hr=>first|(go_simp;done)|(go_simp;rfl));intro gb377 hg w23 hbox hb;have n0_:=zM (zQ (by repeat (first|(with_reducible first|exact HB.out|apply zD|apply zE|apply zF)|exact HB.out)) hb);have n1_:=zM (hbox);have n2_:=zM ((by rw [hg];exact (zR (by repeat (first|(with_reducible first|exact HB.out|apply zD|apply zE|apply zF)|exact HB.out))):w.heap.size ≤ gb377));have n3_:=zM ((by rw [hg];exact (zR (by repeat (first|(with_reducible first|exact HB.out|apply zD|apply zE|apply zF)|exact HB.out))):w.heap.size ≤ gb377));clear HB;have HB:=n0_;have BK377:=n1_;have GW377:=n2_;have GE377:=n3_;clear n0_ n1_ n2_ n3_;clear hb hbox hg)|((with_reducible refine gate_dst (N:=4) rfl ?_);refine box_event ?hg (N:=4) ?hd (cs := #[.int .i64 a1_0,.int .i64 a1_1]) (t:=48) ?hr ?_;(case hd=>rfl);(case hg=>rfl);(case hr=>first|(go_simp;done)|(go_simp;rfl));intro gb378 hg w24 hbox hb;have n0_:=zM (blk_below (g:=gb377) (o := .cells #[.int .i64 a0_0,.int .i64 a0_1,.slice A0_2 l0_2.length c0_2] 29 (0,0)) (by (with_reducible repeat (first|refine zJ ?_ _|refine zK ?_|refine zL ?_ _));exact BK377.out) hb);have n1_:=zM (zQ (by repeat (first|(with_reducible first|exact HB.out|apply zD|apply zE|apply zF|refine below_set ?_ GE377.out)|exact HB.out)) hb);have n2_:=zM (hbox);have n3_:=zM ((by rw [hg];exact (zR (by repeat (first|(with_reducible first|exact HB.out|apply zD|apply zE|apply zF|refine below_set ?_ GE377.out)|exact HB.out))):w.heap.size ≤ gb378));have n4_:=zM ((by rw [hg];exact (zR (by repeat (first|(with_reducible first|exact HB.out|apply zD|apply zE|apply zF|refine below_set ?_ GE377.out)|exact HB.out))):w.heap.size ≤ gb378));have n5_:=zM ((by rw [hg];exact Nat.ne_of_lt (blk_lt (g:=gb377) (o := .cells #[.int .i64 a0_0,.int .i64 a0_1,.slice A0_2 l0_2.length c0_2] 29 (0,0)) (by (with_reducible repeat (first|refine zJ ?_ _|refine zK ?_|refine zL ?_ _));exact BK377.out)):gb377 ≠ gb378));have n6_:=zM ((by rw [hg];exact Nat.ne_of_gt (blk_lt (g:=gb377) (o := .cells #[.int .i64 a0_0,.int .i64 a0_1,.slice A0_2 l0_2.length c0_2] 29 (0,0)) (by (with_reducible repeat (first|refine zJ ?_ _|refine zK ?_|refine zL ?_ _));exact BK377.out)):gb378 ≠ gb377));clear BK377;clear HB;have BK377:=n0_;have HB:=n1_;have BK378:=n2_;have GW378:=n3_;have GE378:=n4_;have NB377_378:=n5_;have NB378_377:=n6_;clear n0_ n1_ n2_ n3_ n4_ n5_ n6_;clear hb hbox hg)|((with_reducible refine gate_dst (N:=5) rfl ?_);refine box_event ?hg (N:=5) ?hd (cs := #[.int .i64 a2_0,.int .i64 a2_1]) (t:=48) ?hr ?_;(case hd=>rfl);(case hg=>rfl);(case hr=>first|(go_simp;done)|(go_simp;rfl));intro gb379 hg w25 hbox hb;have n0_:=zM (blk_below (g:=gb377) (o := .cells #[.int .i64 a0_0,.int .i64 a0_1,.slice A0_2 l0_2.length c0_2] 29 (0,0)) (by (with_reducible repeat (first|refine zJ ?_ _|refine zK ?_|refine zL ?_ _));exact BK377.out) hb);have n1_:=zM (blk_below (g:=gb378) (o := .cells #[.int .i64 a1_0,.int .i64 a1_1] 48 (0,0)) (by (with_reducible repeat (first|refine zJ ?_ _|refine zK ?_|refine zL ?_ _));exact BK378.out) hb);have n2_:=zM (zQ (by repeat (first|(with_reducible first|exact HB.out|apply zD|apply zE|apply zF|refine below_set ?_ GE377.out|refine below_set ?_ GE378.out)|exact HB.out)) hb);have n3_:=zM (hbox);have n4_:=zM ((by rw [hg];exact (zR (by repeat (first|(with_reducible first|exact HB.out|apply zD|apply zE|apply zF|refine below_set ?_ GE377.out|refine below_set ?_ GE378.out)|exact HB.out))):w.heap.size ≤ gb379));have n5_:=zM ((by rw [hg];exact (zR (by repeat (first|(with_reducible first|exact HB.out|apply zD|apply zE|apply zF|refine below_set ?_ GE377.out|refine below_set ?_ GE378.out)|exact HB.out))):w.heap.size ≤ gb379));have n6_:=zM ((by rw [hg];exact Nat.ne_of_lt (blk_lt (g:=gb377) (o := .cells #[.int .i64 a0_0,.int .i64 a0_1,.slice A0_2 l0_2.length c0_2] 29 (0,0)) (by (with_reducible repeat (first|refine zJ ?_ _|refine zK ?_|refine zL ?_ _));exact BK377.out)):gb377 ≠ gb379));have n7_:=zM ((by rw [hg];exact Nat.ne_of_gt (blk_lt (g:=gb377) (o := .cells #[.int .i64 a0_0,.int .i64 a0_1,.slice A0_2 l0_2.length c0_2] 29 (0,0)) (by (with_reducible repeat (first|refine zJ ?_ _|refine zK ?_|refine zL ?_ _));exact BK377.out)):gb379 ≠ gb377));have n8_:=zM ((by rw [hg];exact Nat.ne_of_lt (blk_lt (g:=gb378) (o := .cells #[.int .i64 a1_0,.int .i64 a1_1] 48 (0,0)) (by (with_reducible repeat (first|refine zJ ?_ _|refine zK ?_|refine zL ?_ _));exact BK378.out)):gb378 ≠ gb379));have n9_:=zM ((by rw [hg];exact Nat.ne_of_gt (blk_lt (g:=gb378) (o := .cells #[.int .i64 a1_0,.int .i64 a1_1] 48 (0,0)) (by (with_reducible repeat (first|refine zJ ?_ _|refine zK ?_|refine zL ?_ _));exact BK378.out)):gb379 ≠ gb378));clear BK377;clear BK378;clear HB;have BK377:=n0_;have BK378:=n1_;have HB:=n2_;have BK379:=n3_;have GW379:=n4_;have GE379:=n5_;have NB377_379:=n6_;have NB379_377:=n7_;have NB378_379:=n8_;have NB379_378:=n9_;clear n0_ n1_ n2_ n3_ n4_ n5_ n6_ n7_ n8_ n9_;clear hb hbox hg;have hnb26:=NB377_378.out;have hnc26:=NB378_377.out;have hnb27:=NB377_379.out;have hnc27:=NB379_377.out;have hcz28_0:w25.cell? ⟨gb377,0,none⟩ = some (.int .i64 a0_0):=(blk_cell BK377.out 0).trans rfl;have hcz28_1:w25.cell? ⟨gb377,1,none⟩ = some (.int .i64 a0_1):=(blk_cell BK377.out 1).trans rfl;have hcz28_2:w25.cell? ⟨gb377,2,none⟩ = some (.slice A0_2 l0_2.length c0_2):=(blk_cell BK377.out 2).trans rfl;have hfz28_0:=blk_frozen BK377.out 0;have hfz28_1:=blk_frozen BK377.out 1;have hfz28_2:=blk_frozen BK377.out 2)|((with_reducible refine gate_callee (f:=53) rfl ?_);refine goesL_ (some 8) rfl rfl Try.func53 (by kernel_rfl) rfl #[.agg #[.int .i64 a0_0,.int .i64 a0_1,.slice A0_2 l0_2.length c0_2]] rfl (by (try simp only [List.map_toArray,List.map_cons,List.map_nil]);first|done|rfl|(simp only [List.length_drop,List.length_take];rfl)) ?_;(with_reducible refine (spec_l16Good.calls k a0_0 a0_1 _ _ l0_2 true _ ?side1 ?side2 A4.out).mono ?_);(case side1=>repeat (first|exact (zO HR0_2.out HB.out)|(with_reducible first|refine zG ?_ _|refine zH ?_ _|refine zI ?_)));(case side2=>exact HC0_2.out);rintro e w29 ⟨rfl,hb⟩;refine ⟨_,rfl,?_⟩;have n0_:=zM (blk_below (g:=gb377) (o := .cells #[.int .i64 a0_0,.int .i64 a0_1,.slice A0_2 l0_2.length c0_2] 29 (0,0)) (by (with_reducible repeat (first|refine zJ ?_ _|refine zK ?_|refine zL ?_ _));exact BK377.out) hb);have n1_:=zM (blk_below (g:=gb378) (o := .cells #[.int .i64 a1_0,.int .i64 a1_1] 48 (0,0)) (by (with_reducible repeat (first|refine zJ ?_ _|refine zK ?_|refine zL ?_ _));exact BK378.out) hb);have n2_:=zM (blk_below (g:=gb379) (o := .cells #[.int .i64 a2_0,.int .i64 a2_1] 48 (0,0)) (by (with_reducible repeat (first|refine zJ ?_ _|refine zK ?_|refine zL ?_ _));exact BK379.out) hb);have n3_:=zM (zQ (by repeat (first|(with_reducible first|exact HB.out|apply zD|apply zE|apply zF|refine below_set ?_ GE377.out|refine below_set ?_ GE378.out|refine below_set ?_ GE379.out)|exact HB.out)) hb);clear BK377;clear BK378;clear BK379;clear HB;have BK377:=n0_;have BK378:=n1_;have BK379:=n2_;have HB:=n3_;clear n0_ n1_ n2_ n3_;(try clear hb);(try clear hb2);(try clear hk);(try clear hi);have hcz30_0:w29.cell? ⟨gb377,0,none⟩ = some (.int .i64 a0_0):=(blk_cell BK377.out 0).trans rfl;have hcz30_1:w29.cell? ⟨gb377,1,none⟩ = some (.int .i64 a0_1):=(blk_cell BK377.out 1).trans rfl;have hcz30_2:w29.cell? ⟨gb377,2,none⟩ = some (.slice A0_2 l0_2.length c0_2):=(blk_cell BK377.out 2).trans rfl;have hfz30_0:=blk_frozen BK377.out 0;have hfz30_1:=blk_frozen BK377.out 1;have hfz30_2:=blk_frozen BK377.out 2;have hnb31:=NB378_379.out;have hnc31:=NB379_378.out;have hcz32_0:w29.cell? ⟨gb378,0,none⟩ = some (.int .i64 a1_0):=(blk_cell BK378.out 0).trans rfl;have hcz32_1:w29.cell? ⟨gb378,1,none⟩ = some (.int .i64 a1_1):=(blk_cell BK378.out 1).trans rfl;have hfz32_0:=blk_frozen BK378.out 0;have hfz32_1:=blk_frozen BK378.out 1)|(go_at_call 82;(with_reducible refine (spec_l16Free.calls k a0_0 a0_1 _ _ l0_2 a1_0 a1_1 false _ ?side1 ?side2 A6.out).mono ?_);(case side1=>repeat (first|exact (zO HR0_2.out HB.out)|(with_reducible first|refine zG ?_ _|refine zH ?_ _|refine zI ?_)));(case side2=>exact HC0_2.out);rintro e w33 ⟨rfl,hb⟩;have n0_:=zM (blk_below (g:=gb377) (o := .cells #[.int .i64 a0_0,.int .i64 a0_1,.slice A0_2 l0_2.length c0_2] 29 (0,0)) (by (with_reducible repeat (first|refine zJ ?_ _|refine zK ?_|refine zL ?_ _));exact BK377.out) hb);have n1_:=zM (blk_below (g:=gb378) (o := .cells #[.int .i64 a1_0,.int .i64 a1_1] 48 (0,0)) (by (with_reducible repeat (first|refine zJ ?_ _|refine zK ?_|refine zL ?_ _));exact BK378.out) hb);have n2_:=zM (blk_below (g:=gb379) (o := .cells #[.int .i64 a2_0,.int .i64 a2_1] 48 (0,0)) (by (with_reducible repeat (first|refine zJ ?_ _|refine zK ?_|refine zL ?_ _));exact BK379.out) hb);have n3_:=zM (zQ (by repeat (first|(with_reducible first|exact HB.out|apply zD|apply zE|apply zF|refine below_set ?_ GE377.out|refine below_set ?_ GE378.out|refine below_set ?_ GE379.out)|exact HB.out)) hb);clear BK377;clear BK378;clear BK379;clear HB;have BK377:=n0_;have BK378:=n1_;have BK379:=n2_;have HB:=n3_;clear n0_ n1_ n2_ n3_;(try clear hb);(try clear hb2);(try clear hk);(try clear hi)))
   go_ret
   exact ⟨by first|rfl|(simp [errW_none,errW_some] <;> rfl)|(simp [*,errW_none,errW_some] <;> rfl),by repeat (first|(with_reducible first|exact HB.out|apply zD|apply zE|apply zF|refine below_set ?_ GE377.out|refine below_set ?_ GE378.out|refine below_set ?_ GE379.out)|exact HB.out)⟩
 ·replace c5:=Bool.eq_false_iff.mpr c5
  subst c5;have H1:(some false) = some r:=by rw [if_neg (show ¬ (false = true) by decide)] at H;exact H
  clear H;have H:=H1;clear H1;obtain rfl:=Option.some.inj H;go_enter Try.func63,Try.ntmps63
  go_wp2_with (first|((with_reducible refine gate_dst (N:=3) rfl ?_);refine box_event ?hg (N:=3) ?hd (cs := #[.int .i64 a0_0,.int .i64 a0_1,.slice A0_2 l0_2.length c0_2]) (t:=29) ?hr ?_;(case hd=>rfl);(case hg=>rfl);(case hr=>first|(go_simp;done)|(go_simp;rfl));intro gb377 hg w34 hbox hb;have n0_:=zM (zQ (by repeat (first|(with_reducible first|exact HB.out|apply zD|apply zE|apply zF)|exact HB.out)) hb);have n1_:=zM (hbox);have n2_:=zM ((by rw [hg];exact (zR (by repeat (first|(with_reducible first|exact HB.out|apply zD|apply zE|apply zF)|exact HB.out))):w.heap.size ≤ gb377));have n3_:=zM ((by rw [hg];exact (zR (by repeat (first|(with_reducible first|exact HB.out|apply zD|apply zE|apply zF)|exact HB.out))):w.heap.size ≤ gb377));clear HB;have HB:=n0_;have BK377:=n1_;have GW377:=n2_;have GE377:=n3_;clear n0_ n1_ n2_ n3_;clear hb hbox hg)|((with_reducible refine gate_dst (N:=4) rfl ?_);refine box_event ?hg (N:=4) ?hd (cs := #[.int .i64 a1_0,.int .i64 a1_1]) (t:=48) ?hr ?_;(case hd=>rfl);(case hg=>rfl);(case hr=>first|(go_simp;done)|(go_simp;rfl));intro gb378 hg w35 hbox hb;have n0_:=zM (blk_below (g:=gb377) (o := .cells #[.int .i64 a0_0,.int .i64 a0_1,.slice A0_2 l0_2.length c0_2] 29 (0,0)) (by (with_reducible repeat (first|refine zJ ?_ _|refine zK ?_|refine zL ?_ _));exact BK377.out) hb);have n1_:=zM (zQ (by repeat (first|(with_reducible first|exact HB.out|apply zD|apply zE|apply zF|refine below_set ?_ GE377.out)|exact HB.out)) hb);have n2_:=zM (hbox);have n3_:=zM ((by rw [hg];exact (zR (by repeat (first|(with_reducible first|exact HB.out|apply zD|apply zE|apply zF|refine below_set ?_ GE377.out)|exact HB.out))):w.heap.size ≤ gb378));have n4_:=zM ((by rw [hg];exact (zR (by repeat (first|(with_reducible first|exact HB.out|apply zD|apply zE|apply zF|refine below_set ?_ GE377.out)|exact HB.out))):w.heap.size ≤ gb378));have n5_:=zM ((by rw [hg];exact Nat.ne_of_lt (blk_lt (g:=gb377) (o := .cells #[.int .i64 a0_0,.int .i64 a0_1,.slice A0_2 l0_2.length c0_2] 29 (0,0)) (by (with_reducible repeat (first|refine zJ ?_ _|refine zK ?_|refine zL ?_ _));exact BK377.out)):gb377 ≠ gb378));have n6_:=zM ((by rw [hg];exact Nat.ne_of_gt (blk_lt (g:=gb377) (o := .cells #[.int .i64 a0_0,.int .i64 a0_1,.slice A0_2 l0_2.length c0_2] 29 (0,0)) (by (with_reducible repeat (first|refine zJ ?_ _|refine zK ?_|refine zL ?_ _));exact BK377.out)):gb378 ≠ gb377));clear BK377;clear HB;have BK377:=n0_;have HB:=n1_;have BK378:=n2_;have GW378:=n3_;have GE378:=n4_;have NB377_378:=n5_;have NB378_377:=n6_;clear n0_ n1_ n2_ n3_ n4_ n5_ n6_;clear hb hbox hg)|((with_reducible refine gate_dst (N:=5) rfl ?_);refine box_event ?hg (N:=5) ?hd (cs := #[.int .i64 a2_0,.int .i64 a2_1]) (t:=48) ?hr ?_;(case hd=>rfl);(case hg=>rfl);(case hr=>first|(go_simp;done)|(go_simp;rfl));intro gb379 hg w36 hbox hb;have n0_:=zM (blk_below (g:=gb377) (o := .cells #[.int .i64 a0_0,.int .i64 a0_1,.slice A0_2 l0_2.length c0_2] 29 (0,0)) (by (with_reducible repeat (first|refine zJ ?_ _|refine zK ?_|refine zL ?_ _));exact BK377.out) hb);have n1_:=zM (blk_below (g:=gb378) (o := .cells #[.int .i64 a1_0,.int .i64 a1_1] 48 (0,0)) (by (with_reducible repeat (first|refine zJ ?_ _|refine zK ?_|refine zL ?_ _));exact BK378.out) hb);have n2_:=zM (zQ (by repeat (first|(with_reducible first|exact HB.out|apply zD|apply zE|apply zF|refine below_set ?_ GE377.out|refine below_set ?_ GE378.out)|exact HB.out)) hb);have n3_:=zM (hbox);have n4_:=zM ((by rw [hg];exact (zR (by repeat (first|(with_reducible first|exact HB.out|apply zD|apply zE|apply zF|refine below_set ?_ GE377.out|refine below_set ?_ GE378.out)|exact HB.out))):w.heap.size ≤ gb379));have n5_:=zM ((by rw [hg];exact (zR (by repeat (first|(with_reducible first|exact HB.out|apply zD|apply zE|apply zF|refine below_set ?_ GE377.out|refine below_set ?_ GE378.out)|exact HB.out))):w.heap.size ≤ gb379));have n6_:=zM ((by rw [hg];exact Nat.ne_of_lt (blk_lt (g:=gb377) (o := .cells #[.int .i64 a0_0,.int .i64 a0_1,.slice A0_2 l0_2.length c0_2] 29 (0,0)) (by (with_reducible repeat (first|refine zJ ?_ _|refine zK ?_|refine zL ?_ _));exact BK377.out)):gb377 ≠ gb379));have n7_:=zM ((by rw [hg];exact Nat.ne_of_gt (blk_lt (g:=gb377) (o := .cells #[.int .i64 a0_0,.int .i64 a0_1,.slice A0_2 l0_2.length c0_2] 29 (0,0)) (by (with_reducible repeat (first|refine zJ ?_ _|refine zK ?_|refine zL ?_ _));exact BK377.out)):gb379 ≠ gb377));have n8_:=zM ((by rw [hg];exact Nat.ne_of_lt (blk_lt (g:=gb378) (o := .cells #[.int .i64 a1_0,.int .i64 a1_1] 48 (0,0)) (by (with_reducible repeat (first|refine zJ ?_ _|refine zK ?_|refine zL ?_ _));exact BK378.out)):gb378 ≠ gb379));have n9_:=zM ((by rw [hg];exact Nat.ne_of_gt (blk_lt (g:=gb378) (o := .cells #[.int .i64 a1_0,.int .i64 a1_1] 48 (0,0)) (by (with_reducible repeat (first|refine zJ ?_ _|refine zK ?_|refine zL ?_ _));exact BK378.out)):gb379 ≠ gb378));clear BK377;clear BK378;clear HB;have BK377:=n0_;have BK378:=n1_;have HB:=n2_;have BK379:=n3_;have GW379:=n4_;have GE379:=n5_;have NB377_379:=n6_;have NB379_377:=n7_;have NB378_379:=n8_;have NB379_378:=n9_;clear n0_ n1_ n2_ n3_ n4_ n5_ n6_ n7_ n8_ n9_;clear hb hbox hg;have hnb37:=NB377_378.out;have hnc37:=NB378_377.out;have hnb38:=NB377_379.out;have hnc38:=NB379_377.out;have hcz39_0:w36.cell? ⟨gb377,0,none⟩ = some (.int .i64 a0_0):=(blk_cell BK377.out 0).trans rfl;have hcz39_1:w36.cell? ⟨gb377,1,none⟩ = some (.int .i64 a0_1):=(blk_cell BK377.out 1).trans rfl;have hcz39_2:w36.cell? ⟨gb377,2,none⟩ = some (.slice A0_2 l0_2.length c0_2):=(blk_cell BK377.out 2).trans rfl;have hfz39_0:=blk_frozen BK377.out 0;have hfz39_1:=blk_frozen BK377.out 1;have hfz39_2:=blk_frozen BK377.out 2)|((with_reducible refine gate_callee (f:=53) rfl ?_);refine goesL_ (some 8) rfl rfl Try.func53 (by kernel_rfl) rfl #[.agg #[.int .i64 a0_0,.int .i64 a0_1,.slice A0_2 l0_2.length c0_2]] rfl (by (try simp only [List.map_toArray,List.map_cons,List.map_nil]);first|done|rfl|(simp only [List.length_drop,List.length_take];rfl)) ?_;(with_reducible refine (spec_l16Good.calls k a0_0 a0_1 _ _ l0_2 false _ ?side1 ?side2 A4.out).mono ?_);(case side1=>repeat (first|exact (zO HR0_2.out HB.out)|(with_reducible first|refine zG ?_ _|refine zH ?_ _|refine zI ?_)));(case side2=>exact HC0_2.out);rintro e w40 ⟨rfl,hb⟩;refine ⟨_,rfl,?_⟩;have n0_:=zM (blk_below (g:=gb377) (o := .cells #[.int .i64 a0_0,.int .i64 a0_1,.slice A0_2 l0_2.length c0_2] 29 (0,0)) (by (with_reducible repeat (first|refine zJ ?_ _|refine zK ?_|refine zL ?_ _));exact BK377.out) hb);have n1_:=zM (blk_below (g:=gb378) (o := .cells #[.int .i64 a1_0,.int .i64 a1_1] 48 (0,0)) (by (with_reducible repeat (first|refine zJ ?_ _|refine zK ?_|refine zL ?_ _));exact BK378.out) hb);have n2_:=zM (blk_below (g:=gb379) (o := .cells #[.int .i64 a2_0,.int .i64 a2_1] 48 (0,0)) (by (with_reducible repeat (first|refine zJ ?_ _|refine zK ?_|refine zL ?_ _));exact BK379.out) hb);have n3_:=zM (zQ (by repeat (first|(with_reducible first|exact HB.out|apply zD|apply zE|apply zF|refine below_set ?_ GE377.out|refine below_set ?_ GE378.out|refine below_set ?_ GE379.out)|exact HB.out)) hb);clear BK377;clear BK378;clear BK379;clear HB;have BK377:=n0_;have BK378:=n1_;have BK379:=n2_;have HB:=n3_;clear n0_ n1_ n2_ n3_;(try clear hb);(try clear hb2);(try clear hk);(try clear hi)))
  go_ret
  exact ⟨by first|rfl|(simp [errW_none,errW_some] <;> rfl)|(simp [*,errW_none,errW_some] <;> rfl),by repeat (first|(with_reducible first|exact HB.out|apply zD|apply zE|apply zF|refine below_set ?_ GE377.out|refine below_set ?_ GE378.out|refine below_set ?_ GE379.out)|exact HB.out)⟩

end Go.Proofs.Ytbpccdbkaiigcaa.G

namespace Go.Proofs.Ytbpccdbkaiigcaa.G
open Go.RowKit Go.Proofs.YtbpccdbkaiigcaaW.PrintWords Go.Proofs.YtbpccdbkaiigcaaW.PrintLast
set_option linter.unusedVariables false
set_option linter.unusedSimpArgs false
/-! Plain laws on printed functions: what holds from some number of rounds on, case by case and loop by loop. -/
theorem Ev.ite {α : Type} {c : Prop} [Decidable c] {A B : Nat → Option α} {r : α} (h1 : c → Ev A r) (h2 : ¬ c → Ev B r) : Ev (fun k=>if c then A k else B k) r:=by
 by_cases h : c
 ·simpa only [if_pos h] using h1 h
 ·simpa only [if_neg h] using h2 h
theorem Ev.val {α : Type} {v r : α} (h : v = r) : Ev (fun _=>some v) r:=by rw [h];exact Ev.now r
theorem Ev.eq {α : Type} {g : Nat → Option α} {r r' : α} (h : Ev g r) (e : r = r') : Ev g r':=e ▸ h
theorem wrap64_id {x : Int} (h1 : -9223372036854775808 ≤ x) (h2 : x ≤ 9223372036854775807) : wrap64 x = x:=IntWalk.wrap64_in x ⟨h1,h2⟩
theorem wf_iff {x : Int} : (Lit.int .i64 x).wf = true ↔ -9223372036854775808 ≤ x ∧ x ≤ 9223372036854775807:=by
 have e : (Lit.int .i64 x).wf = (decide (-9223372036854775808 ≤ x) && decide (x ≤ 9223372036854775807)):=rfl
 rw [e]
 simp
/-- What holds of all indices from i up to, and without, n. -/
def All (P : Int → Prop) (i n : Int) : Prop := ∀ j,i ≤ j → j < n → P j
theorem All.end_ (P : Int → Prop) (n : Int) : All P n n:=fun j h1 h2=>by omega
theorem All.step {P : Int → Prop} {i n : Int} (h : i < n) : All P i n ↔ P i ∧ All P (i + 1) n:=by
 constructor
 ·intro a
  exact ⟨a i (Int.le_refl _) h,fun j h1 h2=>a j (by omega) h2⟩
 ·rintro ⟨p,a⟩ j h1 h2
  by_cases e : j = i
  ·rw [e];exact p
  ·exact a j (by omega) h2
/-- One of two values, by a statement. -/
noncomputable def chk {β : Type} (p : Prop) (a b : β) : β := @ite β p (Classical.propDecidable p) a b
theorem chk_pos {β : Type} {p : Prop} (h : p) (a b : β) : chk p a b = a:=by unfold chk;exact if_pos h
theorem chk_neg {β : Type} {p : Prop} (h : ¬ p) (a b : β) : chk p a b = b:=by unfold chk;exact if_neg h
theorem chk_congr {β : Type} {p q : Prop} (h : p ↔ q) (a b : β) : chk p a b = chk q a b:=by rw [propext h]
theorem chk_true {p : Prop} : chk p true false = true ↔ p:=by
 by_cases h : p
 ·rw [chk_pos h];exact ⟨fun _=>h,fun _=>rfl⟩
 ·rw [chk_neg h];exact ⟨(fun e=>by cases e),(fun e=>absurd e h)⟩
theorem chk_and {β : Type} {p q : Prop} (a b : β) : chk p (chk q a b) b = chk (p ∧ q) a b:=by
 by_cases h : p
 ·rw [chk_pos h]
  exact chk_congr ⟨fun x=>⟨h,x⟩,fun x=>x.2⟩ _ _
 ·rw [chk_neg h,chk_neg (fun x=>h x.1)]
/-- A loop that goes up, any state. -/
theorem Ev.up {σ β : Type} (g : Nat → σ → Int → Option β) (R : σ → Int → β) (I : σ → Int → Prop) (n : Int)
  (hend : ∀ s,I s n → Ev (fun k=>g k s n) (R s n))
  (hstep : ∀ s i,I s i → i < n → (∀ s',I s' (i + 1) → Ev (fun k=>g k s' (i + 1)) (R s' (i + 1))) → Ev (fun k=>g k s i) (R s i)) :
  ∀ s i,I s i → i ≤ n → Ev (fun k=>g k s i) (R s i):=by
 have main : ∀ (d : Nat) s i,I s i → i + d = n → Ev (fun k=>g k s i) (R s i):=by
  intro d
  induction d with
  | zero =>
   intro s i hI hd
   obtain rfl : i = n:=by omega
   exact hend s hI
  | succ d ih=>intro s i hI hd;exact hstep s i hI (by omega) (fun s' hI'=>ih s' (i + 1) hI' (by omega))
 intro s i hI hi
 exact main (n - i).toNat s i hI (by omega)
/-- A loop that tests each index. -/
theorem Ev.check {β : Type} (g : Nat → Int → Option β) (n : Int) (P : Int → Prop) (r0 r1 : β) (i0 : Int)
  (hend : Ev (fun k=>g k n) r0)
  (hstep : ∀ i,i0 ≤ i → i < n → ∀ r,Ev (fun k=>g k (i + 1)) r → Ev (fun k=>g k i) (chk (P i) r r1)) :
  ∀ i,i0 ≤ i → i ≤ n → Ev (fun k=>g k i) (chk (All P i n) r0 r1):=by
 intro i h0 hi
 refine Ev.up (fun k (_ : Unit) i=>g k i) (fun _ i=>chk (All P i n) r0 r1) (fun _ i=>i0 ≤ i) n (fun _ _=>?_) (fun _ i h0 hlt ih=>?_) () i h0 hi
 ·rw [chk_pos (All.end_ P n)];exact hend
 ·have:=hstep i h0 hlt _ (ih () (by omega))
  rw [chk_and,chk_congr (All.step hlt).symm] at this
  exact this
theorem Ev.upc {β : Type} (g : Nat → Int → Option β) (r : β) (n i0 : Int) (hend : Ev (fun k=>g k n) r) (hstep : ∀ i,i0 ≤ i → i < n → Ev (fun k=>g k (i + 1)) r → Ev (fun k=>g k i) r) :
  ∀ i,i0 ≤ i → i ≤ n → Ev (fun k=>g k i) r:=by
 intro i h0 hi
 exact Ev.up (fun k (_ : Unit) i=>g k i) (fun _ _=>r) (fun _ i=>i0 ≤ i) n (fun _ _=>hend) (fun _ i h0 hlt ih=>hstep i h0 hlt (ih () (by omega))) () i h0 hi
theorem getD_set {α : Type} (xs : List α) (i j : Nat) (v z : α) (hi : i < xs.length) : (xs.set i v).getD j z = if j = i then v else xs.getD j z:=by
 rw [List.getD_eq_getElem?_getD,List.getD_eq_getElem?_getD]
 by_cases h : j = i
 ·subst h;rw [List.getElem?_set_self hi,if_pos rfl];rfl
 ·rw [List.getElem?_set_ne (fun e=>h e.symm),if_neg h]
theorem ext_getD {α : Type} (z : α) {xs ys : List α} (hl : xs.length = ys.length) (h : ∀ j : Nat,j < xs.length → xs.getD j z = ys.getD j z) : xs = ys:=by
 apply List.ext_getElem hl
 intro i h1 h2
 have:=h i h1
 rw [List.getD_eq_getElem?_getD,List.getD_eq_getElem?_getD,List.getElem?_eq_getElem h1,List.getElem?_eq_getElem h2] at this
 exact this
theorem getD_map {α β : Type} (f : α → β) (xs : List α) (j : Nat) (z : α) (z' : β) (h : j < xs.length) : (xs.map f).getD j z' = f (xs.getD j z):=by
 rw [List.getD_eq_getElem?_getD,List.getD_eq_getElem?_getD,List.getElem?_map,List.getElem?_eq_getElem h];rfl
/-- out := make(n); out[i] = conv(xs[i]) for all i. -/
theorem Ev.fill {α β : Type} (g : Nat → List β → Int → Option (List β)) (xs : List α) (conv : α → β) (z : α) (z' : β)
  (hend : ∀ out,Ev (fun k=>g k out (xs.length : Int)) out)
  (hstep : ∀ out i,out.length = xs.length → 0 ≤ i → i < (xs.length : Int) → ∀ r,Ev (fun k=>g k (out.set i.toNat (conv (xs.getD i.toNat z))) (i + 1)) r → Ev (fun k=>g k out i) r) :
  Ev (fun k=>g k (List.replicate xs.length z') 0) (xs.map conv):=by
 refine Ev.up g (fun _ _=>xs.map conv) (fun out i=>0 ≤ i ∧ out.length = xs.length ∧ ∀ j : Nat,(j : Int) < i → out.getD j z' = conv (xs.getD j z)) (xs.length : Int) ?_ ?_ _ 0 ⟨by omega,by simp,fun j h=>by omega⟩ (by omega)
 ·rintro out ⟨_,hl,h⟩
  refine Ev.eq (hend out) (ext_getD z' (by simpa using hl) fun j hj=>?_)
  rw [h j (by omega),getD_map conv xs j z z' (by omega)]
 ·rintro out i ⟨h0,hl,h⟩ hlt ih
  refine hstep out i hl h0 hlt _ (ih _ ⟨by omega,by simpa using hl,fun j hj=>?_⟩)
  rw [getD_set _ _ _ _ _ (by omega)]
  by_cases e : j = i.toNat
  ·rw [if_pos e,e]
  ·rw [if_neg e];exact h j (by omega)
/-- A list that is marked with numbers, m an element. -/
theorem Ev.mark {α : Type} (g : Nat → List α → Int → Int → Option (Int × List α)) (n m : Int) (mk : Int → α) (z : α)
  (hend : ∀ xs c,(xs.length : Int) = n → Ev (fun k=>g k xs c n) (c,xs))
  (hstep : ∀ xs c i,(xs.length : Int) = n → 0 ≤ i → i < n → c = 1 + m * i → ∀ r,Ev (fun k=>g k (xs.set i.toNat (mk i)) (c + m) (i + 1)) r → Ev (fun k=>g k xs c i) r)
  (xs : List α) (hl : (xs.length : Int) = n) : ∃ ys : List α,Ev (fun k=>g k xs 1 0) (1 + m * n,ys) ∧ (ys.length : Int) = n ∧ ∀ j,0 ≤ j → j < n → ys.getD j.toNat z = mk j:=by
 have main : ∀ (d : Nat) (xs : List α) (i : Int),(xs.length : Int) = n → 0 ≤ i → i + d = n → (∀ j,0 ≤ j → j < i → xs.getD j.toNat z = mk j) → ∃ ys : List α,Ev (fun k=>g k xs (1 + m * i) i) (1 + m * n,ys) ∧ (ys.length : Int) = n ∧ ∀ j,0 ≤ j → j < n → ys.getD j.toNat z = mk j:=by
  intro d
  induction d with
  | zero =>
   intro xs i hl h0 hd h
   obtain rfl : i = n:=by omega
   exact ⟨xs,hend xs _ hl,hl,h⟩
  | succ d ih =>
   intro xs i hl h0 hd h
   obtain ⟨ys,h1,h2,h3⟩:=ih (xs.set i.toNat (mk i)) (i + 1) (by simpa using hl) (by omega) (by omega) (fun j hj0 hj=>by
    rw [getD_set _ _ _ _ _ (by omega)]
    by_cases e : j = i
    ·rw [if_pos (by rw [e]),e]
    ·rw [if_neg (by omega)];exact h j hj0 (by omega))
   refine ⟨ys,hstep xs _ i hl h0 (by omega) rfl _ ?_,h2,h3⟩
   rw [show 1 + m * i + m = 1 + m * (i + 1) from by rw [Int.mul_add];omega]
   exact h1
 obtain ⟨ys,h1,h2⟩:=main n.toNat xs 0 hl (by omega) (by omega) (fun j _ _=>by omega)
 exact ⟨ys,by simpa using h1,h2⟩
/-- Two loops that go up together. -/
theorem Ev.both {σ β : Type} (g1 g2 : Nat → σ → Int → Option β) (I : σ → Int → Prop) (Q : β → Prop) (n : Int) (hend : ∀ s,I s n → ∃ r,Q r ∧ Ev (fun k=>g1 k s n) r ∧ Ev (fun k=>g2 k s n) r)
  (hstep : ∀ s i,I s i → i < n → (∃ r,Q r ∧ Ev (fun k=>g1 k s i) r ∧ Ev (fun k=>g2 k s i) r) ∨ ∃ s',I s' (i + 1) ∧ (∀ r,Ev (fun k=>g1 k s' (i + 1)) r → Ev (fun k=>g1 k s i) r) ∧ (∀ r,Ev (fun k=>g2 k s' (i + 1)) r → Ev (fun k=>g2 k s i) r)) :
  ∀ s i,I s i → i ≤ n → ∃ r,Q r ∧ Ev (fun k=>g1 k s i) r ∧ Ev (fun k=>g2 k s i) r:=by
 have main : ∀ (d : Nat) s i,I s i → i + d = n → ∃ r,Q r ∧ Ev (fun k=>g1 k s i) r ∧ Ev (fun k=>g2 k s i) r:=by
  intro d
  induction d with
  | zero =>
   intro s i hI hd
   obtain rfl : i = n:=by omega
   exact hend s hI
  | succ d ih =>
   intro s i hI hd
   rcases hstep s i hI (by omega) with h|⟨s',hI',h1,h2⟩
   ·exact h
   ·obtain ⟨r,hq,e1,e2⟩:=ih s' (i + 1) hI' (by omega)
    exact ⟨r,hq,h1 r e1,h2 r e2⟩
 intro s i hI hi
 exact main (n - i).toNat s i hI (by omega)
end Go.Proofs.Ytbpccdbkaiigcaa.G

-- Written by wip/tools/gen.py out of the translation (the kit's printer, one namespace a seat). Lean checks it.
namespace Go.Proofs.Ytbpccdbkaiigcaa.G
open Go.RowKit Go.Proofs.YtbpccdbkaiigcaaW.PrintWords Go.Proofs.YtbpccdbkaiigcaaW.PrintLast Go.Proofs.YtbpccdbkaiigcaaW.PrintMore
attribute [local go_sem] max2_int min2_int max_two min_two max_three min_three max_four min_four   -- for this text's walks alone
set_option linter.unusedVariables false
set_option linter.unusedSimpArgs false

/-! ### impl_within: function 54 -/
def impl_within.f (a0:Int) (a1:Int) (a2:Int):Option (Bool):=if a0 ≥ a1 then (some (decide (a0 ≤ a2))) else (some false)
set_option maxHeartbeats 8000000 in
set_option maxRecDepth 100000 in
theorem impl_within.calls (a0:Int) (a1:Int) (a2:Int) (r:Bool) (w:World) (h:impl_within.f a0 a1 a2 = some r) :
  Calls Try.prog 54 #[.int .i64 a0,.int .i64 a1,.int .i64 a2] w fun e w'=>e = .returned (.bool r) ∧ Drawn0 w w':=by
 have H:(if a0 ≥ a1 then (some (decide (a0 ≤ a2))) else (some false)) = some r:=h
 clear h;by_cases c4:a0 ≥ a1
 ·rw [if_pos c4] at H
  have c4b0:decide (a1 ≤ a0) = true:=decide_eq_true c4
  clear c4;obtain rfl:=Option.some.inj H;go_enter Try.func54,Try.ntmps54
  go_wp2
  go_ret
  exact ⟨by first|rfl|(simp;done)|(simp [*];done),by repeat (first|exact Drawn0.refl _|apply Drawn0.step)⟩
 ·rw [if_neg c4] at H
  have c4b0:decide (a1 ≤ a0) = false:=decide_eq_false c4
  clear c4;obtain rfl:=Option.some.inj H;go_enter Try.func54,Try.ntmps54
  go_wp2
  go_ret
  exact ⟨by first|rfl|(simp;done)|(simp [*];done),by repeat (first|exact Drawn0.refl _|apply Drawn0.step)⟩



/-! ### spec_l1Most: function 86 -/
def spec_l1Most.f (a0:Int) (a1:Int):Option (Int):=if a0 > a1 then (some a0) else (some a1)
set_option maxHeartbeats 8000000 in
set_option maxRecDepth 100000 in
theorem spec_l1Most.calls (a0:Int) (a1:Int) (r:Int) (w:World) (h:spec_l1Most.f a0 a1 = some r) :
  Calls Try.prog 86 #[.int .i64 a0,.int .i64 a1] w fun e w'=>e = .returned (.int .i64 r) ∧ Drawn0 w w':=by
 have H:(if a0 > a1 then (some a0) else (some a1)) = some r:=h
 clear h;by_cases c3:a0 > a1
 ·rw [if_pos c3] at H
  have c3b0:decide (a1 < a0) = true:=decide_eq_true c3
  clear c3;obtain rfl:=Option.some.inj H;go_enter Try.func86,Try.ntmps86
  go_wp2
  go_ret
  exact ⟨by first|rfl|(simp;done)|(simp [*];done),by repeat (first|exact Drawn0.refl _|apply Drawn0.step)⟩
 ·rw [if_neg c3] at H
  have c3b0:decide (a1 < a0) = false:=decide_eq_false c3
  clear c3;obtain rfl:=Option.some.inj H;go_enter Try.func86,Try.ntmps86
  go_wp2
  go_ret
  exact ⟨by first|rfl|(simp;done)|(simp [*];done),by repeat (first|exact Drawn0.refl _|apply Drawn0.step)⟩

end Go.Proofs.Ytbpccdbkaiigcaa.G

namespace Go.Proofs.Ytbpccdbkaiigcaa.G
open Go.RowKit Go.Proofs.YtbpccdbkaiigcaaW.PrintWords Go.Proofs.YtbpccdbkaiigcaaW.PrintLast
set_option linter.unusedVariables false
set_option linter.unusedSimpArgs false
theorem impl_within_eq (a b c : Int) : impl_within.f a b c = some (decide (b ≤ a ∧ a ≤ c)):=by
 unfold impl_within.f
 split
 ·rename_i h;congr 1;simp;omega
 ·rename_i h;congr 1;simp;omega
theorem spec_l1In_eq (a b c : Int) : spec_l1In.f a b c = some (decide (b ≤ a ∧ a ≤ c)):=by
 unfold spec_l1In.f
 split
 ·rename_i h;congr 1;simp;omega
 ·rename_i h;congr 1;simp;omega
theorem spec_most_eq (a b : Int) : spec_l1Most.f a b = some (mx a b):=by
 unfold spec_l1Most.f mx
 split <;> split <;> first|rfl|(congr 1;omega)
end Go.Proofs.Ytbpccdbkaiigcaa.G

-- Written by wip/tools/gen.py out of the translation (the kit's printer, one namespace a seat). Lean checks it.
namespace Go.Proofs.Ytbpccdbkaiigcaa.G
open Go.RowKit Go.Proofs.YtbpccdbkaiigcaaW.PrintWords Go.Proofs.YtbpccdbkaiigcaaW.PrintLast Go.Proofs.YtbpccdbkaiigcaaW.PrintMore
attribute [local go_sem] max2_int min2_int max_two min_two max_three min_three max_four min_four   -- for this text's walks alone
set_option linter.unusedVariables false
set_option linter.unusedSimpArgs false

/-! ### impl_onFloor: function 55 -/
def impl_onFloor.f (a0_0:Int) (a0_1:Int) (l0_2:List (S48)) (a1_0:Int) (a1_1:Int):Option (Bool):=(impl_within.f a1_0 0 (wrap64 (a0_0 - 1))).bind fun t136=>(if t136 = true then ((impl_within.f a1_1 0 (wrap64 (a0_1 - 1))).bind fun t137=>(some t137)) else (some false))
set_option maxHeartbeats 8000000 in
set_option maxRecDepth 100000 in
theorem impl_onFloor.calls (a0_0:Int) (a0_1:Int) (A0_2:Option Addr) (c0_2:Nat) (l0_2:List (S48)) (a1_0:Int) (a1_1:Int) (r:Bool) (w:World) (hr0_2:Kd.C k48 w A0_2 l0_2.length l0_2) (hc0_2:l0_2.length ≤ c0_2) (h:impl_onFloor.f a0_0 a0_1 l0_2 a1_0 a1_1 = some r) :
  Calls Try.prog 55 #[.agg #[.int .i64 a0_0,.int .i64 a0_1,.slice A0_2 l0_2.length c0_2],.agg #[.int .i64 a1_0,.int .i64 a1_1]] w fun e w'=>e = .returned (.bool r) ∧ Below w.heap.size w w':=by
 have hu29:=Try.underlying29;have hu48:=Try.underlying48;have HR0_2:=zM hr0_2;have HC0_2:=zM hc0_2;clear hr0_2 hc0_2;have HB:=zM (Below.refl w.heap.size w);have H:((impl_within.f a1_0 0 (wrap64 (a0_0 - 1))).bind fun t136=>(if t136 = true then ((impl_within.f a1_1 0 (wrap64 (a0_1 - 1))).bind fun t137=>(some t137)) else (some false))) = some r:=h
 clear h;replace H:=Option.bind_eq_some_iff.mp H;obtain ⟨t136,A30,H⟩:=H;replace H:(if t136 = true then ((impl_within.f a1_1 0 (wrap64 (a0_1 - 1))).bind fun t137=>(some t137)) else (some false)) = some r:=H
 have A3:=zM A30;clear A30;by_cases c4:t136 = true
 ·subst c4
  have H1:((impl_within.f a1_1 0 (wrap64 (a0_1 - 1))).bind fun t137=>(some t137)) = some r:=by rw [if_pos rfl] at H;exact H
  clear H;have H:=H1;clear H1;replace H:=Option.bind_eq_some_iff.mp H;obtain ⟨t137,A50,H⟩:=H;replace H:(some t137) = some r:=H
  have A5:=zM A50;clear A50;obtain rfl:=Option.some.inj H;go_enter Try.func55,Try.ntmps55
  go_wp2_with (first|((with_reducible refine gate_dst (N:=2) rfl ?_);refine box_event ?hg (N:=2) ?hd (cs := #[.int .i64 a0_0,.int .i64 a0_1,.slice A0_2 l0_2.length c0_2]) (t:=29) ?hr ?_;(case hd=>rfl);(case hg=>rfl);(case hr=>first|(go_simp;done)|(go_simp;rfl));intro gb134 hg w6 hbox hb;have n0_:=zM (zQ (by repeat (first|(with_reducible first|exact HB.out|apply zD|apply zE|apply zF)|exact HB.out)) hb);have n1_:=zM (hbox);have n2_:=zM ((by rw [hg];exact (zR (by repeat (first|(with_reducible first|exact HB.out|apply zD|apply zE|apply zF)|exact HB.out))):w.heap.size ≤ gb134));have n3_:=zM ((by rw [hg];exact (zR (by repeat (first|(with_reducible first|exact HB.out|apply zD|apply zE|apply zF)|exact HB.out))):w.heap.size ≤ gb134));clear HB;have HB:=n0_;have BK134:=n1_;have GW134:=n2_;have GE134:=n3_;clear n0_ n1_ n2_ n3_;clear hb hbox hg)|((with_reducible refine gate_dst (N:=3) rfl ?_);refine box_event ?hg (N:=3) ?hd (cs := #[.int .i64 a1_0,.int .i64 a1_1]) (t:=48) ?hr ?_;(case hd=>rfl);(case hg=>rfl);(case hr=>first|(go_simp;done)|(go_simp;rfl));intro gb135 hg w7 hbox hb;have n0_:=zM (blk_below (g:=gb134) (o := .cells #[.int .i64 a0_0,.int .i64 a0_1,.slice A0_2 l0_2.length c0_2] 29 (0,0)) (by (with_reducible repeat (first|refine zJ ?_ _|refine zK ?_|refine zL ?_ _));exact BK134.out) hb);have n1_:=zM (zQ (by repeat (first|(with_reducible first|exact HB.out|apply zD|apply zE|apply zF|refine below_set ?_ GE134.out)|exact HB.out)) hb);have n2_:=zM (hbox);have n3_:=zM ((by rw [hg];exact (zR (by repeat (first|(with_reducible first|exact HB.out|apply zD|apply zE|apply zF|refine below_set ?_ GE134.out)|exact HB.out))):w.heap.size ≤ gb135));have n4_:=zM ((by rw [hg];exact (zR (by repeat (first|(with_reducible first|exact HB.out|apply zD|apply zE|apply zF|refine below_set ?_ GE134.out)|exact HB.out))):w.heap.size ≤ gb135));have n5_:=zM ((by rw [hg];exact Nat.ne_of_lt (blk_lt (g:=gb134) (o := .cells #[.int .i64 a0_0,.int .i64 a0_1,.slice A0_2 l0_2.length c0_2] 29 (0,0)) (by (with_reducible repeat (first|refine zJ ?_ _|refine zK ?_|refine zL ?_ _));exact BK134.out)):gb134 ≠ gb135));have n6_:=zM ((by rw [hg];exact Nat.ne_of_gt (blk_lt (g:=gb134) (o := .cells #[.int .i64 a0_0,.int .i64 a0_1,.slice A0_2 l0_2.length c0_2] 29 (0,0)) (by (with_reducible repeat (first|refine zJ ?_ _|refine zK ?_|refine zL ?_ _));exact BK134.out)):gb135 ≠ gb134));clear BK134;clear HB;have BK134:=n0_;have HB:=n1_;have BK135:=n2_;have GW135:=n3_;have GE135:=n4_;have NB134_135:=n5_;have NB135_134:=n6_;clear n0_ n1_ n2_ n3_ n4_ n5_ n6_;clear hb hbox hg;have hnb8:=NB135_134.out;have hnc8:=NB134_135.out;have hcz9_0:w7.cell? ⟨gb135,0,none⟩ = some (.int .i64 a1_0):=(blk_cell BK135.out 0).trans rfl;have hcz9_1:w7.cell? ⟨gb135,1,none⟩ = some (.int .i64 a1_1):=(blk_cell BK135.out 1).trans rfl;have hfz9_0:=blk_frozen BK135.out 0;have hfz9_1:=blk_frozen BK135.out 1;have hcz10_0:w7.cell? ⟨gb134,0,none⟩ = some (.int .i64 a0_0):=(blk_cell BK134.out 0).trans rfl;have hcz10_1:w7.cell? ⟨gb134,1,none⟩ = some (.int .i64 a0_1):=(blk_cell BK134.out 1).trans rfl;have hcz10_2:w7.cell? ⟨gb134,2,none⟩ = some (.slice A0_2 l0_2.length c0_2):=(blk_cell BK134.out 2).trans rfl;have hfz10_0:=blk_frozen BK134.out 0;have hfz10_1:=blk_frozen BK134.out 1;have hfz10_2:=blk_frozen BK134.out 2)|((with_reducible refine gate_callee (f:=54) rfl ?_);refine goesL_ (some 10) rfl rfl Try.func54 (by kernel_rfl) rfl #[.int .i64 a1_0,.int .i64 0,.int .i64 (wrap64 (a0_0 - 1))] rfl (by (try simp only [List.map_toArray,List.map_cons,List.map_nil]);first|done|rfl|(simp only [List.length_drop,List.length_take];rfl)) ?_;(with_reducible refine (impl_within.calls a1_0 0 (wrap64 (a0_0 - 1)) true _ A3.out).mono ?_);rintro e w' ⟨rfl,⟨nd,rfl⟩⟩;refine ⟨_,rfl,?_⟩)|(go_at_call 54;(with_reducible refine (impl_within.calls a1_1 0 (wrap64 (a0_1 - 1)) t137 _ A5.out).mono ?_);rintro e w' ⟨rfl,⟨nd,rfl⟩⟩))
  go_ret
  exact ⟨by first|rfl|(simp [errW_none,errW_some] <;> rfl)|(simp [*,errW_none,errW_some] <;> rfl),by repeat (first|(with_reducible first|exact HB.out|apply zD|apply zE|apply zF|refine below_set ?_ GE134.out|refine below_set ?_ GE135.out)|exact HB.out)⟩
 ·replace c4:=Bool.eq_false_iff.mpr c4
  subst c4;have H1:(some false) = some r:=by rw [if_neg (show ¬ (false = true) by decide)] at H;exact H
  clear H;have H:=H1;clear H1;obtain rfl:=Option.some.inj H;go_enter Try.func55,Try.ntmps55
  go_wp2_with (first|((with_reducible refine gate_dst (N:=2) rfl ?_);refine box_event ?hg (N:=2) ?hd (cs := #[.int .i64 a0_0,.int .i64 a0_1,.slice A0_2 l0_2.length c0_2]) (t:=29) ?hr ?_;(case hd=>rfl);(case hg=>rfl);(case hr=>first|(go_simp;done)|(go_simp;rfl));intro gb134 hg w11 hbox hb;have n0_:=zM (zQ (by repeat (first|(with_reducible first|exact HB.out|apply zD|apply zE|apply zF)|exact HB.out)) hb);have n1_:=zM (hbox);have n2_:=zM ((by rw [hg];exact (zR (by repeat (first|(with_reducible first|exact HB.out|apply zD|apply zE|apply zF)|exact HB.out))):w.heap.size ≤ gb134));have n3_:=zM ((by rw [hg];exact (zR (by repeat (first|(with_reducible first|exact HB.out|apply zD|apply zE|apply zF)|exact HB.out))):w.heap.size ≤ gb134));clear HB;have HB:=n0_;have BK134:=n1_;have GW134:=n2_;have GE134:=n3_;clear n0_ n1_ n2_ n3_;clear hb hbox hg)|((with_reducible refine gate_dst (N:=3) rfl ?_);refine box_event ?hg (N:=3) ?hd (cs := #[.int .i64 a1_0,.int .i64 a1_1]) (t:=48) ?hr ?_;(case hd=>rfl);(case hg=>rfl);(case hr=>first|(go_simp;done)|(go_simp;rfl));intro gb135 hg w12 hbox hb;have n0_:=zM (blk_below (g:=gb134) (o := .cells #[.int .i64 a0_0,.int .i64 a0_1,.slice A0_2 l0_2.length c0_2] 29 (0,0)) (by (with_reducible repeat (first|refine zJ ?_ _|refine zK ?_|refine zL ?_ _));exact BK134.out) hb);have n1_:=zM (zQ (by repeat (first|(with_reducible first|exact HB.out|apply zD|apply zE|apply zF|refine below_set ?_ GE134.out)|exact HB.out)) hb);have n2_:=zM (hbox);have n3_:=zM ((by rw [hg];exact (zR (by repeat (first|(with_reducible first|exact HB.out|apply zD|apply zE|apply zF|refine below_set ?_ GE134.out)|exact HB.out))):w.heap.size ≤ gb135));have n4_:=zM ((by rw [hg];exact (zR (by repeat (first|(with_reducible first|exact HB.out|apply zD|apply zE|apply zF|refine below_set ?_ GE134.out)|exact HB.out))):w.heap.size ≤ gb135));have n5_:=zM ((by rw [hg];exact Nat.ne_of_lt (blk_lt (g:=gb134) (o := .cells #[.int .i64 a0_0,.int .i64 a0_1,.slice A0_2 l0_2.length c0_2] 29 (0,0)) (by (with_reducible repeat (first|refine zJ ?_ _|refine zK ?_|refine zL ?_ _));exact BK134.out)):gb134 ≠ gb135));have n6_:=zM ((by rw [hg];exact Nat.ne_of_gt (blk_lt (g:=gb134) (o := .cells #[.int .i64 a0_0,.int .i64 a0_1,.slice A0_2 l0_2.length c0_2] 29 (0,0)) (by (with_reducible repeat (first|refine zJ ?_ _|refine zK ?_|refine zL ?_ _));exact BK134.out)):gb135 ≠ gb134));clear BK134;clear HB;have BK134:=n0_;have HB:=n1_;have BK135:=n2_;have GW135:=n3_;have GE135:=n4_;have NB134_135:=n5_;have NB135_134:=n6_;clear n0_ n1_ n2_ n3_ n4_ n5_ n6_;clear hb hbox hg;have hnb13:=NB135_134.out;have hnc13:=NB134_135.out;have hcz14_0:w12.cell? ⟨gb135,0,none⟩ = some (.int .i64 a1_0):=(blk_cell BK135.out 0).trans rfl;have hcz14_1:w12.cell? ⟨gb135,1,none⟩ = some (.int .i64 a1_1):=(blk_cell BK135.out 1).trans rfl;have hfz14_0:=blk_frozen BK135.out 0;have hfz14_1:=blk_frozen BK135.out 1;have hcz15_0:w12.cell? ⟨gb134,0,none⟩ = some (.int .i64 a0_0):=(blk_cell BK134.out 0).trans rfl;have hcz15_1:w12.cell? ⟨gb134,1,none⟩ = some (.int .i64 a0_1):=(blk_cell BK134.out 1).trans rfl;have hcz15_2:w12.cell? ⟨gb134,2,none⟩ = some (.slice A0_2 l0_2.length c0_2):=(blk_cell BK134.out 2).trans rfl;have hfz15_0:=blk_frozen BK134.out 0;have hfz15_1:=blk_frozen BK134.out 1;have hfz15_2:=blk_frozen BK134.out 2)|((with_reducible refine gate_callee (f:=54) rfl ?_);refine goesL_ (some 10) rfl rfl Try.func54 (by kernel_rfl) rfl #[.int .i64 a1_0,.int .i64 0,.int .i64 (wrap64 (a0_0 - 1))] rfl (by (try simp only [List.map_toArray,List.map_cons,List.map_nil]);first|done|rfl|(simp only [List.length_drop,List.length_take];rfl)) ?_;(with_reducible refine (impl_within.calls a1_0 0 (wrap64 (a0_0 - 1)) false _ A3.out).mono ?_);rintro e w' ⟨rfl,⟨nd,rfl⟩⟩;refine ⟨_,rfl,?_⟩))
  go_ret
  exact ⟨by first|rfl|(simp [errW_none,errW_some] <;> rfl)|(simp [*,errW_none,errW_some] <;> rfl),by repeat (first|(with_reducible first|exact HB.out|apply zD|apply zE|apply zF|refine below_set ?_ GE134.out|refine below_set ?_ GE135.out)|exact HB.out)⟩



/-! ### impl_before: function 56 -/
def impl_before.f (a0_0:Int) (a0_1:Int) (a1_0:Int) (a1_1:Int):Option (Bool):=if a0_1 < a1_1 then (some true) else (if a0_1 = a1_1 then (some (decide (a0_0 < a1_0))) else (some false))
set_option maxHeartbeats 8000000 in
set_option maxRecDepth 100000 in
theorem impl_before.calls (a0_0:Int) (a0_1:Int) (a1_0:Int) (a1_1:Int) (r:Bool) (w:World) (h:impl_before.f a0_0 a0_1 a1_0 a1_1 = some r) :
  Calls Try.prog 56 #[.agg #[.int .i64 a0_0,.int .i64 a0_1],.agg #[.int .i64 a1_0,.int .i64 a1_1]] w fun e w'=>e = .returned (.bool r) ∧ Below w.heap.size w w':=by
 have hu48:=Try.underlying48;have HB:=zM (Below.refl w.heap.size w);have H:(if a0_1 < a1_1 then (some true) else (if a0_1 = a1_1 then (some (decide (a0_0 < a1_0))) else (some false))) = some r:=h
 clear h;by_cases c3:a0_1 < a1_1
 ·rw [if_pos c3] at H
  have c3b0:decide (a0_1 < a1_1) = true:=decide_eq_true c3
  clear c3;obtain rfl:=Option.some.inj H;go_enter Try.func56,Try.ntmps56
  go_wp2_with (first|((with_reducible refine gate_dst (N:=2) rfl ?_);refine box_event ?hg (N:=2) ?hd (cs := #[.int .i64 a0_0,.int .i64 a0_1]) (t:=48) ?hr ?_;(case hd=>rfl);(case hg=>rfl);(case hr=>first|(go_simp;done)|(go_simp;rfl));intro gb138 hg w4 hbox hb;have n0_:=zM (zQ (by repeat (first|(with_reducible first|exact HB.out|apply zD|apply zE|apply zF)|exact HB.out)) hb);have n1_:=zM (hbox);have n2_:=zM ((by rw [hg];exact (zR (by repeat (first|(with_reducible first|exact HB.out|apply zD|apply zE|apply zF)|exact HB.out))):w.heap.size ≤ gb138));have n3_:=zM ((by rw [hg];exact (zR (by repeat (first|(with_reducible first|exact HB.out|apply zD|apply zE|apply zF)|exact HB.out))):w.heap.size ≤ gb138));clear HB;have HB:=n0_;have BK138:=n1_;have GW138:=n2_;have GE138:=n3_;clear n0_ n1_ n2_ n3_;clear hb hbox hg)|((with_reducible refine gate_dst (N:=3) rfl ?_);refine box_event ?hg (N:=3) ?hd (cs := #[.int .i64 a1_0,.int .i64 a1_1]) (t:=48) ?hr ?_;(case hd=>rfl);(case hg=>rfl);(case hr=>first|(go_simp;done)|(go_simp;rfl));intro gb139 hg w5 hbox hb;have n0_:=zM (blk_below (g:=gb138) (o := .cells #[.int .i64 a0_0,.int .i64 a0_1] 48 (0,0)) (by (with_reducible repeat (first|refine zJ ?_ _|refine zK ?_|refine zL ?_ _));exact BK138.out) hb);have n1_:=zM (zQ (by repeat (first|(with_reducible first|exact HB.out|apply zD|apply zE|apply zF|refine below_set ?_ GE138.out)|exact HB.out)) hb);have n2_:=zM (hbox);have n3_:=zM ((by rw [hg];exact (zR (by repeat (first|(with_reducible first|exact HB.out|apply zD|apply zE|apply zF|refine below_set ?_ GE138.out)|exact HB.out))):w.heap.size ≤ gb139));have n4_:=zM ((by rw [hg];exact (zR (by repeat (first|(with_reducible first|exact HB.out|apply zD|apply zE|apply zF|refine below_set ?_ GE138.out)|exact HB.out))):w.heap.size ≤ gb139));have n5_:=zM ((by rw [hg];exact Nat.ne_of_lt (blk_lt (g:=gb138) (o := .cells #[.int .i64 a0_0,.int .i64 a0_1] 48 (0,0)) (by (with_reducible repeat (first|refine zJ ?_ _|refine zK ?_|refine zL ?_ _));exact BK138.out)):gb138 ≠ gb139));have n6_:=zM ((by rw [hg];exact Nat.ne_of_gt (blk_lt (g:=gb138) (o := .cells #[.int .i64 a0_0,.int .i64 a0_1] 48 (0,0)) (by (with_reducible repeat (first|refine zJ ?_ _|refine zK ?_|refine zL ?_ _));exact BK138.out)):gb139 ≠ gb138));clear BK138;clear HB;have BK138:=n0_;have HB:=n1_;have BK139:=n2_;have GW139:=n3_;have GE139:=n4_;have NB138_139:=n5_;have NB139_138:=n6_;clear n0_ n1_ n2_ n3_ n4_ n5_ n6_;clear hb hbox hg;have hnb6:=NB138_139.out;have hnc6:=NB139_138.out;have hcz7_0:w5.cell? ⟨gb138,0,none⟩ = some (.int .i64 a0_0):=(blk_cell BK138.out 0).trans rfl;have hcz7_1:w5.cell? ⟨gb138,1,none⟩ = some (.int .i64 a0_1):=(blk_cell BK138.out 1).trans rfl;have hfz7_0:=blk_frozen BK138.out 0;have hfz7_1:=blk_frozen BK138.out 1;have hcz8_0:w5.cell? ⟨gb139,0,none⟩ = some (.int .i64 a1_0):=(blk_cell BK139.out 0).trans rfl;have hcz8_1:w5.cell? ⟨gb139,1,none⟩ = some (.int .i64 a1_1):=(blk_cell BK139.out 1).trans rfl;have hfz8_0:=blk_frozen BK139.out 0;have hfz8_1:=blk_frozen BK139.out 1))
  go_ret
  exact ⟨by first|rfl|(simp [errW_none,errW_some] <;> rfl)|(simp [*,errW_none,errW_some] <;> rfl),by repeat (first|(with_reducible first|exact HB.out|apply zD|apply zE|apply zF|refine below_set ?_ GE138.out|refine below_set ?_ GE139.out)|exact HB.out)⟩
 ·rw [if_neg c3] at H
  have c3b0:decide (a0_1 < a1_1) = false:=decide_eq_false c3
  clear c3;by_cases c9:a0_1 = a1_1
  ·rw [if_pos c9] at H
   have c9b0:(a0_1 == a1_1) = true:=beq_iff_eq.mpr c9
   have c9b1:(a0_1 != a1_1) = false:=bne_eq_false_iff_eq.mpr c9
   clear c9;obtain rfl:=Option.some.inj H;go_enter Try.func56,Try.ntmps56
   go_wp2_with (first|((with_reducible refine gate_dst (N:=2) rfl ?_);refine box_event ?hg (N:=2) ?hd (cs := #[.int .i64 a0_0,.int .i64 a0_1]) (t:=48) ?hr ?_;(case hd=>rfl);(case hg=>rfl);(case hr=>first|(go_simp;done)|(go_simp;rfl));intro gb138 hg w10 hbox hb;have n0_:=zM (zQ (by repeat (first|(with_reducible first|exact HB.out|apply zD|apply zE|apply zF)|exact HB.out)) hb);have n1_:=zM (hbox);have n2_:=zM ((by rw [hg];exact (zR (by repeat (first|(with_reducible first|exact HB.out|apply zD|apply zE|apply zF)|exact HB.out))):w.heap.size ≤ gb138));have n3_:=zM ((by rw [hg];exact (zR (by repeat (first|(with_reducible first|exact HB.out|apply zD|apply zE|apply zF)|exact HB.out))):w.heap.size ≤ gb138));clear HB;have HB:=n0_;have BK138:=n1_;have GW138:=n2_;have GE138:=n3_;clear n0_ n1_ n2_ n3_;clear hb hbox hg)|((with_reducible refine gate_dst (N:=3) rfl ?_);refine box_event ?hg (N:=3) ?hd (cs := #[.int .i64 a1_0,.int .i64 a1_1]) (t:=48) ?hr ?_;(case hd=>rfl);(case hg=>rfl);(case hr=>first|(go_simp;done)|(go_simp;rfl));intro gb139 hg w11 hbox hb;have n0_:=zM (blk_below (g:=gb138) (o := .cells #[.int .i64 a0_0,.int .i64 a0_1] 48 (0,0)) (by (with_reducible repeat (first|refine zJ ?_ _|refine zK ?_|refine zL ?_ _));exact BK138.out) hb);have n1_:=zM (zQ (by repeat (first|(with_reducible first|exact HB.out|apply zD|apply zE|apply zF|refine below_set ?_ GE138.out)|exact HB.out)) hb);have n2_:=zM (hbox);have n3_:=zM ((by rw [hg];exact (zR (by repeat (first|(with_reducible first|exact HB.out|apply zD|apply zE|apply zF|refine below_set ?_ GE138.out)|exact HB.out))):w.heap.size ≤ gb139));have n4_:=zM ((by rw [hg];exact (zR (by repeat (first|(with_reducible first|exact HB.out|apply zD|apply zE|apply zF|refine below_set ?_ GE138.out)|exact HB.out))):w.heap.size ≤ gb139));have n5_:=zM ((by rw [hg];exact Nat.ne_of_lt (blk_lt (g:=gb138) (o := .cells #[.int .i64 a0_0,.int .i64 a0_1] 48 (0,0)) (by (with_reducible repeat (first|refine zJ ?_ _|refine zK ?_|refine zL ?_ _));exact BK138.out)):gb138 ≠ gb139));have n6_:=zM ((by rw [hg];exact Nat.ne_of_gt (blk_lt (g:=gb138) (o := .cells #[.int .i64 a0_0,.int .i64 a0_1] 48 (0,0)) (by (with_reducible repeat (first|refine zJ ?_ _|refine zK ?_|refine zL ?_ _));exact BK138.out)):gb139 ≠ gb138));clear BK138;clear HB;have BK138:=n0_;have HB:=n1_;have BK139:=n2_;have GW139:=n3_;have GE139:=n4_;have NB138_139:=n5_;have NB139_138:=n6_;clear n0_ n1_ n2_ n3_ n4_ n5_ n6_;clear hb hbox hg;have hnb12:=NB138_139.out;have hnc12:=NB139_138.out;have hcz13_0:w11.cell? ⟨gb138,0,none⟩ = some (.int .i64 a0_0):=(blk_cell BK138.out 0).trans rfl;have hcz13_1:w11.cell? ⟨gb138,1,none⟩ = some (.int .i64 a0_1):=(blk_cell BK138.out 1).trans rfl;have hfz13_0:=blk_frozen BK138.out 0;have hfz13_1:=blk_frozen BK138.out 1;have hcz14_0:w11.cell? ⟨gb139,0,none⟩ = some (.int .i64 a1_0):=(blk_cell BK139.out 0).trans rfl;have hcz14_1:w11.cell? ⟨gb139,1,none⟩ = some (.int .i64 a1_1):=(blk_cell BK139.out 1).trans rfl;have hfz14_0:=blk_frozen BK139.out 0;have hfz14_1:=blk_frozen BK139.out 1))
   go_ret
   exact ⟨by first|rfl|(simp [errW_none,errW_some] <;> rfl)|(simp [*,errW_none,errW_some] <;> rfl),by repeat (first|(with_reducible first|exact HB.out|apply zD|apply zE|apply zF|refine below_set ?_ GE138.out|refine below_set ?_ GE139.out)|exact HB.out)⟩
  ·rw [if_neg c9] at H
   have c9b0:(a0_1 == a1_1) = false:=beq_eq_false_iff_ne.mpr c9
   have c9b1:(a0_1 != a1_1) = true:=bne_iff_ne.mpr c9
   obtain rfl:=Option.some.inj H;go_enter Try.func56,Try.ntmps56
   go_wp2_with (first|((with_reducible refine gate_dst (N:=2) rfl ?_);refine box_event ?hg (N:=2) ?hd (cs := #[.int .i64 a0_0,.int .i64 a0_1]) (t:=48) ?hr ?_;(case hd=>rfl);(case hg=>rfl);(case hr=>first|(go_simp;done)|(go_simp;rfl));intro gb138 hg w15 hbox hb;have n0_:=zM (zQ (by repeat (first|(with_reducible first|exact HB.out|apply zD|apply zE|apply zF)|exact HB.out)) hb);have n1_:=zM (hbox);have n2_:=zM ((by rw [hg];exact (zR (by repeat (first|(with_reducible first|exact HB.out|apply zD|apply zE|apply zF)|exact HB.out))):w.heap.size ≤ gb138));have n3_:=zM ((by rw [hg];exact (zR (by repeat (first|(with_reducible first|exact HB.out|apply zD|apply zE|apply zF)|exact HB.out))):w.heap.size ≤ gb138));clear HB;have HB:=n0_;have BK138:=n1_;have GW138:=n2_;have GE138:=n3_;clear n0_ n1_ n2_ n3_;clear hb hbox hg)|((with_reducible refine gate_dst (N:=3) rfl ?_);refine box_event ?hg (N:=3) ?hd (cs := #[.int .i64 a1_0,.int .i64 a1_1]) (t:=48) ?hr ?_;(case hd=>rfl);(case hg=>rfl);(case hr=>first|(go_simp;done)|(go_simp;rfl));intro gb139 hg w16 hbox hb;have n0_:=zM (blk_below (g:=gb138) (o := .cells #[.int .i64 a0_0,.int .i64 a0_1] 48 (0,0)) (by (with_reducible repeat (first|refine zJ ?_ _|refine zK ?_|refine zL ?_ _));exact BK138.out) hb);have n1_:=zM (zQ (by repeat (first|(with_reducible first|exact HB.out|apply zD|apply zE|apply zF|refine below_set ?_ GE138.out)|exact HB.out)) hb);have n2_:=zM (hbox);have n3_:=zM ((by rw [hg];exact (zR (by repeat (first|(with_reducible first|exact HB.out|apply zD|apply zE|apply zF|refine below_set ?_ GE138.out)|exact HB.out))):w.heap.size ≤ gb139));have n4_:=zM ((by rw [hg];exact (zR (by repeat (first|(with_reducible first|exact HB.out|apply zD|apply zE|apply zF|refine below_set ?_ GE138.out)|exact HB.out))):w.heap.size ≤ gb139));have n5_:=zM ((by rw [hg];exact Nat.ne_of_lt (blk_lt (g:=gb138) (o := .cells #[.int .i64 a0_0,.int .i64 a0_1] 48 (0,0)) (by (with_reducible repeat (first|refine zJ ?_ _|refine zK ?_|refine zL ?_ _));exact BK138.out)):gb138 ≠ gb139));have n6_:=zM ((by rw [hg];exact Nat.ne_of_gt (blk_lt (g:=gb138) (o := .cells #[.int .i64 a0_0,.int .i64 a0_1] 48 (0,0)) (by (with_reducible repeat (first|refine zJ ?_ _|refine zK ?_|refine zL ?_ _));exact BK138.out)):gb139 ≠ gb138));clear BK138;clear HB;have BK138:=n0_;have HB:=n1_;have BK139:=n2_;have GW139:=n3_;have GE139:=n4_;have NB138_139:=n5_;have NB139_138:=n6_;clear n0_ n1_ n2_ n3_ n4_ n5_ n6_;clear hb hbox hg;have hnb17:=NB138_139.out;have hnc17:=NB139_138.out;have hcz18_0:w16.cell? ⟨gb138,0,none⟩ = some (.int .i64 a0_0):=(blk_cell BK138.out 0).trans rfl;have hcz18_1:w16.cell? ⟨gb138,1,none⟩ = some (.int .i64 a0_1):=(blk_cell BK138.out 1).trans rfl;have hfz18_0:=blk_frozen BK138.out 0;have hfz18_1:=blk_frozen BK138.out 1;have hcz19_0:w16.cell? ⟨gb139,0,none⟩ = some (.int .i64 a1_0):=(blk_cell BK139.out 0).trans rfl;have hcz19_1:w16.cell? ⟨gb139,1,none⟩ = some (.int .i64 a1_1):=(blk_cell BK139.out 1).trans rfl;have hfz19_0:=blk_frozen BK139.out 0;have hfz19_1:=blk_frozen BK139.out 1))
   go_ret
   exact ⟨by first|rfl|(simp [errW_none,errW_some] <;> rfl)|(simp [*,errW_none,errW_some] <;> rfl),by repeat (first|(with_reducible first|exact HB.out|apply zD|apply zE|apply zF|refine below_set ?_ GE138.out|refine below_set ?_ GE139.out)|exact HB.out)⟩



/-! ### impl_IsValidFloor: function 16 -/
mutual
def impl_IsValidFloor.j0:Nat → Bool → Int → Int → List (S48) → Option (Bool)
 | 0,_,_,_,_=>none
 | k + 1,x14,x141000,x141001,x141002=>if x14 = true then (some false) else (impl_IsValidFloor.l0 k x141002 (x141002.length:Int) 0 x141000 x141001 x141002)
def impl_IsValidFloor.l0:Nat → List (S48) → Int → Int → Int → Int → List (S48) → Option (Bool)
 | 0,_,_,_,_,_,_=>none
 | k + 1,x16,x17,x18,x141000,x141001,x141002=>if x18 < x17 then (if 0 ≤ x18 then (if x18 < (x16.length:Int) then ((impl_onFloor.f x141000 x141001 x141002 ((rd_T48 x16 x18).f0) ((rd_T48 x16 x18).f1)).bind fun t145=>(if t145 = true then (if x18 > 0 then (if 0 ≤ (wrap64 (x18 - 1)) then (if (wrap64 (x18 - 1)) < (x141002.length:Int) then ((impl_before.f ((rd_T48 x141002 (wrap64 (x18 - 1))).f0) ((rd_T48 x141002 (wrap64 (x18 - 1))).f1) ((rd_T48 x16 x18).f0) ((rd_T48 x16 x18).f1)).bind fun t147=>(if t147 = true then (impl_IsValidFloor.l0 k x16 x17 (wrap64 (x18 + 1)) x141000 x141001 x141002) else (some false))) else (none)) else (none)) else (impl_IsValidFloor.l0 k x16 x17 (wrap64 (x18 + 1)) x141000 x141001 x141002)) else (some false))) else (none)) else (none)) else (some true)
end
def impl_IsValidFloor.f (k:Nat) (a0_0:Int) (a0_1:Int) (l0_2:List (S48)):Option (Bool):=(impl_within.f a0_0 1 6).bind fun t141=>(if t141 = true then ((impl_within.f a0_1 1 6).bind fun t142=>(impl_IsValidFloor.j0 k (!t142) a0_0 a0_1 l0_2)) else (impl_IsValidFloor.j0 k true a0_0 a0_1 l0_2))
def impl_IsValidFloor.T6:Bool × List (List Nat × List Nat):=(true,[([],[]),([],[]),([0,1],[0,1]),([2],[2]),([3,2],[3]),([4],[4]),([5,4],[4,5]),([6,4,4],[4,6]),([7],[7]),([8,7],[7,8]),([7],[7]),([10,7],[7,10]),([9,11,7],[7,9,11]),([12,7],[7,12]),([7],[7]),([13,14,7,7],[7,13,14]),([15,7],[7,15]),([7,16,4],[4,7,16]),([4,17],[4,17])])
def impl_IsValidFloor.B6:List Nat:=[0,0,3,7,15,31,63,127,255,511,255,1279,4095,8191,255,32767,65535,131071,262143]
theorem impl_IsValidFloor.tab6:rtab .any (opsOf Try.f16 6) = impl_IsValidFloor.T6:=by kernel_rfl
theorem impl_IsValidFloor.bits6:waitsOk impl_IsValidFloor.T6.2 impl_IsValidFloor.B6 = true:=by kernel_rfl
set_option maxHeartbeats 8000000 in
set_option maxRecDepth 100000 in
theorem impl_IsValidFloor.calls (k:Nat) (a0_0:Int) (a0_1:Int) (A0_2:Option Addr) (c0_2:Nat) (l0_2:List (S48)) (r:Bool) (w:World) (hr0_2:Kd.C k48 w A0_2 l0_2.length l0_2) (hc0_2:l0_2.length ≤ c0_2) (h:impl_IsValidFloor.f k a0_0 a0_1 l0_2 = some r) :
  Calls Try.prog 16 #[.agg #[.int .i64 a0_0,.int .i64 a0_1,.slice A0_2 l0_2.length c0_2]] w fun e w'=>e = .returned (.bool r) ∧ Below w.heap.size w w':=by
 have hu29:=Try.underlying29;have hu48:=Try.underlying48;have HR0_2:=zM hr0_2;have HC0_2:=zM hc0_2;clear hr0_2 hc0_2;have HB:=zM (Below.refl w.heap.size w);have H:((impl_within.f a0_0 1 6).bind fun t141=>(if t141 = true then ((impl_within.f a0_1 1 6).bind fun t142=>(impl_IsValidFloor.j0 k (!t142) a0_0 a0_1 l0_2)) else (impl_IsValidFloor.j0 k true a0_0 a0_1 l0_2))) = some r:=h
 clear h;have HC2:=zM H;clear H;go_enter Try.func16,Try.ntmps16
 go_upto_region 1 with (first|((with_reducible refine gate_dst (N:=1) rfl ?_);refine box_event ?hg (N:=1) ?hd (cs := #[.int .i64 a0_0,.int .i64 a0_1,.slice A0_2 l0_2.length c0_2]) (t:=29) ?hr ?_;(case hd=>rfl);(case hg=>rfl);(case hr=>first|(go_simp;done)|(go_simp;rfl));intro gb140 hg w3 hbox hb;have n0_:=zM (zQ (by repeat (first|(with_reducible first|exact HB.out|apply zD|apply zE|apply zF)|exact HB.out)) hb);have n1_:=zM (hbox);have n2_:=zM ((by rw [hg];exact (zR (by repeat (first|(with_reducible first|exact HB.out|apply zD|apply zE|apply zF)|exact HB.out))):w.heap.size ≤ gb140));have n3_:=zM ((by rw [hg];exact (zR (by repeat (first|(with_reducible first|exact HB.out|apply zD|apply zE|apply zF)|exact HB.out))):w.heap.size ≤ gb140));clear HB;have HB:=n0_;have BK140:=n1_;have GW140:=n2_;have GE140:=n3_;clear n0_ n1_ n2_ n3_;clear hb hbox hg))
 (try simp only [Act.put,zT,zU,zV])
 go_cut [14] (fun v14 wc => ∃ (kq:Nat) (x14_1:Bool),v14 = .bool x14_1 ∧ Aside0 (impl_IsValidFloor.j0 kq x14_1 a0_0 a0_1 l0_2 = some r) ∧ Aside0 (kq ≤ k) ∧ Aside0 (wc.heap[gb140]? = some (.cells #[.int .i64 a0_0,.int .i64 a0_1,(.slice A0_2 l0_2.length c0_2)] 29 (0,0))) ∧ Aside0 (Below w.heap.size w wc))
 case first =>
  have H:=HC2.out;clear HC2;replace H:=Option.bind_eq_some_iff.mp H;obtain ⟨t141,A40,H⟩:=H;replace H:(if t141 = true then ((impl_within.f a0_1 1 6).bind fun t142=>(impl_IsValidFloor.j0 k (!t142) a0_0 a0_1 l0_2)) else (impl_IsValidFloor.j0 k true a0_0 a0_1 l0_2)) = some r:=H
  have A4:=zM A40;clear A40;by_cases c5:t141 = true
  ·subst c5
   have H1:((impl_within.f a0_1 1 6).bind fun t142=>(impl_IsValidFloor.j0 k (!t142) a0_0 a0_1 l0_2)) = some r:=by rw [if_pos rfl] at H;exact H
   clear H;have H:=H1;clear H1;replace H:=Option.bind_eq_some_iff.mp H;obtain ⟨t142,A60,H⟩:=H;replace H:(impl_IsValidFloor.j0 k (!t142) a0_0 a0_1 l0_2) = some r:=H
   have A6:=zM A60;clear A60;have H':=zM H;clear H;have hcz7_0:w3.cell? ⟨gb140,0,none⟩ = some (.int .i64 a0_0):=(blk_cell BK140.out 0).trans rfl
   have hcz7_1:w3.cell? ⟨gb140,1,none⟩ = some (.int .i64 a0_1):=(blk_cell BK140.out 1).trans rfl
   have hcz7_2:w3.cell? ⟨gb140,2,none⟩ = some (.slice A0_2 l0_2.length c0_2):=(blk_cell BK140.out 2).trans rfl
   have hfz7_0:=blk_frozen BK140.out 0;have hfz7_1:=blk_frozen BK140.out 1;have hfz7_2:=blk_frozen BK140.out 2;go_wp2_with (first|((with_reducible refine gate_callee (f:=54) rfl ?_);refine goesL_ (some 7) rfl rfl Try.func54 (by kernel_rfl) rfl #[.int .i64 a0_0,.int .i64 1,.int .i64 6] rfl (by (try simp only [List.map_toArray,List.map_cons,List.map_nil]);first|done|rfl|(simp only [List.length_drop,List.length_take];rfl)) ?_;(with_reducible refine (impl_within.calls a0_0 1 6 true _ A4.out).mono ?_);rintro e w' ⟨rfl,⟨nd,rfl⟩⟩;refine ⟨_,rfl,?_⟩)|(go_at_call 54;(with_reducible refine (impl_within.calls a0_1 1 6 t142 _ A6.out).mono ?_);rintro e w' ⟨rfl,⟨nd,rfl⟩⟩))
   go_meet
   case rel=>exact ⟨_,(!t142),(by first|rfl|(simp;done)|(simp [*];done)),H',⟨by first|omega|exact Nat.le_refl _⟩,⟨by (with_reducible repeat (first|refine zJ ?_ _|refine zK ?_|refine zL ?_ _));exact BK140.out⟩,⟨by repeat (first|(with_reducible first|exact HB.out|apply zD|apply zE|apply zF|refine below_set ?_ GE140.out)|exact HB.out)⟩⟩
  ·replace c5:=Bool.eq_false_iff.mpr c5
   subst c5;have H1:(impl_IsValidFloor.j0 k true a0_0 a0_1 l0_2) = some r:=by rw [if_neg (show ¬ (false = true) by decide)] at H;exact H
   clear H;have H:=H1;clear H1;have H':=zM H;clear H;have hcz8_0:w3.cell? ⟨gb140,0,none⟩ = some (.int .i64 a0_0):=(blk_cell BK140.out 0).trans rfl
   have hcz8_1:w3.cell? ⟨gb140,1,none⟩ = some (.int .i64 a0_1):=(blk_cell BK140.out 1).trans rfl
   have hcz8_2:w3.cell? ⟨gb140,2,none⟩ = some (.slice A0_2 l0_2.length c0_2):=(blk_cell BK140.out 2).trans rfl
   have hfz8_0:=blk_frozen BK140.out 0;have hfz8_1:=blk_frozen BK140.out 1;have hfz8_2:=blk_frozen BK140.out 2;go_wp2_with (first|((with_reducible refine gate_callee (f:=54) rfl ?_);refine goesL_ (some 7) rfl rfl Try.func54 (by kernel_rfl) rfl #[.int .i64 a0_0,.int .i64 1,.int .i64 6] rfl (by (try simp only [List.map_toArray,List.map_cons,List.map_nil]);first|done|rfl|(simp only [List.length_drop,List.length_take];rfl)) ?_;(with_reducible refine (impl_within.calls a0_0 1 6 false _ A4.out).mono ?_);rintro e w' ⟨rfl,⟨nd,rfl⟩⟩;refine ⟨_,rfl,?_⟩))
   go_meet
   case rel=>exact ⟨_,(true),(by first|rfl|(simp;done)|(simp [*];done)),H',⟨by first|omega|exact Nat.le_refl _⟩,⟨by (with_reducible repeat (first|refine zJ ?_ _|refine zK ?_|refine zL ?_ _));exact BK140.out⟩,⟨by repeat (first|(with_reducible first|exact HB.out|apply zD|apply zE|apply zF|refine below_set ?_ GE140.out)|exact HB.out)⟩⟩
 case rest =>
  clear HC2;(try clear c1);(try clear p2);(try clear c5);(try clear hcz7_0);(try clear hcz7_1);(try clear hcz7_2);(try clear hcz8_0);(try clear hcz8_1);(try clear hcz8_2);(try clear hfz7_0);(try clear hfz7_1);(try clear hfz7_2);(try clear hfz8_0);(try clear hfz8_1);(try clear hfz8_2);obtain ⟨kq,x14_1,rfl,HA,HJ1,BK140,HB⟩:=hcut;cases kq with
  | zero=>exact absurd HA.out (by simp [impl_IsValidFloor.j0])
  | succ kj1 =>
   have H:=HA.out;clear HA;simp only [impl_IsValidFloor.j0] at H
   by_cases c9:x14_1 = true
   ·subst c9
    have H1:(some false) = some r:=by rw [if_pos rfl] at H;exact H
    clear H;have H:=H1;clear H1;obtain rfl:=Option.some.inj H;go_wp2
    go_ret
    exact ⟨by first|rfl|(simp [errW_none,errW_some] <;> rfl)|(simp [*,errW_none,errW_some] <;> rfl),by repeat (first|(with_reducible first|exact HB.out|apply zD|apply zE|apply zF|refine below_set ?_ GE140.out)|exact HB.out)⟩
   ·replace c9:=Bool.eq_false_iff.mpr c9
    subst c9;have H1:(impl_IsValidFloor.l0 kj1 l0_2 (l0_2.length:Int) 0 a0_0 a0_1 l0_2) = some r:=by rw [if_neg (show ¬ (false = true) by decide)] at H;exact H
    clear H;have H:=H1;clear H1;have H':=zM H;clear H;have hcz10_0:wc.cell? ⟨gb140,0,none⟩ = some (.int .i64 a0_0):=(blk_cell BK140.out 0).trans rfl
    have hcz10_1:wc.cell? ⟨gb140,1,none⟩ = some (.int .i64 a0_1):=(blk_cell BK140.out 1).trans rfl
    have hcz10_2:wc.cell? ⟨gb140,2,none⟩ = some (.slice A0_2 l0_2.length c0_2):=(blk_cell BK140.out 2).trans rfl
    have hfz10_0:=blk_frozen BK140.out 0;have hfz10_1:=blk_frozen BK140.out 1;have hfz10_2:=blk_frozen BK140.out 2;go_wp2
    go_loopg [18] kj1 (fun kq v18 w' => ∃ (x18_2:Int),v18 = .int .i64 x18_2 ∧ Aside0 (impl_IsValidFloor.l0 kq l0_2 (l0_2.length:Int) x18_2 a0_0 a0_1 l0_2 = some r) ∧ Aside0 (kq ≤ kj1) ∧ Aside0 (w'.heap[gb140]? = some (.cells #[.int .i64 a0_0,.int .i64 a0_1,(.slice A0_2 l0_2.length c0_2)] 29 (0,0))) ∧ Aside0 (Below w.heap.size w w'))
    case atStart=>exact ⟨(0),(by first|rfl|(simp;done)|(simp [*];done)),H',⟨Nat.le_refl _⟩,⟨by (with_reducible repeat (first|refine zJ ?_ _|refine zK ?_|refine zL ?_ _));exact BK140.out⟩,⟨by repeat (first|(with_reducible first|exact HB.out|apply zD|apply zE|apply zF|refine below_set ?_ GE140.out)|exact HB.out)⟩⟩
    case round =>
     clear H';(try clear c1);(try clear p2);(try clear c5);(try clear c9);(try clear hcz10_0);(try clear hcz10_1);(try clear hcz10_2);(try clear hcz7_0);(try clear hcz7_1);(try clear hcz7_2);(try clear hcz8_0);(try clear hcz8_1);(try clear hcz8_2);(try clear hfz10_0);(try clear hfz10_1);(try clear hfz10_2);(try clear hfz7_0);(try clear hfz7_1);(try clear hfz7_2);(try clear hfz8_0);(try clear hfz8_1);(try clear hfz8_2);(try clear p2);obtain ⟨x18_2,rfl,HA,HK2,BK140,HB⟩:=hrel;cases gk with
     | zero=>exact absurd HA.out (by simp [impl_IsValidFloor.l0])
     | succ k2 =>
      have H:=HA.out;clear HA;simp only [impl_IsValidFloor.l0] at H
      by_cases c11:x18_2 < (l0_2.length:Int)
      ·rw [if_pos c11] at H
       have c11b0:decide (x18_2 < (l0_2.length:Int)) = true:=decide_eq_true c11
       clear c11;by_cases c12:0 ≤ x18_2
       ·rw [if_pos c12] at H
        have c12b0:decide (0 ≤ x18_2) = true:=decide_eq_true c12
        clear c12;by_cases c13:x18_2 < (l0_2.length:Int)
        ·rw [if_pos c13] at H
         have c13b0:decide (x18_2 < (l0_2.length:Int)) = true:=decide_eq_true c13
         clear c13;replace H:=Option.bind_eq_some_iff.mp H;obtain ⟨t145,A140,H⟩:=H;replace H:(if t145 = true then (if x18_2 > 0 then (if 0 ≤ (wrap64 (x18_2 - 1)) then (if (wrap64 (x18_2 - 1)) < (l0_2.length:Int) then ((impl_before.f ((rd_T48 l0_2 (wrap64 (x18_2 - 1))).f0) ((rd_T48 l0_2 (wrap64 (x18_2 - 1))).f1) ((rd_T48 l0_2 x18_2).f0) ((rd_T48 l0_2 x18_2).f1)).bind fun t147=>(if t147 = true then (impl_IsValidFloor.l0 k2 l0_2 (l0_2.length:Int) (wrap64 (x18_2 + 1)) a0_0 a0_1 l0_2) else (some false))) else (none)) else (none)) else (impl_IsValidFloor.l0 k2 l0_2 (l0_2.length:Int) (wrap64 (x18_2 + 1)) a0_0 a0_1 l0_2)) else (some false)) = some r:=H
         have A14:=zM A140;clear A140;by_cases c15:t145 = true
         ·subst c15
          have H1:(if x18_2 > 0 then (if 0 ≤ (wrap64 (x18_2 - 1)) then (if (wrap64 (x18_2 - 1)) < (l0_2.length:Int) then ((impl_before.f ((rd_T48 l0_2 (wrap64 (x18_2 - 1))).f0) ((rd_T48 l0_2 (wrap64 (x18_2 - 1))).f1) ((rd_T48 l0_2 x18_2).f0) ((rd_T48 l0_2 x18_2).f1)).bind fun t147=>(if t147 = true then (impl_IsValidFloor.l0 k2 l0_2 (l0_2.length:Int) (wrap64 (x18_2 + 1)) a0_0 a0_1 l0_2) else (some false))) else (none)) else (none)) else (impl_IsValidFloor.l0 k2 l0_2 (l0_2.length:Int) (wrap64 (x18_2 + 1)) a0_0 a0_1 l0_2)) = some r:=by rw [if_pos rfl] at H;exact H
          clear H;have H:=H1;clear H1;by_cases c16:x18_2 > 0
          ·rw [if_pos c16] at H
           have c16b0:decide (0 < x18_2) = true:=decide_eq_true c16
           clear c16;obtain ⟨ji17,hji17⟩ : ∃ j_:Int,(wrap64 (x18_2 - 1)) = j_:=⟨_,rfl⟩
           replace H:(if 0 ≤ (ji17) then (if (ji17) < (l0_2.length:Int) then ((impl_before.f ((rd_T48 l0_2 (ji17)).f0) ((rd_T48 l0_2 (ji17)).f1) ((rd_T48 l0_2 x18_2).f0) ((rd_T48 l0_2 x18_2).f1)).bind fun t147=>(if t147 = true then (impl_IsValidFloor.l0 k2 l0_2 (l0_2.length:Int) (wrap64 (x18_2 + 1)) a0_0 a0_1 l0_2) else (some false))) else (none)) else (none)) = some r:=by first|(rw [hji17] at H;exact H)|(simp only [hji17] at H ⊢;exact H)
           (try rw [hji17] at A14)
           have hji17w:(IntKind.i64.wrap (x18_2 - 1)) = ji17:=(i64_w _).trans hji17
           by_cases c18:0 ≤ (ji17)
           ·rw [if_pos c18] at H
            have c18b0:decide (0 ≤ (ji17)) = true:=decide_eq_true c18
            clear c18;by_cases c19:(ji17) < (l0_2.length:Int)
            ·rw [if_pos c19] at H
             have c19b0:decide ((ji17) < (l0_2.length:Int)) = true:=decide_eq_true c19
             clear c19;replace H:=Option.bind_eq_some_iff.mp H;obtain ⟨t147,A200,H⟩:=H;replace H:(if t147 = true then (impl_IsValidFloor.l0 k2 l0_2 (l0_2.length:Int) (wrap64 (x18_2 + 1)) a0_0 a0_1 l0_2) else (some false)) = some r:=H
             have A20:=zM A200;clear A200;by_cases c21:t147 = true
             ·subst c21
              have H1:(impl_IsValidFloor.l0 k2 l0_2 (l0_2.length:Int) (wrap64 (x18_2 + 1)) a0_0 a0_1 l0_2) = some r:=by rw [if_pos rfl] at H;exact H
              clear H;have H:=H1;clear H1;have H':=zM H;clear H;have p143:0 ≤ (x18_2:Int):=of_decide_eq_true (by first|(with_reducible assumption)|assumption)
              have q143:x18_2 < (l0_2.length:Int):=of_decide_eq_true (by first|(with_reducible assumption)|assumption)
              obtain ⟨ad143,e143,hx143_0,hx143_1⟩:=at_T48 HR0_2.out x18_2 p143 q143;cases e143
              replace hx143_0:=zS HB.out hx143_0;replace hx143_1:=zS HB.out hx143_1;replace p143:=eq_true p143;replace q143:=eq_true q143;try go_wp2_with (first|((with_reducible refine gate_dst (N:=4) rfl ?_);refine box_event ?hg (N:=4) ?hd (cs := #[.int .i64 0,.int .i64 0]) (t:=48) ?hr ?_;(case hd=>rfl);(case hg=>rfl);(case hr=>first|(go_simp;done)|(go_simp;rfl));intro gb144 hg w22 hbox hb;have n0_:=zM (blk_below (g:=gb140) (o := .cells #[.int .i64 a0_0,.int .i64 a0_1,.slice (some ad143) l0_2.length c0_2] 29 (0,0)) (by (with_reducible repeat (first|refine zJ ?_ _|refine zK ?_|refine zL ?_ _));exact BK140.out) hb);have n1_:=zM (zQ (by repeat (first|(with_reducible first|exact HB.out|apply zD|apply zE|apply zF|refine below_set ?_ GE140.out)|exact HB.out)) hb);have n2_:=zM (hbox);have n3_:=zM ((by rw [hg];exact (zR (by repeat (first|(with_reducible first|exact HB.out|apply zD|apply zE|apply zF|refine below_set ?_ GE140.out)|exact HB.out))):w.heap.size ≤ gb144));have n4_:=zM ((by rw [hg];exact (zR (by repeat (first|(with_reducible first|exact HB.out|apply zD|apply zE|apply zF|refine below_set ?_ GE140.out)|exact HB.out))):w.heap.size ≤ gb144));have n5_:=zM ((by rw [hg];exact Nat.ne_of_lt (blk_lt (g:=gb140) (o := .cells #[.int .i64 a0_0,.int .i64 a0_1,.slice (some ad143) l0_2.length c0_2] 29 (0,0)) (by (with_reducible repeat (first|refine zJ ?_ _|refine zK ?_|refine zL ?_ _));exact BK140.out)):gb140 ≠ gb144));have n6_:=zM ((by rw [hg];exact Nat.ne_of_gt (blk_lt (g:=gb140) (o := .cells #[.int .i64 a0_0,.int .i64 a0_1,.slice (some ad143) l0_2.length c0_2] 29 (0,0)) (by (with_reducible repeat (first|refine zJ ?_ _|refine zK ?_|refine zL ?_ _));exact BK140.out)):gb144 ≠ gb140));clear BK140;clear HB;have BK140:=n0_;have HB:=n1_;have BK144:=n2_;have GW144:=n3_;have GE144:=n4_;have NB140_144:=n5_;have NB144_140:=n6_;clear n0_ n1_ n2_ n3_ n4_ n5_ n6_;clear hb hbox hg;have hnb23:=NB144_140.out;have hnc23:=NB140_144.out;have hcz24_0:w22.cell? ⟨gb144,0,none⟩ = some (.int .i64 0):=(blk_cell BK144.out 0).trans rfl;have hcz24_1:w22.cell? ⟨gb144,1,none⟩ = some (.int .i64 0):=(blk_cell BK144.out 1).trans rfl;have hfz24_0:=blk_frozen BK144.out 0;have hfz24_1:=blk_frozen BK144.out 1))
              have n0_:Aside0 (((w22.setCell ⟨gb144,0,none⟩ (.int .i64 ((rd_T48 l0_2 x18_2).f0))).setCell ⟨gb144,1,none⟩ (.int .i64 ((rd_T48 l0_2 x18_2).f1))).heap[gb140]? = some (.cells #[.int .i64 a0_0,.int .i64 a0_1,.slice (some ad143) l0_2.length c0_2] 29 (0,0))):=⟨by (with_reducible repeat (first|refine zJ ?_ _|refine zK ?_|refine zL ?_ _));refine blk_far ?_ NB140_144.out _;(with_reducible repeat (first|refine zJ ?_ _|refine zK ?_|refine zL ?_ _));refine blk_far ?_ NB140_144.out _;(with_reducible repeat (first|refine zJ ?_ _|refine zK ?_|refine zL ?_ _));exact BK140.out⟩
              have n1_:Aside0 (((w22.setCell ⟨gb144,0,none⟩ (.int .i64 ((rd_T48 l0_2 x18_2).f0))).setCell ⟨gb144,1,none⟩ (.int .i64 ((rd_T48 l0_2 x18_2).f1))).heap[gb144]? = some (.cells #[.int .i64 ((rd_T48 l0_2 x18_2).f0),.int .i64 ((rd_T48 l0_2 x18_2).f1)] 48 (0,0))):=⟨by (with_reducible repeat (first|refine zJ ?_ _|refine zK ?_|refine zL ?_ _));refine blk_put (cs := #[.int .i64 ((rd_T48 l0_2 x18_2).f0),.int .i64 0]) ?_ 1 _ rfl;(with_reducible repeat (first|refine zJ ?_ _|refine zK ?_|refine zL ?_ _));refine blk_put (cs := #[.int .i64 0,.int .i64 0]) ?_ 0 _ rfl;(with_reducible repeat (first|refine zJ ?_ _|refine zK ?_|refine zL ?_ _));exact BK144.out⟩
              have n2_:Aside0 (Below w.heap.size w ((w22.setCell ⟨gb144,0,none⟩ (.int .i64 ((rd_T48 l0_2 x18_2).f0))).setCell ⟨gb144,1,none⟩ (.int .i64 ((rd_T48 l0_2 x18_2).f1)))):=⟨by repeat (first|(with_reducible first|exact HB.out|apply zD|apply zE|apply zF|refine below_set ?_ GE140.out|refine below_set ?_ GE144.out)|exact HB.out)⟩
              (try clear BK140)
              (try clear BK144)
              (try clear HB)
              generalize ((w22.setCell ⟨gb144,0,none⟩ (.int .i64 ((rd_T48 l0_2 x18_2).f0))).setCell ⟨gb144,1,none⟩ (.int .i64 ((rd_T48 l0_2 x18_2).f1))) = w25 at n0_ n1_ n2_ ⊢
              have BK140:=n0_;have BK144:=n1_;have HB:=n2_;clear n0_ n1_ n2_;have n0_:=zM (zK BK140.out);have n1_:=zM (zK BK144.out);have n2_:=zM (zF HB.out);clear BK140;clear BK144;clear HB;have BK140:=n0_;have BK144:=n1_;have HB:=n2_;clear n0_ n1_ n2_;have p146:0 ≤ ((ji17):Int):=of_decide_eq_true (by first|(with_reducible assumption)|assumption)
              have q146:(ji17) < (l0_2.length:Int):=of_decide_eq_true (by first|(with_reducible assumption)|assumption)
              obtain ⟨ad146,e146,hx146_0,hx146_1⟩:=at_T48 HR0_2.out (ji17) p146 q146;have hw146_1:=hx146_1;have hw146_0:=hx146_0;obtain rfl:ad143 = ad146:=(by injection e146)
              replace hx146_0:=zS HB.out hx146_0;replace hx146_1:=zS HB.out hx146_1;replace p146:=eq_true p146;replace q146:=eq_true q146;refine start_ (n:=19) (S:=fun w'=>w'.cell? ⟨gb140,0,none⟩ = some (.int .i64 a0_0) ∧ w'.cell? ⟨gb140,1,none⟩ = some (.int .i64 a0_1) ∧ w'.cell? ⟨gb140,2,none⟩ = some (.slice (some ad143) l0_2.length c0_2) ∧ w'.cell? ⟨gb144,0,none⟩ = some (.int .i64 ((rd_T48 l0_2 x18_2).f0)) ∧ w'.cell? ⟨gb144,1,none⟩ = some (.int .i64 ((rd_T48 l0_2 x18_2).f1)) ∧ w'.cell? (ad143.add (((ji17)).toNat * 2)) = some (.int .i64 ((rd_T48 l0_2 (ji17)).f0)) ∧ w'.cell? ⟨(ad143.add (((ji17)).toNat * 2)).block,(ad143.add (((ji17)).toNat * 2)).off + 1,none⟩ = some (.int .i64 ((rd_T48 l0_2 (ji17)).f1))) (ds:=[]) #[false,false,false,false,false,false,false,false,false,false,false,false,false,false,false,false,false,false,false] (by kernel_rfl) rfl rfl ⟨(blk_cell BK140.out 0).trans rfl,(blk_cell BK140.out 1).trans rfl,(blk_cell BK140.out 2).trans rfl,(blk_cell BK144.out 0).trans rfl,(blk_cell BK144.out 1).trans rfl,(zS HB.out hw146_0 :),(zS HB.out hw146_1 :)⟩ (fun hHeld=>?_);refine with_tabW impl_IsValidFloor.tab6 impl_IsValidFloor.bits6 (fun HT_ HW_=>?_)
              generalize w25.drew = w26 at BK140 BK144 HB hx146_0 hx146_1 hHeld ⊢
              refine take_ (i:=0) (N:=some 23) (v:=?_) (a':=?_) #[true,false,false,false,false,false,false,false,false,false,false,false,false,false,false,false,false,false,false] rfl rfl (take_ofW HT_.out HW_.out (by kernel_rfl)) (fun _ _ _ h=>h) (Or.inl ⟨by rfl,?_⟩) hHeld ?_ ?_
              rotate_left
              ·rintro w' ⟨s0,s1,s2,s3,s4,s5,s6⟩
               go_simp
               with_reducible rfl
              rotate_left
              ·simp only [Act.put,zT,zU,zV,i64_w,i32_w]
               rfl
              refine take_ (i:=1) (N:=some 24) (v:=?_) (a':=?_) #[true,true,false,false,false,false,false,false,false,false,false,false,false,false,false,false,false,false,false] rfl rfl (take_ofW HT_.out HW_.out (by kernel_rfl)) (fun _ _ _ h=>h) (Or.inl ⟨by rfl,?_⟩) hHeld ?_ ?_
              rotate_left
              ·rintro w' ⟨s0,s1,s2,s3,s4,s5,s6⟩
               go_simp
               with_reducible rfl
              rotate_left
              ·simp only [Act.put,zT,zU,zV,i64_w,i32_w]
               rfl
              refine one_ (i:=2) (N:=some 25) #[true,true,true,false,false,false,false,false,false,false,false,false,false,false,false,false,false,false,false] rfl rfl (one_of HT_.out (by kernel_rfl)) (by decide) (fun K hK=>?_)
              refine goes_ Try.func55 (by kernel_rfl) rfl #[.agg #[.int .i64 a0_0,.int .i64 a0_1,.slice (some ad143) l0_2.length c0_2],.agg #[.int .i64 ((rd_T48 l0_2 x18_2).f0),.int .i64 ((rd_T48 l0_2 x18_2).f1)]] (by rfl) rfl rfl (by (try simp only [List.map_toArray,List.map_cons,List.map_nil]);first|done|rfl|(simp only [List.length_drop,List.length_take];rfl)) ?_
              with_reducible refine (impl_onFloor.calls a0_0 a0_1 _ _ l0_2 ((rd_T48 l0_2 x18_2).f0) ((rd_T48 l0_2 x18_2).f1) true _ ?side1 ?side2 A14.out).mono ?_
              (case side1=>repeat (first|exact (zO HR0_2.out HB.out)|(with_reducible first|refine zG ?_ _|refine zH ?_ _|refine zI ?_)))
              (case side2=>exact HC0_2.out)
              rintro e w27 ⟨rfl,hb⟩
              refine ⟨_,rfl,?_⟩
              have n0_:=zM (blk_below (g:=gb140) (o := .cells #[.int .i64 a0_0,.int .i64 a0_1,.slice (some ad143) l0_2.length c0_2] 29 (0,0)) (by (with_reducible repeat (first|refine zJ ?_ _|refine zK ?_|refine zL ?_ _));exact BK140.out) hb)
              have n1_:=zM (blk_below (g:=gb144) (o := .cells #[.int .i64 ((rd_T48 l0_2 x18_2).f0),.int .i64 ((rd_T48 l0_2 x18_2).f1)] 48 (0,0)) (by (with_reducible repeat (first|refine zJ ?_ _|refine zK ?_|refine zL ?_ _));exact BK144.out) hb)
              have n2_:=zM (zQ (by repeat (first|(with_reducible first|exact HB.out|apply zD|apply zE|apply zF|refine below_set ?_ GE140.out|refine below_set ?_ GE144.out)|exact HB.out)) hb)
              clear BK140;clear BK144;clear HB;have BK140:=n0_;have BK144:=n1_;have HB:=n2_;clear n0_ n1_ n2_;(try clear hb)
              (try clear hb2)
              (try clear hk)
              (try clear hi)
              refine hK.out _ _ ⟨(blk_cell BK140.out 0).trans rfl,(blk_cell BK140.out 1).trans rfl,(blk_cell BK140.out 2).trans rfl,(blk_cell BK144.out 0).trans rfl,(blk_cell BK144.out 1).trans rfl,(zS HB.out hw146_0 :),(zS HB.out hw146_1 :)⟩ (fun hHeld=>?_)
              clear hK K;refine norm_ (a':=?_) ?_ ?_
              rotate_left
              ·show Act.put _ (some 25) _ = _
               simp only [Act.put,zT,zU,zV,i64_w,i32_w]
               rfl
              refine pure_ (i:=3) (N:=some 26) (v:=?_) (a':=?_) #[true,true,true,true,false,false,false,false,false,false,false,false,false,false,false,false,false,false,false] rfl rfl (any_of HT_.out (by kernel_rfl)) (fun _ _ _ h=>h) (Or.inl ⟨by rfl,?_⟩) ?_ ?_
              rotate_left
              ·intro w'
               go_simp
               with_reducible rfl
              rotate_left
              ·simp only [Act.put,zT,zU,zV,i64_w,i32_w]
               rfl
              refine pure_ (i:=4) (N:=some 27) (v:=?_) (a':=?_) #[true,true,true,true,true,false,false,false,false,false,false,false,false,false,false,false,false,false,false] rfl rfl (any_of HT_.out (by kernel_rfl)) (fun _ _ _ h=>h) (Or.inl ⟨by rfl,?_⟩) ?_ ?_
              rotate_left
              ·intro w'
               go_simp
               with_reducible rfl
              rotate_left
              ·simp only [Act.put,zT,zU,zV,i64_w,i32_w]
               rfl
              refine pure_ (i:=5) (N:=some 28) (v:=?_) (a':=?_) #[true,true,true,true,true,true,false,false,false,false,false,false,false,false,false,false,false,false,false] rfl rfl (any_of HT_.out (by kernel_rfl)) (fun _ _ _ h=>h) (Or.inl ⟨by rfl,?_⟩) ?_ ?_
              rotate_left
              ·intro w'
               go_simp
               with_reducible rfl
              rotate_left
              ·simp only [Act.put,zT,zU,zV,i64_w,i32_w]
               rfl
              refine pure_ (i:=6) (N:=some 29) (v:=?_) (a':=?_) #[true,true,true,true,true,true,true,false,false,false,false,false,false,false,false,false,false,false,false] rfl rfl (any_of HT_.out (by kernel_rfl)) (fun _ _ _ h=>h) (Or.inl ⟨by rfl,?_⟩) ?_ ?_
              rotate_left
              ·intro w'
               go_simp
               with_reducible rfl
              rotate_left
              ·simp only [Act.put,zT,zU,zV,i64_w,i32_w]
               rfl
              refine pure_ (i:=7) (N:=some 30) (v:=?_) (a':=?_) #[true,true,true,true,true,true,true,true,false,false,false,false,false,false,false,false,false,false,false] rfl rfl (any_of HT_.out (by kernel_rfl)) (fun _ _ _ h=>h) (Or.inl ⟨by rfl,?_⟩) ?_ ?_
              rotate_left
              ·intro w'
               go_simp
               with_reducible rfl
              rotate_left
              ·simp only [Act.put,zT,zU,zV,i64_w,i32_w]
               rfl
              refine pure_ (i:=8) (N:=some 31) (v:=?_) (a':=?_) #[true,true,true,true,true,true,true,true,true,false,false,false,false,false,false,false,false,false,false] rfl rfl (any_of HT_.out (by kernel_rfl)) (fun _ _ _ h=>h) (Or.inl ⟨by rfl,?_⟩) ?_ ?_
              rotate_left
              ·intro w'
               go_simp
               with_reducible rfl
              rotate_left
              ·simp only [Act.put,zT,zU,zV,i64_w,i32_w]
               rfl
              refine pure_ (i:=10) (N:=some 33) (v:=?_) (a':=?_) #[true,true,true,true,true,true,true,true,true,false,true,false,false,false,false,false,false,false,false] rfl rfl (any_of HT_.out (by kernel_rfl)) (fun _ _ _ h=>h) (Or.inl ⟨by rfl,?_⟩) ?_ ?_
              rotate_left
              ·intro w'
               go_simp
               with_reducible rfl
              rotate_left
              ·simp only [Act.put,zT,zU,zV,i64_w,i32_w]
               rfl
              refine pure_ (i:=11) (N:=some 34) (v:=?_) (a':=?_) #[true,true,true,true,true,true,true,true,true,false,true,true,false,false,false,false,false,false,false] rfl rfl (any_of HT_.out (by kernel_rfl)) (fun _ _ _ h=>h) (Or.inl ⟨by rfl,?_⟩) ?_ ?_
              rotate_left
              ·intro w'
               go_simp
               with_reducible rfl
              rotate_left
              ·simp only [Act.put,zT,zU,zV,i64_w,i32_w]
               rfl
              refine take_ (i:=9) (N:=some 32) (v:=?_) (a':=?_) #[true,true,true,true,true,true,true,true,true,true,true,true,false,false,false,false,false,false,false] rfl rfl (take_ofW HT_.out HW_.out (by kernel_rfl)) (fun _ _ _ h=>h) (Or.inl ⟨by rfl,?_⟩) hHeld ?_ ?_
              rotate_left
              ·rintro w' ⟨s0,s1,s2,s3,s4,s5,s6⟩
               go_simp
               with_reducible rfl
              rotate_left
              ·simp only [Act.put,zT,zU,zV,i64_w,i32_w]
               rfl
              refine pure_ (i:=12) (N:=some 35) (v:=?_) (a':=?_) #[true,true,true,true,true,true,true,true,true,true,true,true,true,false,false,false,false,false,false] rfl rfl (any_of HT_.out (by kernel_rfl)) (fun _ _ _ h=>h) (Or.inl ⟨by rfl,?_⟩) ?_ ?_
              rotate_left
              ·intro w'
               go_simp
               with_reducible rfl
              rotate_left
              ·simp only [Act.put,zT,zU,zV,i64_w,i32_w]
               rfl
              refine take_ (i:=13) (N:=some 36) (v:=?_) (a':=?_) #[true,true,true,true,true,true,true,true,true,true,true,true,true,true,false,false,false,false,false] rfl rfl (take_ofW HT_.out HW_.out (by kernel_rfl)) (fun _ _ _ h=>h) (Or.inl ⟨by rfl,?_⟩) hHeld ?_ ?_
              rotate_left
              ·rintro w' ⟨s0,s1,s2,s3,s4,s5,s6⟩
               go_simp
               with_reducible rfl
              rotate_left
              ·simp only [Act.put,zT,zU,zV,i64_w,i32_w]
               rfl
              refine take_ (i:=14) (N:=some 37) (v:=?_) (a':=?_) #[true,true,true,true,true,true,true,true,true,true,true,true,true,true,true,false,false,false,false] rfl rfl (take_ofW HT_.out HW_.out (by kernel_rfl)) (fun _ _ _ h=>h) (Or.inl ⟨by rfl,?_⟩) hHeld ?_ ?_
              rotate_left
              ·rintro w' ⟨s0,s1,s2,s3,s4,s5,s6⟩
               go_simp
               with_reducible rfl
              rotate_left
              ·simp only [Act.put,zT,zU,zV,i64_w,i32_w]
               rfl
              refine one_ (i:=15) (N:=some 38) #[true,true,true,true,true,true,true,true,true,true,true,true,true,true,true,true,false,false,false] rfl rfl (one_of HT_.out (by kernel_rfl)) (by decide) (fun K hK=>?_)
              refine goes_ Try.func56 (by kernel_rfl) rfl #[.agg #[.int .i64 ((rd_T48 l0_2 (ji17)).f0),.int .i64 ((rd_T48 l0_2 (ji17)).f1)],.agg #[.int .i64 ((rd_T48 l0_2 x18_2).f0),.int .i64 ((rd_T48 l0_2 x18_2).f1)]] (by rfl) rfl rfl (by (try simp only [List.map_toArray,List.map_cons,List.map_nil]);first|done|(simp only [hji17];rfl)|rfl|(simp only [List.length_drop,List.length_take];rfl)) ?_
              with_reducible refine (impl_before.calls ((rd_T48 l0_2 (ji17)).f0) ((rd_T48 l0_2 (ji17)).f1) ((rd_T48 l0_2 x18_2).f0) ((rd_T48 l0_2 x18_2).f1) true _ A20.out).mono ?_
              rintro e w28 ⟨rfl,hb⟩
              refine ⟨_,rfl,?_⟩
              have n0_:=zM (blk_below (g:=gb140) (o := .cells #[.int .i64 a0_0,.int .i64 a0_1,.slice (some ad143) l0_2.length c0_2] 29 (0,0)) (by (with_reducible repeat (first|refine zJ ?_ _|refine zK ?_|refine zL ?_ _));exact BK140.out) hb)
              have n1_:=zM (blk_below (g:=gb144) (o := .cells #[.int .i64 ((rd_T48 l0_2 x18_2).f0),.int .i64 ((rd_T48 l0_2 x18_2).f1)] 48 (0,0)) (by (with_reducible repeat (first|refine zJ ?_ _|refine zK ?_|refine zL ?_ _));exact BK144.out) hb)
              have n2_:=zM (zQ (by repeat (first|(with_reducible first|exact HB.out|apply zD|apply zE|apply zF|refine below_set ?_ GE140.out|refine below_set ?_ GE144.out)|exact HB.out)) hb)
              clear BK140;clear BK144;clear HB;have BK140:=n0_;have BK144:=n1_;have HB:=n2_;clear n0_ n1_ n2_;(try clear hb)
              (try clear hb2)
              (try clear hk)
              (try clear hi)
              refine hK.out _ _ ⟨(blk_cell BK140.out 0).trans rfl,(blk_cell BK140.out 1).trans rfl,(blk_cell BK140.out 2).trans rfl,(blk_cell BK144.out 0).trans rfl,(blk_cell BK144.out 1).trans rfl,(zS HB.out hw146_0 :),(zS HB.out hw146_1 :)⟩ (fun hHeld=>?_)
              clear hK K;refine norm_ (a':=?_) ?_ ?_
              rotate_left
              ·show Act.put _ (some 38) _ = _
               simp only [Act.put,zT,zU,zV,i64_w,i32_w]
               rfl
              refine pure_ (i:=16) (N:=some 39) (v:=?_) (a':=?_) #[true,true,true,true,true,true,true,true,true,true,true,true,true,true,true,true,true,false,false] rfl rfl (any_of HT_.out (by kernel_rfl)) (fun _ _ _ h=>h) (Or.inl ⟨by rfl,?_⟩) ?_ ?_
              rotate_left
              ·intro w'
               go_simp
               with_reducible rfl
              rotate_left
              ·simp only [Act.put,zT,zU,zV,i64_w,i32_w]
               rfl
              refine pure_ (i:=17) (N:=some 40) (v:=?_) (a':=?_) #[true,true,true,true,true,true,true,true,true,true,true,true,true,true,true,true,true,true,false] rfl rfl (any_of HT_.out (by kernel_rfl)) (fun _ _ _ h=>h) (Or.inl ⟨by rfl,?_⟩) ?_ ?_
              rotate_left
              ·intro w'
               go_simp
               with_reducible rfl
              rotate_left
              ·simp only [Act.put,zT,zU,zV,i64_w,i32_w]
               rfl
              refine pure_ (i:=18) (N:=some 41) (v:=?_) (a':=?_) #[true,true,true,true,true,true,true,true,true,true,true,true,true,true,true,true,true,true,true] rfl rfl (any_of HT_.out (by kernel_rfl)) (fun _ _ _ h=>h) (Or.inl ⟨by rfl,?_⟩) ?_ ?_
              rotate_left
              ·intro w'
               go_simp
               with_reducible rfl
              rotate_left
              ·simp only [Act.put,zT,zU,zV,i64_w,i32_w]
               rfl
              refine done_ (done_of HT_.out (by kernel_rfl)) ?_
              try go_wp2
              go_roundg k2
              case measure=>have:=HJ1.out;have:=HK2.out;omega
              case rel=>exact ⟨(wrap64 (x18_2 + 1)),(by first|rfl|(simp;done)|(simp [*];done)),H',⟨by have:=HJ1.out;have:=HK2.out;omega⟩,⟨by (with_reducible repeat (first|refine zJ ?_ _|refine zK ?_|refine zL ?_ _));exact BK140.out⟩,⟨by repeat (first|(with_reducible first|exact HB.out|apply zD|apply zE|apply zF|refine below_set ?_ GE140.out|refine below_set ?_ GE144.out)|exact HB.out)⟩⟩
             ·replace c21:=Bool.eq_false_iff.mpr c21
              subst c21;have H1:(some false) = some r:=by rw [if_neg (show ¬ (false = true) by decide)] at H;exact H
              clear H;have H:=H1;clear H1;obtain rfl:=Option.some.inj H;have p143:0 ≤ (x18_2:Int):=of_decide_eq_true (by first|(with_reducible assumption)|assumption)
              have q143:x18_2 < (l0_2.length:Int):=of_decide_eq_true (by first|(with_reducible assumption)|assumption)
              obtain ⟨ad143,e143,hx143_0,hx143_1⟩:=at_T48 HR0_2.out x18_2 p143 q143;cases e143
              replace hx143_0:=zS HB.out hx143_0;replace hx143_1:=zS HB.out hx143_1;replace p143:=eq_true p143;replace q143:=eq_true q143;try go_wp2_with (first|((with_reducible refine gate_dst (N:=4) rfl ?_);refine box_event ?hg (N:=4) ?hd (cs := #[.int .i64 0,.int .i64 0]) (t:=48) ?hr ?_;(case hd=>rfl);(case hg=>rfl);(case hr=>first|(go_simp;done)|(go_simp;rfl));intro gb144 hg w29 hbox hb;have n0_:=zM (blk_below (g:=gb140) (o := .cells #[.int .i64 a0_0,.int .i64 a0_1,.slice (some ad143) l0_2.length c0_2] 29 (0,0)) (by (with_reducible repeat (first|refine zJ ?_ _|refine zK ?_|refine zL ?_ _));exact BK140.out) hb);have n1_:=zM (zQ (by repeat (first|(with_reducible first|exact HB.out|apply zD|apply zE|apply zF|refine below_set ?_ GE140.out)|exact HB.out)) hb);have n2_:=zM (hbox);have n3_:=zM ((by rw [hg];exact (zR (by repeat (first|(with_reducible first|exact HB.out|apply zD|apply zE|apply zF|refine below_set ?_ GE140.out)|exact HB.out))):w.heap.size ≤ gb144));have n4_:=zM ((by rw [hg];exact (zR (by repeat (first|(with_reducible first|exact HB.out|apply zD|apply zE|apply zF|refine below_set ?_ GE140.out)|exact HB.out))):w.heap.size ≤ gb144));have n5_:=zM ((by rw [hg];exact Nat.ne_of_lt (blk_lt (g:=gb140) (o := .cells #[.int .i64 a0_0,.int .i64 a0_1,.slice (some ad143) l0_2.length c0_2] 29 (0,0)) (by (with_reducible repeat (first|refine zJ ?_ _|refine zK ?_|refine zL ?_ _));exact BK140.out)):gb140 ≠ gb144));have n6_:=zM ((by rw [hg];exact Nat.ne_of_gt (blk_lt (g:=gb140) (o := .cells #[.int .i64 a0_0,.int .i64 a0_1,.slice (some ad143) l0_2.length c0_2] 29 (0,0)) (by (with_reducible repeat (first|refine zJ ?_ _|refine zK ?_|refine zL ?_ _));exact BK140.out)):gb144 ≠ gb140));clear BK140;clear HB;have BK140:=n0_;have HB:=n1_;have BK144:=n2_;have GW144:=n3_;have GE144:=n4_;have NB140_144:=n5_;have NB144_140:=n6_;clear n0_ n1_ n2_ n3_ n4_ n5_ n6_;clear hb hbox hg;have hnb30:=NB144_140.out;have hnc30:=NB140_144.out;have hcz31_0:w29.cell? ⟨gb144,0,none⟩ = some (.int .i64 0):=(blk_cell BK144.out 0).trans rfl;have hcz31_1:w29.cell? ⟨gb144,1,none⟩ = some (.int .i64 0):=(blk_cell BK144.out 1).trans rfl;have hfz31_0:=blk_frozen BK144.out 0;have hfz31_1:=blk_frozen BK144.out 1))
              have n0_:Aside0 (((w29.setCell ⟨gb144,0,none⟩ (.int .i64 ((rd_T48 l0_2 x18_2).f0))).setCell ⟨gb144,1,none⟩ (.int .i64 ((rd_T48 l0_2 x18_2).f1))).heap[gb140]? = some (.cells #[.int .i64 a0_0,.int .i64 a0_1,.slice (some ad143) l0_2.length c0_2] 29 (0,0))):=⟨by (with_reducible repeat (first|refine zJ ?_ _|refine zK ?_|refine zL ?_ _));refine blk_far ?_ NB140_144.out _;(with_reducible repeat (first|refine zJ ?_ _|refine zK ?_|refine zL ?_ _));refine blk_far ?_ NB140_144.out _;(with_reducible repeat (first|refine zJ ?_ _|refine zK ?_|refine zL ?_ _));exact BK140.out⟩
              have n1_:Aside0 (((w29.setCell ⟨gb144,0,none⟩ (.int .i64 ((rd_T48 l0_2 x18_2).f0))).setCell ⟨gb144,1,none⟩ (.int .i64 ((rd_T48 l0_2 x18_2).f1))).heap[gb144]? = some (.cells #[.int .i64 ((rd_T48 l0_2 x18_2).f0),.int .i64 ((rd_T48 l0_2 x18_2).f1)] 48 (0,0))):=⟨by (with_reducible repeat (first|refine zJ ?_ _|refine zK ?_|refine zL ?_ _));refine blk_put (cs := #[.int .i64 ((rd_T48 l0_2 x18_2).f0),.int .i64 0]) ?_ 1 _ rfl;(with_reducible repeat (first|refine zJ ?_ _|refine zK ?_|refine zL ?_ _));refine blk_put (cs := #[.int .i64 0,.int .i64 0]) ?_ 0 _ rfl;(with_reducible repeat (first|refine zJ ?_ _|refine zK ?_|refine zL ?_ _));exact BK144.out⟩
              have n2_:Aside0 (Below w.heap.size w ((w29.setCell ⟨gb144,0,none⟩ (.int .i64 ((rd_T48 l0_2 x18_2).f0))).setCell ⟨gb144,1,none⟩ (.int .i64 ((rd_T48 l0_2 x18_2).f1)))):=⟨by repeat (first|(with_reducible first|exact HB.out|apply zD|apply zE|apply zF|refine below_set ?_ GE140.out|refine below_set ?_ GE144.out)|exact HB.out)⟩
              (try clear BK140)
              (try clear BK144)
              (try clear HB)
              generalize ((w29.setCell ⟨gb144,0,none⟩ (.int .i64 ((rd_T48 l0_2 x18_2).f0))).setCell ⟨gb144,1,none⟩ (.int .i64 ((rd_T48 l0_2 x18_2).f1))) = w32 at n0_ n1_ n2_ ⊢
              have BK140:=n0_;have BK144:=n1_;have HB:=n2_;clear n0_ n1_ n2_;have n0_:=zM (zK BK140.out);have n1_:=zM (zK BK144.out);have n2_:=zM (zF HB.out);clear BK140;clear BK144;clear HB;have BK140:=n0_;have BK144:=n1_;have HB:=n2_;clear n0_ n1_ n2_;have p146:0 ≤ ((ji17):Int):=of_decide_eq_true (by first|(with_reducible assumption)|assumption)
              have q146:(ji17) < (l0_2.length:Int):=of_decide_eq_true (by first|(with_reducible assumption)|assumption)
              obtain ⟨ad146,e146,hx146_0,hx146_1⟩:=at_T48 HR0_2.out (ji17) p146 q146;have hw146_1:=hx146_1;have hw146_0:=hx146_0;obtain rfl:ad143 = ad146:=(by injection e146)
              replace hx146_0:=zS HB.out hx146_0;replace hx146_1:=zS HB.out hx146_1;replace p146:=eq_true p146;replace q146:=eq_true q146;refine start_ (n:=19) (S:=fun w'=>w'.cell? ⟨gb140,0,none⟩ = some (.int .i64 a0_0) ∧ w'.cell? ⟨gb140,1,none⟩ = some (.int .i64 a0_1) ∧ w'.cell? ⟨gb140,2,none⟩ = some (.slice (some ad143) l0_2.length c0_2) ∧ w'.cell? ⟨gb144,0,none⟩ = some (.int .i64 ((rd_T48 l0_2 x18_2).f0)) ∧ w'.cell? ⟨gb144,1,none⟩ = some (.int .i64 ((rd_T48 l0_2 x18_2).f1)) ∧ w'.cell? (ad143.add (((ji17)).toNat * 2)) = some (.int .i64 ((rd_T48 l0_2 (ji17)).f0)) ∧ w'.cell? ⟨(ad143.add (((ji17)).toNat * 2)).block,(ad143.add (((ji17)).toNat * 2)).off + 1,none⟩ = some (.int .i64 ((rd_T48 l0_2 (ji17)).f1))) (ds:=[]) #[false,false,false,false,false,false,false,false,false,false,false,false,false,false,false,false,false,false,false] (by kernel_rfl) rfl rfl ⟨(blk_cell BK140.out 0).trans rfl,(blk_cell BK140.out 1).trans rfl,(blk_cell BK140.out 2).trans rfl,(blk_cell BK144.out 0).trans rfl,(blk_cell BK144.out 1).trans rfl,(zS HB.out hw146_0 :),(zS HB.out hw146_1 :)⟩ (fun hHeld=>?_);refine with_tabW impl_IsValidFloor.tab6 impl_IsValidFloor.bits6 (fun HT_ HW_=>?_)
              generalize w32.drew = w33 at BK140 BK144 HB hx146_0 hx146_1 hHeld ⊢
              refine take_ (i:=0) (N:=some 23) (v:=?_) (a':=?_) #[true,false,false,false,false,false,false,false,false,false,false,false,false,false,false,false,false,false,false] rfl rfl (take_ofW HT_.out HW_.out (by kernel_rfl)) (fun _ _ _ h=>h) (Or.inl ⟨by rfl,?_⟩) hHeld ?_ ?_
              rotate_left
              ·rintro w' ⟨s0,s1,s2,s3,s4,s5,s6⟩
               go_simp
               with_reducible rfl
              rotate_left
              ·simp only [Act.put,zT,zU,zV,i64_w,i32_w]
               rfl
              refine take_ (i:=1) (N:=some 24) (v:=?_) (a':=?_) #[true,true,false,false,false,false,false,false,false,false,false,false,false,false,false,false,false,false,false] rfl rfl (take_ofW HT_.out HW_.out (by kernel_rfl)) (fun _ _ _ h=>h) (Or.inl ⟨by rfl,?_⟩) hHeld ?_ ?_
              rotate_left
              ·rintro w' ⟨s0,s1,s2,s3,s4,s5,s6⟩
               go_simp
               with_reducible rfl
              rotate_left
              ·simp only [Act.put,zT,zU,zV,i64_w,i32_w]
               rfl
              refine one_ (i:=2) (N:=some 25) #[true,true,true,false,false,false,false,false,false,false,false,false,false,false,false,false,false,false,false] rfl rfl (one_of HT_.out (by kernel_rfl)) (by decide) (fun K hK=>?_)
              refine goes_ Try.func55 (by kernel_rfl) rfl #[.agg #[.int .i64 a0_0,.int .i64 a0_1,.slice (some ad143) l0_2.length c0_2],.agg #[.int .i64 ((rd_T48 l0_2 x18_2).f0),.int .i64 ((rd_T48 l0_2 x18_2).f1)]] (by rfl) rfl rfl (by (try simp only [List.map_toArray,List.map_cons,List.map_nil]);first|done|rfl|(simp only [List.length_drop,List.length_take];rfl)) ?_
              with_reducible refine (impl_onFloor.calls a0_0 a0_1 _ _ l0_2 ((rd_T48 l0_2 x18_2).f0) ((rd_T48 l0_2 x18_2).f1) true _ ?side1 ?side2 A14.out).mono ?_
              (case side1=>repeat (first|exact (zO HR0_2.out HB.out)|(with_reducible first|refine zG ?_ _|refine zH ?_ _|refine zI ?_)))
              (case side2=>exact HC0_2.out)
              rintro e w34 ⟨rfl,hb⟩
              refine ⟨_,rfl,?_⟩
              have n0_:=zM (blk_below (g:=gb140) (o := .cells #[.int .i64 a0_0,.int .i64 a0_1,.slice (some ad143) l0_2.length c0_2] 29 (0,0)) (by (with_reducible repeat (first|refine zJ ?_ _|refine zK ?_|refine zL ?_ _));exact BK140.out) hb)
              have n1_:=zM (blk_below (g:=gb144) (o := .cells #[.int .i64 ((rd_T48 l0_2 x18_2).f0),.int .i64 ((rd_T48 l0_2 x18_2).f1)] 48 (0,0)) (by (with_reducible repeat (first|refine zJ ?_ _|refine zK ?_|refine zL ?_ _));exact BK144.out) hb)
              have n2_:=zM (zQ (by repeat (first|(with_reducible first|exact HB.out|apply zD|apply zE|apply zF|refine below_set ?_ GE140.out|refine below_set ?_ GE144.out)|exact HB.out)) hb)
              clear BK140;clear BK144;clear HB;have BK140:=n0_;have BK144:=n1_;have HB:=n2_;clear n0_ n1_ n2_;(try clear hb)
              (try clear hb2)
              (try clear hk)
              (try clear hi)
              refine hK.out _ _ ⟨(blk_cell BK140.out 0).trans rfl,(blk_cell BK140.out 1).trans rfl,(blk_cell BK140.out 2).trans rfl,(blk_cell BK144.out 0).trans rfl,(blk_cell BK144.out 1).trans rfl,(zS HB.out hw146_0 :),(zS HB.out hw146_1 :)⟩ (fun hHeld=>?_)
              clear hK K;refine norm_ (a':=?_) ?_ ?_
              rotate_left
              ·show Act.put _ (some 25) _ = _
               simp only [Act.put,zT,zU,zV,i64_w,i32_w]
               rfl
              refine pure_ (i:=3) (N:=some 26) (v:=?_) (a':=?_) #[true,true,true,true,false,false,false,false,false,false,false,false,false,false,false,false,false,false,false] rfl rfl (any_of HT_.out (by kernel_rfl)) (fun _ _ _ h=>h) (Or.inl ⟨by rfl,?_⟩) ?_ ?_
              rotate_left
              ·intro w'
               go_simp
               with_reducible rfl
              rotate_left
              ·simp only [Act.put,zT,zU,zV,i64_w,i32_w]
               rfl
              refine pure_ (i:=4) (N:=some 27) (v:=?_) (a':=?_) #[true,true,true,true,true,false,false,false,false,false,false,false,false,false,false,false,false,false,false] rfl rfl (any_of HT_.out (by kernel_rfl)) (fun _ _ _ h=>h) (Or.inl ⟨by rfl,?_⟩) ?_ ?_
              rotate_left
              ·intro w'
               go_simp
               with_reducible rfl
              rotate_left
              ·simp only [Act.put,zT,zU,zV,i64_w,i32_w]
               rfl
              refine pure_ (i:=5) (N:=some 28) (v:=?_) (a':=?_) #[true,true,true,true,true,true,false,false,false,false,false,false,false,false,false,false,false,false,false] rfl rfl (any_of HT_.out (by kernel_rfl)) (fun _ _ _ h=>h) (Or.inl ⟨by rfl,?_⟩) ?_ ?_
              rotate_left
              ·intro w'
               go_simp
               with_reducible rfl
              rotate_left
              ·simp only [Act.put,zT,zU,zV,i64_w,i32_w]
               rfl
              refine pure_ (i:=6) (N:=some 29) (v:=?_) (a':=?_) #[true,true,true,true,true,true,true,false,false,false,false,false,false,false,false,false,false,false,false] rfl rfl (any_of HT_.out (by kernel_rfl)) (fun _ _ _ h=>h) (Or.inl ⟨by rfl,?_⟩) ?_ ?_
              rotate_left
              ·intro w'
               go_simp
               with_reducible rfl
              rotate_left
              ·simp only [Act.put,zT,zU,zV,i64_w,i32_w]
               rfl
              refine pure_ (i:=7) (N:=some 30) (v:=?_) (a':=?_) #[true,true,true,true,true,true,true,true,false,false,false,false,false,false,false,false,false,false,false] rfl rfl (any_of HT_.out (by kernel_rfl)) (fun _ _ _ h=>h) (Or.inl ⟨by rfl,?_⟩) ?_ ?_
              rotate_left
              ·intro w'
               go_simp
               with_reducible rfl
              rotate_left
              ·simp only [Act.put,zT,zU,zV,i64_w,i32_w]
               rfl
              refine pure_ (i:=8) (N:=some 31) (v:=?_) (a':=?_) #[true,true,true,true,true,true,true,true,true,false,false,false,false,false,false,false,false,false,false] rfl rfl (any_of HT_.out (by kernel_rfl)) (fun _ _ _ h=>h) (Or.inl ⟨by rfl,?_⟩) ?_ ?_
              rotate_left
              ·intro w'
               go_simp
               with_reducible rfl
              rotate_left
              ·simp only [Act.put,zT,zU,zV,i64_w,i32_w]
               rfl
              refine pure_ (i:=10) (N:=some 33) (v:=?_) (a':=?_) #[true,true,true,true,true,true,true,true,true,false,true,false,false,false,false,false,false,false,false] rfl rfl (any_of HT_.out (by kernel_rfl)) (fun _ _ _ h=>h) (Or.inl ⟨by rfl,?_⟩) ?_ ?_
              rotate_left
              ·intro w'
               go_simp
               with_reducible rfl
              rotate_left
              ·simp only [Act.put,zT,zU,zV,i64_w,i32_w]
               rfl
              refine pure_ (i:=11) (N:=some 34) (v:=?_) (a':=?_) #[true,true,true,true,true,true,true,true,true,false,true,true,false,false,false,false,false,false,false] rfl rfl (any_of HT_.out (by kernel_rfl)) (fun _ _ _ h=>h) (Or.inl ⟨by rfl,?_⟩) ?_ ?_
              rotate_left
              ·intro w'
               go_simp
               with_reducible rfl
              rotate_left
              ·simp only [Act.put,zT,zU,zV,i64_w,i32_w]
               rfl
              refine take_ (i:=9) (N:=some 32) (v:=?_) (a':=?_) #[true,true,true,true,true,true,true,true,true,true,true,true,false,false,false,false,false,false,false] rfl rfl (take_ofW HT_.out HW_.out (by kernel_rfl)) (fun _ _ _ h=>h) (Or.inl ⟨by rfl,?_⟩) hHeld ?_ ?_
              rotate_left
              ·rintro w' ⟨s0,s1,s2,s3,s4,s5,s6⟩
               go_simp
               with_reducible rfl
              rotate_left
              ·simp only [Act.put,zT,zU,zV,i64_w,i32_w]
               rfl
              refine pure_ (i:=12) (N:=some 35) (v:=?_) (a':=?_) #[true,true,true,true,true,true,true,true,true,true,true,true,true,false,false,false,false,false,false] rfl rfl (any_of HT_.out (by kernel_rfl)) (fun _ _ _ h=>h) (Or.inl ⟨by rfl,?_⟩) ?_ ?_
              rotate_left
              ·intro w'
               go_simp
               with_reducible rfl
              rotate_left
              ·simp only [Act.put,zT,zU,zV,i64_w,i32_w]
               rfl
              refine take_ (i:=13) (N:=some 36) (v:=?_) (a':=?_) #[true,true,true,true,true,true,true,true,true,true,true,true,true,true,false,false,false,false,false] rfl rfl (take_ofW HT_.out HW_.out (by kernel_rfl)) (fun _ _ _ h=>h) (Or.inl ⟨by rfl,?_⟩) hHeld ?_ ?_
              rotate_left
              ·rintro w' ⟨s0,s1,s2,s3,s4,s5,s6⟩
               go_simp
               with_reducible rfl
              rotate_left
              ·simp only [Act.put,zT,zU,zV,i64_w,i32_w]
               rfl
              refine take_ (i:=14) (N:=some 37) (v:=?_) (a':=?_) #[true,true,true,true,true,true,true,true,true,true,true,true,true,true,true,false,false,false,false] rfl rfl (take_ofW HT_.out HW_.out (by kernel_rfl)) (fun _ _ _ h=>h) (Or.inl ⟨by rfl,?_⟩) hHeld ?_ ?_
              rotate_left
              ·rintro w' ⟨s0,s1,s2,s3,s4,s5,s6⟩
               go_simp
               with_reducible rfl
              rotate_left
              ·simp only [Act.put,zT,zU,zV,i64_w,i32_w]
               rfl
              refine one_ (i:=15) (N:=some 38) #[true,true,true,true,true,true,true,true,true,true,true,true,true,true,true,true,false,false,false] rfl rfl (one_of HT_.out (by kernel_rfl)) (by decide) (fun K hK=>?_)
              refine goes_ Try.func56 (by kernel_rfl) rfl #[.agg #[.int .i64 ((rd_T48 l0_2 (ji17)).f0),.int .i64 ((rd_T48 l0_2 (ji17)).f1)],.agg #[.int .i64 ((rd_T48 l0_2 x18_2).f0),.int .i64 ((rd_T48 l0_2 x18_2).f1)]] (by rfl) rfl rfl (by (try simp only [List.map_toArray,List.map_cons,List.map_nil]);first|done|(simp only [hji17];rfl)|rfl|(simp only [List.length_drop,List.length_take];rfl)) ?_
              with_reducible refine (impl_before.calls ((rd_T48 l0_2 (ji17)).f0) ((rd_T48 l0_2 (ji17)).f1) ((rd_T48 l0_2 x18_2).f0) ((rd_T48 l0_2 x18_2).f1) false _ A20.out).mono ?_
              rintro e w35 ⟨rfl,hb⟩
              refine ⟨_,rfl,?_⟩
              have n0_:=zM (blk_below (g:=gb140) (o := .cells #[.int .i64 a0_0,.int .i64 a0_1,.slice (some ad143) l0_2.length c0_2] 29 (0,0)) (by (with_reducible repeat (first|refine zJ ?_ _|refine zK ?_|refine zL ?_ _));exact BK140.out) hb)
              have n1_:=zM (blk_below (g:=gb144) (o := .cells #[.int .i64 ((rd_T48 l0_2 x18_2).f0),.int .i64 ((rd_T48 l0_2 x18_2).f1)] 48 (0,0)) (by (with_reducible repeat (first|refine zJ ?_ _|refine zK ?_|refine zL ?_ _));exact BK144.out) hb)
              have n2_:=zM (zQ (by repeat (first|(with_reducible first|exact HB.out|apply zD|apply zE|apply zF|refine below_set ?_ GE140.out|refine below_set ?_ GE144.out)|exact HB.out)) hb)
              clear BK140;clear BK144;clear HB;have BK140:=n0_;have BK144:=n1_;have HB:=n2_;clear n0_ n1_ n2_;(try clear hb)
              (try clear hb2)
              (try clear hk)
              (try clear hi)
              refine hK.out _ _ ⟨(blk_cell BK140.out 0).trans rfl,(blk_cell BK140.out 1).trans rfl,(blk_cell BK140.out 2).trans rfl,(blk_cell BK144.out 0).trans rfl,(blk_cell BK144.out 1).trans rfl,(zS HB.out hw146_0 :),(zS HB.out hw146_1 :)⟩ (fun hHeld=>?_)
              clear hK K;refine norm_ (a':=?_) ?_ ?_
              rotate_left
              ·show Act.put _ (some 38) _ = _
               simp only [Act.put,zT,zU,zV,i64_w,i32_w]
               rfl
              refine pure_ (i:=16) (N:=some 39) (v:=?_) (a':=?_) #[true,true,true,true,true,true,true,true,true,true,true,true,true,true,true,true,true,false,false] rfl rfl (any_of HT_.out (by kernel_rfl)) (fun _ _ _ h=>h) (Or.inl ⟨by rfl,?_⟩) ?_ ?_
              rotate_left
              ·intro w'
               go_simp
               with_reducible rfl
              rotate_left
              ·simp only [Act.put,zT,zU,zV,i64_w,i32_w]
               rfl
              refine pure_ (i:=17) (N:=some 40) (v:=?_) (a':=?_) #[true,true,true,true,true,true,true,true,true,true,true,true,true,true,true,true,true,true,false] rfl rfl (any_of HT_.out (by kernel_rfl)) (fun _ _ _ h=>h) (Or.inl ⟨by rfl,?_⟩) ?_ ?_
              rotate_left
              ·intro w'
               go_simp
               with_reducible rfl
              rotate_left
              ·simp only [Act.put,zT,zU,zV,i64_w,i32_w]
               rfl
              refine pure_ (i:=18) (N:=some 41) (v:=?_) (a':=?_) #[true,true,true,true,true,true,true,true,true,true,true,true,true,true,true,true,true,true,true] rfl rfl (any_of HT_.out (by kernel_rfl)) (fun _ _ _ h=>h) (Or.inl ⟨by rfl,?_⟩) ?_ ?_
              rotate_left
              ·intro w'
               go_simp
               with_reducible rfl
              rotate_left
              ·simp only [Act.put,zT,zU,zV,i64_w,i32_w]
               rfl
              refine done_ (done_of HT_.out (by kernel_rfl)) ?_
              try go_wp2
              go_ret
              exact ⟨by first|rfl|(simp [errW_none,errW_some] <;> rfl)|(simp only [← hji17];first|rfl|(simp [errW_none,errW_some] <;> rfl))|(simp [*,errW_none,errW_some] <;> rfl),by repeat (first|(with_reducible first|exact HB.out|apply zD|apply zE|apply zF|refine below_set ?_ GE140.out|refine below_set ?_ GE144.out)|exact HB.out)⟩
            ·rw [if_neg c19] at H
             exact absurd H (by simp)
           ·rw [if_neg c18] at H
            exact absurd H (by simp)
          ·rw [if_neg c16] at H
           have c16b0:decide (0 < x18_2) = false:=decide_eq_false c16
           clear c16;have H':=zM H;clear H;have p143:0 ≤ (x18_2:Int):=of_decide_eq_true (by first|(with_reducible assumption)|assumption)
           have q143:x18_2 < (l0_2.length:Int):=of_decide_eq_true (by first|(with_reducible assumption)|assumption)
           obtain ⟨ad143,e143,hx143_0,hx143_1⟩:=at_T48 HR0_2.out x18_2 p143 q143;cases e143
           replace hx143_0:=zS HB.out hx143_0;replace hx143_1:=zS HB.out hx143_1;replace p143:=eq_true p143;replace q143:=eq_true q143;try go_wp2_with (first|((with_reducible refine gate_dst (N:=4) rfl ?_);refine box_event ?hg (N:=4) ?hd (cs := #[.int .i64 0,.int .i64 0]) (t:=48) ?hr ?_;(case hd=>rfl);(case hg=>rfl);(case hr=>first|(go_simp;done)|(go_simp;rfl));intro gb144 hg w36 hbox hb;have n0_:=zM (blk_below (g:=gb140) (o := .cells #[.int .i64 a0_0,.int .i64 a0_1,.slice (some ad143) l0_2.length c0_2] 29 (0,0)) (by (with_reducible repeat (first|refine zJ ?_ _|refine zK ?_|refine zL ?_ _));exact BK140.out) hb);have n1_:=zM (zQ (by repeat (first|(with_reducible first|exact HB.out|apply zD|apply zE|apply zF|refine below_set ?_ GE140.out)|exact HB.out)) hb);have n2_:=zM (hbox);have n3_:=zM ((by rw [hg];exact (zR (by repeat (first|(with_reducible first|exact HB.out|apply zD|apply zE|apply zF|refine below_set ?_ GE140.out)|exact HB.out))):w.heap.size ≤ gb144));have n4_:=zM ((by rw [hg];exact (zR (by repeat (first|(with_reducible first|exact HB.out|apply zD|apply zE|apply zF|refine below_set ?_ GE140.out)|exact HB.out))):w.heap.size ≤ gb144));have n5_:=zM ((by rw [hg];exact Nat.ne_of_lt (blk_lt (g:=gb140) (o := .cells #[.int .i64 a0_0,.int .i64 a0_1,.slice (some ad143) l0_2.length c0_2] 29 (0,0)) (by (with_reducible repeat (first|refine zJ ?_ _|refine zK ?_|refine zL ?_ _));exact BK140.out)):gb140 ≠ gb144));have n6_:=zM ((by rw [hg];exact Nat.ne_of_gt (blk_lt (g:=gb140) (o := .cells #[.int .i64 a0_0,.int .i64 a0_1,.slice (some ad143) l0_2.length c0_2] 29 (0,0)) (by (with_reducible repeat (first|refine zJ ?_ _|refine zK ?_|refine zL ?_ _));exact BK140.out)):gb144 ≠ gb140));clear BK140;clear HB;have BK140:=n0_;have HB:=n1_;have BK144:=n2_;have GW144:=n3_;have GE144:=n4_;have NB140_144:=n5_;have NB144_140:=n6_;clear n0_ n1_ n2_ n3_ n4_ n5_ n6_;clear hb hbox hg;have hnb37:=NB144_140.out;have hnc37:=NB140_144.out;have hcz38_0:w36.cell? ⟨gb144,0,none⟩ = some (.int .i64 0):=(blk_cell BK144.out 0).trans rfl;have hcz38_1:w36.cell? ⟨gb144,1,none⟩ = some (.int .i64 0):=(blk_cell BK144.out 1).trans rfl;have hfz38_0:=blk_frozen BK144.out 0;have hfz38_1:=blk_frozen BK144.out 1))
           have n0_:Aside0 (((w36.setCell ⟨gb144,0,none⟩ (.int .i64 ((rd_T48 l0_2 x18_2).f0))).setCell ⟨gb144,1,none⟩ (.int .i64 ((rd_T48 l0_2 x18_2).f1))).heap[gb140]? = some (.cells #[.int .i64 a0_0,.int .i64 a0_1,.slice (some ad143) l0_2.length c0_2] 29 (0,0))):=⟨by (with_reducible repeat (first|refine zJ ?_ _|refine zK ?_|refine zL ?_ _));refine blk_far ?_ NB140_144.out _;(with_reducible repeat (first|refine zJ ?_ _|refine zK ?_|refine zL ?_ _));refine blk_far ?_ NB140_144.out _;(with_reducible repeat (first|refine zJ ?_ _|refine zK ?_|refine zL ?_ _));exact BK140.out⟩
           have n1_:Aside0 (((w36.setCell ⟨gb144,0,none⟩ (.int .i64 ((rd_T48 l0_2 x18_2).f0))).setCell ⟨gb144,1,none⟩ (.int .i64 ((rd_T48 l0_2 x18_2).f1))).heap[gb144]? = some (.cells #[.int .i64 ((rd_T48 l0_2 x18_2).f0),.int .i64 ((rd_T48 l0_2 x18_2).f1)] 48 (0,0))):=⟨by (with_reducible repeat (first|refine zJ ?_ _|refine zK ?_|refine zL ?_ _));refine blk_put (cs := #[.int .i64 ((rd_T48 l0_2 x18_2).f0),.int .i64 0]) ?_ 1 _ rfl;(with_reducible repeat (first|refine zJ ?_ _|refine zK ?_|refine zL ?_ _));refine blk_put (cs := #[.int .i64 0,.int .i64 0]) ?_ 0 _ rfl;(with_reducible repeat (first|refine zJ ?_ _|refine zK ?_|refine zL ?_ _));exact BK144.out⟩
           have n2_:Aside0 (Below w.heap.size w ((w36.setCell ⟨gb144,0,none⟩ (.int .i64 ((rd_T48 l0_2 x18_2).f0))).setCell ⟨gb144,1,none⟩ (.int .i64 ((rd_T48 l0_2 x18_2).f1)))):=⟨by repeat (first|(with_reducible first|exact HB.out|apply zD|apply zE|apply zF|refine below_set ?_ GE140.out|refine below_set ?_ GE144.out)|exact HB.out)⟩
           (try clear BK140)
           (try clear BK144)
           (try clear HB)
           generalize ((w36.setCell ⟨gb144,0,none⟩ (.int .i64 ((rd_T48 l0_2 x18_2).f0))).setCell ⟨gb144,1,none⟩ (.int .i64 ((rd_T48 l0_2 x18_2).f1))) = w39 at n0_ n1_ n2_ ⊢
           have BK140:=n0_;have BK144:=n1_;have HB:=n2_;clear n0_ n1_ n2_;have n0_:=zM (zK BK140.out);have n1_:=zM (zK BK144.out);have n2_:=zM (zF HB.out);clear BK140;clear BK144;clear HB;have BK140:=n0_;have BK144:=n1_;have HB:=n2_;clear n0_ n1_ n2_;refine start_ (n:=19) (S:=fun w'=>w'.cell? ⟨gb140,0,none⟩ = some (.int .i64 a0_0) ∧ w'.cell? ⟨gb140,1,none⟩ = some (.int .i64 a0_1) ∧ w'.cell? ⟨gb140,2,none⟩ = some (.slice (some ad143) l0_2.length c0_2) ∧ w'.cell? ⟨gb144,0,none⟩ = some (.int .i64 ((rd_T48 l0_2 x18_2).f0)) ∧ w'.cell? ⟨gb144,1,none⟩ = some (.int .i64 ((rd_T48 l0_2 x18_2).f1))) (ds:=[]) #[false,false,false,false,false,false,false,false,false,false,false,false,false,false,false,false,false,false,false] (by kernel_rfl) rfl rfl ⟨(blk_cell BK140.out 0).trans rfl,(blk_cell BK140.out 1).trans rfl,(blk_cell BK140.out 2).trans rfl,(blk_cell BK144.out 0).trans rfl,(blk_cell BK144.out 1).trans rfl⟩ (fun hHeld=>?_);refine with_tabW impl_IsValidFloor.tab6 impl_IsValidFloor.bits6 (fun HT_ HW_=>?_)
           generalize w39.drew = w40 at BK140 BK144 HB hHeld ⊢
           refine take_ (i:=0) (N:=some 23) (v:=?_) (a':=?_) #[true,false,false,false,false,false,false,false,false,false,false,false,false,false,false,false,false,false,false] rfl rfl (take_ofW HT_.out HW_.out (by kernel_rfl)) (fun _ _ _ h=>h) (Or.inl ⟨by rfl,?_⟩) hHeld ?_ ?_
           rotate_left
           ·rintro w' ⟨s0,s1,s2,s3,s4⟩
            go_simp
            with_reducible rfl
           rotate_left
           ·simp only [Act.put,zT,zU,zV,i64_w,i32_w]
            rfl
           refine take_ (i:=1) (N:=some 24) (v:=?_) (a':=?_) #[true,true,false,false,false,false,false,false,false,false,false,false,false,false,false,false,false,false,false] rfl rfl (take_ofW HT_.out HW_.out (by kernel_rfl)) (fun _ _ _ h=>h) (Or.inl ⟨by rfl,?_⟩) hHeld ?_ ?_
           rotate_left
           ·rintro w' ⟨s0,s1,s2,s3,s4⟩
            go_simp
            with_reducible rfl
           rotate_left
           ·simp only [Act.put,zT,zU,zV,i64_w,i32_w]
            rfl
           refine one_ (i:=2) (N:=some 25) #[true,true,true,false,false,false,false,false,false,false,false,false,false,false,false,false,false,false,false] rfl rfl (one_of HT_.out (by kernel_rfl)) (by decide) (fun K hK=>?_)
           refine goes_ Try.func55 (by kernel_rfl) rfl #[.agg #[.int .i64 a0_0,.int .i64 a0_1,.slice (some ad143) l0_2.length c0_2],.agg #[.int .i64 ((rd_T48 l0_2 x18_2).f0),.int .i64 ((rd_T48 l0_2 x18_2).f1)]] (by rfl) rfl rfl (by (try simp only [List.map_toArray,List.map_cons,List.map_nil]);first|done|rfl|(simp only [List.length_drop,List.length_take];rfl)) ?_
           with_reducible refine (impl_onFloor.calls a0_0 a0_1 _ _ l0_2 ((rd_T48 l0_2 x18_2).f0) ((rd_T48 l0_2 x18_2).f1) true _ ?side1 ?side2 A14.out).mono ?_
           (case side1=>repeat (first|exact (zO HR0_2.out HB.out)|(with_reducible first|refine zG ?_ _|refine zH ?_ _|refine zI ?_)))
           (case side2=>exact HC0_2.out)
           rintro e w41 ⟨rfl,hb⟩
           refine ⟨_,rfl,?_⟩
           have n0_:=zM (blk_below (g:=gb140) (o := .cells #[.int .i64 a0_0,.int .i64 a0_1,.slice (some ad143) l0_2.length c0_2] 29 (0,0)) (by (with_reducible repeat (first|refine zJ ?_ _|refine zK ?_|refine zL ?_ _));exact BK140.out) hb)
           have n1_:=zM (blk_below (g:=gb144) (o := .cells #[.int .i64 ((rd_T48 l0_2 x18_2).f0),.int .i64 ((rd_T48 l0_2 x18_2).f1)] 48 (0,0)) (by (with_reducible repeat (first|refine zJ ?_ _|refine zK ?_|refine zL ?_ _));exact BK144.out) hb)
           have n2_:=zM (zQ (by repeat (first|(with_reducible first|exact HB.out|apply zD|apply zE|apply zF|refine below_set ?_ GE140.out|refine below_set ?_ GE144.out)|exact HB.out)) hb)
           clear BK140;clear BK144;clear HB;have BK140:=n0_;have BK144:=n1_;have HB:=n2_;clear n0_ n1_ n2_;(try clear hb)
           (try clear hb2)
           (try clear hk)
           (try clear hi)
           refine hK.out _ _ ⟨(blk_cell BK140.out 0).trans rfl,(blk_cell BK140.out 1).trans rfl,(blk_cell BK140.out 2).trans rfl,(blk_cell BK144.out 0).trans rfl,(blk_cell BK144.out 1).trans rfl⟩ (fun hHeld=>?_)
           clear hK K;refine norm_ (a':=?_) ?_ ?_
           rotate_left
           ·show Act.put _ (some 25) _ = _
            simp only [Act.put,zT,zU,zV,i64_w,i32_w]
            rfl
           refine pure_ (i:=3) (N:=some 26) (v:=?_) (a':=?_) #[true,true,true,true,false,false,false,false,false,false,false,false,false,false,false,false,false,false,false] rfl rfl (any_of HT_.out (by kernel_rfl)) (fun _ _ _ h=>h) (Or.inl ⟨by rfl,?_⟩) ?_ ?_
           rotate_left
           ·intro w'
            go_simp
            with_reducible rfl
           rotate_left
           ·simp only [Act.put,zT,zU,zV,i64_w,i32_w]
            rfl
           refine pure_ (i:=4) (N:=some 27) (v:=?_) (a':=?_) #[true,true,true,true,true,false,false,false,false,false,false,false,false,false,false,false,false,false,false] rfl rfl (any_of HT_.out (by kernel_rfl)) (fun _ _ _ h=>h) (Or.inl ⟨by rfl,?_⟩) ?_ ?_
           rotate_left
           ·intro w'
            go_simp
            with_reducible rfl
           rotate_left
           ·simp only [Act.put,zT,zU,zV,i64_w,i32_w]
            rfl
           refine pure_ (i:=5) (N:=some 28) (v:=?_) (a':=?_) #[true,true,true,true,true,true,false,false,false,false,false,false,false,false,false,false,false,false,false] rfl rfl (any_of HT_.out (by kernel_rfl)) (fun _ _ _ h=>h) (Or.inl ⟨by rfl,?_⟩) ?_ ?_
           rotate_left
           ·intro w'
            go_simp
            with_reducible rfl
           rotate_left
           ·simp only [Act.put,zT,zU,zV,i64_w,i32_w]
            rfl
           refine pure_ (i:=6) (N:=some 29) (v:=?_) (a':=?_) #[true,true,true,true,true,true,true,false,false,false,false,false,false,false,false,false,false,false,false] rfl rfl (any_of HT_.out (by kernel_rfl)) (fun _ _ _ h=>h) (Or.inl ⟨by rfl,?_⟩) ?_ ?_
           rotate_left
           ·intro w'
            go_simp
            with_reducible rfl
           rotate_left
           ·simp only [Act.put,zT,zU,zV,i64_w,i32_w]
            rfl
           refine pure_ (i:=7) (N:=some 30) (v:=?_) (a':=?_) #[true,true,true,true,true,true,true,true,false,false,false,false,false,false,false,false,false,false,false] rfl rfl (any_of HT_.out (by kernel_rfl)) (fun _ _ _ h=>h) (Or.inl ⟨by rfl,?_⟩) ?_ ?_
           rotate_left
           ·intro w'
            go_simp
            with_reducible rfl
           rotate_left
           ·simp only [Act.put,zT,zU,zV,i64_w,i32_w]
            rfl
           refine pure_ (i:=8) (N:=some 31) (v:=undef) (a':=?_) #[true,true,true,true,true,true,true,true,true,false,false,false,false,false,false,false,false,false,false] rfl rfl (any_of HT_.out (by kernel_rfl)) (fun _ _ _ h=>h) (Or.inr ⟨by rfl,rfl⟩) ?_ ?_
           rotate_left
           ·simp only [Act.put,zT,zU,zV,i64_w,i32_w]
            rfl
           refine pure_ (i:=9) (N:=some 32) (v:=undef) (a':=?_) #[true,true,true,true,true,true,true,true,true,true,false,false,false,false,false,false,false,false,false] rfl rfl (any_of HT_.out (by kernel_rfl)) (fun _ _ _ h=>h) (Or.inr ⟨by rfl,rfl⟩) ?_ ?_
           rotate_left
           ·simp only [Act.put,zT,zU,zV,i64_w,i32_w]
            rfl
           refine pure_ (i:=10) (N:=some 33) (v:=undef) (a':=?_) #[true,true,true,true,true,true,true,true,true,true,true,false,false,false,false,false,false,false,false] rfl rfl (any_of HT_.out (by kernel_rfl)) (fun _ _ _ h=>h) (Or.inr ⟨by rfl,rfl⟩) ?_ ?_
           rotate_left
           ·simp only [Act.put,zT,zU,zV,i64_w,i32_w]
            rfl
           refine pure_ (i:=11) (N:=some 34) (v:=undef) (a':=?_) #[true,true,true,true,true,true,true,true,true,true,true,true,false,false,false,false,false,false,false] rfl rfl (any_of HT_.out (by kernel_rfl)) (fun _ _ _ h=>h) (Or.inr ⟨by rfl,rfl⟩) ?_ ?_
           rotate_left
           ·simp only [Act.put,zT,zU,zV,i64_w,i32_w]
            rfl
           refine pure_ (i:=12) (N:=some 35) (v:=undef) (a':=?_) #[true,true,true,true,true,true,true,true,true,true,true,true,true,false,false,false,false,false,false] rfl rfl (any_of HT_.out (by kernel_rfl)) (fun _ _ _ h=>h) (Or.inr ⟨by rfl,rfl⟩) ?_ ?_
           rotate_left
           ·simp only [Act.put,zT,zU,zV,i64_w,i32_w]
            rfl
           refine pure_ (i:=13) (N:=some 36) (v:=undef) (a':=?_) #[true,true,true,true,true,true,true,true,true,true,true,true,true,true,false,false,false,false,false] rfl rfl (any_of HT_.out (by kernel_rfl)) (fun _ _ _ h=>h) (Or.inr ⟨by rfl,rfl⟩) ?_ ?_
           rotate_left
           ·simp only [Act.put,zT,zU,zV,i64_w,i32_w]
            rfl
           refine pure_ (i:=14) (N:=some 37) (v:=undef) (a':=?_) #[true,true,true,true,true,true,true,true,true,true,true,true,true,true,true,false,false,false,false] rfl rfl (any_of HT_.out (by kernel_rfl)) (fun _ _ _ h=>h) (Or.inr ⟨by rfl,rfl⟩) ?_ ?_
           rotate_left
           ·simp only [Act.put,zT,zU,zV,i64_w,i32_w]
            rfl
           refine pure_ (i:=15) (N:=some 38) (v:=undef) (a':=?_) #[true,true,true,true,true,true,true,true,true,true,true,true,true,true,true,true,false,false,false] rfl rfl (any_of HT_.out (by kernel_rfl)) (fun _ _ _ h=>h) (Or.inr ⟨by rfl,rfl⟩) ?_ ?_
           rotate_left
           ·simp only [Act.put,zT,zU,zV,i64_w,i32_w]
            rfl
           refine pure_ (i:=16) (N:=some 39) (v:=undef) (a':=?_) #[true,true,true,true,true,true,true,true,true,true,true,true,true,true,true,true,true,false,false] rfl rfl (any_of HT_.out (by kernel_rfl)) (fun _ _ _ h=>h) (Or.inr ⟨by rfl,rfl⟩) ?_ ?_
           rotate_left
           ·simp only [Act.put,zT,zU,zV,i64_w,i32_w]
            rfl
           refine pure_ (i:=17) (N:=some 40) (v:=?_) (a':=?_) #[true,true,true,true,true,true,true,true,true,true,true,true,true,true,true,true,true,true,false] rfl rfl (any_of HT_.out (by kernel_rfl)) (fun _ _ _ h=>h) (Or.inl ⟨by rfl,?_⟩) ?_ ?_
           rotate_left
           ·intro w'
            go_simp
            with_reducible rfl
           rotate_left
           ·simp only [Act.put,zT,zU,zV,i64_w,i32_w]
            rfl
           refine pure_ (i:=18) (N:=some 41) (v:=?_) (a':=?_) #[true,true,true,true,true,true,true,true,true,true,true,true,true,true,true,true,true,true,true] rfl rfl (any_of HT_.out (by kernel_rfl)) (fun _ _ _ h=>h) (Or.inl ⟨by rfl,?_⟩) ?_ ?_
           rotate_left
           ·intro w'
            go_simp
            with_reducible rfl
           rotate_left
           ·simp only [Act.put,zT,zU,zV,i64_w,i32_w]
            rfl
           refine done_ (done_of HT_.out (by kernel_rfl)) ?_
           try go_wp2
           go_roundg k2
           case measure=>have:=HJ1.out;have:=HK2.out;omega
           case rel=>exact ⟨(wrap64 (x18_2 + 1)),(by first|rfl|(simp;done)|(simp [*];done)),H',⟨by have:=HJ1.out;have:=HK2.out;omega⟩,⟨by (with_reducible repeat (first|refine zJ ?_ _|refine zK ?_|refine zL ?_ _));exact BK140.out⟩,⟨by repeat (first|(with_reducible first|exact HB.out|apply zD|apply zE|apply zF|refine below_set ?_ GE140.out|refine below_set ?_ GE144.out)|exact HB.out)⟩⟩
         ·replace c15:=Bool.eq_false_iff.mpr c15
          subst c15;have H1:(some false) = some r:=by rw [if_neg (show ¬ (false = true) by decide)] at H;exact H
          clear H;have H:=H1;clear H1;obtain rfl:=Option.some.inj H;have p143:0 ≤ (x18_2:Int):=of_decide_eq_true (by first|(with_reducible assumption)|assumption)
          have q143:x18_2 < (l0_2.length:Int):=of_decide_eq_true (by first|(with_reducible assumption)|assumption)
          obtain ⟨ad143,e143,hx143_0,hx143_1⟩:=at_T48 HR0_2.out x18_2 p143 q143;cases e143
          replace hx143_0:=zS HB.out hx143_0;replace hx143_1:=zS HB.out hx143_1;replace p143:=eq_true p143;replace q143:=eq_true q143;try go_wp2_with (first|((with_reducible refine gate_dst (N:=4) rfl ?_);refine box_event ?hg (N:=4) ?hd (cs := #[.int .i64 0,.int .i64 0]) (t:=48) ?hr ?_;(case hd=>rfl);(case hg=>rfl);(case hr=>first|(go_simp;done)|(go_simp;rfl));intro gb144 hg w42 hbox hb;have n0_:=zM (blk_below (g:=gb140) (o := .cells #[.int .i64 a0_0,.int .i64 a0_1,.slice (some ad143) l0_2.length c0_2] 29 (0,0)) (by (with_reducible repeat (first|refine zJ ?_ _|refine zK ?_|refine zL ?_ _));exact BK140.out) hb);have n1_:=zM (zQ (by repeat (first|(with_reducible first|exact HB.out|apply zD|apply zE|apply zF|refine below_set ?_ GE140.out)|exact HB.out)) hb);have n2_:=zM (hbox);have n3_:=zM ((by rw [hg];exact (zR (by repeat (first|(with_reducible first|exact HB.out|apply zD|apply zE|apply zF|refine below_set ?_ GE140.out)|exact HB.out))):w.heap.size ≤ gb144));have n4_:=zM ((by rw [hg];exact (zR (by repeat (first|(with_reducible first|exact HB.out|apply zD|apply zE|apply zF|refine below_set ?_ GE140.out)|exact HB.out))):w.heap.size ≤ gb144));have n5_:=zM ((by rw [hg];exact Nat.ne_of_lt (blk_lt (g:=gb140) (o := .cells #[.int .i64 a0_0,.int .i64 a0_1,.slice (some ad143) l0_2.length c0_2] 29 (0,0)) (by (with_reducible repeat (first|refine zJ ?_ _|refine zK ?_|refine zL ?_ _));exact BK140.out)):gb140 ≠ gb144));have n6_:=zM ((by rw [hg];exact Nat.ne_of_gt (blk_lt (g:=gb140) (o := .cells #[.int .i64 a0_0,.int .i64 a0_1,.slice (some ad143) l0_2.length c0_2] 29 (0,0)) (by (with_reducible repeat (first|refine zJ ?_ _|refine zK ?_|refine zL ?_ _));exact BK140.out)):gb144 ≠ gb140));clear BK140;clear HB;have BK140:=n0_;have HB:=n1_;have BK144:=n2_;have GW144:=n3_;have GE144:=n4_;have NB140_144:=n5_;have NB144_140:=n6_;clear n0_ n1_ n2_ n3_ n4_ n5_ n6_;clear hb hbox hg;have hnb43:=NB144_140.out;have hnc43:=NB140_144.out;have hcz44_0:w42.cell? ⟨gb144,0,none⟩ = some (.int .i64 0):=(blk_cell BK144.out 0).trans rfl;have hcz44_1:w42.cell? ⟨gb144,1,none⟩ = some (.int .i64 0):=(blk_cell BK144.out 1).trans rfl;have hfz44_0:=blk_frozen BK144.out 0;have hfz44_1:=blk_frozen BK144.out 1))
          have n0_:Aside0 (((w42.setCell ⟨gb144,0,none⟩ (.int .i64 ((rd_T48 l0_2 x18_2).f0))).setCell ⟨gb144,1,none⟩ (.int .i64 ((rd_T48 l0_2 x18_2).f1))).heap[gb140]? = some (.cells #[.int .i64 a0_0,.int .i64 a0_1,.slice (some ad143) l0_2.length c0_2] 29 (0,0))):=⟨by (with_reducible repeat (first|refine zJ ?_ _|refine zK ?_|refine zL ?_ _));refine blk_far ?_ NB140_144.out _;(with_reducible repeat (first|refine zJ ?_ _|refine zK ?_|refine zL ?_ _));refine blk_far ?_ NB140_144.out _;(with_reducible repeat (first|refine zJ ?_ _|refine zK ?_|refine zL ?_ _));exact BK140.out⟩
          have n1_:Aside0 (((w42.setCell ⟨gb144,0,none⟩ (.int .i64 ((rd_T48 l0_2 x18_2).f0))).setCell ⟨gb144,1,none⟩ (.int .i64 ((rd_T48 l0_2 x18_2).f1))).heap[gb144]? = some (.cells #[.int .i64 ((rd_T48 l0_2 x18_2).f0),.int .i64 ((rd_T48 l0_2 x18_2).f1)] 48 (0,0))):=⟨by (with_reducible repeat (first|refine zJ ?_ _|refine zK ?_|refine zL ?_ _));refine blk_put (cs := #[.int .i64 ((rd_T48 l0_2 x18_2).f0),.int .i64 0]) ?_ 1 _ rfl;(with_reducible repeat (first|refine zJ ?_ _|refine zK ?_|refine zL ?_ _));refine blk_put (cs := #[.int .i64 0,.int .i64 0]) ?_ 0 _ rfl;(with_reducible repeat (first|refine zJ ?_ _|refine zK ?_|refine zL ?_ _));exact BK144.out⟩
          have n2_:Aside0 (Below w.heap.size w ((w42.setCell ⟨gb144,0,none⟩ (.int .i64 ((rd_T48 l0_2 x18_2).f0))).setCell ⟨gb144,1,none⟩ (.int .i64 ((rd_T48 l0_2 x18_2).f1)))):=⟨by repeat (first|(with_reducible first|exact HB.out|apply zD|apply zE|apply zF|refine below_set ?_ GE140.out|refine below_set ?_ GE144.out)|exact HB.out)⟩
          (try clear BK140)
          (try clear BK144)
          (try clear HB)
          generalize ((w42.setCell ⟨gb144,0,none⟩ (.int .i64 ((rd_T48 l0_2 x18_2).f0))).setCell ⟨gb144,1,none⟩ (.int .i64 ((rd_T48 l0_2 x18_2).f1))) = w45 at n0_ n1_ n2_ ⊢
          have BK140:=n0_;have BK144:=n1_;have HB:=n2_;clear n0_ n1_ n2_;have n0_:=zM (zK BK140.out);have n1_:=zM (zK BK144.out);have n2_:=zM (zF HB.out);clear BK140;clear BK144;clear HB;have BK140:=n0_;have BK144:=n1_;have HB:=n2_;clear n0_ n1_ n2_;refine start_ (n:=19) (S:=fun w'=>w'.cell? ⟨gb140,0,none⟩ = some (.int .i64 a0_0) ∧ w'.cell? ⟨gb140,1,none⟩ = some (.int .i64 a0_1) ∧ w'.cell? ⟨gb140,2,none⟩ = some (.slice (some ad143) l0_2.length c0_2) ∧ w'.cell? ⟨gb144,0,none⟩ = some (.int .i64 ((rd_T48 l0_2 x18_2).f0)) ∧ w'.cell? ⟨gb144,1,none⟩ = some (.int .i64 ((rd_T48 l0_2 x18_2).f1))) (ds:=[]) #[false,false,false,false,false,false,false,false,false,false,false,false,false,false,false,false,false,false,false] (by kernel_rfl) rfl rfl ⟨(blk_cell BK140.out 0).trans rfl,(blk_cell BK140.out 1).trans rfl,(blk_cell BK140.out 2).trans rfl,(blk_cell BK144.out 0).trans rfl,(blk_cell BK144.out 1).trans rfl⟩ (fun hHeld=>?_);refine with_tabW impl_IsValidFloor.tab6 impl_IsValidFloor.bits6 (fun HT_ HW_=>?_)
          generalize w45.drew = w46 at BK140 BK144 HB hHeld ⊢
          refine take_ (i:=0) (N:=some 23) (v:=?_) (a':=?_) #[true,false,false,false,false,false,false,false,false,false,false,false,false,false,false,false,false,false,false] rfl rfl (take_ofW HT_.out HW_.out (by kernel_rfl)) (fun _ _ _ h=>h) (Or.inl ⟨by rfl,?_⟩) hHeld ?_ ?_
          rotate_left
          ·rintro w' ⟨s0,s1,s2,s3,s4⟩
           go_simp
           with_reducible rfl
          rotate_left
          ·simp only [Act.put,zT,zU,zV,i64_w,i32_w]
           rfl
          refine take_ (i:=1) (N:=some 24) (v:=?_) (a':=?_) #[true,true,false,false,false,false,false,false,false,false,false,false,false,false,false,false,false,false,false] rfl rfl (take_ofW HT_.out HW_.out (by kernel_rfl)) (fun _ _ _ h=>h) (Or.inl ⟨by rfl,?_⟩) hHeld ?_ ?_
          rotate_left
          ·rintro w' ⟨s0,s1,s2,s3,s4⟩
           go_simp
           with_reducible rfl
          rotate_left
          ·simp only [Act.put,zT,zU,zV,i64_w,i32_w]
           rfl
          refine one_ (i:=2) (N:=some 25) #[true,true,true,false,false,false,false,false,false,false,false,false,false,false,false,false,false,false,false] rfl rfl (one_of HT_.out (by kernel_rfl)) (by decide) (fun K hK=>?_)
          refine goes_ Try.func55 (by kernel_rfl) rfl #[.agg #[.int .i64 a0_0,.int .i64 a0_1,.slice (some ad143) l0_2.length c0_2],.agg #[.int .i64 ((rd_T48 l0_2 x18_2).f0),.int .i64 ((rd_T48 l0_2 x18_2).f1)]] (by rfl) rfl rfl (by (try simp only [List.map_toArray,List.map_cons,List.map_nil]);first|done|rfl|(simp only [List.length_drop,List.length_take];rfl)) ?_
          with_reducible refine (impl_onFloor.calls a0_0 a0_1 _ _ l0_2 ((rd_T48 l0_2 x18_2).f0) ((rd_T48 l0_2 x18_2).f1) false _ ?side1 ?side2 A14.out).mono ?_
          (case side1=>repeat (first|exact (zO HR0_2.out HB.out)|(with_reducible first|refine zG ?_ _|refine zH ?_ _|refine zI ?_)))
          (case side2=>exact HC0_2.out)
          rintro e w47 ⟨rfl,hb⟩
          refine ⟨_,rfl,?_⟩
          have n0_:=zM (blk_below (g:=gb140) (o := .cells #[.int .i64 a0_0,.int .i64 a0_1,.slice (some ad143) l0_2.length c0_2] 29 (0,0)) (by (with_reducible repeat (first|refine zJ ?_ _|refine zK ?_|refine zL ?_ _));exact BK140.out) hb)
          have n1_:=zM (blk_below (g:=gb144) (o := .cells #[.int .i64 ((rd_T48 l0_2 x18_2).f0),.int .i64 ((rd_T48 l0_2 x18_2).f1)] 48 (0,0)) (by (with_reducible repeat (first|refine zJ ?_ _|refine zK ?_|refine zL ?_ _));exact BK144.out) hb)
          have n2_:=zM (zQ (by repeat (first|(with_reducible first|exact HB.out|apply zD|apply zE|apply zF|refine below_set ?_ GE140.out|refine below_set ?_ GE144.out)|exact HB.out)) hb)
          clear BK140;clear BK144;clear HB;have BK140:=n0_;have BK144:=n1_;have HB:=n2_;clear n0_ n1_ n2_;(try clear hb)
          (try clear hb2)
          (try clear hk)
          (try clear hi)
          refine hK.out _ _ ⟨(blk_cell BK140.out 0).trans rfl,(blk_cell BK140.out 1).trans rfl,(blk_cell BK140.out 2).trans rfl,(blk_cell BK144.out 0).trans rfl,(blk_cell BK144.out 1).trans rfl⟩ (fun hHeld=>?_)
          clear hK K;refine norm_ (a':=?_) ?_ ?_
          rotate_left
          ·show Act.put _ (some 25) _ = _
           simp only [Act.put,zT,zU,zV,i64_w,i32_w]
           rfl
          refine pure_ (i:=3) (N:=some 26) (v:=?_) (a':=?_) #[true,true,true,true,false,false,false,false,false,false,false,false,false,false,false,false,false,false,false] rfl rfl (any_of HT_.out (by kernel_rfl)) (fun _ _ _ h=>h) (Or.inl ⟨by rfl,?_⟩) ?_ ?_
          rotate_left
          ·intro w'
           go_simp
           with_reducible rfl
          rotate_left
          ·simp only [Act.put,zT,zU,zV,i64_w,i32_w]
           rfl
          refine pure_ (i:=4) (N:=some 27) (v:=?_) (a':=?_) #[true,true,true,true,true,false,false,false,false,false,false,false,false,false,false,false,false,false,false] rfl rfl (any_of HT_.out (by kernel_rfl)) (fun _ _ _ h=>h) (Or.inl ⟨by rfl,?_⟩) ?_ ?_
          rotate_left
          ·intro w'
           go_simp
           with_reducible rfl
          rotate_left
          ·simp only [Act.put,zT,zU,zV,i64_w,i32_w]
           rfl
          refine pure_ (i:=5) (N:=some 28) (v:=undef) (a':=?_) #[true,true,true,true,true,true,false,false,false,false,false,false,false,false,false,false,false,false,false] rfl rfl (any_of HT_.out (by kernel_rfl)) (fun _ _ _ h=>h) (Or.inr ⟨by rfl,rfl⟩) ?_ ?_
          rotate_left
          ·simp only [Act.put,zT,zU,zV,i64_w,i32_w]
           rfl
          refine pure_ (i:=6) (N:=some 29) (v:=undef) (a':=?_) #[true,true,true,true,true,true,true,false,false,false,false,false,false,false,false,false,false,false,false] rfl rfl (any_of HT_.out (by kernel_rfl)) (fun _ _ _ h=>h) (Or.inr ⟨by rfl,rfl⟩) ?_ ?_
          rotate_left
          ·simp only [Act.put,zT,zU,zV,i64_w,i32_w]
           rfl
          refine pure_ (i:=7) (N:=some 30) (v:=undef) (a':=?_) #[true,true,true,true,true,true,true,true,false,false,false,false,false,false,false,false,false,false,false] rfl rfl (any_of HT_.out (by kernel_rfl)) (fun _ _ _ h=>h) (Or.inr ⟨by rfl,rfl⟩) ?_ ?_
          rotate_left
          ·simp only [Act.put,zT,zU,zV,i64_w,i32_w]
           rfl
          refine pure_ (i:=8) (N:=some 31) (v:=undef) (a':=?_) #[true,true,true,true,true,true,true,true,true,false,false,false,false,false,false,false,false,false,false] rfl rfl (any_of HT_.out (by kernel_rfl)) (fun _ _ _ h=>h) (Or.inr ⟨by rfl,rfl⟩) ?_ ?_
          rotate_left
          ·simp only [Act.put,zT,zU,zV,i64_w,i32_w]
           rfl
          refine pure_ (i:=9) (N:=some 32) (v:=undef) (a':=?_) #[true,true,true,true,true,true,true,true,true,true,false,false,false,false,false,false,false,false,false] rfl rfl (any_of HT_.out (by kernel_rfl)) (fun _ _ _ h=>h) (Or.inr ⟨by rfl,rfl⟩) ?_ ?_
          rotate_left
          ·simp only [Act.put,zT,zU,zV,i64_w,i32_w]
           rfl
          refine pure_ (i:=10) (N:=some 33) (v:=undef) (a':=?_) #[true,true,true,true,true,true,true,true,true,true,true,false,false,false,false,false,false,false,false] rfl rfl (any_of HT_.out (by kernel_rfl)) (fun _ _ _ h=>h) (Or.inr ⟨by rfl,rfl⟩) ?_ ?_
          rotate_left
          ·simp only [Act.put,zT,zU,zV,i64_w,i32_w]
           rfl
          refine pure_ (i:=11) (N:=some 34) (v:=undef) (a':=?_) #[true,true,true,true,true,true,true,true,true,true,true,true,false,false,false,false,false,false,false] rfl rfl (any_of HT_.out (by kernel_rfl)) (fun _ _ _ h=>h) (Or.inr ⟨by rfl,rfl⟩) ?_ ?_
          rotate_left
          ·simp only [Act.put,zT,zU,zV,i64_w,i32_w]
           rfl
          refine pure_ (i:=12) (N:=some 35) (v:=undef) (a':=?_) #[true,true,true,true,true,true,true,true,true,true,true,true,true,false,false,false,false,false,false] rfl rfl (any_of HT_.out (by kernel_rfl)) (fun _ _ _ h=>h) (Or.inr ⟨by rfl,rfl⟩) ?_ ?_
          rotate_left
          ·simp only [Act.put,zT,zU,zV,i64_w,i32_w]
           rfl
          refine pure_ (i:=13) (N:=some 36) (v:=undef) (a':=?_) #[true,true,true,true,true,true,true,true,true,true,true,true,true,true,false,false,false,false,false] rfl rfl (any_of HT_.out (by kernel_rfl)) (fun _ _ _ h=>h) (Or.inr ⟨by rfl,rfl⟩) ?_ ?_
          rotate_left
          ·simp only [Act.put,zT,zU,zV,i64_w,i32_w]
           rfl
          refine pure_ (i:=14) (N:=some 37) (v:=undef) (a':=?_) #[true,true,true,true,true,true,true,true,true,true,true,true,true,true,true,false,false,false,false] rfl rfl (any_of HT_.out (by kernel_rfl)) (fun _ _ _ h=>h) (Or.inr ⟨by rfl,rfl⟩) ?_ ?_
          rotate_left
          ·simp only [Act.put,zT,zU,zV,i64_w,i32_w]
           rfl
          refine pure_ (i:=15) (N:=some 38) (v:=undef) (a':=?_) #[true,true,true,true,true,true,true,true,true,true,true,true,true,true,true,true,false,false,false] rfl rfl (any_of HT_.out (by kernel_rfl)) (fun _ _ _ h=>h) (Or.inr ⟨by rfl,rfl⟩) ?_ ?_
          rotate_left
          ·simp only [Act.put,zT,zU,zV,i64_w,i32_w]
           rfl
          refine pure_ (i:=16) (N:=some 39) (v:=undef) (a':=?_) #[true,true,true,true,true,true,true,true,true,true,true,true,true,true,true,true,true,false,false] rfl rfl (any_of HT_.out (by kernel_rfl)) (fun _ _ _ h=>h) (Or.inr ⟨by rfl,rfl⟩) ?_ ?_
          rotate_left
          ·simp only [Act.put,zT,zU,zV,i64_w,i32_w]
           rfl
          refine pure_ (i:=17) (N:=some 40) (v:=undef) (a':=?_) #[true,true,true,true,true,true,true,true,true,true,true,true,true,true,true,true,true,true,false] rfl rfl (any_of HT_.out (by kernel_rfl)) (fun _ _ _ h=>h) (Or.inr ⟨by rfl,rfl⟩) ?_ ?_
          rotate_left
          ·simp only [Act.put,zT,zU,zV,i64_w,i32_w]
           rfl
          refine pure_ (i:=18) (N:=some 41) (v:=?_) (a':=?_) #[true,true,true,true,true,true,true,true,true,true,true,true,true,true,true,true,true,true,true] rfl rfl (any_of HT_.out (by kernel_rfl)) (fun _ _ _ h=>h) (Or.inl ⟨by rfl,?_⟩) ?_ ?_
          rotate_left
          ·intro w'
           go_simp
           with_reducible rfl
          rotate_left
          ·simp only [Act.put,zT,zU,zV,i64_w,i32_w]
           rfl
          refine done_ (done_of HT_.out (by kernel_rfl)) ?_
          try go_wp2
          go_ret
          exact ⟨by first|rfl|(simp [errW_none,errW_some] <;> rfl)|(simp [*,errW_none,errW_some] <;> rfl),by repeat (first|(with_reducible first|exact HB.out|apply zD|apply zE|apply zF|refine below_set ?_ GE140.out|refine below_set ?_ GE144.out)|exact HB.out)⟩
        ·rw [if_neg c13] at H
         exact absurd H (by simp)
       ·rw [if_neg c12] at H
        exact absurd H (by simp)
      ·rw [if_neg c11] at H
       have c11b0:decide (x18_2 < (l0_2.length:Int)) = false:=decide_eq_false c11
       clear c11;obtain rfl:=Option.some.inj H;go_wp2
       go_ret
       exact ⟨by first|rfl|(simp [errW_none,errW_some] <;> rfl)|(simp [*,errW_none,errW_some] <;> rfl),by repeat (first|(with_reducible first|exact HB.out|apply zD|apply zE|apply zF|refine below_set ?_ GE140.out)|exact HB.out)⟩



/-! ### spec_IsValidFloor: function 14 -/
def spec_IsValidFloor.f (k:Nat) (a0_0:Int) (a0_1:Int) (l0_2:List (S48)):Option (Bool):=(spec_l16Good.f k a0_0 a0_1 l0_2).bind fun t117=>(some t117)
end Go.Proofs.Ytbpccdbkaiigcaa.G

namespace Go.Proofs.Ytbpccdbkaiigcaa.G
open Go.RowKit Go.Proofs.YtbpccdbkaiigcaaW.PrintWords Go.Proofs.YtbpccdbkaiigcaaW.PrintLast
set_option linter.unusedVariables false
set_option linter.unusedSimpArgs false
def In (w h : Int) (c : S48) : Prop:=(0 ≤ c.f0 ∧ c.f0 ≤ w - 1) ∧ (0 ≤ c.f1 ∧ c.f1 ≤ h - 1)
def Bef (a b : S48) : Prop:=a.f1 < b.f1 ∨ a.f1 = b.f1 ∧ a.f0 < b.f0
def okB (w h : Int) (bl : List S48) (i : Int) : Prop:=In w h (rd_T48 bl i) ∧ (0 < i → Bef (rd_T48 bl (i - 1)) (rd_T48 bl i))
def FloorOk (w h : Int) (bl : List S48) : Prop:=(1 ≤ w ∧ w ≤ 6) ∧ (1 ≤ h ∧ h ≤ 6) ∧ All (okB w h bl) 0 (bl.length : Int)
theorem impl_on (w h : Int) (bl : List S48) (c : S48) (hw : 1 ≤ w ∧ w ≤ 6) (hh : 1 ≤ h ∧ h ≤ 6) : impl_onFloor.f w h bl c.f0 c.f1 = some (chk (In w h c) true false):=by
 unfold impl_onFloor.f
 simp (disch:=omega) only [impl_within_eq,Option.bind_some,wrap64_id,decide_eq_true_eq]
 split
 ·rename_i h1
  congr 1
  by_cases h2 : 0 ≤ c.f1 ∧ c.f1 ≤ h - 1
  ·rw [chk_pos ⟨h1,h2⟩];exact decide_eq_true h2
  ·rw [chk_neg (fun m : In w h c=>h2 m.2)];exact decide_eq_false h2
 ·rename_i h1
  rw [chk_neg (fun m : In w h c=>h1 m.1)]
theorem spec_in (w h : Int) (bl : List S48) (c : S48) (hw : 1 ≤ w ∧ w ≤ 6) (hh : 1 ≤ h ∧ h ≤ 6) : spec_l16Inside.f w h bl c.f0 c.f1 = some (chk (In w h c) true false):=by
 unfold spec_l16Inside.f
 simp (disch:=omega) only [spec_l1In_eq,Option.bind_some,wrap64_id,decide_eq_true_eq]
 split
 ·rename_i h1
  congr 1
  by_cases h2 : 0 ≤ c.f1 ∧ c.f1 ≤ h - 1
  ·rw [chk_pos ⟨h1,h2⟩];exact decide_eq_true h2
  ·rw [chk_neg (fun m : In w h c=>h2 m.2)];exact decide_eq_false h2
 ·rename_i h1
  rw [chk_neg (fun m : In w h c=>h1 m.1)]
theorem impl_bef (a b : S48) : impl_before.f a.f0 a.f1 b.f0 b.f1 = some (chk (Bef a b) true false):=by
 unfold impl_before.f
 split
 ·rename_i h;rw [chk_pos (show Bef a b from .inl h)]
 ·rename_i h
  split
  ·rename_i h2
   congr 1
   by_cases h3 : a.f0 < b.f0
   ·rw [chk_pos (show Bef a b from .inr ⟨h2,h3⟩)];exact decide_eq_true h3
   ·rw [chk_neg (fun m : Bef a b=>m.elim h (fun x=>h3 x.2))];exact decide_eq_false h3
  ·rename_i h2
   rw [chk_neg (fun m : Bef a b=>m.elim h (fun x=>h2 x.1))]
theorem impl_floor (w h : Int) (bl : List S48) (hb : (bl.length : Int) ≤ 1099511627776) : Ev (fun k=>impl_IsValidFloor.f k w h bl) (chk (FloorOk w h bl) true false):=by
 have no : ¬ FloorOk w h bl → Ev (fun k=>impl_IsValidFloor.j0 k true w h bl) (chk (FloorOk w h bl) true false):=by
  intro n
  rw [chk_neg n]
  refine Ev.step (fun k=>by rw [impl_IsValidFloor.j0]) ?_
  simp only [if_true];exact Ev.now _
 unfold impl_IsValidFloor.f
 simp only [impl_within_eq,Option.bind_some,decide_eq_true_eq]
 refine Ev.ite (fun h1=>?_) (fun h1=>no (fun m=>h1 m.1))
 by_cases h2 : 1 ≤ h ∧ h ≤ 6
 ·rw [decide_eq_true h2]
  refine Ev.step (fun k=>by rw [impl_IsValidFloor.j0]) ?_
  simp only [Bool.not_true,Bool.false_eq_true,if_false]
  rw [chk_congr (show FloorOk w h bl ↔ All (okB w h bl) 0 (bl.length : Int) from ⟨fun m=>m.2.2,fun m=>⟨h1,h2,m⟩⟩)]
  refine Ev.check (fun k i=>impl_IsValidFloor.l0 k bl (bl.length : Int) i w h bl) (bl.length : Int) (okB w h bl) true false 0 ?_ ?_ 0 (by omega) (by omega)
  ·refine Ev.step (fun k=>by rw [impl_IsValidFloor.l0]) ?_
   simp only [Int.lt_irrefl,if_false]
   exact Ev.now _
  ·intro i h0 hlt r hr
   refine Ev.step (fun k=>by rw [impl_IsValidFloor.l0]) ?_
   simp (disch:=omega) only [if_pos,wrap64_id,impl_on w h bl _ h1 h2,impl_bef,Option.bind_some]
   refine Ev.ite (fun g1=>?_) (fun g1=>?_)
   ·have g1:=chk_true.1 g1
    refine Ev.ite (fun g2=>?_) (fun g2=>?_)
    ·try simp (disch:=omega) only [if_pos]
     refine Ev.ite (fun g3=>?_) (fun g3=>?_)
     ·rw [chk_pos ⟨g1,fun _=>chk_true.1 g3⟩];exact hr
     ·rw [chk_neg (fun m : okB w h bl i=>g3 (chk_true.2 (m.2 g2)))];exact Ev.now _
    ·rw [chk_pos ⟨g1,fun x=>absurd x g2⟩];exact hr
   ·rw [chk_neg (fun m : okB w h bl i=>g1 (chk_true.2 m.1))];exact Ev.now _
 ·rw [decide_eq_false h2]
  exact no (fun m=>h2 m.2.1)
/-- The reference's order of two cells. -/
def okS (w h : Int) (bl : List S48) (i : Int) : Prop:=In w h (rd_T48 bl i) ∧ (0 < i → wrap64 (wrap64 ((rd_T48 bl (i - 1)).f1 * 10) + (rd_T48 bl (i - 1)).f0) < wrap64 (wrap64 ((rd_T48 bl i).f1 * 10) + (rd_T48 bl i).f0))
theorem okS_iff (w h : Int) (bl : List S48) (h1 : 1 ≤ w ∧ w ≤ 6) (h2 : 1 ≤ h ∧ h ≤ 6) : All (okS w h bl) 0 (bl.length : Int) ↔ All (okB w h bl) 0 (bl.length : Int):=by
 have key : ∀ a b : S48,In w h a → In w h b → (wrap64 (wrap64 (a.f1 * 10) + a.f0) < wrap64 (wrap64 (b.f1 * 10) + b.f0) ↔ Bef a b):=by
  intro a b ha hb
  unfold In at ha hb
  rw [wrap64_id (x:=a.f1 * 10) (by omega) (by omega),wrap64_id (x:=b.f1 * 10) (by omega) (by omega),wrap64_id (by omega) (by omega),wrap64_id (by omega) (by omega)]
  unfold Bef
  omega
 constructor
 ·intro a i i0 i1
  refine ⟨(a i i0 i1).1,fun hp=>?_⟩
  exact (key _ _ (a (i - 1) (by omega) (by omega)).1 (a i i0 i1).1).1 ((a i i0 i1).2 hp)
 ·intro a i i0 i1
  refine ⟨(a i i0 i1).1,fun hp=>?_⟩
  exact (key _ _ (a (i - 1) (by omega) (by omega)).1 (a i i0 i1).1).2 ((a i i0 i1).2 hp)
theorem spec_floor (w h : Int) (bl : List S48) (hb : (bl.length : Int) ≤ 1099511627776) : Ev (fun k=>spec_l16Good.f k w h bl) (chk (FloorOk w h bl) true false):=by
 have no : ¬ FloorOk w h bl → Ev (fun k=>spec_l16Good.j0 k true w h bl) (chk (FloorOk w h bl) true false):=by
  intro n
  rw [chk_neg n]
  refine Ev.step (fun k=>by rw [spec_l16Good.j0]) ?_
  simp only [if_true];exact Ev.now _
 unfold spec_l16Good.f
 simp only [spec_l1In_eq,Option.bind_some,decide_eq_true_eq]
 refine Ev.ite (fun h1=>?_) (fun h1=>no (fun m=>h1 m.1))
 by_cases h2 : 1 ≤ h ∧ h ≤ 6
 ·rw [decide_eq_true h2]
  refine Ev.step (fun k=>by rw [spec_l16Good.j0]) ?_
  simp only [Bool.not_true,Bool.false_eq_true,if_false]
  rw [chk_congr (show FloorOk w h bl ↔ All (okS w h bl) 0 (bl.length : Int) from ⟨fun m=>(okS_iff w h bl h1 h2).2 m.2.2,fun m=>⟨h1,h2,(okS_iff w h bl h1 h2).1 m⟩⟩)]
  refine Ev.check (fun k i=>spec_l16Good.l0 k i w h bl) (bl.length : Int) (okS w h bl) true false 0 ?_ ?_ 0 (by omega) (by omega)
  ·refine Ev.step (fun k=>by rw [spec_l16Good.l0]) ?_
   simp only [Int.lt_irrefl,if_false]
   exact Ev.now _
  ·intro i h0 hlt r hr
   have e1 : wrap64 (i - 1) = i - 1:=wrap64_id (by omega) (by omega)
   have e2 : wrap64 (i + 1) = i + 1:=wrap64_id (by omega) (by omega)
   refine Ev.step (fun k=>by rw [spec_l16Good.l0]) ?_
   simp (disch:=omega) only [if_pos,e1,e2,spec_in w h bl _ h1 h2,Option.bind_some]
   refine Ev.ite (fun g1=>?_) (fun g1=>?_)
   ·have g1:=chk_true.1 g1
    refine Ev.ite (fun g2=>?_) (fun g2=>?_)
    ·try simp (disch:=omega) only [if_pos]
     refine Ev.ite (fun g3=>?_) (fun g3=>?_)
     ·rw [chk_neg (fun m : okS w h bl i=>by have:=m.2 g2;omega)];exact Ev.now _
     ·rw [chk_pos ⟨g1,fun _=>by omega⟩];exact hr
    ·rw [chk_pos ⟨g1,fun x=>absurd x g2⟩];exact hr
   ·rw [chk_neg (fun m : okS w h bl i=>g1 (chk_true.2 m.1))];exact Ev.now _
 ·rw [decide_eq_false h2]
  exact no (fun m=>h2 m.2.1)
end Go.Proofs.Ytbpccdbkaiigcaa.G

-- Written by wip/tools/gen.py out of the translation (the kit's printer, one namespace a seat). Lean checks it.
namespace Go.Proofs.Ytbpccdbkaiigcaa.G
open Go.RowKit Go.Proofs.YtbpccdbkaiigcaaW.PrintWords Go.Proofs.YtbpccdbkaiigcaaW.PrintLast Go.Proofs.YtbpccdbkaiigcaaW.PrintMore
attribute [local go_sem] max2_int min2_int max_two min_two max_three min_three max_four min_four   -- for this text's walks alone
set_option linter.unusedVariables false
set_option linter.unusedSimpArgs false

attribute [local go_sem high] eqA48
/-! ### impl_Cell_97: function 97 -/
def impl_Cell_97.l0:Nat → List (S48) → Int → Int → Int → Int → Option (Int)
 | 0,_,_,_,_,_=>none
 | k + 1,x0,x7,x8,x199000,x199001=>if x8 < x7 then (if 0 ≤ x8 then (if x8 < (x0.length:Int) then (if (x199000 == ((rd_T48 x0 x8).f0) && (x199001 == ((rd_T48 x0 x8).f1))) = true then (some x8) else (impl_Cell_97.l0 k x0 x7 (wrap64 (x8 + 1)) x199000 x199001)) else (none)) else (none)) else (some (-1))
def impl_Cell_97.f (k:Nat) (l0:List (S48)) (a1_0:Int) (a1_1:Int):Option (Int):=impl_Cell_97.l0 k l0 (l0.length:Int) 0 a1_0 a1_1
set_option maxHeartbeats 8000000 in
set_option maxRecDepth 100000 in
theorem impl_Cell_97.calls (k:Nat) (A0:Option Addr) (c0:Nat) (l0:List (S48)) (a1_0:Int) (a1_1:Int) (r:Int) (w:World) (hr0:Kd.C k48 w A0 l0.length l0) (hc0:l0.length ≤ c0) (h:impl_Cell_97.f k l0 a1_0 a1_1 = some r) :
  Calls Try.prog 97 #[.slice A0 l0.length c0,.agg #[.int .i64 a1_0,.int .i64 a1_1]] w fun e w'=>e = .returned (.int .i64 r) ∧ Below w.heap.size w w':=by
 have hu48:=Try.underlying48;have HR0:=zM hr0;have HC0:=zM hc0;clear hr0 hc0;have HB:=zM (Below.refl w.heap.size w);have H:(impl_Cell_97.l0 k l0 (l0.length:Int) 0 a1_0 a1_1) = some r:=h
 clear h;have H':=zM H;clear H;go_enter Try.func97,Try.ntmps97
 go_wp2_with (first|((with_reducible refine gate_dst (N:=3) rfl ?_);refine box_event ?hg (N:=3) ?hd (cs := #[.int .i64 a1_0,.int .i64 a1_1]) (t:=48) ?hr ?_;(case hd=>rfl);(case hg=>rfl);(case hr=>first|(go_simp;done)|(go_simp;rfl));intro gb198 hg w3 hbox hb;have n0_:=zM (zQ (by repeat (first|(with_reducible first|exact HB.out|apply zD|apply zE|apply zF)|exact HB.out)) hb);have n1_:=zM (hbox);have n2_:=zM ((by rw [hg];exact (zR (by repeat (first|(with_reducible first|exact HB.out|apply zD|apply zE|apply zF)|exact HB.out))):w.heap.size ≤ gb198));have n3_:=zM ((by rw [hg];exact (zR (by repeat (first|(with_reducible first|exact HB.out|apply zD|apply zE|apply zF)|exact HB.out))):w.heap.size ≤ gb198));clear HB;have HB:=n0_;have BK198:=n1_;have GW198:=n2_;have GE198:=n3_;clear n0_ n1_ n2_ n3_;clear hb hbox hg))
 repeat (go_quiet (first|((with_reducible refine gate_dst (N:=3) rfl ?_);refine box_event ?hg (N:=3) ?hd (cs := #[.int .i64 a1_0,.int .i64 a1_1]) (t:=48) ?hr ?_;(case hd=>rfl);(case hg=>rfl);(case hr=>first|(go_simp;done)|(go_simp;rfl));intro gb198 hg w3 hbox hb;have n0_:=zM (zQ (by repeat (first|(with_reducible first|exact HB.out|apply zD|apply zE|apply zF)|exact HB.out)) hb);have n1_:=zM (hbox);have n2_:=zM ((by rw [hg];exact (zR (by repeat (first|(with_reducible first|exact HB.out|apply zD|apply zE|apply zF)|exact HB.out))):w.heap.size ≤ gb198));have n3_:=zM ((by rw [hg];exact (zR (by repeat (first|(with_reducible first|exact HB.out|apply zD|apply zE|apply zF)|exact HB.out))):w.heap.size ≤ gb198));clear HB;have HB:=n0_;have BK198:=n1_;have GW198:=n2_;have GE198:=n3_;clear n0_ n1_ n2_ n3_;clear hb hbox hg));try go_wp2_with (first|((with_reducible refine gate_dst (N:=3) rfl ?_);refine box_event ?hg (N:=3) ?hd (cs := #[.int .i64 a1_0,.int .i64 a1_1]) (t:=48) ?hr ?_;(case hd=>rfl);(case hg=>rfl);(case hr=>first|(go_simp;done)|(go_simp;rfl));intro gb198 hg w3 hbox hb;have n0_:=zM (zQ (by repeat (first|(with_reducible first|exact HB.out|apply zD|apply zE|apply zF)|exact HB.out)) hb);have n1_:=zM (hbox);have n2_:=zM ((by rw [hg];exact (zR (by repeat (first|(with_reducible first|exact HB.out|apply zD|apply zE|apply zF)|exact HB.out))):w.heap.size ≤ gb198));have n3_:=zM ((by rw [hg];exact (zR (by repeat (first|(with_reducible first|exact HB.out|apply zD|apply zE|apply zF)|exact HB.out))):w.heap.size ≤ gb198));clear HB;have HB:=n0_;have BK198:=n1_;have GW198:=n2_;have GE198:=n3_;clear n0_ n1_ n2_ n3_;clear hb hbox hg)))
 go_loopg [8] k (fun kq v8 w' => ∃ (x8_1:Int),v8 = .int .i64 x8_1 ∧ Aside0 (impl_Cell_97.l0 kq l0 (l0.length:Int) x8_1 a1_0 a1_1 = some r) ∧ Aside0 (kq ≤ k) ∧ Aside0 (w'.heap[gb198]? = some (.cells #[.int .i64 a1_0,.int .i64 a1_1] 48 (0,0))) ∧ Aside0 (Below w.heap.size w w'))
 case atStart=>exact ⟨(0),(by first|rfl|(simp;done)|(simp [*];done)),H',⟨Nat.le_refl _⟩,⟨by (with_reducible repeat (first|refine zJ ?_ _|refine zK ?_|refine zL ?_ _));exact BK198.out⟩,⟨by repeat (first|(with_reducible first|exact HB.out|apply zD|apply zE|apply zF|refine below_set ?_ GE198.out)|exact HB.out)⟩⟩
 case round =>
  clear H';(try clear p2);obtain ⟨x8_1,rfl,HA,HK1,BK198,HB⟩:=hrel;cases gk with
  | zero=>exact absurd HA.out (by simp [impl_Cell_97.l0])
  | succ k1 =>
   have H:=HA.out;clear HA;simp only [impl_Cell_97.l0] at H
   by_cases c4:x8_1 < (l0.length:Int)
   ·rw [if_pos c4] at H
    have c4b0:decide (x8_1 < (l0.length:Int)) = true:=decide_eq_true c4
    clear c4;by_cases c5:0 ≤ x8_1
    ·rw [if_pos c5] at H
     have c5b0:decide (0 ≤ x8_1) = true:=decide_eq_true c5
     clear c5;by_cases c6:x8_1 < (l0.length:Int)
     ·rw [if_pos c6] at H
      have c6b0:decide (x8_1 < (l0.length:Int)) = true:=decide_eq_true c6
      clear c6;by_cases c7:(a1_0 == ((rd_T48 l0 x8_1).f0) && (a1_1 == ((rd_T48 l0 x8_1).f1))) = true
      ·rw [if_pos c7] at H
       have c7b0:(a1_0 == ((rd_T48 l0 x8_1).f0) && (a1_1 == ((rd_T48 l0 x8_1).f1))) = true:=c7
       (try (have c7b1:decide (a1_0 = ((rd_T48 l0 x8_1).f0) && (a1_1 == ((rd_T48 l0 x8_1).f1))) = true:=by simpa using c7))
       (try (have c7b2:(a1_0 == ((rd_T48 l0 x8_1).f0) && (a1_1 == ((rd_T48 l0 x8_1).f1))) = true:=by simpa using c7))
       clear c7;obtain rfl:=Option.some.inj H;have hcz8_0:wr.cell? ⟨gb198,0,none⟩ = some (.int .i64 a1_0):=(blk_cell BK198.out 0).trans rfl
       have hcz8_1:wr.cell? ⟨gb198,1,none⟩ = some (.int .i64 a1_1):=(blk_cell BK198.out 1).trans rfl
       have hfz8_0:=blk_frozen BK198.out 0;have hfz8_1:=blk_frozen BK198.out 1;have p199:0 ≤ (x8_1:Int):=of_decide_eq_true (by first|(with_reducible assumption)|assumption)
       have q199:x8_1 < (l0.length:Int):=of_decide_eq_true (by first|(with_reducible assumption)|assumption)
       obtain ⟨ad199,e199,hx199_0,hx199_1⟩:=at_T48 HR0.out x8_1 p199 q199;cases e199
       replace hx199_0:=zS HB.out hx199_0;replace hx199_1:=zS HB.out hx199_1;replace p199:=eq_true p199;replace q199:=eq_true q199;go_wp2
       repeat (go_quiet (fail);try go_wp2)
       go_ret
       exact ⟨by first|rfl|(simp [errW_none,errW_some] <;> rfl)|(simp [*,errW_none,errW_some] <;> rfl),by repeat (first|(with_reducible first|exact HB.out|apply zD|apply zE|apply zF|refine below_set ?_ GE198.out)|exact HB.out)⟩
      ·rw [if_neg c7] at H
       have c7b0:(a1_0 == ((rd_T48 l0 x8_1).f0) && (a1_1 == ((rd_T48 l0 x8_1).f1))) = false:=by simpa using c7
       (try (have c7b1:decide (a1_0 = ((rd_T48 l0 x8_1).f0) && (a1_1 == ((rd_T48 l0 x8_1).f1))) = false:=by simpa using c7))
       (try (have c7b2:(a1_0 == ((rd_T48 l0 x8_1).f0) && (a1_1 == ((rd_T48 l0 x8_1).f1))) = false:=by simpa using c7))
       (try (have c7b3:¬ (a1_0 = ((rd_T48 l0 x8_1).f0) && (a1_1 == ((rd_T48 l0 x8_1).f1))):=by simpa using c7))
       clear c7;have H':=zM H;clear H;have hcz9_0:wr.cell? ⟨gb198,0,none⟩ = some (.int .i64 a1_0):=(blk_cell BK198.out 0).trans rfl
       have hcz9_1:wr.cell? ⟨gb198,1,none⟩ = some (.int .i64 a1_1):=(blk_cell BK198.out 1).trans rfl
       have hfz9_0:=blk_frozen BK198.out 0;have hfz9_1:=blk_frozen BK198.out 1;have p199:0 ≤ (x8_1:Int):=of_decide_eq_true (by first|(with_reducible assumption)|assumption)
       have q199:x8_1 < (l0.length:Int):=of_decide_eq_true (by first|(with_reducible assumption)|assumption)
       obtain ⟨ad199,e199,hx199_0,hx199_1⟩:=at_T48 HR0.out x8_1 p199 q199;cases e199
       replace hx199_0:=zS HB.out hx199_0;replace hx199_1:=zS HB.out hx199_1;replace p199:=eq_true p199;replace q199:=eq_true q199;go_wp2
       repeat (go_quiet (fail);try go_wp2)
       go_roundg k1
       case measure=>have:=HK1.out;omega
       case rel=>exact ⟨(wrap64 (x8_1 + 1)),(by first|rfl|(simp;done)|(simp [*];done)),H',⟨by have:=HK1.out;omega⟩,⟨by (with_reducible repeat (first|refine zJ ?_ _|refine zK ?_|refine zL ?_ _));exact BK198.out⟩,⟨by repeat (first|(with_reducible first|exact HB.out|apply zD|apply zE|apply zF|refine below_set ?_ GE198.out)|exact HB.out)⟩⟩
     ·rw [if_neg c6] at H
      exact absurd H (by simp)
    ·rw [if_neg c5] at H
     exact absurd H (by simp)
   ·rw [if_neg c4] at H
    have c4b0:decide (x8_1 < (l0.length:Int)) = false:=decide_eq_false c4
    clear c4;obtain rfl:=Option.some.inj H;go_wp2
    repeat (go_quiet (fail);try go_wp2)
    go_ret
    exact ⟨by first|rfl|(simp [errW_none,errW_some] <;> rfl)|(simp [*,errW_none,errW_some] <;> rfl),by repeat (first|(with_reducible first|exact HB.out|apply zD|apply zE|apply zF|refine below_set ?_ GE198.out)|exact HB.out)⟩



/-! ### impl_Cell_84: function 84 -/
def impl_Cell_84.f (k:Nat) (l0:List (S48)) (a1_0:Int) (a1_1:Int):Option (Bool):=(impl_Cell_97.f k l0 a1_0 a1_1).bind fun t201=>(some (decide (t201 ≥ 0)))
set_option maxHeartbeats 8000000 in
set_option maxRecDepth 100000 in
theorem impl_Cell_84.calls (k:Nat) (A0:Option Addr) (c0:Nat) (l0:List (S48)) (a1_0:Int) (a1_1:Int) (r:Bool) (w:World) (hr0:Kd.C k48 w A0 l0.length l0) (hc0:l0.length ≤ c0) (h:impl_Cell_84.f k l0 a1_0 a1_1 = some r) :
  Calls Try.prog 84 #[.slice A0 l0.length c0,.agg #[.int .i64 a1_0,.int .i64 a1_1]] w fun e w'=>e = .returned (.bool r) ∧ Below w.heap.size w w':=by
 have hu48:=Try.underlying48;have HR0:=zM hr0;have HC0:=zM hc0;clear hr0 hc0;have HB:=zM (Below.refl w.heap.size w);have H:((impl_Cell_97.f k l0 a1_0 a1_1).bind fun t201=>(some (decide (t201 ≥ 0)))) = some r:=h
 clear h;replace H:=Option.bind_eq_some_iff.mp H;obtain ⟨t201,A30,H⟩:=H;replace H:(some (decide (t201 ≥ 0))) = some r:=H
 have A3:=zM A30;clear A30;obtain rfl:=Option.some.inj H;go_enter Try.func84,Try.ntmps84
 go_wp2_with (first|((with_reducible refine gate_dst (N:=3) rfl ?_);refine box_event ?hg (N:=3) ?hd (cs := #[.int .i64 a1_0,.int .i64 a1_1]) (t:=48) ?hr ?_;(case hd=>rfl);(case hg=>rfl);(case hr=>first|(go_simp;done)|(go_simp;rfl));intro gb200 hg w4 hbox hb;have n0_:=zM (zQ (by repeat (first|(with_reducible first|exact HB.out|apply zD|apply zE|apply zF)|exact HB.out)) hb);have n1_:=zM (hbox);have n2_:=zM ((by rw [hg];exact (zR (by repeat (first|(with_reducible first|exact HB.out|apply zD|apply zE|apply zF)|exact HB.out))):w.heap.size ≤ gb200));have n3_:=zM ((by rw [hg];exact (zR (by repeat (first|(with_reducible first|exact HB.out|apply zD|apply zE|apply zF)|exact HB.out))):w.heap.size ≤ gb200));clear HB;have HB:=n0_;have BK200:=n1_;have GW200:=n2_;have GE200:=n3_;clear n0_ n1_ n2_ n3_;clear hb hbox hg;have hcz5_0:w4.cell? ⟨gb200,0,none⟩ = some (.int .i64 a1_0):=(blk_cell BK200.out 0).trans rfl;have hcz5_1:w4.cell? ⟨gb200,1,none⟩ = some (.int .i64 a1_1):=(blk_cell BK200.out 1).trans rfl;have hfz5_0:=blk_frozen BK200.out 0;have hfz5_1:=blk_frozen BK200.out 1)|((with_reducible refine gate_callee (f:=97) rfl ?_);refine goesL_ (some 7) rfl rfl Try.func97 (by kernel_rfl) rfl #[.slice A0 l0.length c0,.agg #[.int .i64 a1_0,.int .i64 a1_1]] rfl (by (try simp only [List.map_toArray,List.map_cons,List.map_nil]);first|done|rfl|(simp only [List.length_drop,List.length_take];rfl)) ?_;(with_reducible refine (impl_Cell_97.calls k _ _ l0 a1_0 a1_1 t201 _ ?side1 ?side2 A3.out).mono ?_);(case side1=>repeat (first|exact (zO HR0.out HB.out)|(with_reducible first|refine zG ?_ _|refine zH ?_ _|refine zI ?_)));(case side2=>exact HC0.out);rintro e w6 ⟨rfl,hb⟩;refine ⟨_,rfl,?_⟩;have n0_:=zM (blk_below (g:=gb200) (o := .cells #[.int .i64 a1_0,.int .i64 a1_1] 48 (0,0)) (by (with_reducible repeat (first|refine zJ ?_ _|refine zK ?_|refine zL ?_ _));exact BK200.out) hb);have n1_:=zM (zQ (by repeat (first|(with_reducible first|exact HB.out|apply zD|apply zE|apply zF|refine below_set ?_ GE200.out)|exact HB.out)) hb);clear BK200;clear HB;have BK200:=n0_;have HB:=n1_;clear n0_ n1_;(try clear hb);(try clear hb2);(try clear hk);(try clear hi)))
 go_ret
 exact ⟨by first|rfl|(simp [errW_none,errW_some] <;> rfl)|(simp [*,errW_none,errW_some] <;> rfl),by repeat (first|(with_reducible first|exact HB.out|apply zD|apply zE|apply zF|refine below_set ?_ GE200.out)|exact HB.out)⟩



/-! ### impl_isFree: function 58 -/
def impl_isFree.f (k:Nat) (a0_0:Int) (a0_1:Int) (l0_2:List (S48)) (a1_0:Int) (a1_1:Int):Option (Bool):=(impl_onFloor.f a0_0 a0_1 l0_2 a1_0 a1_1).bind fun t204=>(if t204 = true then ((impl_Cell_84.f k l0_2 a1_0 a1_1).bind fun t205=>(some (!t205))) else (some false))
set_option maxHeartbeats 8000000 in
set_option maxRecDepth 100000 in
theorem impl_isFree.calls (k:Nat) (a0_0:Int) (a0_1:Int) (A0_2:Option Addr) (c0_2:Nat) (l0_2:List (S48)) (a1_0:Int) (a1_1:Int) (r:Bool) (w:World) (hr0_2:Kd.C k48 w A0_2 l0_2.length l0_2) (hc0_2:l0_2.length ≤ c0_2) (h:impl_isFree.f k a0_0 a0_1 l0_2 a1_0 a1_1 = some r) :
  Calls Try.prog 58 #[.agg #[.int .i64 a0_0,.int .i64 a0_1,.slice A0_2 l0_2.length c0_2],.agg #[.int .i64 a1_0,.int .i64 a1_1]] w fun e w'=>e = .returned (.bool r) ∧ Below w.heap.size w w':=by
 have hu29:=Try.underlying29;have hu48:=Try.underlying48;have HR0_2:=zM hr0_2;have HC0_2:=zM hc0_2;clear hr0_2 hc0_2;have HB:=zM (Below.refl w.heap.size w);have H:((impl_onFloor.f a0_0 a0_1 l0_2 a1_0 a1_1).bind fun t204=>(if t204 = true then ((impl_Cell_84.f k l0_2 a1_0 a1_1).bind fun t205=>(some (!t205))) else (some false))) = some r:=h
 clear h;replace H:=Option.bind_eq_some_iff.mp H;obtain ⟨t204,A30,H⟩:=H;replace H:(if t204 = true then ((impl_Cell_84.f k l0_2 a1_0 a1_1).bind fun t205=>(some (!t205))) else (some false)) = some r:=H
 have A3:=zM A30;clear A30;by_cases c4:t204 = true
 ·subst c4
  have H1:((impl_Cell_84.f k l0_2 a1_0 a1_1).bind fun t205=>(some (!t205))) = some r:=by rw [if_pos rfl] at H;exact H
  clear H;have H:=H1;clear H1;replace H:=Option.bind_eq_some_iff.mp H;obtain ⟨t205,A50,H⟩:=H;replace H:(some (!t205)) = some r:=H
  have A5:=zM A50;clear A50;obtain rfl:=Option.some.inj H;go_enter Try.func58,Try.ntmps58
  go_wp2_with (first|((with_reducible refine gate_dst (N:=2) rfl ?_);refine box_event ?hg (N:=2) ?hd (cs := #[.int .i64 a0_0,.int .i64 a0_1,.slice A0_2 l0_2.length c0_2]) (t:=29) ?hr ?_;(case hd=>rfl);(case hg=>rfl);(case hr=>first|(go_simp;done)|(go_simp;rfl));intro gb202 hg w6 hbox hb;have n0_:=zM (zQ (by repeat (first|(with_reducible first|exact HB.out|apply zD|apply zE|apply zF)|exact HB.out)) hb);have n1_:=zM (hbox);have n2_:=zM ((by rw [hg];exact (zR (by repeat (first|(with_reducible first|exact HB.out|apply zD|apply zE|apply zF)|exact HB.out))):w.heap.size ≤ gb202));have n3_:=zM ((by rw [hg];exact (zR (by repeat (first|(with_reducible first|exact HB.out|apply zD|apply zE|apply zF)|exact HB.out))):w.heap.size ≤ gb202));clear HB;have HB:=n0_;have BK202:=n1_;have GW202:=n2_;have GE202:=n3_;clear n0_ n1_ n2_ n3_;clear hb hbox hg)|((with_reducible refine gate_dst (N:=3) rfl ?_);refine box_event ?hg (N:=3) ?hd (cs := #[.int .i64 a1_0,.int .i64 a1_1]) (t:=48) ?hr ?_;(case hd=>rfl);(case hg=>rfl);(case hr=>first|(go_simp;done)|(go_simp;rfl));intro gb203 hg w7 hbox hb;have n0_:=zM (blk_below (g:=gb202) (o := .cells #[.int .i64 a0_0,.int .i64 a0_1,.slice A0_2 l0_2.length c0_2] 29 (0,0)) (by (with_reducible repeat (first|refine zJ ?_ _|refine zK ?_|refine zL ?_ _));exact BK202.out) hb);have n1_:=zM (zQ (by repeat (first|(with_reducible first|exact HB.out|apply zD|apply zE|apply zF|refine below_set ?_ GE202.out)|exact HB.out)) hb);have n2_:=zM (hbox);have n3_:=zM ((by rw [hg];exact (zR (by repeat (first|(with_reducible first|exact HB.out|apply zD|apply zE|apply zF|refine below_set ?_ GE202.out)|exact HB.out))):w.heap.size ≤ gb203));have n4_:=zM ((by rw [hg];exact (zR (by repeat (first|(with_reducible first|exact HB.out|apply zD|apply zE|apply zF|refine below_set ?_ GE202.out)|exact HB.out))):w.heap.size ≤ gb203));have n5_:=zM ((by rw [hg];exact Nat.ne_of_lt (blk_lt (g:=gb202) (o := .cells #[.int .i64 a0_0,.int .i64 a0_1,.slice A0_2 l0_2.length c0_2] 29 (0,0)) (by (with_reducible repeat (first|refine zJ ?_ _|refine zK ?_|refine zL ?_ _));exact BK202.out)):gb202 ≠ gb203));have n6_:=zM ((by rw [hg];exact Nat.ne_of_gt (blk_lt (g:=gb202) (o := .cells #[.int .i64 a0_0,.int .i64 a0_1,.slice A0_2 l0_2.length c0_2] 29 (0,0)) (by (with_reducible repeat (first|refine zJ ?_ _|refine zK ?_|refine zL ?_ _));exact BK202.out)):gb203 ≠ gb202));clear BK202;clear HB;have BK202:=n0_;have HB:=n1_;have BK203:=n2_;have GW203:=n3_;have GE203:=n4_;have NB202_203:=n5_;have NB203_202:=n6_;clear n0_ n1_ n2_ n3_ n4_ n5_ n6_;clear hb hbox hg;have hnb8:=NB202_203.out;have hnc8:=NB203_202.out;have hcz9_0:w7.cell? ⟨gb202,0,none⟩ = some (.int .i64 a0_0):=(blk_cell BK202.out 0).trans rfl;have hcz9_1:w7.cell? ⟨gb202,1,none⟩ = some (.int .i64 a0_1):=(blk_cell BK202.out 1).trans rfl;have hcz9_2:w7.cell? ⟨gb202,2,none⟩ = some (.slice A0_2 l0_2.length c0_2):=(blk_cell BK202.out 2).trans rfl;have hfz9_0:=blk_frozen BK202.out 0;have hfz9_1:=blk_frozen BK202.out 1;have hfz9_2:=blk_frozen BK202.out 2;have hcz10_0:w7.cell? ⟨gb203,0,none⟩ = some (.int .i64 a1_0):=(blk_cell BK203.out 0).trans rfl;have hcz10_1:w7.cell? ⟨gb203,1,none⟩ = some (.int .i64 a1_1):=(blk_cell BK203.out 1).trans rfl;have hfz10_0:=blk_frozen BK203.out 0;have hfz10_1:=blk_frozen BK203.out 1)|((with_reducible refine gate_callee (f:=55) rfl ?_);refine goesL_ (some 7) rfl rfl Try.func55 (by kernel_rfl) rfl #[.agg #[.int .i64 a0_0,.int .i64 a0_1,.slice A0_2 l0_2.length c0_2],.agg #[.int .i64 a1_0,.int .i64 a1_1]] rfl (by (try simp only [List.map_toArray,List.map_cons,List.map_nil]);first|done|rfl|(simp only [List.length_drop,List.length_take];rfl)) ?_;(with_reducible refine (impl_onFloor.calls a0_0 a0_1 _ _ l0_2 a1_0 a1_1 true _ ?side1 ?side2 A3.out).mono ?_);(case side1=>repeat (first|exact (zO HR0_2.out HB.out)|(with_reducible first|refine zG ?_ _|refine zH ?_ _|refine zI ?_)));(case side2=>exact HC0_2.out);rintro e w11 ⟨rfl,hb⟩;refine ⟨_,rfl,?_⟩;have n0_:=zM (blk_below (g:=gb202) (o := .cells #[.int .i64 a0_0,.int .i64 a0_1,.slice A0_2 l0_2.length c0_2] 29 (0,0)) (by (with_reducible repeat (first|refine zJ ?_ _|refine zK ?_|refine zL ?_ _));exact BK202.out) hb);have n1_:=zM (blk_below (g:=gb203) (o := .cells #[.int .i64 a1_0,.int .i64 a1_1] 48 (0,0)) (by (with_reducible repeat (first|refine zJ ?_ _|refine zK ?_|refine zL ?_ _));exact BK203.out) hb);have n2_:=zM (zQ (by repeat (first|(with_reducible first|exact HB.out|apply zD|apply zE|apply zF|refine below_set ?_ GE202.out|refine below_set ?_ GE203.out)|exact HB.out)) hb);clear BK202;clear BK203;clear HB;have BK202:=n0_;have BK203:=n1_;have HB:=n2_;clear n0_ n1_ n2_;(try clear hb);(try clear hb2);(try clear hk);(try clear hi);have hcz12_0:w11.cell? ⟨gb202,0,none⟩ = some (.int .i64 a0_0):=(blk_cell BK202.out 0).trans rfl;have hcz12_1:w11.cell? ⟨gb202,1,none⟩ = some (.int .i64 a0_1):=(blk_cell BK202.out 1).trans rfl;have hcz12_2:w11.cell? ⟨gb202,2,none⟩ = some (.slice A0_2 l0_2.length c0_2):=(blk_cell BK202.out 2).trans rfl;have hfz12_0:=blk_frozen BK202.out 0;have hfz12_1:=blk_frozen BK202.out 1;have hfz12_2:=blk_frozen BK202.out 2;have hcz13_0:w11.cell? ⟨gb203,0,none⟩ = some (.int .i64 a1_0):=(blk_cell BK203.out 0).trans rfl;have hcz13_1:w11.cell? ⟨gb203,1,none⟩ = some (.int .i64 a1_1):=(blk_cell BK203.out 1).trans rfl;have hfz13_0:=blk_frozen BK203.out 0;have hfz13_1:=blk_frozen BK203.out 1)|(go_at_call 84;(with_reducible refine (impl_Cell_84.calls k _ _ l0_2 a1_0 a1_1 t205 _ ?side1 ?side2 A5.out).mono ?_);(case side1=>repeat (first|exact (zO HR0_2.out HB.out)|(with_reducible first|refine zG ?_ _|refine zH ?_ _|refine zI ?_)));(case side2=>exact HC0_2.out);rintro e w14 ⟨rfl,hb⟩;have n0_:=zM (blk_below (g:=gb202) (o := .cells #[.int .i64 a0_0,.int .i64 a0_1,.slice A0_2 l0_2.length c0_2] 29 (0,0)) (by (with_reducible repeat (first|refine zJ ?_ _|refine zK ?_|refine zL ?_ _));exact BK202.out) hb);have n1_:=zM (blk_below (g:=gb203) (o := .cells #[.int .i64 a1_0,.int .i64 a1_1] 48 (0,0)) (by (with_reducible repeat (first|refine zJ ?_ _|refine zK ?_|refine zL ?_ _));exact BK203.out) hb);have n2_:=zM (zQ (by repeat (first|(with_reducible first|exact HB.out|apply zD|apply zE|apply zF|refine below_set ?_ GE202.out|refine below_set ?_ GE203.out)|exact HB.out)) hb);clear BK202;clear BK203;clear HB;have BK202:=n0_;have BK203:=n1_;have HB:=n2_;clear n0_ n1_ n2_;(try clear hb);(try clear hb2);(try clear hk);(try clear hi)))
  go_ret
  exact ⟨by first|rfl|(simp [errW_none,errW_some] <;> rfl)|(simp [*,errW_none,errW_some] <;> rfl),by repeat (first|(with_reducible first|exact HB.out|apply zD|apply zE|apply zF|refine below_set ?_ GE202.out|refine below_set ?_ GE203.out)|exact HB.out)⟩
 ·replace c4:=Bool.eq_false_iff.mpr c4
  subst c4;have H1:(some false) = some r:=by rw [if_neg (show ¬ (false = true) by decide)] at H;exact H
  clear H;have H:=H1;clear H1;obtain rfl:=Option.some.inj H;go_enter Try.func58,Try.ntmps58
  go_wp2_with (first|((with_reducible refine gate_dst (N:=2) rfl ?_);refine box_event ?hg (N:=2) ?hd (cs := #[.int .i64 a0_0,.int .i64 a0_1,.slice A0_2 l0_2.length c0_2]) (t:=29) ?hr ?_;(case hd=>rfl);(case hg=>rfl);(case hr=>first|(go_simp;done)|(go_simp;rfl));intro gb202 hg w15 hbox hb;have n0_:=zM (zQ (by repeat (first|(with_reducible first|exact HB.out|apply zD|apply zE|apply zF)|exact HB.out)) hb);have n1_:=zM (hbox);have n2_:=zM ((by rw [hg];exact (zR (by repeat (first|(with_reducible first|exact HB.out|apply zD|apply zE|apply zF)|exact HB.out))):w.heap.size ≤ gb202));have n3_:=zM ((by rw [hg];exact (zR (by repeat (first|(with_reducible first|exact HB.out|apply zD|apply zE|apply zF)|exact HB.out))):w.heap.size ≤ gb202));clear HB;have HB:=n0_;have BK202:=n1_;have GW202:=n2_;have GE202:=n3_;clear n0_ n1_ n2_ n3_;clear hb hbox hg)|((with_reducible refine gate_dst (N:=3) rfl ?_);refine box_event ?hg (N:=3) ?hd (cs := #[.int .i64 a1_0,.int .i64 a1_1]) (t:=48) ?hr ?_;(case hd=>rfl);(case hg=>rfl);(case hr=>first|(go_simp;done)|(go_simp;rfl));intro gb203 hg w16 hbox hb;have n0_:=zM (blk_below (g:=gb202) (o := .cells #[.int .i64 a0_0,.int .i64 a0_1,.slice A0_2 l0_2.length c0_2] 29 (0,0)) (by (with_reducible repeat (first|refine zJ ?_ _|refine zK ?_|refine zL ?_ _));exact BK202.out) hb);have n1_:=zM (zQ (by repeat (first|(with_reducible first|exact HB.out|apply zD|apply zE|apply zF|refine below_set ?_ GE202.out)|exact HB.out)) hb);have n2_:=zM (hbox);have n3_:=zM ((by rw [hg];exact (zR (by repeat (first|(with_reducible first|exact HB.out|apply zD|apply zE|apply zF|refine below_set ?_ GE202.out)|exact HB.out))):w.heap.size ≤ gb203));have n4_:=zM ((by rw [hg];exact (zR (by repeat (first|(with_reducible first|exact HB.out|apply zD|apply zE|apply zF|refine below_set ?_ GE202.out)|exact HB.out))):w.heap.size ≤ gb203));have n5_:=zM ((by rw [hg];exact Nat.ne_of_lt (blk_lt (g:=gb202) (o := .cells #[.int .i64 a0_0,.int .i64 a0_1,.slice A0_2 l0_2.length c0_2] 29 (0,0)) (by (with_reducible repeat (first|refine zJ ?_ _|refine zK ?_|refine zL ?_ _));exact BK202.out)):gb202 ≠ gb203));have n6_:=zM ((by rw [hg];exact Nat.ne_of_gt (blk_lt (g:=gb202) (o := .cells #[.int .i64 a0_0,.int .i64 a0_1,.slice A0_2 l0_2.length c0_2] 29 (0,0)) (by (with_reducible repeat (first|refine zJ ?_ _|refine zK ?_|refine zL ?_ _));exact BK202.out)):gb203 ≠ gb202));clear BK202;clear HB;have BK202:=n0_;have HB:=n1_;have BK203:=n2_;have GW203:=n3_;have GE203:=n4_;have NB202_203:=n5_;have NB203_202:=n6_;clear n0_ n1_ n2_ n3_ n4_ n5_ n6_;clear hb hbox hg;have hnb17:=NB202_203.out;have hnc17:=NB203_202.out;have hcz18_0:w16.cell? ⟨gb202,0,none⟩ = some (.int .i64 a0_0):=(blk_cell BK202.out 0).trans rfl;have hcz18_1:w16.cell? ⟨gb202,1,none⟩ = some (.int .i64 a0_1):=(blk_cell BK202.out 1).trans rfl;have hcz18_2:w16.cell? ⟨gb202,2,none⟩ = some (.slice A0_2 l0_2.length c0_2):=(blk_cell BK202.out 2).trans rfl;have hfz18_0:=blk_frozen BK202.out 0;have hfz18_1:=blk_frozen BK202.out 1;have hfz18_2:=blk_frozen BK202.out 2;have hcz19_0:w16.cell? ⟨gb203,0,none⟩ = some (.int .i64 a1_0):=(blk_cell BK203.out 0).trans rfl;have hcz19_1:w16.cell? ⟨gb203,1,none⟩ = some (.int .i64 a1_1):=(blk_cell BK203.out 1).trans rfl;have hfz19_0:=blk_frozen BK203.out 0;have hfz19_1:=blk_frozen BK203.out 1)|((with_reducible refine gate_callee (f:=55) rfl ?_);refine goesL_ (some 7) rfl rfl Try.func55 (by kernel_rfl) rfl #[.agg #[.int .i64 a0_0,.int .i64 a0_1,.slice A0_2 l0_2.length c0_2],.agg #[.int .i64 a1_0,.int .i64 a1_1]] rfl (by (try simp only [List.map_toArray,List.map_cons,List.map_nil]);first|done|rfl|(simp only [List.length_drop,List.length_take];rfl)) ?_;(with_reducible refine (impl_onFloor.calls a0_0 a0_1 _ _ l0_2 a1_0 a1_1 false _ ?side1 ?side2 A3.out).mono ?_);(case side1=>repeat (first|exact (zO HR0_2.out HB.out)|(with_reducible first|refine zG ?_ _|refine zH ?_ _|refine zI ?_)));(case side2=>exact HC0_2.out);rintro e w20 ⟨rfl,hb⟩;refine ⟨_,rfl,?_⟩;have n0_:=zM (blk_below (g:=gb202) (o := .cells #[.int .i64 a0_0,.int .i64 a0_1,.slice A0_2 l0_2.length c0_2] 29 (0,0)) (by (with_reducible repeat (first|refine zJ ?_ _|refine zK ?_|refine zL ?_ _));exact BK202.out) hb);have n1_:=zM (blk_below (g:=gb203) (o := .cells #[.int .i64 a1_0,.int .i64 a1_1] 48 (0,0)) (by (with_reducible repeat (first|refine zJ ?_ _|refine zK ?_|refine zL ?_ _));exact BK203.out) hb);have n2_:=zM (zQ (by repeat (first|(with_reducible first|exact HB.out|apply zD|apply zE|apply zF|refine below_set ?_ GE202.out|refine below_set ?_ GE203.out)|exact HB.out)) hb);clear BK202;clear BK203;clear HB;have BK202:=n0_;have BK203:=n1_;have HB:=n2_;clear n0_ n1_ n2_;(try clear hb);(try clear hb2);(try clear hk);(try clear hi)))
  go_ret
  exact ⟨by first|rfl|(simp [errW_none,errW_some] <;> rfl)|(simp [*,errW_none,errW_some] <;> rfl),by repeat (first|(with_reducible first|exact HB.out|apply zD|apply zE|apply zF|refine below_set ?_ GE202.out|refine below_set ?_ GE203.out)|exact HB.out)⟩



/-! ### impl_size: function 85 -/
def impl_size.f (a0:Int):Option (Int):=some (mx a0 (wrap64 (-a0)))


/-! ### impl_besides: function 59 -/
def impl_besides.f (a0_0:Int) (a0_1:Int) (a1_0:Int) (a1_1:Int):Option (Bool):=(impl_size.f (wrap64 (a0_0 - a1_0))).bind fun t208=>((impl_size.f (wrap64 (a0_1 - a1_1))).bind fun t209=>(some (decide ((wrap64 (t208 + t209)) ≤ 1))))
def impl_besides.T1:Bool × List (List Nat × List Nat):=(true,[([],[]),([0],[0]),([],[]),([2],[2]),([1,3],[1,3]),([4],[4]),([],[]),([6],[6]),([],[]),([8],[8]),([7,9],[7,9]),([10,5],[10]),([5,11],[5,11]),([12],[12]),([13,11,0,1,2,3,4,5,6,7,8,9,10,11,12,13],[13])])
def impl_besides.B1:List Nat:=[0,1,0,4,15,31,0,64,0,256,960,2047,4095,8191,16383]


/-! ### impl_IsValidPath: function 21 -/
mutual
def impl_IsValidPath.j0:Nat → List (S48) → Bool → Int → Int → List (S48) → Option (Bool)
 | 0,_,_,_,_,_=>none
 | k + 1,x1,x15,x211000,x211001,x211002=>if x15 = true then (some false) else (impl_IsValidPath.l0 k x1 x1 (x1.length:Int) 0 x211000 x211001 x211002)
def impl_IsValidPath.l0:Nat → List (S48) → List (S48) → Int → Int → Int → Int → List (S48) → Option (Bool)
 | 0,_,_,_,_,_,_,_=>none
 | k + 1,x1,x16,x17,x18,x211000,x211001,x211002=>if x18 < x17 then (if 0 ≤ x18 then (if x18 < (x16.length:Int) then ((impl_isFree.f k x211000 x211001 x211002 ((rd_T48 x16 x18).f0) ((rd_T48 x16 x18).f1)).bind fun t215=>(if t215 = true then (if x18 > 0 then (if 0 ≤ (wrap64 (x18 - 1)) then (if (wrap64 (x18 - 1)) < (x1.length:Int) then ((impl_besides.f ((rd_T48 x1 (wrap64 (x18 - 1))).f0) ((rd_T48 x1 (wrap64 (x18 - 1))).f1) ((rd_T48 x16 x18).f0) ((rd_T48 x16 x18).f1)).bind fun t217=>(if t217 = true then (impl_IsValidPath.l0 k x1 x16 x17 (wrap64 (x18 + 1)) x211000 x211001 x211002) else (some false))) else (none)) else (none)) else (impl_IsValidPath.l0 k x1 x16 x17 (wrap64 (x18 + 1)) x211000 x211001 x211002)) else (some false))) else (none)) else (none)) else (some true)
end
def impl_IsValidPath.f (k:Nat) (a0_0:Int) (a0_1:Int) (l0_2:List (S48)) (l1:List (S48)):Option (Bool):=(impl_IsValidFloor.f k a0_0 a0_1 l0_2).bind fun t211=>(if t211 = true then ((impl_within.f (l1.length:Int) 1 25).bind fun t212=>(impl_IsValidPath.j0 k l1 (!t212) a0_0 a0_1 l0_2)) else (impl_IsValidPath.j0 k l1 true a0_0 a0_1 l0_2))
def impl_IsValidPath.T6:Bool × List (List Nat × List Nat):=(true,[([],[]),([],[]),([0,1],[0,1]),([2],[2]),([3,2],[3]),([4],[4]),([5,4],[4,5]),([6,4,4],[4,6]),([7],[7]),([7],[7]),([9,7],[7,9]),([8,10,7],[7,8,10]),([11,7],[7,11]),([7],[7]),([12,13,7,7],[7,12,13]),([14,7],[7,14]),([7,15,4],[4,7,15]),([4,16],[4,16])])
def impl_IsValidPath.B6:List Nat:=[0,0,3,7,15,31,63,127,255,255,767,2047,4095,255,16383,32767,65535,131071]


/-! ### spec_l16Near: function 83 -/
def spec_l16Near.f (a0_0:Int) (a0_1:Int) (a1_0:Int) (a1_1:Int):Option (Bool):=(spec_l1Most.f (wrap64 (a0_0 - a1_0)) (wrap64 (a1_0 - a0_0))).bind fun t186=>((spec_l1Most.f (wrap64 (a0_1 - a1_1)) (wrap64 (a1_1 - a0_1))).bind fun t187=>(some (decide ((wrap64 (t186 + t187)) ≤ 1))))
set_option maxHeartbeats 8000000 in
set_option maxRecDepth 100000 in
theorem spec_l16Near.calls (a0_0:Int) (a0_1:Int) (a1_0:Int) (a1_1:Int) (r:Bool) (w:World) (h:spec_l16Near.f a0_0 a0_1 a1_0 a1_1 = some r) :
  Calls Try.prog 83 #[.agg #[.int .i64 a0_0,.int .i64 a0_1],.agg #[.int .i64 a1_0,.int .i64 a1_1]] w fun e w'=>e = .returned (.bool r) ∧ Below w.heap.size w w':=by
 have hu48:=Try.underlying48;have HB:=zM (Below.refl w.heap.size w);have H:((spec_l1Most.f (wrap64 (a0_0 - a1_0)) (wrap64 (a1_0 - a0_0))).bind fun t186=>((spec_l1Most.f (wrap64 (a0_1 - a1_1)) (wrap64 (a1_1 - a0_1))).bind fun t187=>(some (decide ((wrap64 (t186 + t187)) ≤ 1))))) = some r:=h
 clear h;replace H:=Option.bind_eq_some_iff.mp H;obtain ⟨t186,A30,H⟩:=H;replace H:((spec_l1Most.f (wrap64 (a0_1 - a1_1)) (wrap64 (a1_1 - a0_1))).bind fun t187=>(some (decide ((wrap64 (t186 + t187)) ≤ 1)))) = some r:=H
 have A3:=zM A30;clear A30;replace H:=Option.bind_eq_some_iff.mp H;obtain ⟨t187,A40,H⟩:=H;replace H:(some (decide ((wrap64 (t186 + t187)) ≤ 1))) = some r:=H
 have A4:=zM A40;clear A40;obtain rfl:=Option.some.inj H;go_enter Try.func83,Try.ntmps83
 go_wp2_with (first|((with_reducible refine gate_dst (N:=2) rfl ?_);refine box_event ?hg (N:=2) ?hd (cs := #[.int .i64 a0_0,.int .i64 a0_1]) (t:=48) ?hr ?_;(case hd=>rfl);(case hg=>rfl);(case hr=>first|(go_simp;done)|(go_simp;rfl));intro gb184 hg w5 hbox hb;have n0_:=zM (zQ (by repeat (first|(with_reducible first|exact HB.out|apply zD|apply zE|apply zF)|exact HB.out)) hb);have n1_:=zM (hbox);have n2_:=zM ((by rw [hg];exact (zR (by repeat (first|(with_reducible first|exact HB.out|apply zD|apply zE|apply zF)|exact HB.out))):w.heap.size ≤ gb184));have n3_:=zM ((by rw [hg];exact (zR (by repeat (first|(with_reducible first|exact HB.out|apply zD|apply zE|apply zF)|exact HB.out))):w.heap.size ≤ gb184));clear HB;have HB:=n0_;have BK184:=n1_;have GW184:=n2_;have GE184:=n3_;clear n0_ n1_ n2_ n3_;clear hb hbox hg)|((with_reducible refine gate_dst (N:=3) rfl ?_);refine box_event ?hg (N:=3) ?hd (cs := #[.int .i64 a1_0,.int .i64 a1_1]) (t:=48) ?hr ?_;(case hd=>rfl);(case hg=>rfl);(case hr=>first|(go_simp;done)|(go_simp;rfl));intro gb185 hg w6 hbox hb;have n0_:=zM (blk_below (g:=gb184) (o := .cells #[.int .i64 a0_0,.int .i64 a0_1] 48 (0,0)) (by (with_reducible repeat (first|refine zJ ?_ _|refine zK ?_|refine zL ?_ _));exact BK184.out) hb);have n1_:=zM (zQ (by repeat (first|(with_reducible first|exact HB.out|apply zD|apply zE|apply zF|refine below_set ?_ GE184.out)|exact HB.out)) hb);have n2_:=zM (hbox);have n3_:=zM ((by rw [hg];exact (zR (by repeat (first|(with_reducible first|exact HB.out|apply zD|apply zE|apply zF|refine below_set ?_ GE184.out)|exact HB.out))):w.heap.size ≤ gb185));have n4_:=zM ((by rw [hg];exact (zR (by repeat (first|(with_reducible first|exact HB.out|apply zD|apply zE|apply zF|refine below_set ?_ GE184.out)|exact HB.out))):w.heap.size ≤ gb185));have n5_:=zM ((by rw [hg];exact Nat.ne_of_lt (blk_lt (g:=gb184) (o := .cells #[.int .i64 a0_0,.int .i64 a0_1] 48 (0,0)) (by (with_reducible repeat (first|refine zJ ?_ _|refine zK ?_|refine zL ?_ _));exact BK184.out)):gb184 ≠ gb185));have n6_:=zM ((by rw [hg];exact Nat.ne_of_gt (blk_lt (g:=gb184) (o := .cells #[.int .i64 a0_0,.int .i64 a0_1] 48 (0,0)) (by (with_reducible repeat (first|refine zJ ?_ _|refine zK ?_|refine zL ?_ _));exact BK184.out)):gb185 ≠ gb184));clear BK184;clear HB;have BK184:=n0_;have HB:=n1_;have BK185:=n2_;have GW185:=n3_;have GE185:=n4_;have NB184_185:=n5_;have NB185_184:=n6_;clear n0_ n1_ n2_ n3_ n4_ n5_ n6_;clear hb hbox hg;have hnb7:=NB184_185.out;have hnc7:=NB185_184.out;have hcz8_0:w6.cell? ⟨gb184,0,none⟩ = some (.int .i64 a0_0):=(blk_cell BK184.out 0).trans rfl;have hcz8_1:w6.cell? ⟨gb184,1,none⟩ = some (.int .i64 a0_1):=(blk_cell BK184.out 1).trans rfl;have hfz8_0:=blk_frozen BK184.out 0;have hfz8_1:=blk_frozen BK184.out 1;have hcz9_0:w6.cell? ⟨gb185,0,none⟩ = some (.int .i64 a1_0):=(blk_cell BK185.out 0).trans rfl;have hcz9_1:w6.cell? ⟨gb185,1,none⟩ = some (.int .i64 a1_1):=(blk_cell BK185.out 1).trans rfl;have hfz9_0:=blk_frozen BK185.out 0;have hfz9_1:=blk_frozen BK185.out 1)|(go_at_call 86;(with_reducible refine (spec_l1Most.calls (wrap64 (a0_0 - a1_0)) (wrap64 (a1_0 - a0_0)) t186 _ A3.out).mono ?_);rintro e w' ⟨rfl,⟨nd,rfl⟩⟩;(try first|exact ⟨rfl,_,World.drewN_drewN _ _ _⟩|exact ⟨rfl,_,zW _ _ _ _⟩))|(go_at_call 86;(with_reducible refine (spec_l1Most.calls (wrap64 (a0_1 - a1_1)) (wrap64 (a1_1 - a0_1)) t187 _ A4.out).mono ?_);rintro e w' ⟨rfl,⟨nd,rfl⟩⟩;(try first|exact ⟨rfl,_,World.drewN_drewN _ _ _⟩|exact ⟨rfl,_,zW _ _ _ _⟩)))
 repeat (go_quiet (first|((with_reducible refine gate_dst (N:=2) rfl ?_);refine box_event ?hg (N:=2) ?hd (cs := #[.int .i64 a0_0,.int .i64 a0_1]) (t:=48) ?hr ?_;(case hd=>rfl);(case hg=>rfl);(case hr=>first|(go_simp;done)|(go_simp;rfl));intro gb184 hg w5 hbox hb;have n0_:=zM (zQ (by repeat (first|(with_reducible first|exact HB.out|apply zD|apply zE|apply zF)|exact HB.out)) hb);have n1_:=zM (hbox);have n2_:=zM ((by rw [hg];exact (zR (by repeat (first|(with_reducible first|exact HB.out|apply zD|apply zE|apply zF)|exact HB.out))):w.heap.size ≤ gb184));have n3_:=zM ((by rw [hg];exact (zR (by repeat (first|(with_reducible first|exact HB.out|apply zD|apply zE|apply zF)|exact HB.out))):w.heap.size ≤ gb184));clear HB;have HB:=n0_;have BK184:=n1_;have GW184:=n2_;have GE184:=n3_;clear n0_ n1_ n2_ n3_;clear hb hbox hg)|((with_reducible refine gate_dst (N:=3) rfl ?_);refine box_event ?hg (N:=3) ?hd (cs := #[.int .i64 a1_0,.int .i64 a1_1]) (t:=48) ?hr ?_;(case hd=>rfl);(case hg=>rfl);(case hr=>first|(go_simp;done)|(go_simp;rfl));intro gb185 hg w6 hbox hb;have n0_:=zM (blk_below (g:=gb184) (o := .cells #[.int .i64 a0_0,.int .i64 a0_1] 48 (0,0)) (by (with_reducible repeat (first|refine zJ ?_ _|refine zK ?_|refine zL ?_ _));exact BK184.out) hb);have n1_:=zM (zQ (by repeat (first|(with_reducible first|exact HB.out|apply zD|apply zE|apply zF|refine below_set ?_ GE184.out)|exact HB.out)) hb);have n2_:=zM (hbox);have n3_:=zM ((by rw [hg];exact (zR (by repeat (first|(with_reducible first|exact HB.out|apply zD|apply zE|apply zF|refine below_set ?_ GE184.out)|exact HB.out))):w.heap.size ≤ gb185));have n4_:=zM ((by rw [hg];exact (zR (by repeat (first|(with_reducible first|exact HB.out|apply zD|apply zE|apply zF|refine below_set ?_ GE184.out)|exact HB.out))):w.heap.size ≤ gb185));have n5_:=zM ((by rw [hg];exact Nat.ne_of_lt (blk_lt (g:=gb184) (o := .cells #[.int .i64 a0_0,.int .i64 a0_1] 48 (0,0)) (by (with_reducible repeat (first|refine zJ ?_ _|refine zK ?_|refine zL ?_ _));exact BK184.out)):gb184 ≠ gb185));have n6_:=zM ((by rw [hg];exact Nat.ne_of_gt (blk_lt (g:=gb184) (o := .cells #[.int .i64 a0_0,.int .i64 a0_1] 48 (0,0)) (by (with_reducible repeat (first|refine zJ ?_ _|refine zK ?_|refine zL ?_ _));exact BK184.out)):gb185 ≠ gb184));clear BK184;clear HB;have BK184:=n0_;have HB:=n1_;have BK185:=n2_;have GW185:=n3_;have GE185:=n4_;have NB184_185:=n5_;have NB185_184:=n6_;clear n0_ n1_ n2_ n3_ n4_ n5_ n6_;clear hb hbox hg;have hnb7:=NB184_185.out;have hnc7:=NB185_184.out;have hcz8_0:w6.cell? ⟨gb184,0,none⟩ = some (.int .i64 a0_0):=(blk_cell BK184.out 0).trans rfl;have hcz8_1:w6.cell? ⟨gb184,1,none⟩ = some (.int .i64 a0_1):=(blk_cell BK184.out 1).trans rfl;have hfz8_0:=blk_frozen BK184.out 0;have hfz8_1:=blk_frozen BK184.out 1;have hcz9_0:w6.cell? ⟨gb185,0,none⟩ = some (.int .i64 a1_0):=(blk_cell BK185.out 0).trans rfl;have hcz9_1:w6.cell? ⟨gb185,1,none⟩ = some (.int .i64 a1_1):=(blk_cell BK185.out 1).trans rfl;have hfz9_0:=blk_frozen BK185.out 0;have hfz9_1:=blk_frozen BK185.out 1)|(go_at_call 86;(with_reducible refine (spec_l1Most.calls (wrap64 (a0_0 - a1_0)) (wrap64 (a1_0 - a0_0)) t186 _ A3.out).mono ?_);rintro e w' ⟨rfl,⟨nd,rfl⟩⟩;(try first|exact ⟨rfl,_,World.drewN_drewN _ _ _⟩|exact ⟨rfl,_,zW _ _ _ _⟩))|(go_at_call 86;(with_reducible refine (spec_l1Most.calls (wrap64 (a0_1 - a1_1)) (wrap64 (a1_1 - a0_1)) t187 _ A4.out).mono ?_);rintro e w' ⟨rfl,⟨nd,rfl⟩⟩;(try first|exact ⟨rfl,_,World.drewN_drewN _ _ _⟩|exact ⟨rfl,_,zW _ _ _ _⟩)));try go_wp2_with (first|((with_reducible refine gate_dst (N:=2) rfl ?_);refine box_event ?hg (N:=2) ?hd (cs := #[.int .i64 a0_0,.int .i64 a0_1]) (t:=48) ?hr ?_;(case hd=>rfl);(case hg=>rfl);(case hr=>first|(go_simp;done)|(go_simp;rfl));intro gb184 hg w5 hbox hb;have n0_:=zM (zQ (by repeat (first|(with_reducible first|exact HB.out|apply zD|apply zE|apply zF)|exact HB.out)) hb);have n1_:=zM (hbox);have n2_:=zM ((by rw [hg];exact (zR (by repeat (first|(with_reducible first|exact HB.out|apply zD|apply zE|apply zF)|exact HB.out))):w.heap.size ≤ gb184));have n3_:=zM ((by rw [hg];exact (zR (by repeat (first|(with_reducible first|exact HB.out|apply zD|apply zE|apply zF)|exact HB.out))):w.heap.size ≤ gb184));clear HB;have HB:=n0_;have BK184:=n1_;have GW184:=n2_;have GE184:=n3_;clear n0_ n1_ n2_ n3_;clear hb hbox hg)|((with_reducible refine gate_dst (N:=3) rfl ?_);refine box_event ?hg (N:=3) ?hd (cs := #[.int .i64 a1_0,.int .i64 a1_1]) (t:=48) ?hr ?_;(case hd=>rfl);(case hg=>rfl);(case hr=>first|(go_simp;done)|(go_simp;rfl));intro gb185 hg w6 hbox hb;have n0_:=zM (blk_below (g:=gb184) (o := .cells #[.int .i64 a0_0,.int .i64 a0_1] 48 (0,0)) (by (with_reducible repeat (first|refine zJ ?_ _|refine zK ?_|refine zL ?_ _));exact BK184.out) hb);have n1_:=zM (zQ (by repeat (first|(with_reducible first|exact HB.out|apply zD|apply zE|apply zF|refine below_set ?_ GE184.out)|exact HB.out)) hb);have n2_:=zM (hbox);have n3_:=zM ((by rw [hg];exact (zR (by repeat (first|(with_reducible first|exact HB.out|apply zD|apply zE|apply zF|refine below_set ?_ GE184.out)|exact HB.out))):w.heap.size ≤ gb185));have n4_:=zM ((by rw [hg];exact (zR (by repeat (first|(with_reducible first|exact HB.out|apply zD|apply zE|apply zF|refine below_set ?_ GE184.out)|exact HB.out))):w.heap.size ≤ gb185));have n5_:=zM ((by rw [hg];exact Nat.ne_of_lt (blk_lt (g:=gb184) (o := .cells #[.int .i64 a0_0,.int .i64 a0_1] 48 (0,0)) (by (with_reducible repeat (first|refine zJ ?_ _|refine zK ?_|refine zL ?_ _));exact BK184.out)):gb184 ≠ gb185));have n6_:=zM ((by rw [hg];exact Nat.ne_of_gt (blk_lt (g:=gb184) (o := .cells #[.int .i64 a0_0,.int .i64 a0_1] 48 (0,0)) (by (with_reducible repeat (first|refine zJ ?_ _|refine zK ?_|refine zL ?_ _));exact BK184.out)):gb185 ≠ gb184));clear BK184;clear HB;have BK184:=n0_;have HB:=n1_;have BK185:=n2_;have GW185:=n3_;have GE185:=n4_;have NB184_185:=n5_;have NB185_184:=n6_;clear n0_ n1_ n2_ n3_ n4_ n5_ n6_;clear hb hbox hg;have hnb7:=NB184_185.out;have hnc7:=NB185_184.out;have hcz8_0:w6.cell? ⟨gb184,0,none⟩ = some (.int .i64 a0_0):=(blk_cell BK184.out 0).trans rfl;have hcz8_1:w6.cell? ⟨gb184,1,none⟩ = some (.int .i64 a0_1):=(blk_cell BK184.out 1).trans rfl;have hfz8_0:=blk_frozen BK184.out 0;have hfz8_1:=blk_frozen BK184.out 1;have hcz9_0:w6.cell? ⟨gb185,0,none⟩ = some (.int .i64 a1_0):=(blk_cell BK185.out 0).trans rfl;have hcz9_1:w6.cell? ⟨gb185,1,none⟩ = some (.int .i64 a1_1):=(blk_cell BK185.out 1).trans rfl;have hfz9_0:=blk_frozen BK185.out 0;have hfz9_1:=blk_frozen BK185.out 1)|(go_at_call 86;(with_reducible refine (spec_l1Most.calls (wrap64 (a0_0 - a1_0)) (wrap64 (a1_0 - a0_0)) t186 _ A3.out).mono ?_);rintro e w' ⟨rfl,⟨nd,rfl⟩⟩;(try first|exact ⟨rfl,_,World.drewN_drewN _ _ _⟩|exact ⟨rfl,_,zW _ _ _ _⟩))|(go_at_call 86;(with_reducible refine (spec_l1Most.calls (wrap64 (a0_1 - a1_1)) (wrap64 (a1_1 - a0_1)) t187 _ A4.out).mono ?_);rintro e w' ⟨rfl,⟨nd,rfl⟩⟩;(try first|exact ⟨rfl,_,World.drewN_drewN _ _ _⟩|exact ⟨rfl,_,zW _ _ _ _⟩))))
 go_ret
 exact ⟨by first|rfl|(simp [errW_none,errW_some] <;> rfl)|(simp [*,errW_none,errW_some] <;> rfl),by repeat (first|(with_reducible first|exact HB.out|apply zD|apply zE|apply zF|refine below_set ?_ GE184.out|refine below_set ?_ GE185.out)|exact HB.out)⟩



/-! ### spec_l16Path: function 57 -/
def spec_l16Path.l0:Nat → List (S48) → Int → Int → Int → List (S48) → Option (Bool)
 | 0,_,_,_,_,_=>none
 | k + 1,x1,x5,x189000,x189001,x189002=>if x5 < (x1.length:Int) then (if 0 ≤ x5 then ((spec_l16Free.f k x189000 x189001 x189002 ((rd_T48 x1 x5).f0) ((rd_T48 x1 x5).f1)).bind fun t191=>(if t191 = true then (if x5 > 0 then (if 0 ≤ (wrap64 (x5 - 1)) then (if (wrap64 (x5 - 1)) < (x1.length:Int) then ((spec_l16Near.f ((rd_T48 x1 (wrap64 (x5 - 1))).f0) ((rd_T48 x1 (wrap64 (x5 - 1))).f1) ((rd_T48 x1 x5).f0) ((rd_T48 x1 x5).f1)).bind fun t194=>(if t194 = true then (spec_l16Path.l0 k x1 (wrap64 (x5 + 1)) x189000 x189001 x189002) else (some false))) else (none)) else (none)) else (spec_l16Path.l0 k x1 (wrap64 (x5 + 1)) x189000 x189001 x189002)) else (some false))) else (none)) else ((spec_l1In.f (x1.length:Int) 1 25).bind fun t189=>(some t189))
def spec_l16Path.f (k:Nat) (a0_0:Int) (a0_1:Int) (l0_2:List (S48)) (l1:List (S48)):Option (Bool):=spec_l16Path.l0 k l1 0 a0_0 a0_1 l0_2
def spec_l16Path.T4:Bool × List (List Nat × List Nat):=(true,[([],[]),([],[]),([],[]),([1,2],[1,2]),([3],[3]),([0,4],[0,4]),([5],[5]),([6,5],[6]),([7],[7]),([8,7],[7,8]),([9,7,7],[7,9]),([10],[10]),([10],[10]),([12,10],[10,12]),([11,13,10],[10,11,13]),([14,10],[10,14]),([10],[10]),([10],[10]),([16,17,10],[10,16,17]),([18,10],[10,18]),([15,19,10,10],[10,15,19]),([20,10],[10,20]),([10,21,7],[7,10,21]),([7,22],[7,22])])
def spec_l16Path.B4:List Nat:=[0,0,0,6,14,31,63,127,255,511,1023,2047,2047,6143,16383,32767,2047,2047,198655,460799,1048575,2097151,4194303,8388607]


/-! ### spec_IsValidPath: function 19 -/
def spec_IsValidPath.f (k:Nat) (a0_0:Int) (a0_1:Int) (l0_2:List (S48)) (l1:List (S48)):Option (Bool):=(spec_l16Good.f k a0_0 a0_1 l0_2).bind fun t196=>(if t196 = true then ((spec_l16Path.f k a0_0 a0_1 l0_2 l1).bind fun t197=>(some t197)) else (some false))
end Go.Proofs.Ytbpccdbkaiigcaa.G

namespace Go.Proofs.Ytbpccdbkaiigcaa.G
open Go.RowKit Go.Proofs.YtbpccdbkaiigcaaW.PrintWords Go.Proofs.YtbpccdbkaiigcaaW.PrintLast
set_option linter.unusedVariables false
set_option linter.unusedSimpArgs false
def eqc (a b : S48) : Prop:=a.f0 = b.f0 ∧ a.f1 = b.f1
/-- A cell stands in a list. -/
def HasC (l : List S48) (c : S48) : Prop := ¬ All (fun j => ¬ eqc (rd_T48 l j) c) 0 (l.length : Int)
def Free (w h : Int) (bl : List S48) (c : S48) : Prop:=In w h c ∧ ¬ HasC bl c
theorem eqc_bool (a b : S48) : (a.f0 == b.f0 && (a.f1 == b.f1)) = true ↔ eqc a b:=by
 unfold eqc;simp
theorem spec_blocked (w h : Int) (bl : List S48) (c : S48) (hb : (bl.length : Int) ≤ 1099511627776) : Ev (fun k=>spec_l16Blocked.f k w h bl c.f0 c.f1) (chk (HasC bl c) true false):=by
 unfold spec_l16Blocked.f
 have h:=Ev.check (fun k i=>spec_l16Blocked.l0 k i w h bl c.f0 c.f1) (bl.length : Int) (fun j => ¬ eqc (rd_T48 bl j) c) false true 0 (by
  refine Ev.step (fun k=>by rw [spec_l16Blocked.l0]) ?_
  simp only [Int.lt_irrefl,if_false]
  exact Ev.now _) (by
  intro i h0 hlt r hr
  refine Ev.step (fun k=>by rw [spec_l16Blocked.l0]) ?_
  simp (disch:=omega) only [if_pos,wrap64_id]
  refine Ev.ite (fun g=>?_) (fun g=>?_)
  ·rw [chk_neg (fun m=>m ((eqc_bool _ _).1 g))];exact Ev.now _
  ·rw [chk_pos (fun m=>g ((eqc_bool _ _).2 m))];exact hr) 0 (by omega) (by omega)
 refine Ev.eq h ?_
 by_cases ha : All (fun j => ¬ eqc (rd_T48 bl j) c) 0 (bl.length : Int)
 ·rw [chk_pos ha,chk_neg (fun m : HasC bl c=>m ha)]
 ·rw [chk_neg ha,chk_pos (show HasC bl c from ha)]
theorem impl_contains (bl : List S48) (c : S48) (hb : (bl.length : Int) ≤ 1099511627776) : Ev (fun k=>impl_Cell_84.f k bl c.f0 c.f1) (chk (HasC bl c) true false):=by
 unfold impl_Cell_84.f impl_Cell_97.f
 have main : ∀ (d : Nat) (i : Int),0 ≤ i → i + d = (bl.length : Int) → ∃ v,Ev (fun k=>impl_Cell_97.l0 k bl (bl.length : Int) i c.f0 c.f1) v ∧ (v ≥ 0 ↔ ¬ All (fun j => ¬ eqc (rd_T48 bl j) c) i (bl.length : Int)):=by
  intro d
  induction d with
  | zero =>
   intro i h0 hd
   refine ⟨-1,?_,?_⟩
   ·refine Ev.step (fun k=>by rw [impl_Cell_97.l0]) ?_
    simp (disch:=omega) only [if_neg]
    exact Ev.now _
   ·constructor
    ·intro h;omega
    ·intro h;exact absurd (fun j h1 h2=>by omega) h
  | succ d ih =>
   intro i h0 hd
   by_cases e : (c.f0 == (rd_T48 bl i).f0 && (c.f1 == (rd_T48 bl i).f1)) = true
   ·refine ⟨i,?_,?_⟩
    ·refine Ev.step (fun k=>by rw [impl_Cell_97.l0]) ?_
     simp (disch:=omega) only [if_pos]
     exact Ev.now _
    ·refine ⟨fun _ a=>a i (by omega) (by omega) ?_,fun _=>h0⟩
     have:=(eqc_bool _ _).1 e
     exact ⟨this.1.symm,this.2.symm⟩
   ·obtain ⟨v,hv,hi⟩:=ih (i + 1) (by omega) (by omega)
    refine ⟨v,?_,?_⟩
    ·refine Ev.step (fun k=>by rw [impl_Cell_97.l0]) ?_
     simp (disch:=omega) only [if_pos,wrap64_id]
     simp only [if_neg e]
     exact hv
    ·rw [hi,All.step (show i < (bl.length : Int) by omega)]
     exact ⟨fun h a=>h a.2,fun h a=>h ⟨fun e2=>e ((eqc_bool _ _).2 ⟨e2.1.symm,e2.2.symm⟩),a⟩⟩
 obtain ⟨v,hv,hi⟩:=main bl.length 0 (by omega) (by omega)
 refine Ev.bind hv ?_
 refine Ev.val ?_
 by_cases hh : HasC bl c
 ·rw [chk_pos hh];exact decide_eq_true (hi.2 hh)
 ·rw [chk_neg hh];exact decide_eq_false (fun h=>hh (hi.1 h))
theorem impl_free (w h : Int) (bl : List S48) (c : S48) (hw : 1 ≤ w ∧ w ≤ 6) (hh : 1 ≤ h ∧ h ≤ 6) (hb : (bl.length : Int) ≤ 1099511627776) : Ev (fun k=>impl_isFree.f k w h bl c.f0 c.f1) (chk (Free w h bl c) true false):=by
 unfold impl_isFree.f
 rw [impl_on w h bl c hw hh]
 simp only [Option.bind_some]
 refine Ev.ite (fun g=>?_) (fun g=>?_)
 ·refine Ev.bind (impl_contains bl c hb) ?_
  refine Ev.val ?_
  by_cases hc : HasC bl c
  ·rw [chk_pos hc,chk_neg (fun m : Free w h bl c=>m.2 hc)];rfl
  ·rw [chk_neg hc,chk_pos (show Free w h bl c from ⟨chk_true.1 g,hc⟩)];rfl
 ·rw [chk_neg (fun m : Free w h bl c=>g (chk_true.2 m.1))];exact Ev.now _
theorem spec_free (w h : Int) (bl : List S48) (c : S48) (hw : 1 ≤ w ∧ w ≤ 6) (hh : 1 ≤ h ∧ h ≤ 6) (hb : (bl.length : Int) ≤ 1099511627776) : Ev (fun k=>spec_l16Free.f k w h bl c.f0 c.f1) (chk (Free w h bl c) true false):=by
 unfold spec_l16Free.f
 rw [spec_in w h bl c hw hh]
 simp only [Option.bind_some]
 refine Ev.ite (fun g=>?_) (fun g=>?_)
 ·refine Ev.bind (spec_blocked w h bl c hb) ?_
  refine Ev.val ?_
  by_cases hc : HasC bl c
  ·rw [chk_pos hc,chk_neg (fun m : Free w h bl c=>m.2 hc)];rfl
  ·rw [chk_neg hc,chk_pos (show Free w h bl c from ⟨chk_true.1 g,hc⟩)];rfl
 ·rw [chk_neg (fun m : Free w h bl c=>g (chk_true.2 m.1))];exact Ev.now _
/-- Two cells lie side by side, or are the same. -/
def Near (a b : S48) : Prop:=mx (a.f0 - b.f0) (b.f0 - a.f0) + mx (a.f1 - b.f1) (b.f1 - a.f1) ≤ 1
theorem mx_cases (a b : Int) : mx a b = a ∨ mx a b = b:=by unfold mx;split <;> omega
theorem near_spec (a b : S48) (ha : (0 ≤ a.f0 ∧ a.f0 ≤ 5) ∧ (0 ≤ a.f1 ∧ a.f1 ≤ 5)) (hb : (0 ≤ b.f0 ∧ b.f0 ≤ 5) ∧ (0 ≤ b.f1 ∧ b.f1 ≤ 5)) : spec_l16Near.f a.f0 a.f1 b.f0 b.f1 = some (chk (Near a b) true false):=by
 have c1:=mx_cases (a.f0 - b.f0) (b.f0 - a.f0)
 have c2:=mx_cases (a.f1 - b.f1) (b.f1 - a.f1)
 unfold spec_l16Near.f
 simp (disch:=omega) only [wrap64_id,spec_most_eq,Option.bind_some]
 by_cases hn : Near a b
 ·rw [chk_pos hn];congr 1;have hn':=hn;unfold Near at hn';exact decide_eq_true hn'
 ·rw [chk_neg hn];congr 1;have hn':=hn;unfold Near at hn';exact decide_eq_false hn'
/-- Step i of a path is well. -/
def stepOk (w h : Int) (bl p : List S48) (i : Int) : Prop:=Free w h bl (rd_T48 p i) ∧ (0 < i → Near (rd_T48 p (i - 1)) (rd_T48 p i))
def PathOk (w h : Int) (bl p : List S48) : Prop:=FloorOk w h bl ∧ (1 ≤ (p.length : Int) ∧ (p.length : Int) ≤ 25) ∧ All (stepOk w h bl p) 0 (p.length : Int)
end Go.Proofs.Ytbpccdbkaiigcaa.G

/- Maps from cells to whole numbers and to bools, told as functions. -/
namespace Go.Proofs.Ytbpccdbkaiigcaa.G
open Go.RowKit Go.Maps Go.Proofs.YtbpccdbkaiigcaaW.PrintWords Go.Proofs.YtbpccdbkaiigcaaW.PrintLast
set_option linter.unusedVariables false
set_option linter.unusedSimpArgs false
theorem laidOutP : laidOutB Try.prog = true:=by kernel_rfl
theorem keyed48 : Keyed Try.prog 48:=Keyed.of_law (deep_law_laid laidOutP (m:=2) (by omega) (of_decide_eq_true (by kernel_rfl)) (by kernel_rfl) (by rw [Try.underlying48]))
def kl (c : S48) : Lit := .string (keyBytes [.int .i64 c.f0,.int .i64 c.f1])
def W64 (c : S48) : Prop:=(Lit.int .i64 c.f0).wf = true ∧ (Lit.int .i64 c.f1).wf = true
def cv (c : S48) : Value := .agg #[.int .i64 c.f0,.int .i64 c.f1]
theorem cells48 : Try.prog.cellsOf 48 = 2:=by kernel_rfl
theorem cells3 : Try.prog.cellsOf 3 = 1:=by kernel_rfl
theorem keyT48 : Try.prog.keyType 48 = true:=by kernel_rfl
theorem formed48 {a b : Value} : (Value.agg #[a,b]).formed Try.prog 48 = true:=by simp [Value.formed,Try.underlying48,cells48]
theorem sizes48 : ∃ n,Try.prog.types.size = n + 1:=⟨Try.prog.types.size - 1,by kernel_rfl⟩
theorem lits48 {c : S48} (h : W64 c) (n : Nat) : Try.prog.keyLits (n + 2) 48 [.int .i64 c.f0,.int .i64 c.f1] = some [.int .i64 c.f0,.int .i64 c.f1]:=by
 simp [Program.keyLits,Try.underlying48,Try.underlying3,cells48,cells3,h.1,h.2]
theorem keyOf_struct {P : Program} {k : TypeId} {v : Value} {fs : Array Field} (hu : P.underlying k = some (.struct fs)) (hk : P.keyType k = true) (hf : v.formed P k = true) (cs : List Value) (hc : v.cells.toList = cs) (n : Nat) (hn : P.types.size = n + 1) (ls : List Lit) (hl : P.keyLits (n + 2) k cs = some ls) : keyOf P k v = some (.string (keyBytes ls)):=by
 unfold keyOf
 rw [hu]
 simp only [hk,hf,Bool.and_self,if_true]
 rw [hn,hc,hl]
 rfl
theorem key48 {c : S48} (h : W64 c) : keyOf Try.prog 48 (cv c) = some (kl c):=by
 obtain ⟨n,hn⟩:=sizes48
 exact keyOf_struct Try.underlying48 keyT48 formed48 _ rfl n hn _ (lits48 h n)
set_option maxRecDepth 20000 in
theorem kl_inj {c d : S48} (hc : W64 c) (hd : W64 d) (h : kl c = kl d) : c = d:=by
 have h1:=key48 hc
 rw [h] at h1
 have this : cv c = cv d:=Keyed.inj keyed48 h1 (key48 hd)
 have h2 : (cv c).cells.toList = (cv d).cells.toList:=by rw [this]
 have h3 : [Value.int .i64 c.f0,Value.int .i64 c.f1] = [Value.int .i64 d.f0,Value.int .i64 d.f1]:=h2
 injection h3 with e1 e2
 injection e2 with e2 _
 injection e1 with _ e1
 injection e2 with _ e2
 cases c
 cases d
 subst e1
 subst e2
 rfl
theorem isKey_kl {c : S48} (h : W64 c) : WideAt.IsKeyLit (kl c):=keyed48.key (key48 h)
abbrev Mp:=S48 → Option Int
def upd (m : Mp) (c : S48) (v : Int) : Mp:=fun d=>if d.f0 = c.f0 ∧ d.f1 = c.f1 then some v else m d
theorem upd_same (m : Mp) (c : S48) (v : Int) : upd m c v c = some v:=if_pos ⟨rfl,rfl⟩
theorem upd_other (m : Mp) {c d : S48} (v : Int) (h : d ≠ c) : upd m c v d = m d:=if_neg (fun e=>h (by cases c;cases d;obtain ⟨rfl,rfl⟩:=e;rfl))
theorem zero3 (w : World) : (zeroValue 3).run Try.prog w = .ok (.int .i64 0) w:=by kernel_rfl
/-- Block b is a map of at most n cells' numbers: m. -/
def MapI (w : World) (b n : Nat) (m : Mp) : Prop := ∃ D : DataW Unit,w.ownsMap Try.prog 48 (plainElem Try.prog 3) b n D ∧ ∀ c,W64 c → Maps.has D (kl c) = (m c).isSome ∧ D.atKey (kl c) (.lit (.int .i64 0)) = .lit (.int .i64 ((m c).getD 0))
theorem MapI.lt {w : World} {b n : Nat} {m : Mp} (h : MapI w b n m) : b < w.heap.size:=by obtain ⟨D,h,_⟩:=h;exact h.lt
theorem MapI.step {w w1 : World} {b n : Nat} {m : Mp} (h : MapI w b n m) (hm : w1.heap[b]? = w.heap[b]?) : MapI w1 b n m:=by
 obtain ⟨D,⟨es,clock,hb,r⟩,h⟩:=h
 exact ⟨D,⟨es,clock,hm.trans hb,r⟩,h⟩
theorem MapI.below {w w1 : World} {b n : Nat} {m : Mp} (h : MapI w b n m) (hb : Below w.heap.size w w1) : MapI w1 b n m:=h.step (hb.block b h.lt)
theorem MapI.grown {w w1 : World} {b n : Nat} {m : Mp} {row : Option Nat} (h : MapI w b n m) (hg : w.grownBy w1 row) (hne : some b ≠ row) : MapI w1 b n m:=h.step (hg.block b h.lt hne)
theorem MapI.cells {w : World} {b n : Nat} {m : Mp} (h : MapI w b n m) {g : Nat} {cs : Array Value} {t : TypeId} {p : Nat × Nat} (hg : w.heap[g]? = some (.cells cs t p)) : b ≠ g:=by
 rintro rfl
 obtain ⟨D,⟨es,clock,hb,r⟩,h⟩:=h
 rw [hg] at hb
 cases hb
theorem mapI_made (w : World) : MapI (w.alloc (.map #[] 0)) w.heap.size 0 (fun _=>none):=⟨_,World.ownsMap_made w Try.prog 48 _,fun c _=>⟨rfl,rfl⟩⟩
theorem mapI_put {D : DataW Unit} {m : Mp} (hD : Maps.IsMap D) (h : ∀ c,W64 c → Maps.has D (kl c) = (m c).isSome ∧ D.atKey (kl c) (.lit (.int .i64 0)) = .lit (.int .i64 ((m c).getD 0))) {c : S48} (hc : W64 c) (v : Int) :
  ∀ d,W64 d → Maps.has (D.put (kl c) (.lit (.int .i64 v))) (kl d) = (upd m c v d).isSome ∧ (D.put (kl c) (.lit (.int .i64 v))).atKey (kl d) (.lit (.int .i64 0)) = .lit (.int .i64 ((upd m c v d).getD 0)):=by
 intro d hd
 by_cases e : d = c
 ·subst e
  rw [upd_same]
  exact ⟨Maps.has_put_same hD (isKey_kl hc) _,Maps.atKey_put_same hD (isKey_kl hc) _ _⟩
 ·have hne : kl d ≠ kl c:=fun h'=>e (kl_inj hd hc h')
  rw [upd_other m v e,Maps.has_put_other hne,Maps.atKey_put_other hne]
  exact h d hd
set_option maxRecDepth 20000 in
theorem mapI_update {w : World} {b n : Nat} {m : Mp} (h : MapI w b n m) (hn : n < maxLen) {c : S48} (hc : W64 c) {v : Int} (hv : (Lit.int .i64 v).wf = true) : ∃ w',(Instr.mapUpdate 84 (.map (some b)) (cv c) (.int .i64 v)).run Try.prog w = .ok () w' ∧ MapI w' b (n + 1) (upd m c v) ∧ w.grownBy w' (some b):=by
 obtain ⟨D,ho,h⟩:=h
 obtain ⟨w',hrun,h1,h2⟩:=ho.update keyed48 Try.underlying84 hn (key48 hc) (plainElem_int Try.underlying3 hv)
 exact ⟨w',hrun,⟨_,h1,mapI_put ho.isMap h hc v⟩,h2⟩
set_option maxRecDepth 20000 in
theorem mapI_run {w : World} {b n : Nat} {m : Mp} (h : MapI w b n m) {c : S48} (hc : W64 c) : (Instr.lookup 84 (.map (some b)) (cv c) false).run Try.prog w = .ok (.int .i64 ((m c).getD 0)) w:=by
 obtain ⟨D,ho,h⟩:=h
 obtain ⟨v,hrun,hat,_⟩:=ho.lookup_int keyed48 Try.underlying84 Try.underlying3 (zero3 w) (key48 hc)
 rw [(h c hc).2] at hat
 injection hat with hat
 injection hat with _ hat
 rw [hat]
 exact hrun
section
variable {ops : Array Oper} {rest : List Oper} {o : Oper} {a : Act} {Q : Exit → Act → World → Prop} {w : World} {b n : Nat} {m : Mp} {c : S48}
theorem wpI_lookup_ok (hg : o.guard = none) (mo x : Operand) (hop : o.op = Op.lookup 84 mo x true) (hm : a.eval mo = .map (some b)) (hx : a.eval x = cv c) (h : MapI w b n m) (hc : W64 c)
  (hK : wpList Try.prog ops Q rest (a.put o.dst (.tuple #[.int .i64 ((m c).getD 0),.bool (m c).isSome])) w) : wpList Try.prog ops Q (o :: rest) a w:=by
 obtain ⟨D,ho,h⟩:=h
 refine wpList_lookup_own_ok_int w hg mo x 84 hop 48 3 .i64 keyed48 Try.underlying84 Try.underlying3 (zero3 w) b n D hm ho (cv c) (kl c) hx (key48 hc) ?_
 intro v hat _
 rw [(h c hc).2] at hat
 injection hat with hat
 injection hat with _ hat
 rw [← hat,(h c hc).1]
 exact hK
theorem wpI_lookup_ok' (hg : o.guard = none) (mo x : Operand) (hop : o.op = Op.lookup 84 mo x true) (hm : a.eval mo = .map (some b)) (hx : a.eval x = cv c) (h : MapI w b n m) (hc : W64 c) {v : Int} {i : Bool} (hv : (m c).getD 0 = v) (hi : (m c).isSome = i)
  (hK : wpList Try.prog ops Q rest (a.put o.dst (.tuple #[.int .i64 v,.bool i])) w) : wpList Try.prog ops Q (o :: rest) a w:=by
 subst hv
 subst hi
 exact wpI_lookup_ok hg mo x hop hm hx h hc hK
theorem wpI_lookup (hg : o.guard = none) (mo x : Operand) (hop : o.op = Op.lookup 84 mo x false) (hm : a.eval mo = .map (some b)) (hx : a.eval x = cv c) (h : MapI w b n m) (hc : W64 c)
  (hK : wpList Try.prog ops Q rest (a.put o.dst (.int .i64 ((m c).getD 0))) w) : wpList Try.prog ops Q (o :: rest) a w:=by
 obtain ⟨D,ho,h⟩:=h
 refine wpList_lookup_own_int w hg mo x 84 hop 48 3 .i64 keyed48 Try.underlying84 Try.underlying3 (zero3 w) b n D hm ho (cv c) (kl c) hx (key48 hc) ?_
 intro v hat _
 rw [(h c hc).2] at hat
 injection hat with hat
 injection hat with _ hat
 rw [← hat]
 exact hK
theorem wpI_insert (hg : o.guard = none) (mo x v : Operand) (hop : o.op = Op.insert 84 mo x v) (hm : a.eval mo = .map (some b)) (hx : a.eval x = cv c) {k : Int} (hv : a.eval v = .int .i64 k) (h : MapI w b n m) (hn : n < maxLen) (hc : W64 c) (hk : (Lit.int .i64 k).wf = true)
  (hK : ∀ w',MapI w' b (n + 1) (upd m c k) → w.grownBy w' (some b) → wpList Try.prog ops Q rest (a.put o.dst undef) w') : wpList Try.prog ops Q (o :: rest) a w:=by
 refine wpList_plain hg fun K' hK'=>?_
 obtain ⟨w',hrun,r1,r2⟩:=mapI_update h hn hc hk
 unfold Oper.wp
 simp [execOp,hop,hm,hx,hv,hrun,Result.andThen]
 exact hK' _ _ (hK w' r1 r2)
end
end Go.Proofs.Ytbpccdbkaiigcaa.G

/- The search by breadth, as a pure function, and what the walks hold of the world while they search. -/
namespace Go.Proofs.Ytbpccdbkaiigcaa.G
open Go.RowKit Go.Proofs.YtbpccdbkaiigcaaW.PrintWords Go.Proofs.YtbpccdbkaiigcaaW.PrintLast Go.Proofs.YtbpccdbkaiigcaaW.PrintMore
set_option linter.unusedVariables false
set_option linter.unusedSimpArgs false
/-- The neighbours of a cell, one behind another: what is new is noted and stands in line. -/
def stepIn (x : Int) : List S48 → Mp → List S48 → Mp × List S48
 | [],m,q=>(m,q)
 | d :: ds,m,q=>match m d with
  | some _=>stepIn x ds m q
  | none=>stepIn x ds (upd m d x) (q ++ [d])
def bfs (nb : S48 → List S48) : Nat → Mp → List S48 → Option Mp
 | 0,_,_=>none
 | _ + 1,m,[]=>some m
 | k + 1,m,c :: q=>match m c with
  | none=>none
  | some v=>if q.length < 1000 ∧ 0 ≤ v ∧ v < 1000 then bfs nb k (stepIn (v + 1) (nb c) m q).1 (stepIn (v + 1) (nb c) m q).2 else none
theorem stepIn_some {x : Int} {d : S48} {ds : List S48} {m : Mp} {q : List S48} {v : Int} (h : m d = some v) : stepIn x (d :: ds) m q = stepIn x ds m q:=by rw [stepIn,h]
theorem stepIn_none {x : Int} {d : S48} {ds : List S48} {m : Mp} {q : List S48} (h : m d = none) : stepIn x (d :: ds) m q = stepIn x ds (upd m d x) (q ++ [d]):=by rw [stepIn,h]
theorem drop48 (ds : List S48) (x : Int) (h0 : 0 ≤ x) (h1 : x < (ds.length : Int)) : ds.drop x.toNat = rd_T48 ds x :: ds.drop (x + 1).toNat:=by
 unfold rd_T48
 rw [List.getD_eq_getElem?_getD,List.getElem?_eq_getElem (by omega),show (x + 1).toNat = x.toNat + 1 from by omega]
 exact List.drop_eq_getElem_cons (by omega)
theorem mem48 (ds : List S48) (x : Int) (h0 : 0 ≤ x) (h1 : x < (ds.length : Int)) : rd_T48 ds x ∈ ds:=by
 unfold rd_T48
 rw [List.getD_eq_getElem?_getD,List.getElem?_eq_getElem (by omega)]
 exact List.getElem_mem _
/-- What the search's walk holds of the world. -/
structure SF (w0 w : World) (fc : Array Value) (g2 b n : Nat) (m : Mp) (v6 : Value) (l : List S48) (vn : Value) (ds : List S48) : Prop where
 fl : w.heap[g2]? = some (.cells fc 29 (0,0))
 mp : MapI w b n m
 mb : w0.heap.size ≤ b
 gb : w0.heap.size ≤ g2
 ln : Kd.Q k48 48 w w0.heap.size (fun k=>k ≠ b ∧ k ≠ g2) v6 l
 nb : Kd.R k48 48 w w0.heap.size (fun k=>(k ≠ b ∧ k ≠ g2) ∧ some k ≠ v6.ownBlock) vn ds
 bl : Below w0.heap.size w0 w
theorem SF.below {w0 w w1 : World} {fc : Array Value} {g2 b n : Nat} {m : Mp} {v6 vn : Value} {l ds : List S48} (h : SF w0 w fc g2 b n m v6 l vn ds) (hb : Below w.heap.size w w1) : SF w0 w1 fc g2 b n m v6 l vn ds :=
 ⟨blk_below h.fl hb,h.mp.below hb,h.mb,h.gb,Kd.Q_below h.ln hb,Kd.R_below h.nb hb,below_step h.bl hb⟩
theorem SF.put {w0 w w1 : World} {fc : Array Value} {g2 b n n' : Nat} {m m' : Mp} {v6 vn : Value} {l ds : List S48} (h : SF w0 w fc g2 b n m v6 l vn ds) (hm : MapI w1 b n' m') (hg : w.grownBy w1 (some b)) : SF w0 w1 fc g2 b n' m' v6 l vn ds :=
 ⟨(hg.block g2 (blk_lt h.fl) (fun e=>h.mp.cells h.fl (Option.some.inj e).symm)).trans h.fl,hm,h.mb,h.gb,Kd.Q_grown h.ln hg (fun k hk e=>hk.1 (Option.some.inj e)),Kd.R_grown h.nb hg (fun k hk e=>hk.1.1 (Option.some.inj e)),h.bl.grown hg h.bl.size (fun k hk=>by cases hk;exact h.mb)⟩
theorem SF.app {w0 w w1 : World} {fc : Array Value} {g2 b n : Nat} {m : Mp} {v6 v7 vn : Value} {l l' ds : List S48} (h : SF w0 w fc g2 b n m v6 l vn ds) (hq : Kd.Q k48 48 w1 w0.heap.size (fun k=>k ≠ b ∧ k ≠ g2) v7 l') (hb : Below w0.heap.size w0 w1) (hg : w.grownBy w1 v6.ownBlock) (hat : v7.ownBlock = v6.ownBlock ∨ ∃ b,v7.ownBlock = some b ∧ w.heap.size ≤ b) : SF w0 w1 fc g2 b n m v7 l' vn ds :=
 ⟨(hg.block g2 (blk_lt h.fl) (Kd.Q_ne h.ln h.fl (by decide))).trans h.fl,h.mp.grown hg (Kd.Q_away h.ln (fun k hk=>hk.1)),h.mb,h.gb,hq,Kd.R_after h.nb hg hat,hb⟩
/-- The neighbours have come: their list is a new one. -/
theorem SF.near {w0 w w1 : World} {fc : Array Value} {g2 b n : Nat} {m : Mp} {v6 vn vn' : Value} {l ds ds' : List S48} (h : SF w0 w fc g2 b n m v6 l vn ds) (hb : Below w.heap.size w w1) (hr : Kd.R k48 48 w1 w.heap.size (fun _=>True) vn' ds') : SF w0 w1 fc g2 b n m v6 l vn' ds' :=
 have h':=h.below hb
 ⟨h'.fl,h'.mp,h.mb,h.gb,h'.ln,Kd.R_lower (Kd.R_mono (Kd.R_bound hr) (fun k hk=>⟨⟨fun e=>by have:=h.mp.lt;have:=hk.2.1;omega,fun e=>by have:=blk_lt h.fl;have:=hk.2.1;omega⟩,fun e=>by have:=Kd.Q_lt h.ln k e.symm;have:=hk.2.1;omega⟩)) h.bl.size,h'.bl⟩
theorem SF.next {w0 w : World} {fc : Array Value} {g2 b n : Nat} {m : Mp} {A : Option Addr} {nn c : Nat} {vn : Value} {x : S48} {l ds : List S48} (h : SF w0 w fc g2 b n m (.slice A nn c) (x :: l) vn ds) : SF w0 w fc g2 b n m (.slice (if c = 1 then A else A.map (·.add (1 * 2))) (nn - 1) (c - 1)) l (.slice none 0 0) [] :=
 ⟨h.fl,h.mp,h.mb,h.gb,Kd.Q_drop (k:=1) h.ln (by simp),Kd.R_nil _ _ _ _ _,h.bl⟩
end Go.Proofs.Ytbpccdbkaiigcaa.G
