/- Texts of the proof of FnExactShortestPath, joined in build order. -/
import Derived.Test.YtbpccdbkaiigcaaMgFnExactShortestPath1
import Derived.Test.YtbpccdbkaiigcaaMgFnExactShortestPath2
-- Written by wip/tools/gen.py out of the translation (the kit's printer, one namespace a seat). Lean checks it.
namespace Go.Proofs.Ytbpccdbkaiigcaa.G
open Go.RowKit Go.Proofs.YtbpccdbkaiigcaaW.PrintWords Go.Proofs.YtbpccdbkaiigcaaW.PrintLast Go.Proofs.YtbpccdbkaiigcaaW.PrintMore
attribute [local go_sem] max2_int min2_int max_two min_two max_three min_three max_four min_four   -- for this text's walks alone
set_option linter.unusedVariables false
set_option linter.unusedSimpArgs false

/-! ### impl_around: function 70 -/
def impl_around.l0:Nat → List (S48) → List (S48) → Int → Int → Int → Int → List (S48) → Int → Int → Option ((List (S48)))
 | 0,_,_,_,_,_,_,_,_,_=>none
 | k + 1,x5,x15,x16,x17,x441000,x441001,x441002,x442000,x442001=>if x17 < x16 then (if 0 ≤ x17 then (if x17 < (x15.length:Int) then ((impl_isFree.f k x441000 x441001 x441002 (wrap64 (x442000 + ((rd_T48 x15 x17).f0))) (wrap64 (x442001 + ((rd_T48 x15 x17).f1)))).bind fun t451=>(if t451 = true then (if x5.length < 8796093022208 then (impl_around.l0 k (x5 ++ [(⟨wrap64 (x442000 + ((rd_T48 x15 x17).f0)),wrap64 (x442001 + ((rd_T48 x15 x17).f1))⟩ : S48)]) x15 x16 (wrap64 (x17 + 1)) x441000 x441001 x441002 x442000 x442001) else (none)) else (impl_around.l0 k x5 x15 x16 (wrap64 (x17 + 1)) x441000 x441001 x441002 x442000 x442001))) else (none)) else (none)) else (some x5)
def impl_around.f (k:Nat) (a0_0:Int) (a0_1:Int) (l0_2:List (S48)) (a1_0:Int) (a1_1:Int):Option ((List (S48))):=(some (([(⟨0,(-1)⟩ : S48),(⟨(-1),0⟩ : S48),(⟨0,0⟩ : S48),(⟨1,0⟩ : S48),(⟨0,1⟩ : S48)]:List (S48)):List (S48))).bind fun y445=>(impl_around.l0 k (([]:List (S48))) y445 (y445.length:Int) 0 a0_0 a0_1 l0_2 a1_0 a1_1)
set_option maxHeartbeats 8000000 in
set_option maxRecDepth 100000 in
theorem impl_around.calls (k:Nat) (a0_0:Int) (a0_1:Int) (A0_2:Option Addr) (c0_2:Nat) (l0_2:List (S48)) (a1_0:Int) (a1_1:Int) (r:List (S48)) (w:World) (hr0_2:Kd.C k48 w A0_2 l0_2.length l0_2) (hc0_2:l0_2.length ≤ c0_2) (h:impl_around.f k a0_0 a0_1 l0_2 a1_0 a1_1 = some r) :
  Calls Try.prog 70 #[.agg #[.int .i64 a0_0,.int .i64 a0_1,.slice A0_2 l0_2.length c0_2],.agg #[.int .i64 a1_0,.int .i64 a1_1]] w fun e w' => ∃ v0_:Value,e = .returned (v0_) ∧ Kd.R k48 48 w' w.heap.size (fun _=>True) v0_ r ∧ Below w.heap.size w w':=by
 have hu29:=Try.underlying29;have hu48:=Try.underlying48;have HR0_2:=zM hr0_2;have HC0_2:=zM hc0_2;clear hr0_2 hc0_2;have HB:=zM (Below.refl w.heap.size w);have H:((some (([(⟨0,(-1)⟩ : S48),(⟨(-1),0⟩ : S48),(⟨0,0⟩ : S48),(⟨1,0⟩ : S48),(⟨0,1⟩ : S48)]:List (S48)):List (S48))).bind fun y445=>(impl_around.l0 k (([]:List (S48))) y445 (y445.length:Int) 0 a0_0 a0_1 l0_2 a1_0 a1_1)) = some r:=h
 clear h;obtain ⟨y442,hy442⟩ : ∃ y_:List (S48),y_ = (([]:List (S48))):=⟨_,rfl⟩
 replace H:((some (([(⟨0,(-1)⟩ : S48),(⟨(-1),0⟩ : S48),(⟨0,0⟩ : S48),(⟨1,0⟩ : S48),(⟨0,1⟩ : S48)]:List (S48)):List (S48))).bind fun y445=>(impl_around.l0 k y442 y445 (y445.length:Int) 0 a0_0 a0_1 l0_2 a1_0 a1_1)) = some r:=by first|(rw [hy442];with_reducible exact H)|(have H2_:=(Option.bind_some _ _).symm.trans H;rw [hy442];with_reducible exact H2_)|(have H2_:=(Option.bind_some _ _).symm.trans H;with_reducible exact H2_)|with_reducible exact H|(rw [hy442];exact H)|exact H
 have Ny442:=zM hy442;clear hy442;obtain ⟨y445,hy445⟩ : ∃ y_:List (S48),y_ = (([(⟨0,(-1)⟩ : S48),(⟨(-1),0⟩ : S48),(⟨0,0⟩ : S48),(⟨1,0⟩ : S48),(⟨0,1⟩ : S48)]:List (S48))):=⟨_,rfl⟩
 replace H:(impl_around.l0 k y442 y445 (y445.length:Int) 0 a0_0 a0_1 l0_2 a1_0 a1_1) = some r:=by first|(rw [hy445];with_reducible exact H)|(have H2_:=(Option.bind_some _ _).symm.trans H;rw [hy445];with_reducible exact H2_)|(have H2_:=(Option.bind_some _ _).symm.trans H;with_reducible exact H2_)|with_reducible exact H|(rw [hy445];exact H)|exact H
 have Ny445:=zM hy445;clear hy445;have H':=zM H;clear H;go_enter Try.func70,Try.ntmps70
 go_wp2_with (first|((with_reducible refine gate_dst (N:=2) rfl ?_);refine box_event ?hg (N:=2) ?hd (cs := #[.int .i64 a0_0,.int .i64 a0_1,.slice A0_2 l0_2.length c0_2]) (t:=29) ?hr ?_;(case hd=>rfl);(case hg=>rfl);(case hr=>first|(go_simp;done)|(go_simp;rfl));intro gb440 hg w3 hbox hb;have n0_:=zM (zQ (by repeat (first|(with_reducible first|exact HB.out|apply zD|apply zE|apply zF)|exact HB.out)) hb);have n1_:=zM (hbox);have n2_:=zM ((by rw [hg];exact (zR (by repeat (first|(with_reducible first|exact HB.out|apply zD|apply zE|apply zF)|exact HB.out))):w.heap.size ≤ gb440));have n3_:=zM ((by rw [hg];exact (zR (by repeat (first|(with_reducible first|exact HB.out|apply zD|apply zE|apply zF)|exact HB.out))):w.heap.size ≤ gb440));clear HB;have HB:=n0_;have BK440:=n1_;have GW440:=n2_;have GE440:=n3_;clear n0_ n1_ n2_ n3_;clear hb hbox hg)|((with_reducible refine gate_dst (N:=3) rfl ?_);refine box_event ?hg (N:=3) ?hd (cs := #[.int .i64 a1_0,.int .i64 a1_1]) (t:=48) ?hr ?_;(case hd=>rfl);(case hg=>rfl);(case hr=>first|(go_simp;done)|(go_simp;rfl));intro gb441 hg w4 hbox hb;have n0_:=zM (blk_below (g:=gb440) (o := .cells #[.int .i64 a0_0,.int .i64 a0_1,.slice A0_2 l0_2.length c0_2] 29 (0,0)) (by (with_reducible repeat (first|refine zJ ?_ _|refine zK ?_|refine zL ?_ _));exact BK440.out) hb);have n1_:=zM (zQ (by repeat (first|(with_reducible first|exact HB.out|apply zD|apply zE|apply zF|refine below_set ?_ GE440.out)|exact HB.out)) hb);have n2_:=zM (hbox);have n3_:=zM ((by rw [hg];exact (zR (by repeat (first|(with_reducible first|exact HB.out|apply zD|apply zE|apply zF|refine below_set ?_ GE440.out)|exact HB.out))):w.heap.size ≤ gb441));have n4_:=zM ((by rw [hg];exact (zR (by repeat (first|(with_reducible first|exact HB.out|apply zD|apply zE|apply zF|refine below_set ?_ GE440.out)|exact HB.out))):w.heap.size ≤ gb441));have n5_:=zM ((by rw [hg];exact Nat.ne_of_lt (blk_lt (g:=gb440) (o := .cells #[.int .i64 a0_0,.int .i64 a0_1,.slice A0_2 l0_2.length c0_2] 29 (0,0)) (by (with_reducible repeat (first|refine zJ ?_ _|refine zK ?_|refine zL ?_ _));exact BK440.out)):gb440 ≠ gb441));have n6_:=zM ((by rw [hg];exact Nat.ne_of_gt (blk_lt (g:=gb440) (o := .cells #[.int .i64 a0_0,.int .i64 a0_1,.slice A0_2 l0_2.length c0_2] 29 (0,0)) (by (with_reducible repeat (first|refine zJ ?_ _|refine zK ?_|refine zL ?_ _));exact BK440.out)):gb441 ≠ gb440));clear BK440;clear HB;have BK440:=n0_;have HB:=n1_;have BK441:=n2_;have GW441:=n3_;have GE441:=n4_;have NB440_441:=n5_;have NB441_440:=n6_;clear n0_ n1_ n2_ n3_ n4_ n5_ n6_;clear hb hbox hg)|((with_reducible refine gate_dst (N:=9) rfl ?_);refine Kd.R_lit k48 _ 48 ?hg (N:=9) ?hd (xs:=([]:List (S48))) (inner:=[]) (ok:=fun _=>True) (okp:=fun _=>True) ?hr ?hp (fun _ hk=>hk) trivial (Below.refl _ _) (Nat.le_refl _) (by simp) ?_;(case hd=>rfl);(case hg=>rfl);(case hr=>first|(go_simp;done)|(go_simp;rfl));(case hp=>exact (Reps.none _ _));intro v443 w5 ho6 hb hg_ hnew_;clear hg_ hnew_;(first|rw [← Ny442.out] at ho6|(simp only [Int.reduceToNat] at ho6;rw [← Ny442.out] at ho6));have n0_:=zM (Kd.R_lower (Kd.R_newB ho6 (g:=gb441) (o := .cells #[.int .i64 a1_0,.int .i64 a1_1] 48 (0,0)) (by (with_reducible repeat (first|refine zJ ?_ _|refine zK ?_|refine zL ?_ _));exact BK441.out)) (zR (by repeat (first|(with_reducible first|exact HB.out|apply zD|apply zE|apply zF|refine below_set ?_ GE440.out|refine below_set ?_ GE441.out)|exact HB.out))));have n1_:=zM (blk_below (g:=gb440) (o := .cells #[.int .i64 a0_0,.int .i64 a0_1,.slice A0_2 l0_2.length c0_2] 29 (0,0)) (by (with_reducible repeat (first|refine zJ ?_ _|refine zK ?_|refine zL ?_ _));exact BK440.out) hb);have n2_:=zM (blk_below (g:=gb441) (o := .cells #[.int .i64 a1_0,.int .i64 a1_1] 48 (0,0)) (by (with_reducible repeat (first|refine zJ ?_ _|refine zK ?_|refine zL ?_ _));exact BK441.out) hb);have n3_:=zM (zQ (by repeat (first|(with_reducible first|exact HB.out|apply zD|apply zE|apply zF|refine below_set ?_ GE440.out|refine below_set ?_ GE441.out)|exact HB.out)) hb);clear BK440;clear BK441;clear HB;have HO444:=n0_;have BK440:=n1_;have BK441:=n2_;have HB:=n3_;clear n0_ n1_ n2_ n3_;clear hb ho6)|((with_reducible refine gate_dst (N:=15) rfl ?_);refine Kd.R_lit k48 _ 48 ?hg (N:=15) ?hd (xs:=([(⟨0,(-1)⟩ : S48),(⟨(-1),0⟩ : S48),(⟨0,0⟩ : S48),(⟨1,0⟩ : S48),(⟨0,1⟩ : S48)]:List (S48))) (inner:=[.int .i64 0,.int .i64 (-1),.int .i64 (-1),.int .i64 0,.int .i64 0,.int .i64 0,.int .i64 1,.int .i64 0,.int .i64 0,.int .i64 1]) (ok:=fun _=>True) (okp:=fun _=>True) ?hr ?hp (fun _ hk=>hk) trivial (Below.refl _ _) (Nat.le_refl _) (by simp) ?_;(case hd=>rfl);(case hg=>rfl);(case hr=>first|(go_simp;done)|(go_simp;rfl));(case hp=>exact (Reps.c2 (show Kd.M k48 _ _ _ (⟨0,(-1)⟩ : S48) [.int .i64 0,.int .i64 (-1)] from (k48_mkM _ _ _ (⟨0,(-1)⟩ : S48) )) (Reps.c2 (show Kd.M k48 _ _ _ (⟨(-1),0⟩ : S48) [.int .i64 (-1),.int .i64 0] from (k48_mkM _ _ _ (⟨(-1),0⟩ : S48) )) (Reps.c2 (show Kd.M k48 _ _ _ (⟨0,0⟩ : S48) [.int .i64 0,.int .i64 0] from (k48_mkM _ _ _ (⟨0,0⟩ : S48) )) (Reps.c2 (show Kd.M k48 _ _ _ (⟨1,0⟩ : S48) [.int .i64 1,.int .i64 0] from (k48_mkM _ _ _ (⟨1,0⟩ : S48) )) (Reps.c2 (show Kd.M k48 _ _ _ (⟨0,1⟩ : S48) [.int .i64 0,.int .i64 1] from (k48_mkM _ _ _ (⟨0,1⟩ : S48) )) (Reps.none _ _)))))));intro v446 w7 ho8 hb hg_ hnew_;clear hg_ hnew_;(first|rw [← Ny445.out] at ho8|(simp only [Int.reduceToNat] at ho8;rw [← Ny445.out] at ho8));have n0_:=zM (Kd.R_elder' (by (with_reducible repeat (first|apply zA|apply zB|apply zC));exact HO444.out) (Kd.R_base ho8) hb);have n1_:=zM (Kd.R_lower (Kd.R_newB (Kd.R_new' ho8 (Kd.R_lt (by (with_reducible repeat (first|apply zA|apply zB|apply zC));exact HO444.out))) (g:=gb441) (o := .cells #[.int .i64 a1_0,.int .i64 a1_1] 48 (0,0)) (by (with_reducible repeat (first|refine zJ ?_ _|refine zK ?_|refine zL ?_ _));exact BK441.out)) (zR (by repeat (first|(with_reducible first|exact HB.out|apply zD|apply zE|apply zF|refine below_set ?_ GE440.out|refine below_set ?_ GE441.out)|exact HB.out))));have n2_:=zM (blk_below (g:=gb440) (o := .cells #[.int .i64 a0_0,.int .i64 a0_1,.slice A0_2 l0_2.length c0_2] 29 (0,0)) (by (with_reducible repeat (first|refine zJ ?_ _|refine zK ?_|refine zL ?_ _));exact BK440.out) hb);have n3_:=zM (blk_below (g:=gb441) (o := .cells #[.int .i64 a1_0,.int .i64 a1_1] 48 (0,0)) (by (with_reducible repeat (first|refine zJ ?_ _|refine zK ?_|refine zL ?_ _));exact BK441.out) hb);have n4_:=zM (zQ (by repeat (first|(with_reducible first|exact HB.out|apply zD|apply zE|apply zF|refine below_set ?_ GE440.out|refine below_set ?_ GE441.out)|exact HB.out)) hb);clear HO444;clear BK440;clear BK441;clear HB;have HO444:=n0_;have HO447:=n1_;have BK440:=n2_;have BK441:=n3_;have HB:=n4_;clear n0_ n1_ n2_ n3_ n4_;clear hb ho8;obtain ⟨Ao9,co9,eo9⟩:=Kd.R_slice HO447.out;subst eo9))
 go_loopg [5,17] k (fun kq v5 v17 w' => ∃ (x5_1:List (S48)) (x17_1:Int),v17 = .int .i64 x17_1 ∧ Aside0 (impl_around.l0 kq x5_1 y445 (y445.length:Int) x17_1 a0_0 a0_1 l0_2 a1_0 a1_1 = some r) ∧ Aside0 (kq ≤ k) ∧ Aside0 (Kd.R k48 48 w' w.heap.size (fun k_=>some k_ ≠ ((.slice Ao9 y445.length co9):Value).ownBlock ∧ k_ ≠ gb441) v5 x5_1) ∧ Aside0 (Kd.R k48 48 w' w.heap.size (fun k_=>some k_ ≠ (v5:Value).ownBlock ∧ k_ ≠ gb441) (.slice Ao9 y445.length co9) y445) ∧ Aside0 (w'.heap[gb440]? = some (.cells #[.int .i64 a0_0,.int .i64 a0_1,(.slice A0_2 l0_2.length c0_2)] 29 (0,0))) ∧ Aside0 (w'.heap[gb441]? = some (.cells #[.int .i64 a1_0,.int .i64 a1_1] 48 (0,0))) ∧ Aside0 (Below w.heap.size w w'))
 case atStart=>exact ⟨(y442),(0),(by first|rfl|(simp;done)|(simp [*];done)),H',⟨Nat.le_refl _⟩,⟨by (with_reducible repeat (first|apply zA|apply zB|apply zC));exact Kd.R_mono HO444.out (fun _ hk=>⟨hk.2,hk.1.2⟩)⟩,⟨by (with_reducible repeat (first|apply zA|apply zB|apply zC));exact Kd.R_mono HO447.out (fun _ hk=>⟨hk.1.2,hk.2⟩)⟩,⟨by (with_reducible repeat (first|refine zJ ?_ _|refine zK ?_|refine zL ?_ _));exact BK440.out⟩,⟨by (with_reducible repeat (first|refine zJ ?_ _|refine zK ?_|refine zL ?_ _));exact BK441.out⟩,⟨by repeat (first|(with_reducible first|exact HB.out|apply zD|apply zE|apply zF|refine below_set ?_ GE440.out|refine below_set ?_ GE441.out)|exact HB.out)⟩⟩
 case round =>
  clear H';(try clear c2);(try clear p2);(try clear c7);obtain ⟨x5_1,x17_1,rfl,HA,HK1,HO_5,HO_15,BK440,BK441,HB⟩:=hrel;cases gk with
  | zero=>exact absurd HA.out (by simp [impl_around.l0])
  | succ k1 =>
   have H:=HA.out;clear HA;simp only [impl_around.l0] at H
   by_cases c10:x17_1 < (y445.length:Int)
   ·rw [if_pos c10] at H
    have c10b0:decide (x17_1 < (y445.length:Int)) = true:=decide_eq_true c10
    clear c10;by_cases c11:0 ≤ x17_1
    ·rw [if_pos c11] at H
     have c11b0:decide (0 ≤ x17_1) = true:=decide_eq_true c11
     clear c11;by_cases c12:x17_1 < (y445.length:Int)
     ·rw [if_pos c12] at H
      have c12b0:decide (x17_1 < (y445.length:Int)) = true:=decide_eq_true c12
      clear c12;replace H:=Option.bind_eq_some_iff.mp H;obtain ⟨t451,A130,H⟩:=H;replace H:(if t451 = true then (if x5_1.length < 8796093022208 then (impl_around.l0 k1 (x5_1 ++ [(⟨wrap64 (a1_0 + ((rd_T48 y445 x17_1).f0)),wrap64 (a1_1 + ((rd_T48 y445 x17_1).f1))⟩ : S48)]) y445 (y445.length:Int) (wrap64 (x17_1 + 1)) a0_0 a0_1 l0_2 a1_0 a1_1) else (none)) else (impl_around.l0 k1 x5_1 y445 (y445.length:Int) (wrap64 (x17_1 + 1)) a0_0 a0_1 l0_2 a1_0 a1_1)) = some r:=H
      have A13:=zM A130;clear A130;by_cases c14:t451 = true
      ·subst c14
       have H1:(if x5_1.length < 8796093022208 then (impl_around.l0 k1 (x5_1 ++ [(⟨wrap64 (a1_0 + ((rd_T48 y445 x17_1).f0)),wrap64 (a1_1 + ((rd_T48 y445 x17_1).f1))⟩ : S48)]) y445 (y445.length:Int) (wrap64 (x17_1 + 1)) a0_0 a0_1 l0_2 a1_0 a1_1) else (none)) = some r:=by rw [if_pos rfl] at H;exact H
       clear H;have H:=H1;clear H1;by_cases c15:x5_1.length < 8796093022208
       ·rw [if_pos c15] at H
        have LMc15:=zM c15;clear c15;obtain ⟨y452,hy452⟩ : ∃ y_:List (S48),y_ = (x5_1 ++ [(⟨wrap64 (a1_0 + ((rd_T48 y445 x17_1).f0)),wrap64 (a1_1 + ((rd_T48 y445 x17_1).f1))⟩ : S48)]):=⟨_,rfl⟩
        replace H:(impl_around.l0 k1 y452 y445 (y445.length:Int) (wrap64 (x17_1 + 1)) a0_0 a0_1 l0_2 a1_0 a1_1) = some r:=by first|(rw [hy452];with_reducible exact H)|(have H2_:=(Option.bind_some _ _).symm.trans H;rw [hy452];with_reducible exact H2_)|(have H2_:=(Option.bind_some _ _).symm.trans H;with_reducible exact H2_)|with_reducible exact H|(rw [hy452];exact H)|exact H
        have Ny452:=zM hy452;clear hy452;have H':=zM H;clear H;have p448:0 ≤ (x17_1:Int):=of_decide_eq_true (by first|(with_reducible assumption)|assumption)
        have q448:x17_1 < (y445.length:Int):=of_decide_eq_true (by first|(with_reducible assumption)|assumption)
        obtain ⟨ad448,e448,hx448_0,hx448_1⟩:=at_T48 (zN HO_15.out).2.2 x17_1 p448 q448;cases e448
        replace p448:=eq_true p448;replace q448:=eq_true q448;go_wp2_with (first|((with_reducible refine gate_dst (N:=7) rfl ?_);refine box_event ?hg (N:=7) ?hd (cs := #[.int .i64 0,.int .i64 0]) (t:=48) ?hr ?_;(case hd=>rfl);(case hg=>rfl);(case hr=>first|(go_simp;done)|(go_simp;rfl));intro gb449 hg w16 hbox hb;have n0_:=zM (zP (Kd.R_elderB (by (with_reducible repeat (first|apply zA|apply zB|apply zC));exact HO_5.out) gb449 (Nat.le_of_eq hg.symm)) hb);have n1_:=zM (zP (Kd.R_elderB (by (with_reducible repeat (first|apply zA|apply zB|apply zC));exact HO_15.out) gb449 (Nat.le_of_eq hg.symm)) hb);have n2_:=zM (blk_below (g:=gb440) (o := .cells #[.int .i64 a0_0,.int .i64 a0_1,.slice A0_2 l0_2.length c0_2] 29 (0,0)) (by (with_reducible repeat (first|refine zJ ?_ _|refine zK ?_|refine zL ?_ _));exact BK440.out) hb);have n3_:=zM (blk_below (g:=gb441) (o := .cells #[.int .i64 a1_0,.int .i64 a1_1] 48 (0,0)) (by (with_reducible repeat (first|refine zJ ?_ _|refine zK ?_|refine zL ?_ _));exact BK441.out) hb);have n4_:=zM (zQ (by repeat (first|(with_reducible first|exact HB.out|apply zD|apply zE|apply zF|refine below_set ?_ GE440.out|refine below_set ?_ GE441.out)|exact HB.out)) hb);have n5_:=zM (hbox);have n6_:=zM ((by rw [hg];exact (zR (by repeat (first|(with_reducible first|exact HB.out|apply zD|apply zE|apply zF|refine below_set ?_ GE440.out|refine below_set ?_ GE441.out)|exact HB.out))):w.heap.size ≤ gb449));have n7_:=zM ((by rw [hg];exact (zR (by repeat (first|(with_reducible first|exact HB.out|apply zD|apply zE|apply zF|refine below_set ?_ GE440.out|refine below_set ?_ GE441.out)|exact HB.out))):w.heap.size ≤ gb449));have n8_:=zM ((by rw [hg];exact Nat.ne_of_lt (blk_lt (g:=gb440) (o := .cells #[.int .i64 a0_0,.int .i64 a0_1,.slice A0_2 l0_2.length c0_2] 29 (0,0)) (by (with_reducible repeat (first|refine zJ ?_ _|refine zK ?_|refine zL ?_ _));exact BK440.out)):gb440 ≠ gb449));have n9_:=zM ((by rw [hg];exact Nat.ne_of_gt (blk_lt (g:=gb440) (o := .cells #[.int .i64 a0_0,.int .i64 a0_1,.slice A0_2 l0_2.length c0_2] 29 (0,0)) (by (with_reducible repeat (first|refine zJ ?_ _|refine zK ?_|refine zL ?_ _));exact BK440.out)):gb449 ≠ gb440));have n10_:=zM ((by rw [hg];exact Nat.ne_of_lt (blk_lt (g:=gb441) (o := .cells #[.int .i64 a1_0,.int .i64 a1_1] 48 (0,0)) (by (with_reducible repeat (first|refine zJ ?_ _|refine zK ?_|refine zL ?_ _));exact BK441.out)):gb441 ≠ gb449));have n11_:=zM ((by rw [hg];exact Nat.ne_of_gt (blk_lt (g:=gb441) (o := .cells #[.int .i64 a1_0,.int .i64 a1_1] 48 (0,0)) (by (with_reducible repeat (first|refine zJ ?_ _|refine zK ?_|refine zL ?_ _));exact BK441.out)):gb449 ≠ gb441));clear HO_5;clear HO_15;clear BK440;clear BK441;clear HB;have HO_5:=n0_;have HO_15:=n1_;have BK440:=n2_;have BK441:=n3_;have HB:=n4_;have BK449:=n5_;have GW449:=n6_;have GE449:=n7_;have NB440_449:=n8_;have NB449_440:=n9_;have NB441_449:=n10_;have NB449_441:=n11_;clear n0_ n1_ n2_ n3_ n4_ n5_ n6_ n7_ n8_ n9_ n10_ n11_;clear hb hbox hg;have hnb17:=NB449_440.out;have hnc17:=NB440_449.out;have hnb18:=NB449_441.out;have hnc18:=NB441_449.out;have hcz19_0:w16.cell? ⟨gb449,0,none⟩ = some (.int .i64 0):=(blk_cell BK449.out 0).trans rfl;have hcz19_1:w16.cell? ⟨gb449,1,none⟩ = some (.int .i64 0):=(blk_cell BK449.out 1).trans rfl;have hfz19_0:=blk_frozen BK449.out 0;have hfz19_1:=blk_frozen BK449.out 1;have hnb20:=NB441_440.out;have hnc20:=NB440_441.out;have hcz21_0:w16.cell? ⟨gb441,0,none⟩ = some (.int .i64 a1_0):=(blk_cell BK441.out 0).trans rfl;have hcz21_1:w16.cell? ⟨gb441,1,none⟩ = some (.int .i64 a1_1):=(blk_cell BK441.out 1).trans rfl;have hfz21_0:=blk_frozen BK441.out 0;have hfz21_1:=blk_frozen BK441.out 1)|((with_reducible refine gate_dst (N:=8) rfl ?_);refine box_event ?hg (N:=8) ?hd (cs := #[.int .i64 0,.int .i64 0]) (t:=48) ?hr ?_;(case hd=>rfl);(case hg=>rfl);(case hr=>first|(go_simp;done)|(go_simp;rfl));intro gb450 hg w22 hbox hb;have n0_:=zM (zP (Kd.R_elderB (by (with_reducible repeat (first|apply zA|apply zB|apply zC));exact (Kd.R_mono (Kd.R_far (p:=⟨gb449,1,none⟩) (Kd.R_far (p:=⟨gb449,0,none⟩) (Kd.R_mono HO_5.out (fun k_ hk=>(⟨hk,hk.2⟩ : _ ∧ k_ ≠ gb449))) (fun _ hk=>hk.2) (.int .i64 ((rd_T48 y445 x17_1).f0))) (fun _ hk=>hk.2) (.int .i64 ((rd_T48 y445 x17_1).f1))) (fun _ h_=>h_.1))) gb450 (Nat.le_of_eq hg.symm)) hb);have n1_:=zM (zP (Kd.R_elderB (by (with_reducible repeat (first|apply zA|apply zB|apply zC));exact (Kd.R_mono (Kd.R_far (p:=⟨gb449,1,none⟩) (Kd.R_far (p:=⟨gb449,0,none⟩) (Kd.R_mono HO_15.out (fun k_ hk=>(⟨hk,hk.2⟩ : _ ∧ k_ ≠ gb449))) (fun _ hk=>hk.2) (.int .i64 ((rd_T48 y445 x17_1).f0))) (fun _ hk=>hk.2) (.int .i64 ((rd_T48 y445 x17_1).f1))) (fun _ h_=>h_.1))) gb450 (Nat.le_of_eq hg.symm)) hb);have n2_:=zM (blk_below (g:=gb440) (o := .cells #[.int .i64 a0_0,.int .i64 a0_1,.slice A0_2 l0_2.length c0_2] 29 (0,0)) (by (with_reducible repeat (first|refine zJ ?_ _|refine zK ?_|refine zL ?_ _));refine blk_far ?_ NB440_449.out _;(with_reducible repeat (first|refine zJ ?_ _|refine zK ?_|refine zL ?_ _));refine blk_far ?_ NB440_449.out _;(with_reducible repeat (first|refine zJ ?_ _|refine zK ?_|refine zL ?_ _));exact BK440.out) hb);have n3_:=zM (blk_below (g:=gb441) (o := .cells #[.int .i64 a1_0,.int .i64 a1_1] 48 (0,0)) (by (with_reducible repeat (first|refine zJ ?_ _|refine zK ?_|refine zL ?_ _));refine blk_far ?_ NB441_449.out _;(with_reducible repeat (first|refine zJ ?_ _|refine zK ?_|refine zL ?_ _));refine blk_far ?_ NB441_449.out _;(with_reducible repeat (first|refine zJ ?_ _|refine zK ?_|refine zL ?_ _));exact BK441.out) hb);have n4_:=zM (blk_below (g:=gb449) (o := .cells #[.int .i64 ((rd_T48 y445 x17_1).f0),.int .i64 ((rd_T48 y445 x17_1).f1)] 48 (0,0)) (by (with_reducible repeat (first|refine zJ ?_ _|refine zK ?_|refine zL ?_ _));refine blk_put (cs := #[.int .i64 ((rd_T48 y445 x17_1).f0),.int .i64 0]) ?_ 1 _ rfl;(with_reducible repeat (first|refine zJ ?_ _|refine zK ?_|refine zL ?_ _));refine blk_put (cs := #[.int .i64 0,.int .i64 0]) ?_ 0 _ rfl;(with_reducible repeat (first|refine zJ ?_ _|refine zK ?_|refine zL ?_ _));exact BK449.out) hb);have n5_:=zM (zQ (by repeat (first|(with_reducible first|exact HB.out|apply zD|apply zE|apply zF|refine below_set ?_ GE440.out|refine below_set ?_ GE441.out|refine below_set ?_ GE449.out)|exact HB.out)) hb);have n6_:=zM (hbox);have n7_:=zM ((by rw [hg];exact (zR (by repeat (first|(with_reducible first|exact HB.out|apply zD|apply zE|apply zF|refine below_set ?_ GE440.out|refine below_set ?_ GE441.out|refine below_set ?_ GE449.out)|exact HB.out))):w.heap.size ≤ gb450));have n8_:=zM ((by rw [hg];exact (zR (by repeat (first|(with_reducible first|exact HB.out|apply zD|apply zE|apply zF|refine below_set ?_ GE440.out|refine below_set ?_ GE441.out|refine below_set ?_ GE449.out)|exact HB.out))):w.heap.size ≤ gb450));have n9_:=zM ((by rw [hg];exact Nat.ne_of_lt (blk_lt (g:=gb440) (o := .cells #[.int .i64 a0_0,.int .i64 a0_1,.slice A0_2 l0_2.length c0_2] 29 (0,0)) (by (with_reducible repeat (first|refine zJ ?_ _|refine zK ?_|refine zL ?_ _));refine blk_far ?_ NB440_449.out _;(with_reducible repeat (first|refine zJ ?_ _|refine zK ?_|refine zL ?_ _));refine blk_far ?_ NB440_449.out _;(with_reducible repeat (first|refine zJ ?_ _|refine zK ?_|refine zL ?_ _));exact BK440.out)):gb440 ≠ gb450));have n10_:=zM ((by rw [hg];exact Nat.ne_of_gt (blk_lt (g:=gb440) (o := .cells #[.int .i64 a0_0,.int .i64 a0_1,.slice A0_2 l0_2.length c0_2] 29 (0,0)) (by (with_reducible repeat (first|refine zJ ?_ _|refine zK ?_|refine zL ?_ _));refine blk_far ?_ NB440_449.out _;(with_reducible repeat (first|refine zJ ?_ _|refine zK ?_|refine zL ?_ _));refine blk_far ?_ NB440_449.out _;(with_reducible repeat (first|refine zJ ?_ _|refine zK ?_|refine zL ?_ _));exact BK440.out)):gb450 ≠ gb440));have n11_:=zM ((by rw [hg];exact Nat.ne_of_lt (blk_lt (g:=gb441) (o := .cells #[.int .i64 a1_0,.int .i64 a1_1] 48 (0,0)) (by (with_reducible repeat (first|refine zJ ?_ _|refine zK ?_|refine zL ?_ _));refine blk_far ?_ NB441_449.out _;(with_reducible repeat (first|refine zJ ?_ _|refine zK ?_|refine zL ?_ _));refine blk_far ?_ NB441_449.out _;(with_reducible repeat (first|refine zJ ?_ _|refine zK ?_|refine zL ?_ _));exact BK441.out)):gb441 ≠ gb450));have n12_:=zM ((by rw [hg];exact Nat.ne_of_gt (blk_lt (g:=gb441) (o := .cells #[.int .i64 a1_0,.int .i64 a1_1] 48 (0,0)) (by (with_reducible repeat (first|refine zJ ?_ _|refine zK ?_|refine zL ?_ _));refine blk_far ?_ NB441_449.out _;(with_reducible repeat (first|refine zJ ?_ _|refine zK ?_|refine zL ?_ _));refine blk_far ?_ NB441_449.out _;(with_reducible repeat (first|refine zJ ?_ _|refine zK ?_|refine zL ?_ _));exact BK441.out)):gb450 ≠ gb441));have n13_:=zM ((by rw [hg];exact Nat.ne_of_lt (blk_lt (g:=gb449) (o := .cells #[.int .i64 ((rd_T48 y445 x17_1).f0),.int .i64 ((rd_T48 y445 x17_1).f1)] 48 (0,0)) (by (with_reducible repeat (first|refine zJ ?_ _|refine zK ?_|refine zL ?_ _));refine blk_put (cs := #[.int .i64 ((rd_T48 y445 x17_1).f0),.int .i64 0]) ?_ 1 _ rfl;(with_reducible repeat (first|refine zJ ?_ _|refine zK ?_|refine zL ?_ _));refine blk_put (cs := #[.int .i64 0,.int .i64 0]) ?_ 0 _ rfl;(with_reducible repeat (first|refine zJ ?_ _|refine zK ?_|refine zL ?_ _));exact BK449.out)):gb449 ≠ gb450));have n14_:=zM ((by rw [hg];exact Nat.ne_of_gt (blk_lt (g:=gb449) (o := .cells #[.int .i64 ((rd_T48 y445 x17_1).f0),.int .i64 ((rd_T48 y445 x17_1).f1)] 48 (0,0)) (by (with_reducible repeat (first|refine zJ ?_ _|refine zK ?_|refine zL ?_ _));refine blk_put (cs := #[.int .i64 ((rd_T48 y445 x17_1).f0),.int .i64 0]) ?_ 1 _ rfl;(with_reducible repeat (first|refine zJ ?_ _|refine zK ?_|refine zL ?_ _));refine blk_put (cs := #[.int .i64 0,.int .i64 0]) ?_ 0 _ rfl;(with_reducible repeat (first|refine zJ ?_ _|refine zK ?_|refine zL ?_ _));exact BK449.out)):gb450 ≠ gb449));clear HO_5;clear HO_15;clear BK440;clear BK441;clear BK449;clear HB;have HO_5:=n0_;have HO_15:=n1_;have BK440:=n2_;have BK441:=n3_;have BK449:=n4_;have HB:=n5_;have BK450:=n6_;have GW450:=n7_;have GE450:=n8_;have NB440_450:=n9_;have NB450_440:=n10_;have NB441_450:=n11_;have NB450_441:=n12_;have NB449_450:=n13_;have NB450_449:=n14_;clear n0_ n1_ n2_ n3_ n4_ n5_ n6_ n7_ n8_ n9_ n10_ n11_ n12_ n13_ n14_;clear hb hbox hg;have hnb23:=NB450_440.out;have hnc23:=NB440_450.out;have hnb24:=NB450_441.out;have hnc24:=NB441_450.out;have hnb25:=NB450_449.out;have hnc25:=NB449_450.out;have hcz26_0:w22.cell? ⟨gb450,0,none⟩ = some (.int .i64 0):=(blk_cell BK450.out 0).trans rfl;have hcz26_1:w22.cell? ⟨gb450,1,none⟩ = some (.int .i64 0):=(blk_cell BK450.out 1).trans rfl;have hfz26_0:=blk_frozen BK450.out 0;have hfz26_1:=blk_frozen BK450.out 1;have hcz27_0:w22.cell? ⟨gb440,0,none⟩ = some (.int .i64 a0_0):=(blk_cell BK440.out 0).trans rfl;have hcz27_1:w22.cell? ⟨gb440,1,none⟩ = some (.int .i64 a0_1):=(blk_cell BK440.out 1).trans rfl;have hcz27_2:w22.cell? ⟨gb440,2,none⟩ = some (.slice A0_2 l0_2.length c0_2):=(blk_cell BK440.out 2).trans rfl;have hfz27_0:=blk_frozen BK440.out 0;have hfz27_1:=blk_frozen BK440.out 1;have hfz27_2:=blk_frozen BK440.out 2)|((with_reducible refine gate_callee (f:=58) rfl ?_);refine goesL_ (some 34) rfl rfl Try.func58 (by kernel_rfl) rfl #[.agg #[.int .i64 a0_0,.int .i64 a0_1,.slice A0_2 l0_2.length c0_2],.agg #[.int .i64 (wrap64 (a1_0 + ((rd_T48 y445 x17_1).f0))),.int .i64 (wrap64 (a1_1 + ((rd_T48 y445 x17_1).f1)))]] rfl (by (try simp only [List.map_toArray,List.map_cons,List.map_nil]);first|done|rfl|(simp only [List.length_drop,List.length_take];rfl)) ?_;(with_reducible refine (impl_isFree.calls k1 a0_0 a0_1 _ _ l0_2 (wrap64 (a1_0 + ((rd_T48 y445 x17_1).f0))) (wrap64 (a1_1 + ((rd_T48 y445 x17_1).f1))) true _ ?side1 ?side2 A13.out).mono ?_);(case side1=>exact zO HR0_2.out (by repeat (first|(with_reducible first|exact HB.out|apply zD|apply zE|apply zF|refine below_set ?_ GE440.out|refine below_set ?_ GE441.out|refine below_set ?_ GE449.out|refine below_set ?_ GE450.out)|exact HB.out)));(case side2=>exact HC0_2.out);rintro e w28 ⟨rfl,hb⟩;refine ⟨_,rfl,?_⟩;have n0_:=zM (zP (by (with_reducible repeat (first|apply zA|apply zB|apply zC));exact (Kd.R_mono (Kd.R_far (p:=⟨gb450,1,none⟩) (Kd.R_far (p:=⟨gb450,0,none⟩) (Kd.R_mono HO_5.out (fun k_ hk=>(⟨hk,hk.2⟩ : _ ∧ k_ ≠ gb450))) (fun _ hk=>hk.2) (.int .i64 (wrap64 (a1_0 + ((rd_T48 y445 x17_1).f0))))) (fun _ hk=>hk.2) (.int .i64 (wrap64 (a1_1 + ((rd_T48 y445 x17_1).f1))))) (fun _ h_=>h_.1))) hb);have n1_:=zM (zP (by (with_reducible repeat (first|apply zA|apply zB|apply zC));exact (Kd.R_mono (Kd.R_far (p:=⟨gb450,1,none⟩) (Kd.R_far (p:=⟨gb450,0,none⟩) (Kd.R_mono HO_15.out (fun k_ hk=>(⟨hk,hk.2⟩ : _ ∧ k_ ≠ gb450))) (fun _ hk=>hk.2) (.int .i64 (wrap64 (a1_0 + ((rd_T48 y445 x17_1).f0))))) (fun _ hk=>hk.2) (.int .i64 (wrap64 (a1_1 + ((rd_T48 y445 x17_1).f1))))) (fun _ h_=>h_.1))) hb);have n2_:=zM (blk_below (g:=gb440) (o := .cells #[.int .i64 a0_0,.int .i64 a0_1,.slice A0_2 l0_2.length c0_2] 29 (0,0)) (by (with_reducible repeat (first|refine zJ ?_ _|refine zK ?_|refine zL ?_ _));refine blk_far ?_ NB440_450.out _;(with_reducible repeat (first|refine zJ ?_ _|refine zK ?_|refine zL ?_ _));refine blk_far ?_ NB440_450.out _;(with_reducible repeat (first|refine zJ ?_ _|refine zK ?_|refine zL ?_ _));exact BK440.out) hb);have n3_:=zM (blk_below (g:=gb441) (o := .cells #[.int .i64 a1_0,.int .i64 a1_1] 48 (0,0)) (by (with_reducible repeat (first|refine zJ ?_ _|refine zK ?_|refine zL ?_ _));refine blk_far ?_ NB441_450.out _;(with_reducible repeat (first|refine zJ ?_ _|refine zK ?_|refine zL ?_ _));refine blk_far ?_ NB441_450.out _;(with_reducible repeat (first|refine zJ ?_ _|refine zK ?_|refine zL ?_ _));exact BK441.out) hb);have n4_:=zM (blk_below (g:=gb449) (o := .cells #[.int .i64 ((rd_T48 y445 x17_1).f0),.int .i64 ((rd_T48 y445 x17_1).f1)] 48 (0,0)) (by (with_reducible repeat (first|refine zJ ?_ _|refine zK ?_|refine zL ?_ _));refine blk_far ?_ NB449_450.out _;(with_reducible repeat (first|refine zJ ?_ _|refine zK ?_|refine zL ?_ _));refine blk_far ?_ NB449_450.out _;(with_reducible repeat (first|refine zJ ?_ _|refine zK ?_|refine zL ?_ _));exact BK449.out) hb);have n5_:=zM (blk_below (g:=gb450) (o := .cells #[.int .i64 (wrap64 (a1_0 + ((rd_T48 y445 x17_1).f0))),.int .i64 (wrap64 (a1_1 + ((rd_T48 y445 x17_1).f1)))] 48 (0,0)) (by (with_reducible repeat (first|refine zJ ?_ _|refine zK ?_|refine zL ?_ _));refine blk_put (cs := #[.int .i64 (wrap64 (a1_0 + ((rd_T48 y445 x17_1).f0))),.int .i64 0]) ?_ 1 _ rfl;(with_reducible repeat (first|refine zJ ?_ _|refine zK ?_|refine zL ?_ _));refine blk_put (cs := #[.int .i64 0,.int .i64 0]) ?_ 0 _ rfl;(with_reducible repeat (first|refine zJ ?_ _|refine zK ?_|refine zL ?_ _));exact BK450.out) hb);have n6_:=zM (zQ (by repeat (first|(with_reducible first|exact HB.out|apply zD|apply zE|apply zF|refine below_set ?_ GE440.out|refine below_set ?_ GE441.out|refine below_set ?_ GE449.out|refine below_set ?_ GE450.out)|exact HB.out)) hb);clear HO_5;clear HO_15;clear BK440;clear BK441;clear BK449;clear BK450;clear HB;have HO_5:=n0_;have HO_15:=n1_;have BK440:=n2_;have BK441:=n3_;have BK449:=n4_;have BK450:=n5_;have HB:=n6_;clear n0_ n1_ n2_ n3_ n4_ n5_ n6_;(try clear hb);(try clear hb2);(try clear hk);(try clear hi);have hcz29_0:w28.cell? ⟨gb450,0,none⟩ = some (.int .i64 (wrap64 (a1_0 + ((rd_T48 y445 x17_1).f0)))):=(blk_cell BK450.out 0).trans rfl;have hcz29_1:w28.cell? ⟨gb450,1,none⟩ = some (.int .i64 (wrap64 (a1_1 + ((rd_T48 y445 x17_1).f1)))):=(blk_cell BK450.out 1).trans rfl;have hfz29_0:=blk_frozen BK450.out 0;have hfz29_1:=blk_frozen BK450.out 1)|((with_reducible refine gate_builtin (b := .append) (xs := #[.tmp 35,.tmp 37]) rfl ?_);at_builtin;refine Kd.R_append k48 (w0:=w) w.heap.size rfl (.tmp 35) (.tmp 37) 27 48 (.agg #[(.int .i64 0),(.int .i64 0)]) 16 rfl Try.underlying27 info48 rfl (by decide) (by omega) u5 x5_1 (⟨wrap64 (a1_0 + ((rd_T48 y445 x17_1).f0)),wrap64 (a1_1 + ((rd_T48 y445 x17_1).f1))⟩ : S48) [.int .i64 (wrap64 (a1_0 + ((rd_T48 y445 x17_1).f0))),.int .i64 (wrap64 (a1_1 + ((rd_T48 y445 x17_1).f1)))] (fun k_=>some k_ ≠ (.slice (some ad448) y445.length co9:Value).ownBlock ∧ k_ ≠ gb441 ∧ k_ ≠ gb449 ∧ k_ ≠ gb450) (fun _=>False) rfl rfl ?aP (fun _ hk=>hk.elim) ?aF ?aO ?aB ?aS ?aL ?_;(case aP=>exact k48_mkM _ _ _ (⟨wrap64 (a1_0 + ((rd_T48 y445 x17_1).f0)),wrap64 (a1_1 + ((rd_T48 y445 x17_1).f1))⟩ : S48));(case aB=>exact (by repeat (first|(with_reducible first|exact HB.out|apply zD|apply zE|apply zF|refine below_set ?_ GE440.out|refine below_set ?_ GE441.out|refine below_set ?_ GE449.out|refine below_set ?_ GE450.out)|exact HB.out)));(case aF=>exact (fun k_ hk=>⟨Kd.fresh' (Kd.R_lt (by (with_reducible repeat (first|apply zA|apply zB|apply zC));exact HO_15.out)) k_ hk,Kd.freshB (g:=gb441) (o := .cells #[.int .i64 a1_0,.int .i64 a1_1] 48 (0,0)) (by (with_reducible repeat (first|refine zJ ?_ _|refine zK ?_|refine zL ?_ _));exact BK441.out) k_ hk,Kd.freshB (g:=gb449) (o := .cells #[.int .i64 ((rd_T48 y445 x17_1).f0),.int .i64 ((rd_T48 y445 x17_1).f1)] 48 (0,0)) (by (with_reducible repeat (first|refine zJ ?_ _|refine zK ?_|refine zL ?_ _));exact BK449.out) k_ hk,Kd.freshB (g:=gb450) (o := .cells #[.int .i64 (wrap64 (a1_0 + ((rd_T48 y445 x17_1).f0))),.int .i64 (wrap64 (a1_1 + ((rd_T48 y445 x17_1).f1)))] 48 (0,0)) (by (with_reducible repeat (first|refine zJ ?_ _|refine zK ?_|refine zL ?_ _));exact BK450.out) k_ hk⟩));(case aO=>exact (by (with_reducible repeat (first|apply zA|apply zB|apply zC));exact Kd.R_mono HO_5.out (fun _ hk=>⟨hk.1.1.1,⟨hk.1.1.2,⟨hk.1.2,hk.2⟩⟩⟩)));(case aS=>exact (zR (by repeat (first|(with_reducible first|exact HB.out|apply zD|apply zE|apply zF|refine below_set ?_ GE440.out|refine below_set ?_ GE441.out|refine below_set ?_ GE449.out|refine below_set ?_ GE450.out)|exact HB.out))));(case aL=>have:=LMc15.out;omega);intro v453 w30 ho hb hg hat;rw [← Ny452.out] at ho;have n0_:=zM (Kd.R_after (ok:=(fun k_=>k_ ≠ gb441 ∧ k_ ≠ gb449 ∧ k_ ≠ gb450)) (by (with_reducible repeat (first|apply zA|apply zB|apply zC));exact Kd.R_mono HO_15.out (fun _ hk=>⟨⟨hk.1.1.2,⟨hk.1.2,hk.2⟩⟩,hk.1.1.1⟩)) hg hat);have n1_:=zM (blk_grown (g:=gb440) (o := .cells #[.int .i64 a0_0,.int .i64 a0_1,.slice A0_2 l0_2.length c0_2] 29 (0,0)) (by (with_reducible repeat (first|refine zJ ?_ _|refine zK ?_|refine zL ?_ _));exact BK440.out) hg (Kd.R_ne HO_5.out BK440.out (by decide)));have n2_:=zM (blk_grown (g:=gb441) (o := .cells #[.int .i64 a1_0,.int .i64 a1_1] 48 (0,0)) (by (with_reducible repeat (first|refine zJ ?_ _|refine zK ?_|refine zL ?_ _));exact BK441.out) hg (Kd.R_away HO_5.out (fun _ hk=>hk.1.1.2)));have n3_:=zM (blk_grown (g:=gb449) (o := .cells #[.int .i64 ((rd_T48 y445 x17_1).f0),.int .i64 ((rd_T48 y445 x17_1).f1)] 48 (0,0)) (by (with_reducible repeat (first|refine zJ ?_ _|refine zK ?_|refine zL ?_ _));exact BK449.out) hg (Kd.R_away HO_5.out (fun _ hk=>hk.1.2)));have n4_:=zM (blk_grown (g:=gb450) (o := .cells #[.int .i64 (wrap64 (a1_0 + ((rd_T48 y445 x17_1).f0))),.int .i64 (wrap64 (a1_1 + ((rd_T48 y445 x17_1).f1)))] 48 (0,0)) (by (with_reducible repeat (first|refine zJ ?_ _|refine zK ?_|refine zL ?_ _));exact BK450.out) hg (Kd.R_away HO_5.out (fun _ hk=>hk.2)));have n5_:=zM (hb);have n6_:=zM (ho);clear HO_15;clear BK440;clear BK441;clear BK449;clear BK450;clear HB;clear HO_5;have HO_15:=n0_;have BK440:=n1_;have BK441:=n2_;have BK449:=n3_;have BK450:=n4_;have HB:=n5_;have HO454:=n6_;clear n0_ n1_ n2_ n3_ n4_ n5_ n6_;clear ho hb hg hat))
        go_roundg k1
        case measure=>have:=HK1.out;omega
        case rel=>exact ⟨(y452),(wrap64 (x17_1 + 1)),(by first|rfl|(simp;done)|(simp [*];done)),H',⟨by have:=HK1.out;omega⟩,⟨by (with_reducible repeat (first|apply zA|apply zB|apply zC));exact Kd.R_mono HO454.out (fun _ hk=>⟨hk.1,hk.2.1⟩)⟩,⟨by (with_reducible repeat (first|apply zA|apply zB|apply zC));exact Kd.R_mono HO_15.out (fun _ hk=>⟨hk.2,hk.1.1⟩)⟩,⟨by (with_reducible repeat (first|refine zJ ?_ _|refine zK ?_|refine zL ?_ _));exact BK440.out⟩,⟨by (with_reducible repeat (first|refine zJ ?_ _|refine zK ?_|refine zL ?_ _));exact BK441.out⟩,⟨by repeat (first|(with_reducible first|exact HB.out|apply zD|apply zE|apply zF|refine below_set ?_ GE440.out|refine below_set ?_ GE441.out|refine below_set ?_ GE449.out|refine below_set ?_ GE450.out)|exact HB.out)⟩⟩
       ·rw [if_neg c15] at H
        exact absurd H (by simp)
      ·replace c14:=Bool.eq_false_iff.mpr c14
       subst c14;have H1:(impl_around.l0 k1 x5_1 y445 (y445.length:Int) (wrap64 (x17_1 + 1)) a0_0 a0_1 l0_2 a1_0 a1_1) = some r:=by rw [if_neg (show ¬ (false = true) by decide)] at H;exact H
       clear H;have H:=H1;clear H1;have H':=zM H;clear H;have p448:0 ≤ (x17_1:Int):=of_decide_eq_true (by first|(with_reducible assumption)|assumption)
       have q448:x17_1 < (y445.length:Int):=of_decide_eq_true (by first|(with_reducible assumption)|assumption)
       obtain ⟨ad448,e448,hx448_0,hx448_1⟩:=at_T48 (zN HO_15.out).2.2 x17_1 p448 q448;cases e448
       replace p448:=eq_true p448;replace q448:=eq_true q448;go_wp2_with (first|((with_reducible refine gate_dst (N:=7) rfl ?_);refine box_event ?hg (N:=7) ?hd (cs := #[.int .i64 0,.int .i64 0]) (t:=48) ?hr ?_;(case hd=>rfl);(case hg=>rfl);(case hr=>first|(go_simp;done)|(go_simp;rfl));intro gb449 hg w31 hbox hb;have n0_:=zM (zP (Kd.R_elderB (by (with_reducible repeat (first|apply zA|apply zB|apply zC));exact HO_5.out) gb449 (Nat.le_of_eq hg.symm)) hb);have n1_:=zM (zP (Kd.R_elderB (by (with_reducible repeat (first|apply zA|apply zB|apply zC));exact HO_15.out) gb449 (Nat.le_of_eq hg.symm)) hb);have n2_:=zM (blk_below (g:=gb440) (o := .cells #[.int .i64 a0_0,.int .i64 a0_1,.slice A0_2 l0_2.length c0_2] 29 (0,0)) (by (with_reducible repeat (first|refine zJ ?_ _|refine zK ?_|refine zL ?_ _));exact BK440.out) hb);have n3_:=zM (blk_below (g:=gb441) (o := .cells #[.int .i64 a1_0,.int .i64 a1_1] 48 (0,0)) (by (with_reducible repeat (first|refine zJ ?_ _|refine zK ?_|refine zL ?_ _));exact BK441.out) hb);have n4_:=zM (zQ (by repeat (first|(with_reducible first|exact HB.out|apply zD|apply zE|apply zF|refine below_set ?_ GE440.out|refine below_set ?_ GE441.out)|exact HB.out)) hb);have n5_:=zM (hbox);have n6_:=zM ((by rw [hg];exact (zR (by repeat (first|(with_reducible first|exact HB.out|apply zD|apply zE|apply zF|refine below_set ?_ GE440.out|refine below_set ?_ GE441.out)|exact HB.out))):w.heap.size ≤ gb449));have n7_:=zM ((by rw [hg];exact (zR (by repeat (first|(with_reducible first|exact HB.out|apply zD|apply zE|apply zF|refine below_set ?_ GE440.out|refine below_set ?_ GE441.out)|exact HB.out))):w.heap.size ≤ gb449));have n8_:=zM ((by rw [hg];exact Nat.ne_of_lt (blk_lt (g:=gb440) (o := .cells #[.int .i64 a0_0,.int .i64 a0_1,.slice A0_2 l0_2.length c0_2] 29 (0,0)) (by (with_reducible repeat (first|refine zJ ?_ _|refine zK ?_|refine zL ?_ _));exact BK440.out)):gb440 ≠ gb449));have n9_:=zM ((by rw [hg];exact Nat.ne_of_gt (blk_lt (g:=gb440) (o := .cells #[.int .i64 a0_0,.int .i64 a0_1,.slice A0_2 l0_2.length c0_2] 29 (0,0)) (by (with_reducible repeat (first|refine zJ ?_ _|refine zK ?_|refine zL ?_ _));exact BK440.out)):gb449 ≠ gb440));have n10_:=zM ((by rw [hg];exact Nat.ne_of_lt (blk_lt (g:=gb441) (o := .cells #[.int .i64 a1_0,.int .i64 a1_1] 48 (0,0)) (by (with_reducible repeat (first|refine zJ ?_ _|refine zK ?_|refine zL ?_ _));exact BK441.out)):gb441 ≠ gb449));have n11_:=zM ((by rw [hg];exact Nat.ne_of_gt (blk_lt (g:=gb441) (o := .cells #[.int .i64 a1_0,.int .i64 a1_1] 48 (0,0)) (by (with_reducible repeat (first|refine zJ ?_ _|refine zK ?_|refine zL ?_ _));exact BK441.out)):gb449 ≠ gb441));clear HO_5;clear HO_15;clear BK440;clear BK441;clear HB;have HO_5:=n0_;have HO_15:=n1_;have BK440:=n2_;have BK441:=n3_;have HB:=n4_;have BK449:=n5_;have GW449:=n6_;have GE449:=n7_;have NB440_449:=n8_;have NB449_440:=n9_;have NB441_449:=n10_;have NB449_441:=n11_;clear n0_ n1_ n2_ n3_ n4_ n5_ n6_ n7_ n8_ n9_ n10_ n11_;clear hb hbox hg;have hnb32:=NB449_440.out;have hnc32:=NB440_449.out;have hnb33:=NB449_441.out;have hnc33:=NB441_449.out;have hcz34_0:w31.cell? ⟨gb449,0,none⟩ = some (.int .i64 0):=(blk_cell BK449.out 0).trans rfl;have hcz34_1:w31.cell? ⟨gb449,1,none⟩ = some (.int .i64 0):=(blk_cell BK449.out 1).trans rfl;have hfz34_0:=blk_frozen BK449.out 0;have hfz34_1:=blk_frozen BK449.out 1;have hnb35:=NB441_440.out;have hnc35:=NB440_441.out;have hcz36_0:w31.cell? ⟨gb441,0,none⟩ = some (.int .i64 a1_0):=(blk_cell BK441.out 0).trans rfl;have hcz36_1:w31.cell? ⟨gb441,1,none⟩ = some (.int .i64 a1_1):=(blk_cell BK441.out 1).trans rfl;have hfz36_0:=blk_frozen BK441.out 0;have hfz36_1:=blk_frozen BK441.out 1)|((with_reducible refine gate_dst (N:=8) rfl ?_);refine box_event ?hg (N:=8) ?hd (cs := #[.int .i64 0,.int .i64 0]) (t:=48) ?hr ?_;(case hd=>rfl);(case hg=>rfl);(case hr=>first|(go_simp;done)|(go_simp;rfl));intro gb450 hg w37 hbox hb;have n0_:=zM (zP (Kd.R_elderB (by (with_reducible repeat (first|apply zA|apply zB|apply zC));exact (Kd.R_mono (Kd.R_far (p:=⟨gb449,1,none⟩) (Kd.R_far (p:=⟨gb449,0,none⟩) (Kd.R_mono HO_5.out (fun k_ hk=>(⟨hk,hk.2⟩ : _ ∧ k_ ≠ gb449))) (fun _ hk=>hk.2) (.int .i64 ((rd_T48 y445 x17_1).f0))) (fun _ hk=>hk.2) (.int .i64 ((rd_T48 y445 x17_1).f1))) (fun _ h_=>h_.1))) gb450 (Nat.le_of_eq hg.symm)) hb);have n1_:=zM (zP (Kd.R_elderB (by (with_reducible repeat (first|apply zA|apply zB|apply zC));exact (Kd.R_mono (Kd.R_far (p:=⟨gb449,1,none⟩) (Kd.R_far (p:=⟨gb449,0,none⟩) (Kd.R_mono HO_15.out (fun k_ hk=>(⟨hk,hk.2⟩ : _ ∧ k_ ≠ gb449))) (fun _ hk=>hk.2) (.int .i64 ((rd_T48 y445 x17_1).f0))) (fun _ hk=>hk.2) (.int .i64 ((rd_T48 y445 x17_1).f1))) (fun _ h_=>h_.1))) gb450 (Nat.le_of_eq hg.symm)) hb);have n2_:=zM (blk_below (g:=gb440) (o := .cells #[.int .i64 a0_0,.int .i64 a0_1,.slice A0_2 l0_2.length c0_2] 29 (0,0)) (by (with_reducible repeat (first|refine zJ ?_ _|refine zK ?_|refine zL ?_ _));refine blk_far ?_ NB440_449.out _;(with_reducible repeat (first|refine zJ ?_ _|refine zK ?_|refine zL ?_ _));refine blk_far ?_ NB440_449.out _;(with_reducible repeat (first|refine zJ ?_ _|refine zK ?_|refine zL ?_ _));exact BK440.out) hb);have n3_:=zM (blk_below (g:=gb441) (o := .cells #[.int .i64 a1_0,.int .i64 a1_1] 48 (0,0)) (by (with_reducible repeat (first|refine zJ ?_ _|refine zK ?_|refine zL ?_ _));refine blk_far ?_ NB441_449.out _;(with_reducible repeat (first|refine zJ ?_ _|refine zK ?_|refine zL ?_ _));refine blk_far ?_ NB441_449.out _;(with_reducible repeat (first|refine zJ ?_ _|refine zK ?_|refine zL ?_ _));exact BK441.out) hb);have n4_:=zM (blk_below (g:=gb449) (o := .cells #[.int .i64 ((rd_T48 y445 x17_1).f0),.int .i64 ((rd_T48 y445 x17_1).f1)] 48 (0,0)) (by (with_reducible repeat (first|refine zJ ?_ _|refine zK ?_|refine zL ?_ _));refine blk_put (cs := #[.int .i64 ((rd_T48 y445 x17_1).f0),.int .i64 0]) ?_ 1 _ rfl;(with_reducible repeat (first|refine zJ ?_ _|refine zK ?_|refine zL ?_ _));refine blk_put (cs := #[.int .i64 0,.int .i64 0]) ?_ 0 _ rfl;(with_reducible repeat (first|refine zJ ?_ _|refine zK ?_|refine zL ?_ _));exact BK449.out) hb);have n5_:=zM (zQ (by repeat (first|(with_reducible first|exact HB.out|apply zD|apply zE|apply zF|refine below_set ?_ GE440.out|refine below_set ?_ GE441.out|refine below_set ?_ GE449.out)|exact HB.out)) hb);have n6_:=zM (hbox);have n7_:=zM ((by rw [hg];exact (zR (by repeat (first|(with_reducible first|exact HB.out|apply zD|apply zE|apply zF|refine below_set ?_ GE440.out|refine below_set ?_ GE441.out|refine below_set ?_ GE449.out)|exact HB.out))):w.heap.size ≤ gb450));have n8_:=zM ((by rw [hg];exact (zR (by repeat (first|(with_reducible first|exact HB.out|apply zD|apply zE|apply zF|refine below_set ?_ GE440.out|refine below_set ?_ GE441.out|refine below_set ?_ GE449.out)|exact HB.out))):w.heap.size ≤ gb450));have n9_:=zM ((by rw [hg];exact Nat.ne_of_lt (blk_lt (g:=gb440) (o := .cells #[.int .i64 a0_0,.int .i64 a0_1,.slice A0_2 l0_2.length c0_2] 29 (0,0)) (by (with_reducible repeat (first|refine zJ ?_ _|refine zK ?_|refine zL ?_ _));refine blk_far ?_ NB440_449.out _;(with_reducible repeat (first|refine zJ ?_ _|refine zK ?_|refine zL ?_ _));refine blk_far ?_ NB440_449.out _;(with_reducible repeat (first|refine zJ ?_ _|refine zK ?_|refine zL ?_ _));exact BK440.out)):gb440 ≠ gb450));have n10_:=zM ((by rw [hg];exact Nat.ne_of_gt (blk_lt (g:=gb440) (o := .cells #[.int .i64 a0_0,.int .i64 a0_1,.slice A0_2 l0_2.length c0_2] 29 (0,0)) (by (with_reducible repeat (first|refine zJ ?_ _|refine zK ?_|refine zL ?_ _));refine blk_far ?_ NB440_449.out _;(with_reducible repeat (first|refine zJ ?_ _|refine zK ?_|refine zL ?_ _));refine blk_far ?_ NB440_449.out _;(with_reducible repeat (first|refine zJ ?_ _|refine zK ?_|refine zL ?_ _));exact BK440.out)):gb450 ≠ gb440));have n11_:=zM ((by rw [hg];exact Nat.ne_of_lt (blk_lt (g:=gb441) (o := .cells #[.int .i64 a1_0,.int .i64 a1_1] 48 (0,0)) (by (with_reducible repeat (first|refine zJ ?_ _|refine zK ?_|refine zL ?_ _));refine blk_far ?_ NB441_449.out _;(with_reducible repeat (first|refine zJ ?_ _|refine zK ?_|refine zL ?_ _));refine blk_far ?_ NB441_449.out _;(with_reducible repeat (first|refine zJ ?_ _|refine zK ?_|refine zL ?_ _));exact BK441.out)):gb441 ≠ gb450));have n12_:=zM ((by rw [hg];exact Nat.ne_of_gt (blk_lt (g:=gb441) (o := .cells #[.int .i64 a1_0,.int .i64 a1_1] 48 (0,0)) (by (with_reducible repeat (first|refine zJ ?_ _|refine zK ?_|refine zL ?_ _));refine blk_far ?_ NB441_449.out _;(with_reducible repeat (first|refine zJ ?_ _|refine zK ?_|refine zL ?_ _));refine blk_far ?_ NB441_449.out _;(with_reducible repeat (first|refine zJ ?_ _|refine zK ?_|refine zL ?_ _));exact BK441.out)):gb450 ≠ gb441));have n13_:=zM ((by rw [hg];exact Nat.ne_of_lt (blk_lt (g:=gb449) (o := .cells #[.int .i64 ((rd_T48 y445 x17_1).f0),.int .i64 ((rd_T48 y445 x17_1).f1)] 48 (0,0)) (by (with_reducible repeat (first|refine zJ ?_ _|refine zK ?_|refine zL ?_ _));refine blk_put (cs := #[.int .i64 ((rd_T48 y445 x17_1).f0),.int .i64 0]) ?_ 1 _ rfl;(with_reducible repeat (first|refine zJ ?_ _|refine zK ?_|refine zL ?_ _));refine blk_put (cs := #[.int .i64 0,.int .i64 0]) ?_ 0 _ rfl;(with_reducible repeat (first|refine zJ ?_ _|refine zK ?_|refine zL ?_ _));exact BK449.out)):gb449 ≠ gb450));have n14_:=zM ((by rw [hg];exact Nat.ne_of_gt (blk_lt (g:=gb449) (o := .cells #[.int .i64 ((rd_T48 y445 x17_1).f0),.int .i64 ((rd_T48 y445 x17_1).f1)] 48 (0,0)) (by (with_reducible repeat (first|refine zJ ?_ _|refine zK ?_|refine zL ?_ _));refine blk_put (cs := #[.int .i64 ((rd_T48 y445 x17_1).f0),.int .i64 0]) ?_ 1 _ rfl;(with_reducible repeat (first|refine zJ ?_ _|refine zK ?_|refine zL ?_ _));refine blk_put (cs := #[.int .i64 0,.int .i64 0]) ?_ 0 _ rfl;(with_reducible repeat (first|refine zJ ?_ _|refine zK ?_|refine zL ?_ _));exact BK449.out)):gb450 ≠ gb449));clear HO_5;clear HO_15;clear BK440;clear BK441;clear BK449;clear HB;have HO_5:=n0_;have HO_15:=n1_;have BK440:=n2_;have BK441:=n3_;have BK449:=n4_;have HB:=n5_;have BK450:=n6_;have GW450:=n7_;have GE450:=n8_;have NB440_450:=n9_;have NB450_440:=n10_;have NB441_450:=n11_;have NB450_441:=n12_;have NB449_450:=n13_;have NB450_449:=n14_;clear n0_ n1_ n2_ n3_ n4_ n5_ n6_ n7_ n8_ n9_ n10_ n11_ n12_ n13_ n14_;clear hb hbox hg;have hnb38:=NB450_440.out;have hnc38:=NB440_450.out;have hnb39:=NB450_441.out;have hnc39:=NB441_450.out;have hnb40:=NB450_449.out;have hnc40:=NB449_450.out;have hcz41_0:w37.cell? ⟨gb450,0,none⟩ = some (.int .i64 0):=(blk_cell BK450.out 0).trans rfl;have hcz41_1:w37.cell? ⟨gb450,1,none⟩ = some (.int .i64 0):=(blk_cell BK450.out 1).trans rfl;have hfz41_0:=blk_frozen BK450.out 0;have hfz41_1:=blk_frozen BK450.out 1;have hcz42_0:w37.cell? ⟨gb440,0,none⟩ = some (.int .i64 a0_0):=(blk_cell BK440.out 0).trans rfl;have hcz42_1:w37.cell? ⟨gb440,1,none⟩ = some (.int .i64 a0_1):=(blk_cell BK440.out 1).trans rfl;have hcz42_2:w37.cell? ⟨gb440,2,none⟩ = some (.slice A0_2 l0_2.length c0_2):=(blk_cell BK440.out 2).trans rfl;have hfz42_0:=blk_frozen BK440.out 0;have hfz42_1:=blk_frozen BK440.out 1;have hfz42_2:=blk_frozen BK440.out 2)|((with_reducible refine gate_callee (f:=58) rfl ?_);refine goesL_ (some 34) rfl rfl Try.func58 (by kernel_rfl) rfl #[.agg #[.int .i64 a0_0,.int .i64 a0_1,.slice A0_2 l0_2.length c0_2],.agg #[.int .i64 (wrap64 (a1_0 + ((rd_T48 y445 x17_1).f0))),.int .i64 (wrap64 (a1_1 + ((rd_T48 y445 x17_1).f1)))]] rfl (by (try simp only [List.map_toArray,List.map_cons,List.map_nil]);first|done|rfl|(simp only [List.length_drop,List.length_take];rfl)) ?_;(with_reducible refine (impl_isFree.calls k1 a0_0 a0_1 _ _ l0_2 (wrap64 (a1_0 + ((rd_T48 y445 x17_1).f0))) (wrap64 (a1_1 + ((rd_T48 y445 x17_1).f1))) false _ ?side1 ?side2 A13.out).mono ?_);(case side1=>exact zO HR0_2.out (by repeat (first|(with_reducible first|exact HB.out|apply zD|apply zE|apply zF|refine below_set ?_ GE440.out|refine below_set ?_ GE441.out|refine below_set ?_ GE449.out|refine below_set ?_ GE450.out)|exact HB.out)));(case side2=>exact HC0_2.out);rintro e w43 ⟨rfl,hb⟩;refine ⟨_,rfl,?_⟩;have n0_:=zM (zP (by (with_reducible repeat (first|apply zA|apply zB|apply zC));exact (Kd.R_mono (Kd.R_far (p:=⟨gb450,1,none⟩) (Kd.R_far (p:=⟨gb450,0,none⟩) (Kd.R_mono HO_5.out (fun k_ hk=>(⟨hk,hk.2⟩ : _ ∧ k_ ≠ gb450))) (fun _ hk=>hk.2) (.int .i64 (wrap64 (a1_0 + ((rd_T48 y445 x17_1).f0))))) (fun _ hk=>hk.2) (.int .i64 (wrap64 (a1_1 + ((rd_T48 y445 x17_1).f1))))) (fun _ h_=>h_.1))) hb);have n1_:=zM (zP (by (with_reducible repeat (first|apply zA|apply zB|apply zC));exact (Kd.R_mono (Kd.R_far (p:=⟨gb450,1,none⟩) (Kd.R_far (p:=⟨gb450,0,none⟩) (Kd.R_mono HO_15.out (fun k_ hk=>(⟨hk,hk.2⟩ : _ ∧ k_ ≠ gb450))) (fun _ hk=>hk.2) (.int .i64 (wrap64 (a1_0 + ((rd_T48 y445 x17_1).f0))))) (fun _ hk=>hk.2) (.int .i64 (wrap64 (a1_1 + ((rd_T48 y445 x17_1).f1))))) (fun _ h_=>h_.1))) hb);have n2_:=zM (blk_below (g:=gb440) (o := .cells #[.int .i64 a0_0,.int .i64 a0_1,.slice A0_2 l0_2.length c0_2] 29 (0,0)) (by (with_reducible repeat (first|refine zJ ?_ _|refine zK ?_|refine zL ?_ _));refine blk_far ?_ NB440_450.out _;(with_reducible repeat (first|refine zJ ?_ _|refine zK ?_|refine zL ?_ _));refine blk_far ?_ NB440_450.out _;(with_reducible repeat (first|refine zJ ?_ _|refine zK ?_|refine zL ?_ _));exact BK440.out) hb);have n3_:=zM (blk_below (g:=gb441) (o := .cells #[.int .i64 a1_0,.int .i64 a1_1] 48 (0,0)) (by (with_reducible repeat (first|refine zJ ?_ _|refine zK ?_|refine zL ?_ _));refine blk_far ?_ NB441_450.out _;(with_reducible repeat (first|refine zJ ?_ _|refine zK ?_|refine zL ?_ _));refine blk_far ?_ NB441_450.out _;(with_reducible repeat (first|refine zJ ?_ _|refine zK ?_|refine zL ?_ _));exact BK441.out) hb);have n4_:=zM (blk_below (g:=gb449) (o := .cells #[.int .i64 ((rd_T48 y445 x17_1).f0),.int .i64 ((rd_T48 y445 x17_1).f1)] 48 (0,0)) (by (with_reducible repeat (first|refine zJ ?_ _|refine zK ?_|refine zL ?_ _));refine blk_far ?_ NB449_450.out _;(with_reducible repeat (first|refine zJ ?_ _|refine zK ?_|refine zL ?_ _));refine blk_far ?_ NB449_450.out _;(with_reducible repeat (first|refine zJ ?_ _|refine zK ?_|refine zL ?_ _));exact BK449.out) hb);have n5_:=zM (blk_below (g:=gb450) (o := .cells #[.int .i64 (wrap64 (a1_0 + ((rd_T48 y445 x17_1).f0))),.int .i64 (wrap64 (a1_1 + ((rd_T48 y445 x17_1).f1)))] 48 (0,0)) (by (with_reducible repeat (first|refine zJ ?_ _|refine zK ?_|refine zL ?_ _));refine blk_put (cs := #[.int .i64 (wrap64 (a1_0 + ((rd_T48 y445 x17_1).f0))),.int .i64 0]) ?_ 1 _ rfl;(with_reducible repeat (first|refine zJ ?_ _|refine zK ?_|refine zL ?_ _));refine blk_put (cs := #[.int .i64 0,.int .i64 0]) ?_ 0 _ rfl;(with_reducible repeat (first|refine zJ ?_ _|refine zK ?_|refine zL ?_ _));exact BK450.out) hb);have n6_:=zM (zQ (by repeat (first|(with_reducible first|exact HB.out|apply zD|apply zE|apply zF|refine below_set ?_ GE440.out|refine below_set ?_ GE441.out|refine below_set ?_ GE449.out|refine below_set ?_ GE450.out)|exact HB.out)) hb);clear HO_5;clear HO_15;clear BK440;clear BK441;clear BK449;clear BK450;clear HB;have HO_5:=n0_;have HO_15:=n1_;have BK440:=n2_;have BK441:=n3_;have BK449:=n4_;have BK450:=n5_;have HB:=n6_;clear n0_ n1_ n2_ n3_ n4_ n5_ n6_;(try clear hb);(try clear hb2);(try clear hk);(try clear hi)))
       go_roundg k1
       case measure=>have:=HK1.out;omega
       case rel=>exact ⟨(x5_1),(wrap64 (x17_1 + 1)),(by first|rfl|(simp;done)|(simp [*];done)),H',⟨by have:=HK1.out;omega⟩,⟨by (with_reducible repeat (first|apply zA|apply zB|apply zC));exact Kd.R_mono HO_5.out (fun _ hk=>⟨hk.1.1.1,hk.1.1.2⟩)⟩,⟨by (with_reducible repeat (first|apply zA|apply zB|apply zC));exact Kd.R_mono HO_15.out (fun _ hk=>⟨hk.1.1.1,hk.1.1.2⟩)⟩,⟨by (with_reducible repeat (first|refine zJ ?_ _|refine zK ?_|refine zL ?_ _));exact BK440.out⟩,⟨by (with_reducible repeat (first|refine zJ ?_ _|refine zK ?_|refine zL ?_ _));exact BK441.out⟩,⟨by repeat (first|(with_reducible first|exact HB.out|apply zD|apply zE|apply zF|refine below_set ?_ GE440.out|refine below_set ?_ GE441.out|refine below_set ?_ GE449.out|refine below_set ?_ GE450.out)|exact HB.out)⟩⟩
     ·rw [if_neg c12] at H
      exact absurd H (by simp)
    ·rw [if_neg c11] at H
     exact absurd H (by simp)
   ·rw [if_neg c10] at H
    have c10b0:decide (x17_1 < (y445.length:Int)) = false:=decide_eq_false c10
    clear c10;obtain rfl:=Option.some.inj H;go_wp2
    go_ret
    exact ⟨_,by first|rfl|(simp [errW_none,errW_some] <;> rfl)|(simp [*,errW_none,errW_some] <;> rfl),by (with_reducible repeat (first|apply zA|apply zB|apply zC));exact Kd.R_mono HO_5.out (fun _ hk=>trivial),by repeat (first|(with_reducible first|exact HB.out|apply zD|apply zE|apply zF|refine below_set ?_ GE440.out|refine below_set ?_ GE441.out)|exact HB.out)⟩

end Go.Proofs.Ytbpccdbkaiigcaa.G

/- The walk of impl.stepsFrom: what it hands back is the map that the search by breadth makes. -/
namespace Go.Proofs.Ytbpccdbkaiigcaa.G
open Go.RowKit Go.Proofs.YtbpccdbkaiigcaaW.PrintWords Go.Proofs.YtbpccdbkaiigcaaW.PrintLast Go.Proofs.YtbpccdbkaiigcaaW.PrintMore
set_option linter.unusedVariables false
set_option linter.unusedSimpArgs false
/-- What is known of the floor's neighbours among the cells G. -/
structure Nbs (a0_0 a0_1 : Int) (l0_2 : List S48) (G : S48 → Prop) (nb : S48 → List S48) : Prop where
 wf : ∀ d,G d → W64 d
 len : ∀ d,G d → (nb d).length ≤ 5
 cl : ∀ d,G d → ∀ e ∈ nb d,G e
 run : ∀ d,G d → ∃ k,impl_around.f k a0_0 a0_1 l0_2 d.f0 d.f1 = some (nb d)
theorem grown_blk {w w1 : World} {b g : Nat} {cs : Array Value} {t : TypeId} (hg : w.grownBy w1 (some b)) (h : w.heap[g]? = some (.cells cs t (0,0))) (hne : g ≠ b) : w1.heap[g]? = some (.cells cs t (0,0)):=(hg.block g (blk_lt h) (fun e=>hne (Option.some.inj e))).trans h
theorem wf_small {x : Int} (h0 : -1 ≤ x) (h1 : x ≤ 2000) : (Lit.int .i64 x).wf = true:=wf_iff.2 ⟨by omega,by omega⟩
set_option maxHeartbeats 8000000 in
set_option maxRecDepth 100000 in
theorem impl_stepsFrom.calls (a0_0 a0_1 : Int) (A0_2 : Option Addr) (c0_2 : Nat) (l0_2 : List S48) (c1 : S48) (G : S48 → Prop) (nb : S48 → List S48) (K : Nat) (r : Mp) (w : World) (hr0_2 : Kd.C k48 w A0_2 l0_2.length l0_2) (hc0_2 : l0_2.length ≤ c0_2) (hnb : Nbs a0_0 a0_1 l0_2 G nb) (hG : G c1) (hK : K ≤ 1000) (h : bfs nb K (upd (fun _=>none) c1 0) [c1] = some r) :
  Calls Try.prog 65 #[.agg #[.int .i64 a0_0,.int .i64 a0_1,.slice A0_2 l0_2.length c0_2],.agg #[.int .i64 c1.f0,.int .i64 c1.f1]] w fun e w' => ∃ (b n : Nat),e = .returned (.map (some b)) ∧ w.heap.size ≤ b ∧ n ≤ 10000 ∧ MapI w' b n r ∧ Below w.heap.size w w':=by
 have hu29:=Try.underlying29
 have hu48:=Try.underlying48
 have HR0:=Aside0.mk hr0_2
 have HC0:=Aside0.mk hc0_2
 have HN:=Aside0.mk hnb
 have HH:=Aside0.mk h
 have hw1:=hnb.wf c1 hG
 clear hr0_2 hc0_2 hnb h
 have hmm := @run_makeMap Try.prog
 go_enter Try.func65,Try.ntmps65
 go_wp2_with (first|((with_reducible refine gate_dst (N:=2) rfl ?_);refine box_event ?hg (N:=2) ?hd (cs := #[.int .i64 a0_0,.int .i64 a0_1,.slice A0_2 l0_2.length c0_2]) (t:=29) ?hr ?_;(case hd=>rfl);(case hg=>rfl);(case hr=>first|(go_simp;done)|(go_simp;rfl));intro g2 hgg2 w2 hbox hb;have HF2:=Aside0.mk hbox;have HB2:=Aside0.mk hb;have HG2:=Aside0.mk hgg2;clear hbox hb hgg2;have hf20 : w2.cell? ⟨g2,0,none⟩ = some (.int .i64 a0_0):=(blk_cell HF2.out 0).trans rfl;have hf21 : w2.cell? ⟨g2,1,none⟩ = some (.int .i64 a0_1):=(blk_cell HF2.out 1).trans rfl;have hf22 : w2.cell? ⟨g2,2,none⟩ = some (.slice A0_2 l0_2.length c0_2):=(blk_cell HF2.out 2).trans rfl)|((with_reducible refine gate_dst (N:=3) rfl ?_);refine box_event ?hg (N:=3) ?hd (cs := #[.int .i64 c1.f0,.int .i64 c1.f1]) (t:=48) ?hr ?_;(case hd=>rfl);(case hg=>rfl);(case hr=>first|(go_simp;done)|(go_simp;rfl));intro g3 hgg3 w3 hbox hb;have HF3:=Aside0.mk hbox;have HB3:=Aside0.mk hb;have HG3:=Aside0.mk hgg3;clear hbox hb hgg3;have hf30 : w3.cell? ⟨g3,0,none⟩ = some (.int .i64 c1.f0):=(blk_cell HF3.out 0).trans rfl;have hf31 : w3.cell? ⟨g3,1,none⟩ = some (.int .i64 c1.f1):=(blk_cell HF3.out 1).trans rfl;have hf32 : (w3.alloc (.map #[] 0)).cell? ⟨g3,0,none⟩ = some (.int .i64 c1.f0):=(blk_cell (blk_below HF3.out (below_alloc (Below.refl _ _) _)) 0).trans rfl;have hf33 : (w3.alloc (.map #[] 0)).cell? ⟨g3,1,none⟩ = some (.int .i64 c1.f1):=(blk_cell (blk_below HF3.out (below_alloc (Below.refl _ _) _)) 1).trans rfl)|(refine wpI_insert (c:=c1) rfl (.tmp 11) (.tmp 12) (.const (.int .i64 0)) rfl rfl rfl rfl (mapI_made w3) (by decide) hw1 (by decide) ?_;intro w4 hm4 hg4;have HF4:=Aside0.mk (grown_blk hg4 (blk_below HF3.out (below_alloc (Below.refl _ _) _)) (Nat.ne_of_lt (blk_lt HF3.out)));have HM4:=Aside0.mk hm4;have HG4:=Aside0.mk hg4;have hf40 : w4.cell? ⟨g3,0,none⟩ = some (.int .i64 c1.f0):=(blk_cell HF4.out 0).trans rfl;have hf41 : w4.cell? ⟨g3,1,none⟩ = some (.int .i64 c1.f1):=(blk_cell HF4.out 1).trans rfl;clear hm4 hg4)|((with_reducible refine gate_dst (N:=15) rfl ?_);refine Kd.R_lit k48 _ 48 ?hg (N:=15) ?hd (xs:=([c1] : List S48)) (inner:=[.int .i64 c1.f0,.int .i64 c1.f1]) (ok:=fun _=>True) (okp:=fun _=>True) ?hr ?hp (fun _ hk=>hk) trivial (Below.refl _ _) (Nat.le_refl _) (by simp) ?_;(case hd=>rfl);(case hg=>rfl);(case hr=>first|(go_simp;done)|(go_simp;rfl));(case hp=>exact (Reps.c2 (show Kd.M k48 _ _ _ c1 [.int .i64 c1.f0,.int .i64 c1.f1] from k48_mkM _ _ _ c1) (Reps.none _ _)));intro v15 w15 hR hB hg_ hnew_;clear hg_ hnew_;have HR5:=Aside0.mk hR;have HB5:=Aside0.mk hB;clear hR hB))
 have hl2 : g2 < w2.heap.size:=blk_lt HF2.out
 have hf2 : w3.heap[g2]? = some (.cells #[.int .i64 a0_0,.int .i64 a0_1,.slice A0_2 l0_2.length c0_2] 29 (0,0)):=blk_below HF2.out HB3.out
 have HFL:=Aside0.mk (grown_blk HG4.out (blk_below hf2 (below_alloc (Below.refl _ _) (.map #[] 0))) (Nat.ne_of_lt (blk_lt hf2)))
 have hb0 : w.heap.size ≤ w3.heap.size:=Nat.le_trans HB2.out.size HB3.out.size
 have hgb : w.heap.size ≤ g2:=by have:=HG2.out;omega
 have hb4a:=below_step (below_step HB2.out HB3.out) (below_alloc (Below.refl _ _) (.map #[] 0))
 have HB4:=Aside0.mk (hb4a.grown HG4.out hb4a.size (fun k hk=>by cases hk;exact hb0))
 obtain ⟨b,hbb⟩ : ∃ b,w3.heap.size = b:=⟨_,rfl⟩
 have HS5 : Aside0 (SF w w15 #[.int .i64 a0_0,.int .i64 a0_1,.slice A0_2 l0_2.length c0_2] g2 w3.heap.size 1 (upd (fun _=>none) c1 0) v15 [c1] (.slice none 0 0) []):=Aside0.mk ⟨blk_below HFL.out HB5.out,HM4.out.below HB5.out,hb0,hgb,Kd.Q_of_R (Kd.R_lower (Kd.R_mono (Kd.R_bound HR5.out) (fun k hk=>⟨fun e=>by have:=HM4.out.lt;have:=hk.2.1;omega,fun e=>by have:=blk_lt HFL.out;have:=hk.2.1;omega⟩)) HB4.out.size),Kd.R_nil _ _ _ _ _,below_step HB4.out HB5.out⟩
 clear hl2 hf2 hb0 hgb hb4a HR5 HB5 HF2 HF3 HB2 HB3 HG2 HG3 HF4 HM4 HG4 HFL HB4
 rw [hbb] at HS5
 simp only [hbb]
 go_loopg [6] K (fun kq v6 w' => ∃ (m : Mp) (q : List S48) (n : Nat),Aside0 (bfs nb kq m q = some r) ∧ Aside0 (kq ≤ K) ∧ Aside0 (n + 5 * kq ≤ 5 * K + 1) ∧ Aside0 (∀ d ∈ q,G d) ∧ Aside0 (SF w w' #[.int .i64 a0_0,.int .i64 a0_1,.slice A0_2 l0_2.length c0_2] g2 b n m v6 q (.slice none 0 0) []))
 case atStart=>exact ⟨_,_,1,HH,⟨Nat.le_refl _⟩,⟨by omega⟩,⟨fun d hd=>by rw [List.mem_singleton] at hd;subst hd;exact hG⟩,HS5⟩
 case round =>
  clear HH HS5 hG
  obtain ⟨m,q,n,HA,HK1,HNN,HQ,HS⟩:=hrel
  cases gk with
  | zero=>exact absurd HA.out (by simp [bfs])
  | succ k1 =>
   cases q with
   | nil =>
    have e:=HA.out
    rw [bfs] at e
    obtain rfl:=Option.some.inj e
    obtain ⟨A6,c6,e6,_⟩:=Kd.Q_slice HS.out.ln
    subst e6
    clear HA e
    go_wp2
    go_ret
    exact ⟨b,n,rfl,HS.out.mb,by have:=HNN.out;omega,HS.out.mp,HS.out.bl⟩
   | cons c q =>
    have e:=HA.out
    rw [bfs] at e
    cases hc : m c with
    | none=>rw [hc] at e;exact absurd e (by simp)
    | some v =>
     rw [hc] at e
     dsimp only at e
     by_cases hg : q.length < 1000 ∧ 0 ≤ v ∧ v < 1000
     ·rw [if_pos hg] at e
      have HE:=Aside0.mk e
      have HV:=Aside0.mk hg
      have HC:=Aside0.mk hc
      have HGc:=Aside0.mk (HQ.out c List.mem_cons_self)
      have HGq : Aside0 (∀ d ∈ q,G d):=Aside0.mk (fun d hd=>HQ.out d (List.mem_cons_of_mem _ hd))
      clear e hg hc HA HQ
      obtain ⟨A6,c6,e6,hcap6⟩:=Kd.Q_slice HS.out.ln
      subst e6
      obtain ⟨ad6,ea,hx0,hx1⟩:=at_T48 (Kd.Q_reads' HS.out.ln).2.2 0 (Int.le_refl _) (by simp)
      subst ea
      rw [show (rd_T48 (c :: q) 0) = c from rfl,show ad6.add ((0 : Int).toNat * 2) = ad6 from by cases ad6;rfl] at hx0 hx1
      have hf0 : wr.cell? ⟨g2,0,none⟩ = some (.int .i64 a0_0):=(blk_cell HS.out.fl 0).trans rfl
      have hf1 : wr.cell? ⟨g2,1,none⟩ = some (.int .i64 a0_1):=(blk_cell HS.out.fl 1).trans rfl
      have hf2 : wr.cell? ⟨g2,2,none⟩ = some (.slice A0_2 l0_2.length c0_2):=(blk_cell HS.out.fl 2).trans rfl
      obtain ⟨ka,hka⟩:=HN.out.run c HGc.out
      have HKA:=Aside0.mk hka
      clear hka
      have hl6 : (c :: q).length = q.length + 1:=rfl
      have hcond : decide (0 < ((q.length + 1 : Nat) : Int)) = true:=decide_eq_true (by omega)
      rw [hl6] at *
      go_wp2
      refine start_ (n:=7) (S:=fun w'=>w'.cell? ⟨g2,0,none⟩ = some (.int .i64 a0_0) ∧ w'.cell? ⟨g2,1,none⟩ = some (.int .i64 a0_1) ∧ w'.cell? ⟨g2,2,none⟩ = some (.slice A0_2 l0_2.length c0_2) ∧ w'.cell? ad6 = some (.int .i64 c.f0) ∧ w'.cell? ⟨ad6.block,ad6.off + 1,none⟩ = some (.int .i64 c.f1)) (ds:=[4]) #[false,false,false,false,false,false,false] (by kernel_rfl) rfl rfl ⟨hf0,hf1,hf2,hx0,hx1⟩ (fun hHeld=>?_)
      refine take_ (i:=0) (N:=(some 21)) (v:=?_) (a':=?_) #[true,false,false,false,false,false,false] rfl rfl (by kernel_rfl) (fun _ _ _ h=>h) (Or.inl ⟨by rfl,?_⟩) hHeld ?_ ?_
      rotate_left
      ·intro w' s0
       obtain ⟨s1,s2,s3,s4,s5⟩:=s0
       go_simp
       with_reducible rfl
      rotate_left
      ·simp only [Act.put,zT,zU,zV,i64_w,i32_w]
       rfl
      refine pure_ (i:=1) (N:=(some 22)) (v:=?_) (a':=?_) #[true,true,false,false,false,false,false] rfl rfl (by kernel_rfl) (fun _ _ _ h=>h) (Or.inl ⟨by rfl,?_⟩) ?_ ?_
      rotate_left
      ·intro w'
       go_simp
       with_reducible rfl
      rotate_left
      ·simp only [Act.put,zT,zU,zV,i64_w,i32_w]
       rfl
      refine pure_ (i:=2) (N:=(some 23)) (v:=?_) (a':=?_) #[true,true,true,false,false,false,false] rfl rfl (by kernel_rfl) (fun _ _ _ h=>h) (Or.inl ⟨by rfl,?_⟩) ?_ ?_
      rotate_left
      ·intro w'
       go_simp
       with_reducible rfl
      rotate_left
      ·simp only [Act.put,zT,zU,zV,i64_w,i32_w]
       rfl
      refine take_ (i:=3) (N:=(some 24)) (v:=?_) (a':=?_) #[true,true,true,true,false,false,false] rfl rfl (by kernel_rfl) (fun _ _ _ h=>h) (Or.inl ⟨by rfl,?_⟩) hHeld ?_ ?_
      rotate_left
      ·intro w' s0
       obtain ⟨s1,s2,s3,s4,s5⟩:=s0
       go_simp
       with_reducible rfl
      rotate_left
      ·simp only [Act.put,zT,zU,zV,i64_w,i32_w]
       rfl
      refine pure_ (i:=6) (N:=(some 27)) (v:=?_) (a':=?_) #[true,true,true,true,false,false,true] rfl rfl (by kernel_rfl) (fun _ _ _ h=>h) (Or.inl ⟨by rfl,?_⟩) ?_ ?_
      rotate_left
      ·intro w'
       go_simp
       with_reducible rfl
      rotate_left
      ·simp only [Act.put,zT,zU,zV,i64_w,i32_w]
       rfl
      have HSd:=Aside0.mk (HS.out.below (below_drew1 (Below.refl _ _)))
      have HRd:=Aside0.mk (Kd.C_below HR0.out HSd.out.bl)
      generalize wr.drew = wd at HSd HRd hHeld ⊢
      refine last_ (i:=4) (N:=(some 25)) #[true,true,true,true,true,false,true] rfl rfl (by kernel_rfl) (by decide) (fun K hK=>?_)
      refine call_ 70 #[.agg #[.int .i64 a0_0,.int .i64 a0_1,.slice A0_2 l0_2.length c0_2],.agg #[.int .i64 c.f0,.int .i64 c.f1]] (by rfl) rfl ?hrun4 ?_
      case hrun4 =>
       unfold execOp
       simp [resolve,Deferred.ofValue,invoke,Act.eval,enters_ Try.func70 (by kernel_rfl) rfl]
      refine (impl_around.calls ka a0_0 a0_1 A0_2 c0_2 l0_2 c.f0 c.f1 (nb c) _ HRd.out HC0.out HKA.out).mono ?_
      rintro e w25 ⟨v25,rfl,hR,hB⟩
      refine ⟨_,rfl,?_⟩
      obtain ⟨A25,c25,rfl⟩:=Kd.R_slice hR
      have HS1:=Aside0.mk (HSd.out.near hB hR)
      clear hR hB hHeld HSd HRd HS hf0 hf1 hf2 hx0 hx1
      refine hK.out _ _ ?_
      clear hK K
      refine norm_ (a':=?_) ?_ ?_
      rotate_left
      ·show Act.put _ (some 25) _ = _
       simp only [Act.put,zT,zU,zV,i64_w,i32_w]
       rfl
      refine pure_ (i:=5) (N:=(some 26)) (v:=?_) (a':=?_) #[true,true,true,true,true,true,true] rfl rfl (by kernel_rfl) (fun _ _ _ h=>h) (Or.inl ⟨by rfl,?_⟩) ?_ ?_
      rotate_left
      ·intro w'
       go_simp
       with_reducible rfl
      rotate_left
      ·simp only [Act.put,zT,zU,zV,i64_w,i32_w]
       rfl
      refine done_ (by kernel_rfl) ?_
      go_wp2
      go_loopw [6,27] (fun v6 v27 w' => ∃ (x : Int) (m' : Mp) (q' : List S48) (n' : Nat),v27 = .int .i64 x ∧ Aside0 (0 ≤ x ∧ x ≤ ((nb c).length : Int)) ∧ Aside0 (stepIn (v + 1) ((nb c).drop x.toNat) m' q' = stepIn (v + 1) (nb c) m q) ∧ Aside0 (m' c = some v) ∧ Aside0 ((q'.length : Int) ≤ q.length + x) ∧ Aside0 ((n' : Int) ≤ n + x) ∧ Aside0 (∀ d ∈ q',G d) ∧ Aside0 (SF w w' #[.int .i64 a0_0,.int .i64 a0_1,.slice A0_2 l0_2.length c0_2] g2 b n' m' v6 (c :: q') (.slice A25 (nb c).length c25) (nb c))) (fun _ v27 _=>(nb c).length - (intOf v27).toNat)
      case atStart=>exact ⟨0,m,q,n,rfl,⟨Int.le_refl _,by omega⟩,⟨rfl⟩,HC,⟨by omega⟩,⟨by omega⟩,HGq,HS1⟩
      case round =>
       clear HS1 HC HGq
       obtain ⟨x,m',q',n',rfl,HX,HST,HC,HQL,HNL,HGq,HS⟩:=hrel
       have h5:=HN.out.len c HGc.out
       by_cases hlt : x < ((nb c).length : Int)
       ·obtain ⟨ad25,ea,hy0,hy1⟩:=at_T48 (Kd.R_reads' HS.out.nb).2.2 x HX.out.1 hlt
        cases ea
        obtain ⟨d,hd⟩ : ∃ d,rd_T48 (nb c) x = d:=⟨_,rfl⟩
        have hst:=HST.out
        rw [drop48 (nb c) x HX.out.1 hlt,hd] at hst
        have HGd : Aside0 (G d):=Aside0.mk (HN.out.cl c HGc.out d (by rw [← hd];exact mem48 _ x HX.out.1 hlt))
        rw [hd] at hy0 hy1
        have hX1 : 0 ≤ x + 1 ∧ x + 1 ≤ ((nb c).length : Int):=by have:=HX.out;omega
        have HX1:=Aside0.mk hX1
        have hwx : wrap64 (x + 1) = x + 1:=wrap64_id (by omega) (by omega)
        have p0 : decide (x < ((nb c).length : Int)) = true:=decide_eq_true hlt
        have p1:=eq_true HX.out.1
        have p2:=eq_true hlt
        obtain ⟨A6,c6,e6,hcap6⟩:=Kd.Q_slice HS.out.ln
        subst e6
        obtain ⟨ad6,ea,hx0,hx1⟩:=at_T48 (Kd.Q_reads' HS.out.ln).2.2 0 (Int.le_refl _) (by simp)
        subst ea
        rw [show (rd_T48 (c :: q') 0) = c from rfl,show ad6.add ((0 : Int).toNat * 2) = ad6 from by cases ad6;rfl] at hx0 hx1
        clear hX1 hlt hd HST
        cases hmd : m' d with
        | some y =>
         rw [stepIn_some hmd] at hst
         have HST:=Aside0.mk hst
         have HD:=Aside0.mk hmd
         clear hst hmd
         go_wp2_with (first|((with_reducible refine gate_dst (N:=8) rfl ?_);refine box_event ?hg (N:=8) ?hd (cs := #[.int .i64 0,.int .i64 0]) (t:=48) ?hr ?_;(case hd=>rfl);(case hg=>rfl);(case hr=>first|(go_simp;done)|(go_simp;rfl));intro g8 hgg8 w8 hbox hb;have HF8:=Aside0.mk hbox;have HB8:=Aside0.mk hb;have HG8:=Aside0.mk hgg8;clear hbox hb hgg8;have hz0 : w8.cell? ⟨g8,0,none⟩ = some (.int .i64 0):=(blk_cell HF8.out 0).trans rfl;have hz1 : w8.cell? ⟨g8,1,none⟩ = some (.int .i64 0):=(blk_cell HF8.out 1).trans rfl;have hzf0:=blk_frozen HF8.out 0;have hzf1:=blk_frozen HF8.out 1)|(at_lookup;have HB9:=Aside0.mk (below_set (j:=1) (v := .int .i64 d.f1) (below_set (j:=0) (v := .int .i64 d.f0) HB8.out (Nat.le_of_eq HG8.out.symm)) (Nat.le_of_eq HG8.out.symm));have HF9 : Aside0 (((w8.setCell ⟨g8,0,none⟩ (.int .i64 d.f0)).setCell ⟨g8,1,none⟩ (.int .i64 d.f1)).heap[g8]? = some (.cells #[.int .i64 d.f0,.int .i64 d.f1] 48 (0,0))):=Aside0.mk (blk_put (cs := #[.int .i64 d.f0,.int .i64 0]) (blk_put (cs := #[.int .i64 0,.int .i64 0]) HF8.out 0 _ rfl) 1 _ rfl);have HS9:=Aside0.mk (HS.out.below HB9.out);refine wpI_lookup_ok' (c:=d) rfl (.tmp 32) (.tmp 33) rfl rfl rfl HS9.out.mp (HN.out.wf d HGd.out) (v:=y) (i:=true) (by rw [HD.out];rfl) (by rw [HD.out];rfl) ?_;clear HB9 hz0 hz1 hzf0 hzf1 HF8 HB8 HG8;generalize ((w8.setCell ⟨g8,0,none⟩ (.int .i64 d.f0)).setCell ⟨g8,1,none⟩ (.int .i64 d.f1)) = w9 at HF9 HS9 ⊢;have hc90 : w9.cell? ⟨g8,0,none⟩ = some (.int .i64 d.f0):=(blk_cell HF9.out 0).trans rfl;have hc91 : w9.cell? ⟨g8,1,none⟩ = some (.int .i64 d.f1):=(blk_cell HF9.out 1).trans rfl))
         go_roundw
         case measure=>simp [intOf];have:=HX1.out;have:=HX.out;omega
         case rel=>exact ⟨x + 1,m',q',n',(by rw [hwx]),HX1,HST,HC,⟨by have:=HQL.out;omega⟩,⟨by have:=HNL.out;omega⟩,HGq,HS9⟩
        | none =>
         rw [stepIn_none hmd] at hst
         have HST:=Aside0.mk hst
         have HD:=Aside0.mk hmd
         clear hst hmd
         go_wp2_with (first|((with_reducible refine gate_dst (N:=8) rfl ?_);refine box_event ?hg (N:=8) ?hd (cs := #[.int .i64 0,.int .i64 0]) (t:=48) ?hr ?_;(case hd=>rfl);(case hg=>rfl);(case hr=>first|(go_simp;done)|(go_simp;rfl));intro g8 hgg8 w8 hbox hb;have HF8:=Aside0.mk hbox;have HB8:=Aside0.mk hb;have HG8:=Aside0.mk hgg8;clear hbox hb hgg8;have hz0 : w8.cell? ⟨g8,0,none⟩ = some (.int .i64 0):=(blk_cell HF8.out 0).trans rfl;have hz1 : w8.cell? ⟨g8,1,none⟩ = some (.int .i64 0):=(blk_cell HF8.out 1).trans rfl;have hzf0:=blk_frozen HF8.out 0;have hzf1:=blk_frozen HF8.out 1)|(at_lookup;have HB9:=Aside0.mk (below_set (j:=1) (v := .int .i64 d.f1) (below_set (j:=0) (v := .int .i64 d.f0) HB8.out (Nat.le_of_eq HG8.out.symm)) (Nat.le_of_eq HG8.out.symm));have HF9 : Aside0 (((w8.setCell ⟨g8,0,none⟩ (.int .i64 d.f0)).setCell ⟨g8,1,none⟩ (.int .i64 d.f1)).heap[g8]? = some (.cells #[.int .i64 d.f0,.int .i64 d.f1] 48 (0,0))):=Aside0.mk (blk_put (cs := #[.int .i64 d.f0,.int .i64 0]) (blk_put (cs := #[.int .i64 0,.int .i64 0]) HF8.out 0 _ rfl) 1 _ rfl);have HS9:=Aside0.mk (HS.out.below HB9.out);refine wpI_lookup_ok' (c:=d) rfl (.tmp 32) (.tmp 33) rfl rfl rfl HS9.out.mp (HN.out.wf d HGd.out) (v:=0) (i:=false) (by rw [HD.out];rfl) (by rw [HD.out];rfl) ?_;clear HB9 hz0 hz1 hzf0 hzf1 HF8 HB8 HG8;generalize ((w8.setCell ⟨g8,0,none⟩ (.int .i64 d.f0)).setCell ⟨g8,1,none⟩ (.int .i64 d.f1)) = w9 at HF9 HS9 ⊢;have hc90 : w9.cell? ⟨g8,0,none⟩ = some (.int .i64 d.f0):=(blk_cell HF9.out 0).trans rfl;have hc91 : w9.cell? ⟨g8,1,none⟩ = some (.int .i64 d.f1):=(blk_cell HF9.out 1).trans rfl))
         obtain ⟨ad7,ea,hx0,hx1⟩:=at_T48 (Kd.Q_reads' HS9.out.ln).2.2 0 (Int.le_refl _) (by simp)
         cases ea
         rw [show (rd_T48 (c :: q') 0) = c from rfl,show ad6.add ((0 : Int).toNat * 2) = ad6 from by cases ad6;rfl] at hx0 hx1
         have HSd:=Aside0.mk (HS9.out.below (below_drew1 (Below.refl _ _)))
         have hrun : (Instr.lookup 84 (.map (some b)) (.agg #[.int .i64 c.f0,.int .i64 c.f1]) false).run Try.prog w9.drew = .ok (.int .i64 v) w9.drew:=by
          have e:=mapI_run HSd.out.mp (HN.out.wf c HGc.out)
          rw [HC.out] at e
          exact e
         have hwv : wrap64 (v + 1) = v + 1:=wrap64_id (by have:=HV.out;omega) (by have:=HV.out;omega)
         refine start_ (n:=9) (S:=fun w'=>w'.cell? ⟨g8,0,none⟩ = some (.int .i64 d.f0) ∧ w'.cell? ⟨g8,1,none⟩ = some (.int .i64 d.f1) ∧ w'.cell? ad6 = some (.int .i64 c.f0) ∧ w'.cell? ⟨ad6.block,ad6.off + 1,none⟩ = some (.int .i64 c.f1) ∧ (Instr.lookup 84 (.map (some b)) (.agg #[.int .i64 c.f0,.int .i64 c.f1]) false).run Try.prog w' = .ok (.int .i64 v) w') (ds:=[8]) #[false,false,false,false,false,false,false,false,false] (by kernel_rfl) rfl rfl ⟨hc90,hc91,hx0,hx1,hrun⟩ (fun hHeld=>?_)
         refine pure_ (i:=0) (N:=(some 39)) (v:=?_) (a':=?_) #[true,false,false,false,false,false,false,false,false] rfl rfl (by kernel_rfl) (fun _ _ _ h=>h) (Or.inl ⟨by rfl,?_⟩) ?_ ?_
         rotate_left
         ·intro w'
          go_simp
          with_reducible rfl
         rotate_left
         ·simp only [Act.put,zT,zU,zV,i64_w,i32_w]
          rfl
         refine take_ (i:=1) (N:=(some 40)) (v:=?_) (a':=?_) #[true,true,false,false,false,false,false,false,false] rfl rfl (by kernel_rfl) (fun _ _ _ h=>h) (Or.inl ⟨by rfl,?_⟩) hHeld ?_ ?_
         rotate_left
         ·intro w' s0
          obtain ⟨s1,s2,s3,s4,s5⟩:=s0
          go_simp
          with_reducible rfl
         rotate_left
         ·simp only [Act.put,zT,zU,zV,i64_w,i32_w]
          rfl
         refine pure_ (i:=2) (N:=(some 41)) (v:=?_) (a':=?_) #[true,true,true,false,false,false,false,false,false] rfl rfl (by kernel_rfl) (fun _ _ _ h=>h) (Or.inl ⟨by rfl,?_⟩) ?_ ?_
         rotate_left
         ·intro w'
          go_simp
          with_reducible rfl
         rotate_left
         ·simp only [Act.put,zT,zU,zV,i64_w,i32_w]
          rfl
         refine pure_ (i:=3) (N:=(some 42)) (v:=?_) (a':=?_) #[true,true,true,true,false,false,false,false,false] rfl rfl (by kernel_rfl) (fun _ _ _ h=>h) (Or.inl ⟨by rfl,?_⟩) ?_ ?_
         rotate_left
         ·intro w'
          go_simp
          with_reducible rfl
         rotate_left
         ·simp only [Act.put,zT,zU,zV,i64_w,i32_w]
          rfl
         refine pure_ (i:=4) (N:=(some 43)) (v:=?_) (a':=?_) #[true,true,true,true,true,false,false,false,false] rfl rfl (by kernel_rfl) (fun _ _ _ h=>h) (Or.inl ⟨by rfl,?_⟩) ?_ ?_
         rotate_left
         ·intro w'
          go_simp
          with_reducible rfl
         rotate_left
         ·simp only [Act.put,zT,zU,zV,i64_w,i32_w]
          rfl
         refine take_ (i:=5) (N:=(some 44)) (v:=?_) (a':=?_) #[true,true,true,true,true,true,false,false,false] rfl rfl (by kernel_rfl) (fun _ _ _ h=>h) (Or.inl ⟨by rfl,?_⟩) hHeld ?_ ?_
         rotate_left
         ·intro w' s0
          obtain ⟨s1,s2,s3,s4,s5⟩:=s0
          go_simp
          with_reducible rfl
         rotate_left
         ·simp only [Act.put,zT,zU,zV,i64_w,i32_w]
          rfl
         refine take_ (i:=6) (N:=(some 45)) (v:=?_) (a':=?_) #[true,true,true,true,true,true,true,false,false] rfl rfl (by kernel_rfl) (fun _ _ _ h=>h) (Or.inl ⟨by rfl,?_⟩) hHeld ?_ ?_
         rotate_left
         ·intro w' s0
          obtain ⟨s1,s2,s3,s4,s5⟩:=s0
          go_simp
          with_reducible rfl
         rotate_left
         ·simp only [Act.put,zT,zU,zV,i64_w,i32_w]
          rfl
         refine pure_ (i:=7) (N:=(some 46)) (v:=?_) (a':=?_) #[true,true,true,true,true,true,true,true,false] rfl rfl (by kernel_rfl) (fun _ _ _ h=>h) (Or.inl ⟨by rfl,?_⟩) ?_ ?_
         rotate_left
         ·intro w'
          go_simp
          with_reducible rfl
         rotate_left
         ·simp only [Act.put,zT,zU,zV,i64_w,i32_w]
          rfl
         refine last_ (i:=8) (N:=none) #[true,true,true,true,true,true,true,true,true] rfl rfl (by kernel_rfl) (by decide) (fun K hK=>?_)
         obtain ⟨w10,hrun10,hm10,hg10⟩:=mapI_update HSd.out.mp (Nat.lt_of_lt_of_le (show n' < 10000 by have:=HNL.out;have:=HNN.out;have:=HX.out;omega) (show 10000 ≤ maxLen by decide)) (HN.out.wf d HGd.out) (v:=v + 1) (wf_small (by have:=HV.out;omega) (by have:=HV.out;omega))
         have hrun11 : (Instr.mapUpdate 84 (.map (some b)) (.agg #[.int .i64 d.f0,.int .i64 d.f1]) (.int .i64 (v + 1))).run Try.prog w9.drew = .ok () w10:=hrun10
         refine skip_ (w1:=w10) (by rfl) rfl ?hr8 ?_
         case hr8=>first|(go_simp;done)|(go_simp;rfl)
         refine hK.out _ _ ?_
         clear hK K
         have HS10:=Aside0.mk (HSd.out.put hm10 hg10)
         have HF10:=Aside0.mk (grown_blk hg10 (blk_below HF9.out (below_drew1 (Below.refl _ _))) (fun e=>HS9.out.mp.cells HF9.out e.symm))
         have hc100 : w10.cell? ⟨g8,0,none⟩ = some (.int .i64 d.f0):=(blk_cell HF10.out 0).trans rfl
         have hc101 : w10.cell? ⟨g8,1,none⟩ = some (.int .i64 d.f1):=(blk_cell HF10.out 1).trans rfl
         clear hm10 hg10 hrun hrun10 hrun11 hHeld hx0 hx1 hc90 hc91 HSd HF9 HS9 HF10
         refine done_ (by kernel_rfl) ?_
         go_wp2_with (first|(at_builtin;refine Kd.Q_append k48 (W:=w10) w.heap.size rfl (.tmp 47) (.tmp 49) 27 48 _ 16 rfl Try.underlying27 info48 rfl (by decide) (by decide) _ (c :: q') d [.int .i64 d.f0,.int .i64 d.f1] (fun k=>k ≠ b ∧ k ≠ g2) (fun _=>False) rfl rfl (k48_mkM _ _ _ d) (fun _ hk=>hk.elim) (fun k hk=>⟨fun e=>by have:=HS10.out.mp.lt;omega,fun e=>by have:=blk_lt HS10.out.fl;omega⟩) HS10.out.ln HS10.out.bl HS10.out.bl.size (by have:=HQL.out;have:=HV.out;have:=HX.out;simp only [List.length_cons];omega) ?_;intro v50 w50 hQ hB hg hat;have HS50:=Aside0.mk (HS10.out.app hQ hB hg hat);clear hQ hB hg hat HS10))
         go_roundw
         case measure=>simp [intOf];have:=HX1.out;have:=HX.out;omega
         case rel=>exact ⟨x + 1,_,_,n' + 1,(by rw [hwx]),HX1,HST,⟨(upd_other _ _ (fun e=>by have h1:=HC.out;have h2:=HD.out;rw [e] at h1;rw [h1] at h2;cases h2)).trans HC.out⟩,⟨by have:=HQL.out;rw [List.length_append,List.length_singleton];omega⟩,⟨by have:=HNL.out;omega⟩,⟨fun e he=>by rcases List.mem_append.1 he with he|he;exact HGq.out e he;rw [List.mem_singleton] at he;subst he;exact HGd.out⟩,HS50⟩
       ·have p0 : decide (x < ((nb c).length : Int)) = false:=decide_eq_false hlt
        have hst:=HST.out
        rw [List.drop_eq_nil_of_le (by have:=HX.out;omega)] at hst
        have HEND:=Aside0.mk hst
        clear hst HST
        obtain ⟨A6,c6,e6,hcap6⟩:=Kd.Q_slice HS.out.ln
        subst e6
        obtain ⟨i048,hi48,_,hsz48,_⟩:=info_parts info48
        have hcut:=cut_from (P:=Try.prog) 27 48 .i64 Try.underlying27 hi48 2 hsz48 A6 (c :: q').length c6 1 (by decide) (by simp only [List.length_cons];omega)
        obtain ⟨A7,hA7⟩ : ∃ A7,(if c6 = 1 then A6 else A6.map (·.add (1 * 2))) = A7:=⟨_,rfl⟩
        obtain ⟨c7,hc7⟩ : ∃ c7,c6 - 1 = c7:=⟨_,rfl⟩
        have hcut2 : ∀ W : World,(Instr.slice 27 (.slice A6 (q'.length + 1) c6) (some (.int .i64 1)) none none).run Try.prog W = .ok (.slice A7 q'.length c7) W:=fun W=>by
         rw [← hA7,← hc7]
         exact hcut W
        have hs7 : SF w wr #[.int .i64 a0_0,.int .i64 a0_1,.slice A0_2 l0_2.length c0_2] g2 b n' m' (.slice A7 q'.length c7) q' (.slice none 0 0) []:=by
         rw [← hA7,← hc7]
         exact HS.out.next
        have HS7:=Aside0.mk hs7
        clear HS hs7 hcut hA7 hc7
        go_wp2
        go_roundg k1
        case measure=>have:=HK1.out;omega
        case rel=>exact ⟨m',q',n',⟨by have e:=HE.out;rw [← HEND.out] at e;exact e⟩,⟨by have:=HK1.out;omega⟩,⟨by have:=HNN.out;have:=HNL.out;have:=HX.out;omega⟩,HGq,HS7⟩
     ·rw [if_neg hg] at e;exact absurd e (by simp)
end Go.Proofs.Ytbpccdbkaiigcaa.G

/- The table of the numbers of steps: as a list of rows, and what the walks hold of the world while it is built. -/
namespace Go.Proofs.Ytbpccdbkaiigcaa.G
open Go.RowKit Go.Proofs.YtbpccdbkaiigcaaW.PrintWords Go.Proofs.YtbpccdbkaiigcaaW.PrintLast Go.Proofs.YtbpccdbkaiigcaaW.PrintMore
set_option linter.unusedVariables false
set_option linter.unusedSimpArgs false
def rowOf (f : S48 → Int) (y : Int) : Nat → List Int
 | 0=>[]
 | x + 1=>rowOf f y x ++ [f ⟨x,y⟩]
def tabOf (f : S48 → Int) (wd : Nat) : Nat → List (List Int)
 | 0=>[]
 | y + 1=>tabOf f wd y ++ [rowOf f y wd]
abbrev SS:=Kd.slice 3 (Kd.int .i64)
/-- Rows behind one another, and the row that is built. -/
structure TB (w0 w : World) (ok : Nat → Prop) (v7 : Value) (rows : List (List Int)) (v9 : Value) (row : List Int) : Prop where
 out : Kd.S SS 72 w w0.heap.size (fun k=>ok k ∧ some k ≠ v9.ownBlock) v7 rows
 row : Kd.R (Kd.int .i64) 3 w w0.heap.size ok v9 row
 bl : Below w0.heap.size w0 w
section
variable {w0 w w1 : World} {ok : Nat → Prop} {v7 v9 v1 : Value} {rows : List (List Int)} {row row' : List Int}
theorem TB.below (h : TB w0 w ok v7 rows v9 row) (hb : Below w.heap.size w w1) : TB w0 w1 ok v7 rows v9 row:=⟨Kd.S_below h.out hb,Kd.R_below h.row hb,below_step h.bl hb⟩
end
end Go.Proofs.Ytbpccdbkaiigcaa.G

/- The table of the numbers of steps: read at a cell, written at a cell; what the reference's walk holds of the world. -/
namespace Go.Proofs.Ytbpccdbkaiigcaa.G
open Go.RowKit Go.Proofs.YtbpccdbkaiigcaaW.PrintWords Go.Proofs.YtbpccdbkaiigcaaW.PrintLast Go.Proofs.YtbpccdbkaiigcaaW.PrintMore
set_option linter.unusedVariables false
set_option linter.unusedSimpArgs false
structure SQ (w0 w : World) (fc : Array Value) (g2 : Nat) (v6 : Value) (T : List (List Int)) (v10 : Value) (l : List S48) (vn : Value) (ds : List S48) : Prop where
 fl : w.heap[g2]? = some (.cells fc 29 (0,0))
 tb : Kd.S SS 72 w w0.heap.size (fun _=>True) v6 T
 qu : Kd.R k48 48 w w0.heap.size (fun _=>True) v10 l
 nx : Kd.R k48 48 w w0.heap.size (fun k=>True ∧ some k ≠ v10.ownBlock) vn ds
 bl : Below w0.heap.size w0 w
section
variable {w0 w w1 : World} {fc : Array Value} {g2 : Nat} {v6 v10 v11 vn vn' : Value} {T T' : List (List Int)} {l l' ds ds' : List S48}
theorem SQ.below (h : SQ w0 w fc g2 v6 T v10 l vn ds) (hb : Below w.heap.size w w1) : SQ w0 w1 fc g2 v6 T v10 l vn ds:=⟨blk_below h.fl hb,Kd.S_below h.tb hb,Kd.R_below h.qu hb,Kd.R_below h.nx hb,below_step h.bl hb⟩
theorem SQ.app (h : SQ w0 w fc g2 v6 T v10 l vn ds) (hq : Kd.R k48 48 w1 w0.heap.size (fun _=>True) v11 l') (hb : Below w0.heap.size w0 w1) (hg : w.grownBy w1 v10.ownBlock) (hat : v11.ownBlock = v10.ownBlock ∨ ∃ b,v11.ownBlock = some b ∧ w.heap.size ≤ b) : SQ w0 w1 fc g2 v6 T v11 l' vn ds :=
 ⟨(hg.block g2 (blk_lt h.fl) (Kd.R_ne h.qu h.fl (by decide))).trans h.fl,Kd.S_over' h.tb (fun k hk=>Kd.R_typed h.qu k hk) (by decide) hg,hq,Kd.R_after h.nx hg hat,hb⟩
theorem SQ.near (h : SQ w0 w fc g2 v6 T v10 l vn ds) (hb : Below w.heap.size w w1) (hr : Kd.R k48 48 w1 w.heap.size (fun _=>True) vn' ds') : SQ w0 w1 fc g2 v6 T v10 l vn' ds' :=
 have h':=h.below hb
 ⟨h'.fl,h'.tb,h'.qu,Kd.R_lower (Kd.R_mono (Kd.R_bound hr) (fun k hk=>⟨trivial,fun e=>by have:=Kd.R_lt h.qu k e.symm;have:=hk.2.1;omega⟩)) h.bl.size,h'.bl⟩
end
end Go.Proofs.Ytbpccdbkaiigcaa.G

-- Written by wip/tools/gen.py out of the translation (the kit's printer, one namespace a seat). Lean checks it.
namespace Go.Proofs.Ytbpccdbkaiigcaa.G
open Go.RowKit Go.Proofs.YtbpccdbkaiigcaaW.PrintWords Go.Proofs.YtbpccdbkaiigcaaW.PrintLast Go.Proofs.YtbpccdbkaiigcaaW.PrintMore
attribute [local go_sem] max2_int min2_int max_two min_two max_three min_three max_four min_four   -- for this text's walks alone
set_option linter.unusedVariables false
set_option linter.unusedSimpArgs false

/-! ### spec_l16Next: function 64 -/
def spec_l16Next.l0:Nat → List (S48) → List (S48) → Int → Int → Int → List (S48) → Option ((List (S48)))
 | 0,_,_,_,_,_,_=>none
 | k + 1,x5,x6,x7,x384000,x384001,x384002=>if x7 < (x5.length:Int) then (if 0 ≤ x7 then ((spec_l16Free.f k x384000 x384001 x384002 ((rd_T48 x5 x7).f0) ((rd_T48 x5 x7).f1)).bind fun t392=>(if t392 = true then (if x6.length < 8796093022208 then (spec_l16Next.l0 k x5 (x6 ++ [(⟨(rd_T48 x5 x7).f0,(rd_T48 x5 x7).f1⟩ : S48)]) (wrap64 (x7 + 1)) x384000 x384001 x384002) else (none)) else (spec_l16Next.l0 k x5 x6 (wrap64 (x7 + 1)) x384000 x384001 x384002))) else (none)) else (some x6)
def spec_l16Next.f (k:Nat) (a0_0:Int) (a0_1:Int) (l0_2:List (S48)) (a1_0:Int) (a1_1:Int):Option ((List (S48))):=spec_l16Next.l0 k (([(⟨a1_0,wrap64 (a1_1 - 1)⟩ : S48),(⟨wrap64 (a1_0 - 1),a1_1⟩ : S48),(⟨a1_0,a1_1⟩ : S48),(⟨wrap64 (a1_0 + 1),a1_1⟩ : S48),(⟨a1_0,wrap64 (a1_1 + 1)⟩ : S48)]:List (S48))) (([]:List (S48))) 0 a0_0 a0_1 l0_2
end Go.Proofs.Ytbpccdbkaiigcaa.G

/- The walks of spec.PathLengthTo. -/
namespace Go.Proofs.Ytbpccdbkaiigcaa.G
open Go.RowKit Go.Proofs.YtbpccdbkaiigcaaW.PrintWords Go.Proofs.YtbpccdbkaiigcaaW.PrintLast Go.Proofs.YtbpccdbkaiigcaaW.PrintMore
set_option linter.unusedVariables false
set_option linter.unusedSimpArgs false
/-- The reference's neighbours among the cells G. -/
structure Nbs' (a0_0 a0_1 : Int) (l0_2 : List S48) (G : S48 → Prop) (nb : S48 → List S48) : Prop where
 inn : ∀ d,G d → (0 ≤ d.f0 ∧ d.f0 < a0_0) ∧ (0 ≤ d.f1 ∧ d.f1 < a0_1)
 len : ∀ d,G d → (nb d).length ≤ 5
 cl : ∀ d,G d → ∀ e ∈ nb d,G e
 run : ∀ d,G d → ∃ k,spec_l16Next.f k a0_0 a0_1 l0_2 d.f0 d.f1 = some (nb d)
end Go.Proofs.Ytbpccdbkaiigcaa.G

/- The neighbours of a free cell, and that the search by breadth comes to its end. -/
namespace Go.Proofs.Ytbpccdbkaiigcaa.G
open Go.RowKit Go.Proofs.YtbpccdbkaiigcaaW.PrintWords Go.Proofs.YtbpccdbkaiigcaaW.PrintLast
set_option linter.unusedVariables false
set_option linter.unusedSimpArgs false
noncomputable def sel (w h : Int) (bl : List S48) (d : S48) : List S48:=chk (Free w h bl d) [d] []
noncomputable def nbOf (w h : Int) (bl : List S48) (c : S48) : List S48:=((((([] ++ sel w h bl ⟨c.f0,c.f1 - 1⟩) ++ sel w h bl ⟨c.f0 - 1,c.f1⟩) ++ sel w h bl ⟨c.f0,c.f1⟩) ++ sel w h bl ⟨c.f0 + 1,c.f1⟩) ++ sel w h bl ⟨c.f0,c.f1 + 1⟩)
theorem sel_len (w h : Int) (bl : List S48) (d : S48) : (sel w h bl d).length ≤ 1:=by
 unfold sel
 by_cases hf : Free w h bl d
 ·rw [chk_pos hf];simp
 ·rw [chk_neg hf];simp
theorem sel_mem {w h : Int} {bl : List S48} {d e : S48} : e ∈ sel w h bl d ↔ e = d ∧ Free w h bl d:=by
 unfold sel
 by_cases hf : Free w h bl d
 ·rw [chk_pos hf];simp [hf]
 ·rw [chk_neg hf];simp [hf]
theorem nb_len (w h : Int) (bl : List S48) (c : S48) : (nbOf w h bl c).length ≤ 5:=by
 unfold nbOf
 simp only [List.length_append,List.length_nil]
 have h1:=sel_len w h bl ⟨c.f0,c.f1 - 1⟩
 have h2:=sel_len w h bl ⟨c.f0 - 1,c.f1⟩
 have h3:=sel_len w h bl ⟨c.f0,c.f1⟩
 have h4:=sel_len w h bl ⟨c.f0 + 1,c.f1⟩
 have h5:=sel_len w h bl ⟨c.f0,c.f1 + 1⟩
 omega
theorem nb_mem {w h : Int} {bl : List S48} {c e : S48} : e ∈ nbOf w h bl c ↔ Free w h bl e ∧ (e = ⟨c.f0,c.f1 - 1⟩ ∨ e = ⟨c.f0 - 1,c.f1⟩ ∨ e = ⟨c.f0,c.f1⟩ ∨ e = ⟨c.f0 + 1,c.f1⟩ ∨ e = ⟨c.f0,c.f1 + 1⟩):=by
 unfold nbOf
 simp only [List.mem_append,List.not_mem_nil,false_or,sel_mem]
 constructor
 ·rintro ((((⟨rfl,h⟩|⟨rfl,h⟩)|⟨rfl,h⟩)|⟨rfl,h⟩)|⟨rfl,h⟩) <;> simp [h]
 ·rintro ⟨h,(rfl|rfl|rfl|rfl|rfl)⟩ <;> simp [h]
theorem free_in {w h : Int} {bl : List S48} {c : S48} (hf : FloorOk w h bl) (hc : Free w h bl c) : (0 ≤ c.f0 ∧ c.f0 ≤ 5) ∧ (0 ≤ c.f1 ∧ c.f1 ≤ 5):=by
 have:=hf.1
 have:=hf.2.1
 have:=hc.1
 unfold In at this
 omega
theorem impl_nb {w h : Int} {bl : List S48} (hf : FloorOk w h bl) (hb : (bl.length : Int) ≤ 1099511627776) {c : S48} (hc : Free w h bl c) : Ev (fun k=>impl_around.f k w h bl c.f0 c.f1) (nbOf w h bl c):=by
 have hin:=free_in hf hc
 unfold impl_around.f
 simp only [Option.bind_some]
 obtain ⟨L,hL⟩ : ∃ L : List S48,[(⟨0,(-1)⟩ : S48),(⟨(-1),0⟩ : S48),(⟨0,0⟩ : S48),(⟨1,0⟩ : S48),(⟨0,1⟩ : S48)] = L:=⟨_,rfl⟩
 have hl : L.length = 5:=by rw [← hL];rfl
 rw [hL,hl]
 have step : ∀ (i : Int) (acc : List S48) (d : S48) (r : List S48),0 ≤ i → i < 5 → acc.length ≤ 10 → wrap64 (c.f0 + (rd_T48 L i).f0) = d.f0 → wrap64 (c.f1 + (rd_T48 L i).f1) = d.f1 → Ev (fun k=>impl_around.l0 k (acc ++ sel w h bl d) L 5 (i + 1) w h bl c.f0 c.f1) r → Ev (fun k=>impl_around.l0 k acc L ((5 : Nat) : Int) i w h bl c.f0 c.f1) r:=by
  intro i acc d r i0 i1 ha e0 e1 hr
  refine Ev.step (fun k=>by rw [impl_around.l0]) ?_
  have q5 : i < ((5 : Nat) : Int):=i1
  have q6 : i < (L.length : Int):=by rw [hl];exact i1
  simp only [if_pos q5,if_pos q6,if_pos i0,e0,e1,wrap64_id (x:=i + 1) (by omega) (by omega)]
  refine Ev.bind (impl_free w h bl d hf.1 hf.2.1 hb) ?_
  unfold sel at hr
  by_cases hd : Free w h bl d
  ·rw [chk_pos hd] at hr ⊢
   simp only [if_true,if_pos (show acc.length < 8796093022208 by omega)]
   exact hr
  ·rw [chk_neg hd] at hr ⊢
   simp only [Bool.false_eq_true,if_false]
   rw [List.append_nil] at hr
   exact hr
 have s1:=sel_len w h bl ⟨c.f0,c.f1 - 1⟩
 have s2:=sel_len w h bl ⟨c.f0 - 1,c.f1⟩
 have s3:=sel_len w h bl ⟨c.f0,c.f1⟩
 have s4:=sel_len w h bl ⟨c.f0 + 1,c.f1⟩
 have s5:=sel_len w h bl ⟨c.f0,c.f1 + 1⟩
 refine step 0 [] ⟨c.f0,c.f1 - 1⟩ _ (by omega) (by omega) (by simp) (by rw [← hL];show wrap64 (c.f0 + 0) = c.f0;rw [wrap64_id (by omega) (by omega)];omega) (by rw [← hL];show wrap64 (c.f1 + (-1)) = c.f1 - 1;rw [wrap64_id (by omega) (by omega)];omega) ?_
 refine step 1 _ ⟨c.f0 - 1,c.f1⟩ _ (by omega) (by omega) (by simp;omega) (by rw [← hL];show wrap64 (c.f0 + (-1)) = c.f0 - 1;rw [wrap64_id (by omega) (by omega)];omega) (by rw [← hL];show wrap64 (c.f1 + 0) = c.f1;rw [wrap64_id (by omega) (by omega)];omega) ?_
 refine step 2 _ ⟨c.f0,c.f1⟩ _ (by omega) (by omega) (by simp;omega) (by rw [← hL];show wrap64 (c.f0 + 0) = c.f0;rw [wrap64_id (by omega) (by omega)];omega) (by rw [← hL];show wrap64 (c.f1 + 0) = c.f1;rw [wrap64_id (by omega) (by omega)];omega) ?_
 refine step 3 _ ⟨c.f0 + 1,c.f1⟩ _ (by omega) (by omega) (by simp;omega) (by rw [← hL];show wrap64 (c.f0 + 1) = c.f0 + 1;rw [wrap64_id (by omega) (by omega)]) (by rw [← hL];show wrap64 (c.f1 + 0) = c.f1;rw [wrap64_id (by omega) (by omega)];omega) ?_
 refine step 4 _ ⟨c.f0,c.f1 + 1⟩ _ (by omega) (by omega) (by simp;omega) (by rw [← hL];show wrap64 (c.f0 + 0) = c.f0;rw [wrap64_id (by omega) (by omega)];omega) (by rw [← hL];show wrap64 (c.f1 + 1) = c.f1 + 1;rw [wrap64_id (by omega) (by omega)]) ?_
 refine Ev.step (fun k=>by rw [impl_around.l0]) ?_
 simp only [if_neg (show ¬ ((4 : Int) + 1 < 5) by decide)]
 exact Ev.now _
theorem nbs_impl {w h : Int} {bl : List S48} (hf : FloorOk w h bl) (hb : (bl.length : Int) ≤ 1099511627776) : Nbs w h bl (Free w h bl) (nbOf w h bl) where
 wf:=fun d hd=>by have:=free_in hf hd;exact ⟨wf_small (by omega) (by omega),wf_small (by omega) (by omega)⟩
 len:=fun d _=>nb_len w h bl d
 cl:=fun d _ e he=>(nb_mem.1 he).1
 run:=fun d hd=>Ev.rounds (impl_nb hf hb hd)
/-! the end of the search -/
def unseen (m : Mp) : List S48 → Nat
 | []=>0
 | c :: cs=>(if (m c).isSome then 0 else 1) + unseen m cs
theorem unseen_le (m : Mp) (d : S48) (x : Int) : ∀ cs,unseen (upd m d x) cs ≤ unseen m cs
 | []=>Nat.le_refl _
 | c :: cs=>by
  have ih:=unseen_le m d x cs
  unfold unseen
  by_cases e : c = d
  ·subst e
   rw [upd_same]
   simp
   omega
  ·rw [upd_other m x e];omega
theorem unseen_lt (m : Mp) (d : S48) (x : Int) (hm : m d = none) : ∀ cs,d ∈ cs → unseen (upd m d x) cs + 1 ≤ unseen m cs
 | [],h=>by cases h
 | c :: cs,h=>by
  have le:=unseen_le m d x cs
  unfold unseen
  by_cases e : c = d
  ·subst e
   rw [upd_same,hm]
   simp
   omega
  ·rw [upd_other m x e]
   have:=unseen_lt m d x hm cs (by rcases List.mem_cons.1 h with h|h;exact absurd h.symm e;exact h)
   omega
/-- What a round keeps: seen is seen; what stands in line is seen; the numbers grow by one. -/
theorem stepIn_inv {all : List S48} {G : S48 → Prop} (hall : ∀ d,G d → d ∈ all) (x P : Int) (hx : 0 ≤ x ∧ x ≤ P) : ∀ (ds : List S48) (m : Mp) (q : List S48),(∀ d ∈ ds,G d) → (∀ d ∈ q,(m d).isSome ∧ G d) → (∀ d v,m d = some v → 0 ≤ v ∧ v ≤ P) →
  (stepIn x ds m q).2.length + unseen (stepIn x ds m q).1 all ≤ q.length + unseen m all ∧ (∀ d ∈ (stepIn x ds m q).2,((stepIn x ds m q).1 d).isSome ∧ G d) ∧ (∀ d v,(stepIn x ds m q).1 d = some v → 0 ≤ v ∧ v ≤ P)
 | [],m,q,_,h2,h3=>⟨Nat.le_refl _,h2,h3⟩
 | d :: ds,m,q,h1,h2,h3=>by
  cases hm : m d with
  | some y =>
   rw [stepIn_some hm]
   exact stepIn_inv hall x P hx ds m q (fun e he=>h1 e (List.mem_cons_of_mem _ he)) h2 h3
  | none =>
   rw [stepIn_none hm]
   have hd:=h1 d List.mem_cons_self
   have r:=stepIn_inv hall x P hx ds (upd m d x) (q ++ [d]) (fun e he=>h1 e (List.mem_cons_of_mem _ he)) (fun e he=>by
    rcases List.mem_append.1 he with he|he
    ·refine ⟨?_,(h2 e he).2⟩
     by_cases e' : e = d
     ·subst e';rw [upd_same];rfl
     ·rw [upd_other m x e'];exact (h2 e he).1
    ·rw [List.mem_singleton] at he
     subst he
     rw [upd_same]
     exact ⟨rfl,hd⟩) (fun e v he=>by
    by_cases e' : e = d
    ·subst e';rw [upd_same] at he;injection he with he;omega
    ·rw [upd_other m x e'] at he;exact h3 e v he)
   have u:=unseen_lt m d x hm all (hall d hd)
   rw [List.length_append,List.length_singleton] at r
   exact ⟨by omega,r.2⟩
theorem bfs_ends {all : List S48} {G : S48 → Prop} {nb : S48 → List S48} (hall : ∀ d,G d → d ∈ all) (hcl : ∀ d,G d → ∀ e ∈ nb d,G e) : ∀ (k : Nat) (m : Mp) (q : List S48) (P : Int),q.length + unseen m all < k → P + k ≤ 900 → 0 ≤ P → (∀ d ∈ q,(m d).isSome ∧ G d) → (∀ d v,m d = some v → 0 ≤ v ∧ v ≤ P) → ∃ r,bfs nb k m q = some r
 | 0,m,q,P,h,_,_,_,_=>by omega
 | k + 1,m,[],P,_,_,_,_,_=>⟨m,rfl⟩
 | k + 1,m,c :: q,P,h,hP,hP0,hq,hv=>by
  have hc:=hq c List.mem_cons_self
  obtain ⟨v,hmc⟩:=Option.isSome_iff_exists.1 hc.1
  have hvv:=hv c v hmc
  rw [bfs,hmc]
  dsimp only
  rw [List.length_cons] at h
  rw [if_pos ⟨by omega,hvv.1,by omega⟩]
  have r:=stepIn_inv hall (v + 1) (P + 1) ⟨by omega,by omega⟩ (nb c) m q (hcl c hc.2) (fun d hd=>hq d (List.mem_cons_of_mem _ hd)) (fun d y e=>by have:=hv d y e;omega)
  exact bfs_ends hall hcl k _ _ (P + 1) (by omega) (by omega) (by omega) r.2.1 r.2.2
def grid : List S48:=(List.range 6).flatMap fun (y : Nat)=>(List.range 6).map fun (x : Nat)=>(⟨(x : Int),(y : Int)⟩ : S48)
theorem grid_mem {c : S48} (h : (0 ≤ c.f0 ∧ c.f0 ≤ 5) ∧ (0 ≤ c.f1 ∧ c.f1 ≤ 5)) : c ∈ grid:=by
 unfold grid
 rw [List.mem_flatMap]
 refine ⟨c.f1.toNat,List.mem_range.2 (by omega),List.mem_map.2 ⟨c.f0.toNat,List.mem_range.2 (by omega),?_⟩⟩
 cases c
 simp only [S48.mk.injEq]
 simp only at h
 omega
theorem unseen_bd (m : Mp) : ∀ cs,unseen m cs ≤ cs.length
 | []=>Nat.le_refl _
 | c :: cs=>by
  have:=unseen_bd m cs
  unfold unseen
  rw [List.length_cons]
  split <;> omega
theorem bfs_floor {w h : Int} {bl : List S48} (hf : FloorOk w h bl) {c : S48} (hc : Free w h bl c) : ∃ r,bfs (nbOf w h bl) 100 (upd (fun _=>none) c 0) [c] = some r:=by
 refine bfs_ends (all:=grid) (G:=Free w h bl) (fun d hd=>grid_mem (free_in hf hd)) (fun d _ e he=>(nb_mem.1 he).1) 100 _ _ 0 ?_ (by omega) (by omega) ?_ ?_
 ·have:=unseen_bd (upd (fun _=>none) c 0) grid
  have e : grid.length = 36:=rfl
  rw [List.length_singleton]
  omega
 ·intro d hd
  rw [List.mem_singleton] at hd
  subst hd
  rw [upd_same]
  exact ⟨rfl,hc⟩
 ·intro d v e
  by_cases h : d = c
  ·subst h;rw [upd_same] at e;injection e with e;omega
  ·rw [upd_other _ _ h] at e;cases e
theorem spec_asked (w h : Int) (bl : List S48) (hb : (bl.length : Int) ≤ 1099511627776) (a b : S48) : Ev (fun k=>spec_l16Asked.f k w h bl a.f0 a.f1 b.f0 b.f1) (chk (FloorOk w h bl ∧ Free w h bl a ∧ Free w h bl b) true false):=by
 unfold spec_l16Asked.f
 refine Ev.bind (spec_floor w h bl hb) ?_
 by_cases hf : FloorOk w h bl
 ·rw [chk_pos hf]
  simp only [if_true]
  refine Ev.bind (spec_free w h bl a hf.1 hf.2.1 hb) ?_
  by_cases ha : Free w h bl a
  ·rw [chk_pos ha]
   simp only [if_true]
   refine Ev.bind (spec_free w h bl b hf.1 hf.2.1 hb) ?_
   by_cases hb2 : Free w h bl b
   ·rw [chk_pos hb2,chk_pos ⟨hf,ha,hb2⟩];exact Ev.now _
   ·rw [chk_neg hb2,chk_neg (fun x=>hb2 x.2.2)];exact Ev.now _
  ·rw [chk_neg ha,chk_neg (fun x=>ha x.2.1)];exact Ev.now _
 ·rw [chk_neg hf,chk_neg (fun x=>hf x.1)];exact Ev.now _
end Go.Proofs.Ytbpccdbkaiigcaa.G

/- The search by breadth finds the least numbers of steps. -/
namespace Go.Proofs.Ytbpccdbkaiigcaa.G
open Go.RowKit Go.Proofs.YtbpccdbkaiigcaaW.PrintWords Go.Proofs.YtbpccdbkaiigcaaW.PrintLast
set_option linter.unusedVariables false
set_option linter.unusedSimpArgs false
/-- x is reached from c by n steps. -/
def Rch (nb : S48 → List S48) (c : S48) : Nat → S48 → Prop
 | 0,x=>x = c
 | n + 1,x => ∃ y,Rch nb c n y ∧ x ∈ nb y
/-- What a round of the search keeps: hd is the number of the line's head. -/
structure BI (nb : S48 → List S48) (c0 : S48) (D : S48 → Prop) (m : Mp) (q : List S48) (hd : Int) : Prop where
 st : m c0 = some 0
 snd : ∀ x v,m x = some v → 0 ≤ v ∧ Rch nb c0 v.toNat x
 cls : ∀ x v,m x = some v → x ∉ q → ¬ D x → ∀ y ∈ nb x,∃ u,m y = some u ∧ u ≤ v + 1
 seen : ∀ x ∈ q,∃ v,m x = some v ∧ hd ≤ v
 top : ∀ x v,m x = some v → v ≤ hd + 1
 srt : q.Pairwise (fun x y => ∀ u v,m x = some u → m y = some v → u ≤ v)
theorem stepIn_bi {nb : S48 → List S48} {c0 c : S48} {v : Int} : ∀ (ds : List S48) (m : Mp) (q : List S48),BI nb c0 (fun x=>x = c) m q v → m c = some v → (∀ y ∈ nb c,y ∈ ds ∨ ∃ u,m y = some u ∧ u ≤ v + 1) → (∀ d ∈ ds,d ∈ nb c) →
  BI nb c0 (fun _=>False) (stepIn (v + 1) ds m q).1 (stepIn (v + 1) ds m q).2 v
 | [],m,q,h,hc,hdone,_=>by
  show BI nb c0 (fun _=>False) m q v
  refine ⟨h.st,h.snd,fun x u hx hq _ y hy=>?_,h.seen,h.top,h.srt⟩
  by_cases e : x = c
  ·subst e
   rw [hc] at hx
   obtain rfl:=Option.some.inj hx
   rcases hdone y hy with h1|h1
   ·cases h1
   ·exact h1
  ·exact h.cls x u hx hq e y hy
 | d :: ds,m,q,h,hc,hdone,hin=>by
  cases hd : m d with
  | some y =>
   rw [stepIn_some hd]
   refine stepIn_bi ds m q h hc (fun y' hy'=>?_) (fun e he=>hin e (List.mem_cons_of_mem _ he))
   rcases hdone y' hy' with h1|h1
   ·rcases List.mem_cons.1 h1 with h1|h1
    ·subst h1;exact Or.inr ⟨y,hd,h.top _ _ hd⟩
    ·exact Or.inl h1
   ·exact Or.inr h1
  | none =>
   rw [stepIn_none hd]
   have ne : ∀ x u,m x = some u → x ≠ d:=fun x u hx e=>by rw [e,hd] at hx;cases hx
   have up : ∀ x u,m x = some u → upd m d (v + 1) x = some u:=fun x u hx=>by rw [upd_other m _ (ne x u hx)];exact hx
   have hv0:=(h.snd c v hc).1
   have back : ∀ x u,upd m d (v + 1) x = some u → (x = d ∧ u = v + 1) ∨ (x ≠ d ∧ m x = some u):=fun x u hx=>by
    by_cases e : x = d
    ·subst e;rw [upd_same] at hx;exact Or.inl ⟨rfl,(Option.some.inj hx).symm⟩
    ·rw [upd_other m _ e] at hx;exact Or.inr ⟨e,hx⟩
   refine stepIn_bi ds (upd m d (v + 1)) (q ++ [d]) ⟨up _ _ h.st,?_,?_,?_,?_,?_⟩ (up _ _ hc) (fun y hy=>?_) (fun e he=>hin e (List.mem_cons_of_mem _ he))
   ·intro x u hx
    rcases back x u hx with ⟨rfl,rfl⟩|⟨_,hx⟩
    ·refine ⟨by omega,?_⟩
     rw [show (v + 1).toNat = v.toNat + 1 from by omega]
     exact ⟨c,(h.snd c v hc).2,hin x List.mem_cons_self⟩
    ·exact h.snd x u hx
   ·intro x u hx hq hne y hy
    rw [List.mem_append] at hq
    rcases back x u hx with ⟨rfl,rfl⟩|⟨hxd,hx⟩
    ·exact absurd (Or.inr (List.mem_singleton.2 rfl)) hq
    ·obtain ⟨u',hu',hle⟩:=h.cls x u hx (fun hm=>hq (Or.inl hm)) hne y hy
     exact ⟨u',up _ _ hu',hle⟩
   ·intro x hx
    rcases List.mem_append.1 hx with hx|hx
    ·obtain ⟨u,hu,hle⟩:=h.seen x hx
     exact ⟨u,up _ _ hu,hle⟩
    ·rw [List.mem_singleton] at hx
     subst hx
     exact ⟨v + 1,upd_same _ _ _,by omega⟩
   ·intro x u hx
    rcases back x u hx with ⟨rfl,rfl⟩|⟨_,hx⟩
    ·omega
    ·exact h.top x u hx
   ·rw [List.pairwise_append]
    refine ⟨?_,List.pairwise_singleton _ _,?_⟩
    ·refine List.Pairwise.imp_of_mem (fun {x y} hx hy hr u u' hu hu'=>?_) h.srt
     obtain ⟨ux,hux,_⟩:=h.seen x hx
     obtain ⟨uy,huy,_⟩:=h.seen y hy
     rw [up _ _ hux] at hu
     rw [up _ _ huy] at hu'
     obtain rfl:=Option.some.inj hu
     obtain rfl:=Option.some.inj hu'
     exact hr _ _ hux huy
    ·intro x hx y hy u u' hu hu'
     rw [List.mem_singleton] at hy
     subst hy
     rw [upd_same] at hu'
     obtain rfl:=Option.some.inj hu'
     obtain ⟨ux,hux,_⟩:=h.seen x hx
     rw [up _ _ hux] at hu
     obtain rfl:=Option.some.inj hu
     exact h.top _ _ hux
   ·rcases hdone y hy with h1|⟨u,hu,hle⟩
    ·rcases List.mem_cons.1 h1 with h1|h1
     ·subst h1;exact Or.inr ⟨v + 1,upd_same _ _ _,by omega⟩
     ·exact Or.inl h1
    ·exact Or.inr ⟨u,up _ _ hu,hle⟩
theorem bfs_bi {nb : S48 → List S48} {c0 : S48} : ∀ (k : Nat) (m : Mp) (q : List S48) (hd : Int) (r : Mp),BI nb c0 (fun _=>False) m q hd → bfs nb k m q = some r → ∃ hd',BI nb c0 (fun _=>False) r [] hd'
 | 0,m,q,hd,r,_,h=>by simp [bfs] at h
 | k + 1,m,[],hd,r,hi,h=>by
  rw [bfs] at h
  obtain rfl:=Option.some.inj h
  exact ⟨hd,hi⟩
 | k + 1,m,c :: q,hd,r,hi,h=>by
  rw [bfs] at h
  obtain ⟨v,hv,hle⟩:=hi.seen c List.mem_cons_self
  rw [hv] at h
  dsimp only at h
  by_cases g : q.length < 1000 ∧ 0 ≤ v ∧ v < 1000
  ·rw [if_pos g] at h
   have s:=List.pairwise_cons.1 hi.srt
   refine bfs_bi k _ _ v r (stepIn_bi (nb c) m q ⟨hi.st,hi.snd,fun x u hx hq hne y hy=>hi.cls x u hx (fun hm=>?_) id y hy,fun x hx=>?_,fun x u hx=>?_,s.2⟩ hv (fun y hy=>Or.inl hy) (fun d hd=>hd)) h
   ·rcases List.mem_cons.1 hm with hm|hm
    ·exact hne hm
    ·exact hq hm
   ·obtain ⟨u,hu,_⟩:=hi.seen x (List.mem_cons_of_mem _ hx)
    exact ⟨u,hu,s.1 x hx v u hv hu⟩
   ·have:=hi.top x u hx;omega
  ·rw [if_neg g] at h;cases h
/-- The map that the search makes tells the least number of steps. -/
structure Dist (nb : S48 → List S48) (c : S48) (m : Mp) : Prop where
 snd : ∀ x v,m x = some v → 0 ≤ v ∧ Rch nb c v.toNat x
 least : ∀ n x,Rch nb c n x → ∃ v,m x = some v ∧ v ≤ (n : Int)
 near : ∀ x v,m x = some v → ∀ y ∈ nb x,∃ u,m y = some u ∧ u ≤ v + 1
theorem bfs_dist {nb : S48 → List S48} {c : S48} {K : Nat} {r : Mp} (h : bfs nb K (upd (fun _=>none) c 0) [c] = some r) : Dist nb c r:=by
 have only : ∀ x v,upd (fun _=>none) c 0 x = some v → x = c ∧ v = 0:=fun x v hx=>by
  by_cases e : x = c
  ·subst e;rw [upd_same] at hx;exact ⟨rfl,(Option.some.inj hx).symm⟩
  ·rw [upd_other _ _ e] at hx;cases hx
 obtain ⟨hd,hi⟩:=bfs_bi K _ _ 0 r ⟨upd_same _ _ _,fun x v hx=>by obtain ⟨rfl,rfl⟩:=only x v hx;exact ⟨by omega,rfl⟩,fun x v hx hq=>by obtain ⟨rfl,rfl⟩:=only x v hx;exact absurd (List.mem_singleton.2 rfl) hq,fun x hx=>by rw [List.mem_singleton] at hx;subst hx;exact ⟨0,upd_same _ _ _,by omega⟩,fun x v hx=>by obtain ⟨rfl,rfl⟩:=only x v hx;omega,List.pairwise_singleton _ _⟩ h
 have nr : ∀ x v,r x = some v → ∀ y ∈ nb x,∃ u,r y = some u ∧ u ≤ v + 1:=fun x v hx y hy=>hi.cls x v hx (by simp) id y hy
 refine ⟨hi.snd,?_,nr⟩
 intro n
 induction n with
 | zero=>intro x hx;obtain rfl : x = c:=hx;exact ⟨0,hi.st,by omega⟩
 | succ n ih =>
  rintro x ⟨y,hy,hx⟩
  obtain ⟨v,hv,hle⟩:=ih y hy
  obtain ⟨u,hu,hle2⟩:=nr y v hv x hx
  exact ⟨u,hu,by omega⟩
end Go.Proofs.Ytbpccdbkaiigcaa.G

-- Written by wip/tools/gen.py out of the translation (the kit's printer, one namespace a seat). Lean checks it.
namespace Go.Proofs.Ytbpccdbkaiigcaa.G
open Go.RowKit Go.Proofs.YtbpccdbkaiigcaaW.PrintWords Go.Proofs.YtbpccdbkaiigcaaW.PrintLast Go.Proofs.YtbpccdbkaiigcaaW.PrintMore
attribute [local go_sem] max2_int min2_int max_two min_two max_three min_three max_four min_four   -- for this text's walks alone
set_option linter.unusedVariables false
set_option linter.unusedSimpArgs false

/-! ### impl_cellAt: function 62 -/
def impl_cellAt.f (l0:List (S48)) (a1:Int):Option (Int × Int):=if 0 ≤ (mn a1 (wrap64 ((l0.length:Int) - 1))) then (if (mn a1 (wrap64 ((l0.length:Int) - 1))) < (l0.length:Int) then (some ((rd_T48 l0 (mn a1 (wrap64 ((l0.length:Int) - 1)))).f0,(rd_T48 l0 (mn a1 (wrap64 ((l0.length:Int) - 1)))).f1)) else (none)) else (none)


attribute [local go_sem high] eqA48
/-! ### impl_FirstCollision: function 24 -/
mutual
def impl_FirstCollision.j0:Nat → List (S48) → List (S48) → Bool → Option (Int × Bool × Bool)
 | 0,_,_,_=>none
 | k + 1,x1,x2,x21=>if x21 = true then (some (0,false,false)) else (impl_FirstCollision.l0 k x1 x2 (mx (x1.length:Int) (x2.length:Int)) 0)
def impl_FirstCollision.l0:Nat → List (S48) → List (S48) → Int → Int → Option (Int × Bool × Bool)
 | 0,_,_,_,_=>none
 | k + 1,x1,x2,x26,x27=>if x27 < x26 then ((impl_cellAt.f x1 x27).bind fun bt277=>((impl_cellAt.f x2 x27).bind fun bt279=>(if (bt277.1 == bt279.1 && (bt277.2 == bt279.2)) = true then (some (x27,true,true)) else (if x27 > 0 then ((impl_cellAt.f x2 (wrap64 (x27 - 1))).bind fun bt283=>(if (bt277.1 == bt283.1 && (bt277.2 == bt283.2)) = true then ((impl_cellAt.f x1 (wrap64 (x27 - 1))).bind fun bt285=>(if (bt279.1 == bt285.1 && (bt279.2 == bt285.2)) = true then (some (x27,true,true)) else (impl_FirstCollision.l0 k x1 x2 x26 (wrap64 (x27 + 1))))) else (impl_FirstCollision.l0 k x1 x2 x26 (wrap64 (x27 + 1))))) else (impl_FirstCollision.l0 k x1 x2 x26 (wrap64 (x27 + 1))))))) else (some (0,false,true))
end
def impl_FirstCollision.f (k:Nat) (a0_0:Int) (a0_1:Int) (l0_2:List (S48)) (l1:List (S48)) (l2:List (S48)):Option (Int × Bool × Bool):=(impl_IsValidPath.f k a0_0 a0_1 l0_2 l1).bind fun t275=>(if t275 = true then ((impl_IsValidPath.f k a0_0 a0_1 l0_2 l2).bind fun t276=>(impl_FirstCollision.j0 k l1 l2 (!t276))) else (impl_FirstCollision.j0 k l1 l2 true))
def impl_FirstCollision.T7:Bool × List (List Nat × List Nat):=(true,[([],[]),([],[]),([0,1],[0,1]),([2],[2]),([3],[3]),([4,3],[3,4]),([5,3,3],[3,5]),([6],[6]),([6],[6]),([6],[6]),([9,6],[6,9]),([8,10,6,6],[6,8,10]),([7,11,6],[6,7,11]),([6,12,3],[3,6,12]),([13,11,3],[3,13]),([14],[14]),([14],[14]),([14],[14]),([17,14],[14,17]),([16,18,14,14],[14,16,18]),([15,19,14],[14,15,19]),([14,20,3],[3,14,20]),([3,21],[3,21])])
def impl_FirstCollision.B7:List Nat:=[0,0,3,7,15,31,63,127,127,127,639,1919,4095,8191,16383,32767,32767,32767,163839,491519,1048575,2097151,4194303]


/-! ### spec_l1Least: function 101 -/
def spec_l1Least.f (a0:Int) (a1:Int):Option (Int):=if a0 < a1 then (some a0) else (some a1)
set_option maxHeartbeats 8000000 in
set_option maxRecDepth 100000 in
theorem spec_l1Least.calls (a0:Int) (a1:Int) (r:Int) (w:World) (h:spec_l1Least.f a0 a1 = some r) :
  Calls Try.prog 101 #[.int .i64 a0,.int .i64 a1] w fun e w'=>e = .returned (.int .i64 r) ∧ Drawn0 w w':=by
 have H:(if a0 < a1 then (some a0) else (some a1)) = some r:=h
 clear h;by_cases c3:a0 < a1
 ·rw [if_pos c3] at H
  have c3b0:decide (a0 < a1) = true:=decide_eq_true c3
  clear c3;obtain rfl:=Option.some.inj H;go_enter Try.func101,Try.ntmps101
  go_wp2
  go_ret
  exact ⟨by first|rfl|(simp;done)|(simp [*];done),by repeat (first|exact Drawn0.refl _|apply Drawn0.step)⟩
 ·rw [if_neg c3] at H
  have c3b0:decide (a0 < a1) = false:=decide_eq_false c3
  clear c3;obtain rfl:=Option.some.inj H;go_enter Try.func101,Try.ntmps101
  go_wp2
  go_ret
  exact ⟨by first|rfl|(simp;done)|(simp [*];done),by repeat (first|exact Drawn0.refl _|apply Drawn0.step)⟩



/-! ### spec_l16At: function 98 -/
def spec_l16At.f (l0:List (S48)) (a1:Int):Option (Int × Int):=(spec_l1Least.f a1 (wrap64 ((l0.length:Int) - 1))).bind fun t251=>(if 0 ≤ t251 then (if t251 < (l0.length:Int) then (some ((rd_T48 l0 t251).f0,(rd_T48 l0 t251).f1)) else (none)) else (none))
set_option maxHeartbeats 8000000 in
set_option maxRecDepth 100000 in
theorem spec_l16At.calls (A0:Option Addr) (c0:Nat) (l0:List (S48)) (a1:Int) (r1:Int) (r2:Int) (w:World) (hr0:Kd.C k48 w A0 l0.length l0) (hc0:l0.length ≤ c0) (h:spec_l16At.f l0 a1 = some (r1,r2)) :
  Calls Try.prog 98 #[.slice A0 l0.length c0,.int .i64 a1] w fun e w'=>e = .returned (.agg #[.int .i64 r1,.int .i64 r2]) ∧ Below w.heap.size w w':=by
 have hu48:=Try.underlying48;have HR0:=zM hr0;have HC0:=zM hc0;clear hr0 hc0;have HB:=zM (Below.refl w.heap.size w);have H:((spec_l1Least.f a1 (wrap64 ((l0.length:Int) - 1))).bind fun t251=>(if 0 ≤ t251 then (if t251 < (l0.length:Int) then (some ((rd_T48 l0 t251).f0,(rd_T48 l0 t251).f1)) else (none)) else (none))) = some (r1,r2):=h
 clear h;replace H:=Option.bind_eq_some_iff.mp H;obtain ⟨t251,A30,H⟩:=H;replace H:(if 0 ≤ t251 then (if t251 < (l0.length:Int) then (some ((rd_T48 l0 t251).f0,(rd_T48 l0 t251).f1)) else (none)) else (none)) = some (r1,r2):=H
 have A3:=zM A30;clear A30;by_cases c4:0 ≤ t251
 ·rw [if_pos c4] at H
  have c4b0:decide (0 ≤ t251) = true:=decide_eq_true c4
  clear c4;by_cases c5:t251 < (l0.length:Int)
  ·rw [if_pos c5] at H
   have c5b0:decide (t251 < (l0.length:Int)) = true:=decide_eq_true c5
   clear c5;simp only [Option.some.injEq,Prod.mk.injEq] at H
   obtain ⟨rfl,rfl⟩:=H;go_enter Try.func98,Try.ntmps98
   go_wp2_with (first|((with_reducible refine gate_dst (N:=4) rfl ?_);refine box_event ?hg (N:=4) ?hd (cs := #[.int .i64 0,.int .i64 0]) (t:=48) ?hr ?_;(case hd=>rfl);(case hg=>rfl);(case hr=>first|(go_simp;done)|(go_simp;rfl));intro gb250 hg w6 hbox hb;have n0_:=zM (zQ (by repeat (first|(with_reducible first|exact HB.out|apply zD|apply zE|apply zF)|exact HB.out)) hb);have n1_:=zM (hbox);have n2_:=zM ((by rw [hg];exact (zR (by repeat (first|(with_reducible first|exact HB.out|apply zD|apply zE|apply zF)|exact HB.out))):w.heap.size ≤ gb250));have n3_:=zM ((by rw [hg];exact (zR (by repeat (first|(with_reducible first|exact HB.out|apply zD|apply zE|apply zF)|exact HB.out))):w.heap.size ≤ gb250));clear HB;have HB:=n0_;have BK250:=n1_;have GW250:=n2_;have GE250:=n3_;clear n0_ n1_ n2_ n3_;clear hb hbox hg)|((with_reducible refine gate_callee (f:=101) rfl ?_);refine goesL_ (some 10) rfl rfl Try.func101 (by kernel_rfl) rfl #[.int .i64 a1,.int .i64 (wrap64 ((l0.length:Int) - 1))] rfl (by (try simp only [List.map_toArray,List.map_cons,List.map_nil]);first|done|rfl|(simp only [List.length_drop,List.length_take];rfl)) ?_;(with_reducible refine (spec_l1Least.calls a1 (wrap64 ((l0.length:Int) - 1)) t251 _ A3.out).mono ?_);rintro e w' ⟨rfl,⟨nd,rfl⟩⟩;refine ⟨_,rfl,?_⟩;(try (rw [drewN_self w6];generalize hq_:World.drewN w6 _ = w6;have n0_:Aside0 (w6.heap[gb250]? = some (.cells #[.int .i64 0,.int .i64 0] 48 (0,0))):=⟨by rw [← hq_];exact (by (with_reducible repeat (first|refine zJ ?_ _|refine zK ?_|refine zL ?_ _));exact BK250.out)⟩;have n1_:Aside0 (Below w.heap.size w w6):=⟨by rw [← hq_];exact (by repeat (first|(with_reducible first|exact HB.out|apply zD|apply zE|apply zF|refine below_set ?_ GE250.out)|exact HB.out))⟩;clear BK250 HB hq_;have BK250:=n0_;have HB:=n1_;clear n0_ n1_));have p252:0 ≤ (t251:Int):=of_decide_eq_true (by first|(with_reducible assumption)|assumption);have q252:t251 < (l0.length:Int):=of_decide_eq_true (by first|(with_reducible assumption)|assumption);obtain ⟨ad252,e252,hx252_0,hx252_1⟩:=at_T48 HR0.out t251 p252 q252;cases e252;replace hx252_0:=zS HB.out hx252_0;replace hx252_1:=zS HB.out hx252_1;replace p252:=eq_true p252;replace q252:=eq_true q252;have hcz7_0:w6.cell? ⟨gb250,0,none⟩ = some (.int .i64 0):=(blk_cell BK250.out 0).trans rfl;have hcz7_1:w6.cell? ⟨gb250,1,none⟩ = some (.int .i64 0):=(blk_cell BK250.out 1).trans rfl;have hfz7_0:=blk_frozen BK250.out 0;have hfz7_1:=blk_frozen BK250.out 1))
   refine bodyPost_ret (results_cell_row rfl _ _ gb250 48 #[.int .i64 ((rd_T48 l0 t251).f0),.int .i64 ((rd_T48 l0 t251).f1)] (0,0) _ rfl (by (with_reducible repeat (first|refine zJ ?_ _|refine zK ?_|refine zL ?_ _));refine blk_put (cs := #[.int .i64 ((rd_T48 l0 t251).f0),.int .i64 0]) ?_ 1 _ rfl;(with_reducible repeat (first|refine zJ ?_ _|refine zK ?_|refine zL ?_ _));refine blk_put (cs := #[.int .i64 0,.int .i64 0]) ?_ 0 _ rfl;(with_reducible repeat (first|refine zJ ?_ _|refine zK ?_|refine zL ?_ _));exact BK250.out) Try.underlying48 rfl (by kernel_rfl)) rfl ?_
   exact ⟨by first|rfl|(simp [errW_none,errW_some] <;> rfl)|(simp [*,errW_none,errW_some] <;> rfl),by repeat (first|(with_reducible first|exact HB.out|apply zD|apply zE|apply zF|refine below_set ?_ GE250.out)|exact HB.out)⟩
  ·rw [if_neg c5] at H
   exact absurd H (by simp)
 ·rw [if_neg c4] at H
  exact absurd H (by simp)



attribute [local go_sem high] eqA48
/-! ### spec_l16Hit: function 87 -/
def spec_l16Hit.f (l0:List (S48)) (l1:List (S48)) (a2:Int):Option (Bool):=(spec_l16At.f l0 a2).bind fun bt253=>((spec_l16At.f l1 a2).bind fun bt255=>(if (bt253.1 == bt255.1 && (bt253.2 == bt255.2)) = true then (some true) else (if a2 > 0 then ((spec_l16At.f l0 a2).bind fun bt257=>((spec_l16At.f l1 (wrap64 (a2 - 1))).bind fun bt259=>(if (bt257.1 == bt259.1 && (bt257.2 == bt259.2)) = true then ((spec_l16At.f l0 (wrap64 (a2 - 1))).bind fun bt261=>((spec_l16At.f l1 a2).bind fun bt263=>(some (bt261.1 == bt263.1 && (bt261.2 == bt263.2))))) else (some false)))) else (some false))))


/-! ### spec_l16Collision: function 61 -/
def spec_l16Collision.l0:Nat → List (S48) → List (S48) → Int → Option (Int)
 | 0,_,_,_=>none
 | k + 1,x0,x1,x5=>(spec_l1Most.f (x0.length:Int) (x1.length:Int)).bind fun t265=>(if x5 < t265 then ((spec_l16Hit.f x0 x1 x5).bind fun t266=>(if t266 = true then (some x5) else (spec_l16Collision.l0 k x0 x1 (wrap64 (x5 + 1))))) else (some (-1)))
def spec_l16Collision.f (k:Nat) (l0:List (S48)) (l1:List (S48)):Option (Int):=spec_l16Collision.l0 k l0 l1 0


/-! ### spec_FirstCollision: function 23 -/
def spec_FirstCollision.j0:Nat → List (S48) → List (S48) → Bool → Option (Int × Bool × Bool)
 | 0,_,_,_=>none
 | k + 1,x1,x2,x24=>if x24 = true then (some (0,false,false)) else ((spec_l16Collision.f k x1 x2).bind fun t271=>(if t271 < 0 then (some (0,false,true)) else (some (t271,true,true))))
def spec_FirstCollision.f (k:Nat) (a0_0:Int) (a0_1:Int) (l0_2:List (S48)) (l1:List (S48)) (l2:List (S48)):Option (Int × Bool × Bool):=(spec_l16Good.f k a0_0 a0_1 l0_2).bind fun t268=>(if t268 = true then ((spec_l16Path.f k a0_0 a0_1 l0_2 l1).bind fun t269=>(if t269 = true then ((spec_l16Path.f k a0_0 a0_1 l0_2 l2).bind fun t270=>(spec_FirstCollision.j0 k l1 l2 (!t270))) else (spec_FirstCollision.j0 k l1 l2 true))) else (spec_FirstCollision.j0 k l1 l2 true))
end Go.Proofs.Ytbpccdbkaiigcaa.G

namespace Go.Proofs.Ytbpccdbkaiigcaa.G
open Go.RowKit Go.Proofs.YtbpccdbkaiigcaaW.PrintWords Go.Proofs.YtbpccdbkaiigcaaW.PrintLast Go.Proofs.YtbpccdbkaiigcaaW.PrintMore
set_option linter.unusedVariables false
set_option linter.unusedSimpArgs false
theorem least_eq (a b : Int) : spec_l1Least.f a b = some (mn a b):=by
 unfold spec_l1Least.f mn
 split <;> split <;> first|rfl|(congr 1;omega)
theorem mn_cases (a b : Int) : (mn a b = a ∨ mn a b = b) ∧ mn a b ≤ a ∧ mn a b ≤ b:=by unfold mn;split <;> omega
/-- Where a vehicle is after i minutes. -/
def cat (p : List S48) (i : Int) : S48:=rd_T48 p (mn i ((p.length : Int) - 1))
theorem spec_cat (p : List S48) (h1 : 1 ≤ (p.length : Int)) (h2 : (p.length : Int) ≤ 25) (i : Int) (h0 : 0 ≤ i) : spec_l16At.f p i = some ((cat p i).f0,(cat p i).f1):=by
 have m:=mn_cases i ((p.length : Int) - 1)
 unfold spec_l16At.f
 rw [wrap64_id (by omega) (by omega),least_eq]
 simp (disch:=omega) only [Option.bind_some,if_pos]
 rfl
def Hit (p q : List S48) (i : Int) : Prop:=eqc (cat p i) (cat q i) ∨ (0 < i ∧ eqc (cat p i) (cat q (i - 1)) ∧ eqc (cat p (i - 1)) (cat q i))
noncomputable def collF (p q : List S48) : Nat → Int → Int
 | 0,_ => -1
 | d + 1,i=>chk (Hit p q i) i (collF p q d (i + 1))
/-- What FirstCollision answers at a first time of collision, or -1. -/
def ans (t : Int) : Int × Bool × Bool:=if t < 0 then (0,false,true) else (t,true,true)
noncomputable def collR (w h : Int) (bl p q : List S48) : Int × Bool × Bool:=chk (PathOk w h bl p ∧ PathOk w h bl q) (ans (collF p q (mx (p.length : Int) (q.length : Int)).toNat 0)) (0,false,false)
end Go.Proofs.Ytbpccdbkaiigcaa.G

/- The first shortest path beside others, as a pure function: levels, ends and sets from behind; that the two ways to tell it agree. -/
namespace Go.Proofs.Ytbpccdbkaiigcaa.G
open Go.RowKit Go.Proofs.YtbpccdbkaiigcaaW.PrintWords Go.Proofs.YtbpccdbkaiigcaaW.PrintLast
set_option linter.unusedVariables false
set_option linter.unusedSimpArgs false
theorem eqc_iff {a b : S48} : eqc a b ↔ a = b:=by
 cases a
 cases b
 unfold eqc
 simp
/-- One of the others hinders the way from a to b that ends at minute t. -/
def HitAt (os : List (List S48)) (a b : S48) (t : Int) : Prop := ∃ p ∈ os,cat p t = b ∨ (0 < t ∧ cat p t = a ∧ cat p (t - 1) = b)
theorem hitAt_nil {a b : S48} {t : Int} : ¬ HitAt [] a b t:=by rintro ⟨p,hp,_⟩;cases hp
/-- Such as are told by P, in order. -/
noncomputable def fil (P : S48 → Prop) (l : List S48) : List S48:=l.filter (fun c=>chk (P c) true false)
noncomputable def fnd (P : S48 → Prop) (l : List S48) : Option S48:=(fil P l).head?
theorem fil_nil (P : S48 → Prop) : fil P [] = []:=rfl
theorem fil_app (P : S48 → Prop) (l k : List S48) : fil P (l ++ k) = fil P l ++ fil P k:=List.filter_append ..
theorem fil_one_pos {P : S48 → Prop} {c : S48} (h : P c) : fil P [c] = [c]:=by unfold fil;simp [chk_pos h]
theorem fil_one_neg {P : S48 → Prop} {c : S48} (h : ¬ P c) : fil P [c] = []:=by unfold fil;simp [chk_neg h]
theorem fil_mem {P : S48 → Prop} {l : List S48} {c : S48} : c ∈ fil P l ↔ c ∈ l ∧ P c:=by
 unfold fil
 rw [List.mem_filter]
 exact ⟨fun h=>⟨h.1,chk_true.1 h.2⟩,fun h=>⟨h.1,chk_true.2 h.2⟩⟩
theorem fnd_nil (P : S48 → Prop) : fnd P [] = none:=rfl
theorem fnd_pos {P : S48 → Prop} {c : S48} {l : List S48} (h : P c) : fnd P (c :: l) = some c:=by unfold fnd fil;simp [List.filter_cons,chk_pos h]
theorem fnd_neg {P : S48 → Prop} {c : S48} {l : List S48} (h : ¬ P c) : fnd P (c :: l) = fnd P l:=by unfold fnd fil;simp [List.filter_cons,chk_neg h]
theorem fnd_mem {P : S48 → Prop} {l : List S48} {c : S48} (h : fnd P l = some c) : c ∈ l ∧ P c:=fil_mem.1 (List.mem_of_mem_head? h)
/-! order -/
theorem bef_irr {a : S48} : ¬ Bef a a:=by unfold Bef;omega
theorem bef_tr {a b c : S48} (h : Bef a b) (k : Bef b c) : Bef a c:=by unfold Bef at *;omega
theorem srt_eq : ∀ {l k : List S48},l.Pairwise Bef → k.Pairwise Bef → (∀ c,c ∈ l ↔ c ∈ k) → l = k
 | [],[],_,_,_=>rfl
 | [],b :: k,_,_,h=>by have:=(h b).2 List.mem_cons_self;cases this
 | a :: l,[],_,_,h=>by have:=(h a).1 List.mem_cons_self;cases this
 | a :: l,b :: k,hl,hk,h=>by
  have l1:=List.pairwise_cons.1 hl
  have k1:=List.pairwise_cons.1 hk
  have e : a = b:=by
   rcases List.mem_cons.1 ((h a).1 List.mem_cons_self) with e|e
   ·exact e
   ·rcases List.mem_cons.1 ((h b).2 List.mem_cons_self) with e'|e'
    ·exact e'.symm
    ·exact absurd (bef_tr (l1.1 b e') (k1.1 a e)) bef_irr
  subst e
  rw [srt_eq l1.2 k1.2 (fun c=>⟨fun hc=>?_,fun hc=>?_⟩)]
  ·rcases List.mem_cons.1 ((h c).1 (List.mem_cons_of_mem _ hc)) with e|e
   ·subst e;exact absurd (l1.1 c hc) bef_irr
   ·exact e
  ·rcases List.mem_cons.1 ((h c).2 (List.mem_cons_of_mem _ hc)) with e|e
   ·subst e;exact absurd (k1.1 c hc) bef_irr
   ·exact e
theorem fil_srt {P : S48 → Prop} {l : List S48} (h : l.Pairwise Bef) : (fil P l).Pairwise Bef:=List.Pairwise.filter _ h
theorem fnd_eq {P Q : S48 → Prop} {l k : List S48} (hl : l.Pairwise Bef) (hk : k.Pairwise Bef) (h : ∀ c,(c ∈ l ∧ P c) ↔ (c ∈ k ∧ Q c)) : fnd P l = fnd Q k:=by
 unfold fnd
 rw [srt_eq (fil_srt hl) (fil_srt hk) (fun c=>by rw [fil_mem,fil_mem];exact h c)]
/-! the floor's cells, row by row -/
def rowC (y : Int) (n : Nat) : List S48:=(List.range n).map fun (x : Nat)=>(⟨(x : Int),y⟩ : S48)
def cellsTo (w : Nat) (n : Nat) : List S48:=(List.range n).flatMap fun (y : Nat)=>rowC (y : Int) w
theorem rowC_succ (y : Int) (n : Nat) : rowC y (n + 1) = rowC y n ++ [⟨(n : Int),y⟩]:=by unfold rowC;rw [List.range_succ,List.map_append];rfl
theorem cellsTo_succ (w n : Nat) : cellsTo w (n + 1) = cellsTo w n ++ rowC (n : Int) w:=by unfold cellsTo;rw [List.range_succ,List.flatMap_append];simp
theorem rowC_mem {y : Int} {n : Nat} {c : S48} : c ∈ rowC y n ↔ (0 ≤ c.f0 ∧ c.f0 < n) ∧ c.f1 = y:=by
 unfold rowC
 rw [List.mem_map]
 constructor
 ·rintro ⟨x,hx,rfl⟩
  rw [List.mem_range] at hx
  exact ⟨⟨by show (0 : Int) ≤ x;omega,by show (x : Int) < n;omega⟩,rfl⟩
 ·rintro ⟨⟨h0,h1⟩,h2⟩
  refine ⟨c.f0.toNat,List.mem_range.2 (by omega),?_⟩
  cases c
  simp only [S48.mk.injEq]
  simp only at h0 h2
  exact ⟨by omega,h2.symm⟩
theorem cellsTo_mem {w n : Nat} {c : S48} : c ∈ cellsTo w n ↔ (0 ≤ c.f0 ∧ c.f0 < w) ∧ (0 ≤ c.f1 ∧ c.f1 < n):=by
 unfold cellsTo
 rw [List.mem_flatMap]
 constructor
 ·rintro ⟨y,hy,hc⟩
  rw [List.mem_range] at hy
  have:=rowC_mem.1 hc
  exact ⟨this.1,by omega,by omega⟩
 ·rintro ⟨h0,h1,h2⟩
  exact ⟨c.f1.toNat,List.mem_range.2 (by omega),rowC_mem.2 ⟨h0,by omega⟩⟩
theorem rowC_srt (y : Int) : ∀ n,(rowC y n).Pairwise Bef
 | 0=>List.Pairwise.nil
 | n + 1=>by
  rw [rowC_succ,List.pairwise_append]
  refine ⟨rowC_srt y n,List.pairwise_singleton _ _,fun a ha b hb=>?_⟩
  rw [List.mem_singleton] at hb
  subst hb
  have:=rowC_mem.1 ha
  refine Or.inr ⟨this.2,?_⟩
  exact this.1.2
theorem cellsTo_srt (w : Nat) : ∀ n,(cellsTo w n).Pairwise Bef
 | 0=>List.Pairwise.nil
 | n + 1=>by
  rw [cellsTo_succ,List.pairwise_append]
  refine ⟨cellsTo_srt w n,rowC_srt _ _,fun a ha b hb=>Or.inl ?_⟩
  have h1:=cellsTo_mem.1 ha
  have h2:=rowC_mem.1 hb
  omega
theorem cellsTo_len (w : Nat) : ∀ n,(cellsTo w n).length = n * w
 | 0=>by unfold cellsTo;simp
 | n + 1=>by rw [cellsTo_succ,List.length_append,cellsTo_len w n];unfold rowC;simp;rw [Nat.add_mul];simp
noncomputable def cells (w h : Int) : List S48:=cellsTo w.toNat h.toNat
theorem cells_mem {w h : Int} {c : S48} : c ∈ cells w h ↔ In w h c:=by
 unfold cells In
 rw [cellsTo_mem]
 omega
theorem sel_srt (w h : Int) (bl : List S48) (d : S48) : (sel w h bl d).Pairwise Bef:=by
 unfold sel
 by_cases hf : Free w h bl d
 ·rw [chk_pos hf];exact List.pairwise_singleton _ _
 ·rw [chk_neg hf];exact List.Pairwise.nil
theorem nb_srt (w h : Int) (bl : List S48) (c : S48) : (nbOf w h bl c).Pairwise Bef:=by
 unfold nbOf
 simp only [List.pairwise_append,sel_srt,List.mem_append,sel_mem,List.Pairwise.nil,List.not_mem_nil,true_and,and_true,false_or]
 refine ⟨⟨⟨⟨?_,?_⟩,?_⟩,?_⟩,?_⟩
 ·intro a ha;cases ha
 ·rintro a ha b ⟨rfl,_⟩
  have ha:=ha.1
  subst ha
  left;show c.f1 - 1 < c.f1;omega
 ·rintro a ha b ⟨rfl,_⟩
  rcases ha with ⟨rfl,_⟩|⟨rfl,_⟩
  ·left;show c.f1 - 1 < c.f1;omega
  ·right;exact ⟨rfl,by show c.f0 - 1 < c.f0;omega⟩
 ·rintro a ha b ⟨rfl,_⟩
  rcases ha with (⟨rfl,_⟩|⟨rfl,_⟩)|⟨rfl,_⟩
  ·left;show c.f1 - 1 < c.f1;omega
  ·right;exact ⟨rfl,by show c.f0 - 1 < c.f0 + 1;omega⟩
  ·right;exact ⟨rfl,by show c.f0 < c.f0 + 1;omega⟩
 ·rintro a ha b ⟨rfl,_⟩
  rcases ha with ((⟨rfl,_⟩|⟨rfl,_⟩)|⟨rfl,_⟩)|⟨rfl,_⟩
  ·left;show c.f1 - 1 < c.f1 + 1;omega
  ·left;show c.f1 < c.f1 + 1;omega
  ·left;show c.f1 < c.f1 + 1;omega
  ·left;show c.f1 < c.f1 + 1;omega
theorem near_comm {a b : S48} : Near a b ↔ Near b a:=by
 unfold Near mx
 constructor <;> intro h <;> (repeat' split) <;> (repeat' split at h) <;> omega
theorem near_five {a b : S48} : Near a b ↔ (b = ⟨a.f0,a.f1 - 1⟩ ∨ b = ⟨a.f0 - 1,a.f1⟩ ∨ b = ⟨a.f0,a.f1⟩ ∨ b = ⟨a.f0 + 1,a.f1⟩ ∨ b = ⟨a.f0,a.f1 + 1⟩):=by
 cases a with|mk a0 a1 =>
 cases b with|mk b0 b1 =>
 simp only [S48.mk.injEq]
 unfold Near mx
 simp only
 constructor
 ·intro h;(repeat' split at h) <;> omega
 ·intro h;(repeat' split) <;> omega
theorem nb_iff {w h : Int} {bl : List S48} {c e : S48} : e ∈ nbOf w h bl c ↔ Free w h bl e ∧ Near c e:=by
 rw [nb_mem,near_five]
section
variable (w h : Int) (bl : List S48) (os : List (List S48)) (a b : S48)
/-- At minute t + 1 a vehicle can be at c, having been at one of the cells l. -/
def Can (l : List S48) (t : Int) (c : S48) : Prop := ∃ d ∈ l,Near d c ∧ ¬ HitAt os d c t
noncomputable def lev : Nat → List S48
 | 0=>[a]
 | t + 1=>fil (fun c=>Free w h bl c ∧ Can os (lev t) ((t + 1 : Nat) : Int) c) (cells w h)
def Rest (t : Nat) : Prop := ∀ s : Nat,t ≤ s → s ≤ 24 → ¬ HitAt os b b (s : Int)
def EndS (t : Nat) : Prop:=b ∈ lev w h bl os a t ∧ Rest os b t
noncomputable def firstN (P : Nat → Prop) : Nat → Nat → Option Nat
 | 0,_=>none
 | d + 1,t=>chk (P t) (some t) (firstN P d (t + 1))
/-- From c the end e can be reached in j minutes (the reference's lists, from behind). -/
def Lead (l : List S48) (t : Int) (c : S48) : Prop := ∃ d ∈ l,Near c d ∧ ¬ HitAt os c d t
noncomputable def gdl (e : Nat) : Nat → List S48
 | 0=>[b]
 | j + 1=>fil (fun c=>Lead os (gdl e j) ((e - j : Nat) : Int) c) (lev w h bl os a (e - (j + 1)))
/-- The same as the program keeps it: sets. -/
def GI (e : Nat) : Nat → S48 → Prop
 | 0,c=>c = b
 | j + 1,c => ∃ d,GI e j d ∧ c ∈ nbOf w h bl d ∧ ¬ HitAt os c d ((e - j : Nat) : Int)
noncomputable def nxS (e t : Nat) (c : S48) : Option S48:=fnd (fun d=>Near c d ∧ ¬ HitAt os c d (t : Int)) (gdl w h bl os a b e (e - t))
noncomputable def nxI (e t : Nat) (c : S48) : Option S48:=fnd (fun d=>GI w h bl os b e (e - t) d ∧ ¬ HitAt os c d (t : Int)) (nbOf w h bl c)
end
/-- The path of n steps, each told by nx. -/
def trace (nx : Nat → S48 → Option S48) (a : S48) : Nat → Option (List S48)
 | 0=>some [a]
 | t + 1=>match trace nx a t with
  | none=>none
  | some p=>match nx (t + 1) (rd_T48 p (t : Int)) with
   | none=>none
   | some c=>some (p ++ [c])
theorem trace_len {nx : Nat → S48 → Option S48} {a : S48} : ∀ {t : Nat} {p : List S48},trace nx a t = some p → p.length = t + 1
 | 0,p,h=>by rw [trace] at h;obtain rfl:=Option.some.inj h;rfl
 | t + 1,p,h=>by
  rw [trace] at h
  cases hq : trace nx a t with
  | none=>rw [hq] at h;cases h
  | some q =>
   rw [hq] at h
   dsimp only at h
   cases hc : nx (t + 1) (rd_T48 q (t : Int)) with
   | none=>rw [hc] at h;cases h
   | some c =>
    rw [hc] at h
    obtain rfl:=Option.some.inj h
    rw [List.length_append,trace_len hq]
    rfl
theorem trace_step {nx : Nat → S48 → Option S48} {a c : S48} {t : Nat} {p : List S48} (h : trace nx a t = some p) (hc : nx (t + 1) (rd_T48 p (t : Int)) = some c) : trace nx a (t + 1) = some (p ++ [c]):=by
 rw [trace,h]
 dsimp only
 rw [hc]
theorem firstN_some {P : Nat → Prop} : ∀ {d t e : Nat},firstN P d t = some e → P e ∧ t ≤ e ∧ e < t + d
 | 0,t,e,h=>by cases h
 | d + 1,t,e,h=>by
  rw [firstN] at h
  by_cases hp : P t
  ·rw [chk_pos hp] at h
   obtain rfl:=Option.some.inj h
   exact ⟨hp,Nat.le_refl _,by omega⟩
  ·rw [chk_neg hp] at h
   have:=firstN_some h
   exact ⟨this.1,by omega,by omega⟩
theorem firstN_least {P : Nat → Prop} : ∀ {d t e : Nat},firstN P d t = some e → ∀ s,t ≤ s → s < e → ¬ P s
 | 0,t,e,h=>by cases h
 | d + 1,t,e,h=>by
  rw [firstN] at h
  by_cases hp : P t
  ·rw [chk_pos hp] at h
   obtain rfl:=Option.some.inj h
   intro s h0 h1
   omega
  ·rw [chk_neg hp] at h
   intro s h0 h1
   by_cases e' : s = t
   ·rw [e'];exact hp
   ·exact firstN_least h s (by omega) h1
theorem firstN_none {P : Nat → Prop} : ∀ {d t : Nat},firstN P d t = none → ∀ s,t ≤ s → s < t + d → ¬ P s
 | 0,t,h=>fun s h0 h1=>by omega
 | d + 1,t,h=>by
  rw [firstN] at h
  by_cases hp : P t
  ·rw [chk_pos hp] at h;cases h
  ·rw [chk_neg hp] at h
   intro s h0 h1
   by_cases e : s = t
   ·rw [e];exact hp
   ·exact firstN_none h s (by omega) (by omega)
theorem firstN_of {P : Nat → Prop} : ∀ {d t e : Nat},P e → (∀ s,t ≤ s → s < e → ¬ P s) → t ≤ e → e < t + d → firstN P d t = some e
 | 0,t,e,_,_,_,h=>by omega
 | d + 1,t,e,hp,hl,h0,h1=>by
  rw [firstN]
  by_cases e' : t = e
  ·subst e';rw [chk_pos hp]
  ·rw [chk_neg (hl t (Nat.le_refl _) (by omega))]
   exact firstN_of hp (fun s a b=>hl s (by omega) b) (by omega) (by omega)
section
variable {w h : Int} {bl : List S48} {os : List (List S48)} {a b : S48}
theorem lev_free (ha : Free w h bl a) : ∀ t,∀ c ∈ lev w h bl os a t,Free w h bl c
 | 0,c,hc=>by rw [lev,List.mem_singleton] at hc;subst hc;exact ha
 | t + 1,c,hc=>by rw [lev] at hc;exact (fil_mem.1 hc).2.1
theorem lev_mem {t : Nat} {c : S48} : c ∈ lev w h bl os a (t + 1) ↔ Free w h bl c ∧ Can os (lev w h bl os a t) ((t + 1 : Nat) : Int) c:=by
 rw [lev,fil_mem,cells_mem]
 exact ⟨fun x=>x.2,fun x=>⟨x.1.1,x⟩⟩
theorem lev_srt : ∀ t,(lev w h bl os a t).Pairwise Bef
 | 0=>by rw [lev];exact List.pairwise_singleton _ _
 | t + 1=>by rw [lev];exact fil_srt (cellsTo_srt _ _)
theorem gdl_srt {e : Nat} : ∀ j,(gdl w h bl os a b e j).Pairwise Bef
 | 0=>by rw [gdl];exact List.pairwise_singleton _ _
 | j + 1=>by rw [gdl];exact fil_srt (lev_srt _)
theorem gi_free (hb : Free w h bl b) {e : Nat} : ∀ {j : Nat} {c : S48},GI w h bl os b e j c → Free w h bl c
 | 0,c,hc=>by obtain rfl : c = b:=hc;exact hb
 | j + 1,c,hc=>by obtain ⟨d,_,hn,_⟩:=hc;exact (nb_iff.1 hn).1
theorem gdl_mem (ha : Free w h bl a) (hb : Free w h bl b) {e : Nat} (he : b ∈ lev w h bl os a e) : ∀ {j : Nat},j ≤ e → ∀ {c : S48},c ∈ gdl w h bl os a b e j ↔ c ∈ lev w h bl os a (e - j) ∧ GI w h bl os b e j c
 | 0,_,c=>by
  rw [gdl,GI,List.mem_singleton]
  exact ⟨fun x=>⟨by rw [x];exact he,x⟩,fun x=>x.2⟩
 | j + 1,hj,c=>by
  rw [gdl,GI,fil_mem]
  have ih := @gdl_mem ha hb e he j (by omega)
  constructor
  ·rintro ⟨hc,d,hd,hn,hh⟩
   exact ⟨hc,d,((ih (c:=d)).1 hd).2,nb_iff.2 ⟨lev_free ha _ c hc,near_comm.1 hn⟩,hh⟩
  ·rintro ⟨hc,d,hd,hn,hh⟩
   refine ⟨hc,d,(ih (c:=d)).2 ⟨?_,hd⟩,near_comm.1 (nb_iff.1 hn).2,hh⟩
   have e1 : e - j = (e - (j + 1)) + 1:=by omega
   rw [e1,lev_mem]
   rw [e1] at hh
   exact ⟨gi_free hb hd,c,hc,near_comm.1 (nb_iff.1 hn).2,hh⟩
/-- The end is reached at minute e just when the sets from behind hold the start. -/
theorem end_iff (ha : Free w h bl a) (hb : Free w h bl b) (e : Nat) : b ∈ lev w h bl os a e ↔ GI w h bl os b e e a:=by
 have key : ∀ j,j ≤ e → ((∃ c,c ∈ lev w h bl os a (e - j) ∧ GI w h bl os b e j c) ↔ b ∈ lev w h bl os a e):=by
  intro j
  induction j with
  | zero =>
   intro _
   constructor
   ·rintro ⟨c,hc,hg⟩;obtain rfl : c = b:=hg;exact hc
   ·intro hb';exact ⟨b,hb',rfl⟩
  | succ j ih =>
   intro hj
   rw [← ih (by omega)]
   have e1 : e - j = (e - (j + 1)) + 1:=by omega
   constructor
   ·rintro ⟨c,hc,d,hd,hn,hh⟩
    refine ⟨d,?_,hd⟩
    rw [e1,lev_mem]
    rw [e1] at hh
    exact ⟨gi_free hb hd,c,hc,near_comm.1 (nb_iff.1 hn).2,hh⟩
   ·rintro ⟨d,hd,hg⟩
    rw [e1,lev_mem] at hd
    obtain ⟨hf,c,hc,hn,hh⟩:=hd
    rw [← e1] at hh
    exact ⟨c,hc,d,hg,nb_iff.2 ⟨lev_free ha _ c hc,near_comm.1 hn⟩,hh⟩
 have:=key e (Nat.le_refl _)
 rw [Nat.sub_self,lev] at this
 rw [← this]
 constructor
 ·rintro ⟨c,hc,hg⟩;rw [List.mem_singleton] at hc;subst hc;exact hg
 ·intro hg;exact ⟨a,List.mem_singleton.2 rfl,hg⟩
theorem nx_eq (ha : Free w h bl a) (hb : Free w h bl b) {e : Nat} (he : b ∈ lev w h bl os a e) {t : Nat} (ht : t < e) {c : S48} (hc : c ∈ lev w h bl os a t) : nxS w h bl os a b e (t + 1) c = nxI w h bl os b e (t + 1) c:=by
 unfold nxS nxI
 refine fnd_eq (gdl_srt _) (nb_srt _ _ _ _) (fun d=>?_)
 rw [gdl_mem ha hb he (by omega),show e - (e - (t + 1)) = t + 1 from by omega,nb_iff]
 constructor
 ·rintro ⟨⟨h1,h2⟩,h3,h4⟩;exact ⟨⟨lev_free ha _ d h1,h3⟩,h2,h4⟩
 ·rintro ⟨⟨h1,h2⟩,h3,h4⟩;exact ⟨⟨lev_mem.2 ⟨h1,c,hc,h2,h4⟩,h3⟩,h2,h4⟩
/-- There is a next cell wherever the end can still be reached. -/
theorem nx_some (ha : Free w h bl a) (hb : Free w h bl b) {e t : Nat} (ht : t < e) {c : S48} (hc : c ∈ lev w h bl os a t) (hg : GI w h bl os b e (e - t) c) : ∃ d,nxI w h bl os b e (t + 1) c = some d ∧ d ∈ lev w h bl os a (t + 1) ∧ GI w h bl os b e (e - (t + 1)) d ∧ Near c d ∧ ¬ HitAt os c d ((t + 1 : Nat) : Int):=by
 have e1 : e - t = (e - (t + 1)) + 1:=by omega
 rw [e1] at hg
 obtain ⟨d,hd,hn,hh⟩:=hg
 rw [show e - (e - (t + 1)) = t + 1 from by omega] at hh
 have hm : d ∈ fil (fun d=>GI w h bl os b e (e - (t + 1)) d ∧ ¬ HitAt os c d ((t + 1 : Nat) : Int)) (nbOf w h bl c):=fil_mem.2 ⟨nb_iff.2 ⟨gi_free hb hd,near_comm.1 (nb_iff.1 hn).2⟩,hd,hh⟩
 cases hf : nxI w h bl os b e (t + 1) c with
 | none =>
  unfold nxI fnd at hf
  rw [List.head?_eq_none_iff] at hf
  rw [hf] at hm
  cases hm
 | some d' =>
  have hf2:=hf
  unfold nxI at hf
  have hm':=fnd_mem hf
  have hnb:=nb_iff.1 hm'.1
  exact ⟨d',rfl,lev_mem.2 ⟨hnb.1,c,hc,hnb.2,hm'.2.2⟩,hm'.2.1,hnb.2,hm'.2.2⟩
/-- What is known of the path that is made. -/
structure PathI (w h : Int) (bl : List S48) (os : List (List S48)) (a b : S48) (e t : Nat) (p : List S48) : Prop where
 len : p.length = t + 1
 hd : rd_T48 p 0 = a
 on : ∀ s : Nat,s ≤ t → rd_T48 p (s : Int) ∈ lev w h bl os a s ∧ GI w h bl os b e (e - s) (rd_T48 p (s : Int))
 step : ∀ s : Nat,s < t → Near (rd_T48 p (s : Int)) (rd_T48 p ((s + 1 : Nat) : Int)) ∧ ¬ HitAt os (rd_T48 p (s : Int)) (rd_T48 p ((s + 1 : Nat) : Int)) ((s + 1 : Nat) : Int)
theorem rd_app_lt {p : List S48} {c : S48} {i : Nat} (hi : i < p.length) : rd_T48 (p ++ [c]) (i : Int) = rd_T48 p (i : Int):=by
 unfold rd_T48
 rw [Int.toNat_natCast,List.getD_eq_getElem?_getD,List.getD_eq_getElem?_getD,List.getElem?_append_left hi]
theorem rd_app_eq {p : List S48} {c : S48} {i : Nat} (hi : i = p.length) : rd_T48 (p ++ [c]) (i : Int) = c:=by
 unfold rd_T48
 subst hi
 rw [Int.toNat_natCast,List.getD_eq_getElem?_getD,List.getElem?_append_right (Nat.le_refl _),Nat.sub_self]
 rfl
theorem trace_both (ha : Free w h bl a) (hb : Free w h bl b) {e : Nat} (he : b ∈ lev w h bl os a e) : ∀ t,t ≤ e → ∃ p,trace (nxI w h bl os b e) a t = some p ∧ trace (nxS w h bl os a b e) a t = some p ∧ PathI w h bl os a b e t p
 | 0,_=>⟨[a],rfl,rfl,rfl,rfl,fun s hs=>by
   obtain rfl : s = 0:=by omega
   exact ⟨by rw [lev];exact List.mem_singleton.2 rfl,(end_iff ha hb e).1 he⟩,fun s hs=>by omega⟩
 | t + 1,ht=>by
  obtain ⟨p,h1,h2,hp⟩:=trace_both ha hb he t (by omega)
  obtain ⟨hc,hg⟩:=hp.on t (Nat.le_refl _)
  obtain ⟨d,hd,hl,hgd,hn,hh⟩:=nx_some ha hb (show t < e by omega) hc hg
  refine ⟨p ++ [d],trace_step h1 hd,trace_step h2 (by rw [nx_eq ha hb he (by omega) hc];exact hd),?_,?_,?_,?_⟩
  ·rw [List.length_append,hp.len];rfl
  ·have:=rd_app_lt (c:=d) (i:=0) (p:=p) (by rw [hp.len];omega)
   exact this.trans hp.hd
  ·intro s hs
   by_cases e1 : s = t + 1
   ·subst e1
    rw [rd_app_eq hp.len.symm]
    exact ⟨hl,hgd⟩
   ·rw [rd_app_lt (by rw [hp.len];omega)]
    exact hp.on s (by omega)
  ·intro s hs
   by_cases e1 : s = t
   ·subst e1
    rw [rd_app_eq hp.len.symm,rd_app_lt (by rw [hp.len];omega)]
    exact ⟨hn,hh⟩
   ·rw [rd_app_lt (by rw [hp.len];omega),rd_app_lt (by rw [hp.len];omega)]
    exact hp.step s (by omega)
end
/-- The answer: the first shortest path beside the others, if there is one. -/
noncomputable def safeP (w h : Int) (bl : List S48) (os : List (List S48)) (a b : S48) : Option (List S48):=chk (HitAt os a a 0) none ((firstN (EndS w h bl os a b) 25 0).bind fun e=>trace (nxS w h bl os a b e) a e)
/-- The same as the program finds it. -/
def EndI (w h : Int) (bl : List S48) (os : List (List S48)) (a b : S48) (e : Nat) : Prop:=(∀ s : Nat,e ≤ s → s ≤ 25 → ¬ ∃ p ∈ os,cat p (s : Int) = b) ∧ GI w h bl os b e e a
noncomputable def safeI (w h : Int) (bl : List S48) (os : List (List S48)) (a b : S48) : Option (List S48):=chk (HitAt os a a 0) none ((firstN (EndI w h bl os a b) 25 0).bind fun e=>trace (nxI w h bl os b e) a e)
end Go.Proofs.Ytbpccdbkaiigcaa.G

/- The path along falling numbers of steps, as a pure function. -/
namespace Go.Proofs.Ytbpccdbkaiigcaa.G
open Go.RowKit Go.Proofs.YtbpccdbkaiigcaaW.PrintWords Go.Proofs.YtbpccdbkaiigcaaW.PrintLast Go.Proofs.YtbpccdbkaiigcaaW.PrintMore
set_option linter.unusedVariables false
set_option linter.unusedSimpArgs false
/-- The first of the cells whose number is x (what is not in the map reads 0). -/
def firstAt (m : Mp) (x : Int) : List S48 → Option S48
 | []=>none
 | d :: ds=>if (m d).getD 0 = x then some d else firstAt m x ds
/-- The path p, led on while n steps are left. -/
def leadOn (nb : S48 → List S48) (m : Mp) : Nat → List S48 → List S48
 | 0,p=>p
 | n + 1,p=>match firstAt m (n : Int) (nb (rd_T48 p ((p.length : Int) - 1))) with
  | some c=>leadOn nb m n (p ++ [c])
  | none=>leadOn nb m n p
/-- What the path's walk holds of the world. -/
structure SR (w0 w : World) (fc : Array Value) (g2 b n : Nat) (m : Mp) (v6 : Value) (l : List S48) (vn : Value) (ds : List S48) : Prop where
 fl : w.heap[g2]? = some (.cells fc 29 (0,0))
 mp : MapI w b n m
 mb : w0.heap.size ≤ b
 gb : w0.heap.size ≤ g2
 ln : Kd.R k48 48 w w0.heap.size (fun k=>k ≠ b ∧ k ≠ g2) v6 l
 nb : Kd.R k48 48 w w0.heap.size (fun k=>(k ≠ b ∧ k ≠ g2) ∧ some k ≠ v6.ownBlock) vn ds
 bl : Below w0.heap.size w0 w
theorem SR.below {w0 w w1 : World} {fc : Array Value} {g2 b n : Nat} {m : Mp} {v6 vn : Value} {l ds : List S48} (h : SR w0 w fc g2 b n m v6 l vn ds) (hb : Below w.heap.size w w1) : SR w0 w1 fc g2 b n m v6 l vn ds :=
 ⟨blk_below h.fl hb,h.mp.below hb,h.mb,h.gb,Kd.R_below h.ln hb,Kd.R_below h.nb hb,below_step h.bl hb⟩
theorem SR.put {w0 w w1 : World} {fc : Array Value} {g2 b n n' : Nat} {m m' : Mp} {v6 vn : Value} {l ds : List S48} (h : SR w0 w fc g2 b n m v6 l vn ds) (hm : MapI w1 b n' m') (hg : w.grownBy w1 (some b)) : SR w0 w1 fc g2 b n' m' v6 l vn ds :=
 ⟨(hg.block g2 (blk_lt h.fl) (fun e=>h.mp.cells h.fl (Option.some.inj e).symm)).trans h.fl,hm,h.mb,h.gb,Kd.R_grown h.ln hg (fun k hk e=>hk.1 (Option.some.inj e)),Kd.R_grown h.nb hg (fun k hk e=>hk.1.1 (Option.some.inj e)),h.bl.grown hg h.bl.size (fun k hk=>by cases hk;exact h.mb)⟩
theorem SR.app {w0 w w1 : World} {fc : Array Value} {g2 b n : Nat} {m : Mp} {v6 v7 vn : Value} {l l' ds : List S48} (h : SR w0 w fc g2 b n m v6 l vn ds) (hq : Kd.R k48 48 w1 w0.heap.size (fun k=>k ≠ b ∧ k ≠ g2) v7 l') (hb : Below w0.heap.size w0 w1) (hg : w.grownBy w1 v6.ownBlock) (hat : v7.ownBlock = v6.ownBlock ∨ ∃ b,v7.ownBlock = some b ∧ w.heap.size ≤ b) : SR w0 w1 fc g2 b n m v7 l' vn ds :=
 ⟨(hg.block g2 (blk_lt h.fl) (Kd.R_ne h.ln h.fl (by decide))).trans h.fl,h.mp.grown hg (Kd.R_away h.ln (fun k hk=>hk.1)),h.mb,h.gb,hq,Kd.R_after h.nb hg hat,hb⟩
/-- The neighbours have come: their list is a new one. -/
theorem SR.near {w0 w w1 : World} {fc : Array Value} {g2 b n : Nat} {m : Mp} {v6 vn vn' : Value} {l ds ds' : List S48} (h : SR w0 w fc g2 b n m v6 l vn ds) (hb : Below w.heap.size w w1) (hr : Kd.R k48 48 w1 w.heap.size (fun _=>True) vn' ds') : SR w0 w1 fc g2 b n m v6 l vn' ds' :=
 have h':=h.below hb
 ⟨h'.fl,h'.mp,h.mb,h.gb,h'.ln,Kd.R_lower (Kd.R_mono (Kd.R_bound hr) (fun k hk=>⟨⟨fun e=>by have:=h.mp.lt;have:=hk.2.1;omega,fun e=>by have:=blk_lt h.fl;have:=hk.2.1;omega⟩,fun e=>by have:=Kd.R_lt h.ln k e.symm;have:=hk.2.1;omega⟩)) h.bl.size,h'.bl⟩
theorem SR.open {w0 w : World} {fc : Array Value} {g2 b n : Nat} {m : Mp} {v6 vn : Value} {l ds : List S48} (h : SR w0 w fc g2 b n m v6 l vn ds) : SR w0 w fc g2 b n m v6 l (.slice none 0 0) []:=⟨h.fl,h.mp,h.mb,h.gb,h.ln,Kd.R_nil _ _ _ _ _,h.bl⟩
end Go.Proofs.Ytbpccdbkaiigcaa.G

/- The path along falling numbers of steps is the first shortest path. -/
namespace Go.Proofs.Ytbpccdbkaiigcaa.G
open Go.RowKit Go.Proofs.YtbpccdbkaiigcaaW.PrintWords Go.Proofs.YtbpccdbkaiigcaaW.PrintLast
set_option linter.unusedVariables false
set_option linter.unusedSimpArgs false
theorem firstAt_fnd (m : Mp) (x : Int) : ∀ ds,firstAt m x ds = fnd (fun d=>(m d).getD 0 = x) ds
 | []=>rfl
 | d :: ds=>by
  rw [firstAt]
  by_cases g : (m d).getD 0 = x
  ·rw [if_pos g,fnd_pos (P:=fun d=>(m d).getD 0 = x) g]
  ·rw [if_neg g,fnd_neg (P:=fun d=>(m d).getD 0 = x) g];exact firstAt_fnd m x ds
section
variable {w h : Int} {bl : List S48} {a b : S48}
theorem gi_rch {e : Nat} : ∀ {j : Nat} {c : S48},GI w h bl [] b e j c ↔ Rch (nbOf w h bl) b j c
 | 0,c=>Iff.rfl
 | j + 1,c=>by
  rw [GI,Rch]
  constructor
  ·rintro ⟨d,h1,h2,_⟩;exact ⟨d,gi_rch.1 h1,h2⟩
  ·rintro ⟨d,h1,h2⟩;exact ⟨d,gi_rch.2 h1,h2,hitAt_nil⟩
theorem ends_rch (ha : Free w h bl a) (hb : Free w h bl b) {e : Nat} : EndS w h bl [] a b e ↔ Rch (nbOf w h bl) b e a:=by
 unfold EndS
 rw [end_iff ha hb e,gi_rch]
 exact ⟨fun x=>x.1,fun x=>⟨x,fun s _ _=>hitAt_nil⟩⟩
theorem lev_go (ha : Free w h bl a) (hb : Free w h bl b) : ∀ (i t : Nat) (c : S48),c ∈ lev w h bl [] a t → Rch (nbOf w h bl) b i c → b ∈ lev w h bl [] a (t + i)
 | 0,t,c,hc,hr=>by obtain rfl : c = b:=hr;exact hc
 | i + 1,t,c,hc,hr=>by
  obtain ⟨y,hy,hn⟩:=hr
  have hfy : Free w h bl y:=gi_free (e:=0) hb (gi_rch.2 hy)
  have:=lev_go ha hb i (t + 1) y (lev_mem.2 ⟨hfy,c,hc,near_comm.1 (nb_iff.1 hn).2,hitAt_nil⟩) hy
  rwa [show t + 1 + i = t + (i + 1) from by omega] at this
/-- One step: the first neighbour whose number is one less is the next cell of the path. -/
theorem lead_nx (ha : Free w h bl a) (hb : Free w h bl b) {m : Mp} (hm : Dist (nbOf w h bl) b m) {e t : Nat} (ht : t < e) (hl : ∀ s,s < e → ¬ b ∈ lev w h bl [] a s) {c : S48} (hc : c ∈ lev w h bl [] a t) (hg : GI w h bl [] b e (e - t) c) :
  firstAt m ((e - (t + 1) : Nat) : Int) (nbOf w h bl c) = nxI w h bl [] b e (t + 1) c:=by
 rw [firstAt_fnd]
 unfold nxI
 refine fnd_eq (nb_srt _ _ _ _) (nb_srt _ _ _ _) (fun d=>?_)
 refine and_congr_right fun hd=>?_
 have hf:=lev_free ha _ c hc
 obtain ⟨u,hu,hu1⟩:=hm.least _ _ (gi_rch.1 hg)
 have hu2 : (e - t : Nat) ≤ u.toNat:=by
  apply Classical.byContradiction
  intro hn
  exact hl (t + u.toNat) (by omega) (lev_go ha hb _ _ _ hc (hm.snd c u hu).2)
 have hu0:=(hm.snd c u hu).1
 obtain ⟨x,hx,hx1⟩:=hm.near c u hu d hd
 have hx0:=(hm.snd d x hx).1
 have hcd : c ∈ nbOf w h bl d:=nb_iff.2 ⟨hf,near_comm.1 (nb_iff.1 hd).2⟩
 obtain ⟨y,hy,hy1⟩:=hm.near d x hx c hcd
 rw [hu] at hy
 obtain rfl:=Option.some.inj hy
 rw [hx,Option.getD_some,gi_rch]
 constructor
 ·intro he
  refine ⟨?_,hitAt_nil⟩
  have:=(hm.snd d x hx).2
  rwa [show x.toNat = e - (t + 1) from by omega] at this
 ·rintro ⟨hr,_⟩
  obtain ⟨z,hz,hz1⟩:=hm.least _ _ hr
  rw [hx] at hz
  obtain rfl:=Option.some.inj hz
  omega
theorem lead_trace (ha : Free w h bl a) (hb : Free w h bl b) {m : Mp} (hm : Dist (nbOf w h bl) b m) {e : Nat} (he : b ∈ lev w h bl [] a e) (hl : ∀ s,s < e → ¬ b ∈ lev w h bl [] a s) {q : List S48} (hq : trace (nxI w h bl [] b e) a e = some q) : ∀ (j t : Nat) (p : List S48),t + j = e → trace (nxI w h bl [] b e) a t = some p → leadOn (nbOf w h bl) m j p = q
 | 0,t,p,ht,hp=>by
  obtain rfl : t = e:=by omega
  rw [hp] at hq
  exact Option.some.inj hq
 | j + 1,t,p,ht,hp=>by
  obtain ⟨p',h1,_,hI⟩:=trace_both ha hb he t (by omega)
  rw [hp] at h1
  obtain rfl:=Option.some.inj h1
  obtain ⟨hc,hg⟩:=hI.on t (Nat.le_refl _)
  obtain ⟨d,hd,_⟩:=nx_some ha hb (show t < e by omega) hc hg
  have hf:=lead_nx ha hb hm (show t < e by omega) hl hc hg
  rw [leadOn,show (p.length : Int) - 1 = (t : Int) from by rw [hI.len];omega,show ((j : Nat) : Int) = ((e - (t + 1) : Nat) : Int) from by omega,hf,hd]
  exact lead_trace ha hb hm he hl hq j (t + 1) (p ++ [d]) (by omega) (trace_step hp hd)
theorem short_some (ha : Free w h bl a) (hb : Free w h bl b) {m : Mp} (hm : Dist (nbOf w h bl) b m) {v : Int} (hv : m a = some v) (h24 : v ≤ 24) : safeP w h bl [] a b = some (leadOn (nbOf w h bl) m v.toNat [a]):=by
 have hs:=hm.snd a v hv
 have hl : ∀ s,s < v.toNat → ¬ Rch (nbOf w h bl) b s a:=fun s hs' hr=>by
  obtain ⟨u,hu,hle⟩:=hm.least s a hr
  rw [hv] at hu
  obtain rfl:=Option.some.inj hu
  omega
 unfold safeP
 rw [chk_neg hitAt_nil,firstN_of (e:=v.toNat) ((ends_rch ha hb).2 hs.2) (fun s _ h1 hx=>hl s h1 ((ends_rch ha hb).1 hx)) (Nat.zero_le _) (by omega)]
 have he : b ∈ lev w h bl [] a v.toNat:=((ends_rch ha hb).2 hs.2).1
 obtain ⟨p,h1,h2,_⟩:=trace_both ha hb he v.toNat (Nat.le_refl _)
 show trace _ a v.toNat = _
 rw [h2,lead_trace ha hb hm he (fun s hs' hx=>hl s hs' ((ends_rch ha hb).1 ⟨hx,fun s _ _=>hitAt_nil⟩)) h1 v.toNat 0 [a] (by omega) rfl]
theorem short_none (ha : Free w h bl a) (hb : Free w h bl b) {m : Mp} (hm : Dist (nbOf w h bl) b m) (hv : ∀ v,m a = some v → 24 < v) : safeP w h bl [] a b = none:=by
 unfold safeP
 rw [chk_neg hitAt_nil]
 cases hf : firstN (EndS w h bl [] a b) 25 0 with
 | none=>rfl
 | some e =>
  have he:=firstN_some hf
  obtain ⟨u,hu,hle⟩:=hm.least e a ((ends_rch ha hb).1 he.1)
  have:=hv u hu
  omega
end
/-- What ShortestPath answers. -/
noncomputable def safeR (w h : Int) (bl : List S48) (os : List (List S48)) (a b : S48) : List S48 × Bool:=match safeP w h bl os a b with
 | some p=>(p,true)
 | none=>([],false)
theorem safeR_some {w h : Int} {bl : List S48} {os : List (List S48)} {a b : S48} {p : List S48} (e : safeP w h bl os a b = some p) : safeR w h bl os a b = (p,true):=by unfold safeR;rw [e]
theorem safeR_none {w h : Int} {bl : List S48} {os : List (List S48)} {a b : S48} (e : safeP w h bl os a b = none) : safeR w h bl os a b = ([],false):=by unfold safeR;rw [e]
noncomputable def shortR (w h : Int) (bl : List S48) (a b : S48) : List S48 × Bool:=chk (FloorOk w h bl ∧ Free w h bl a ∧ Free w h bl b) (safeR w h bl [] a b) ([],false)
end Go.Proofs.Ytbpccdbkaiigcaa.G

-- Written by wip/tools/gen.py out of the translation (the kit's printer, one namespace a seat). Lean checks it.
namespace Go.Proofs.Ytbpccdbkaiigcaa.G
open Go.RowKit Go.Proofs.YtbpccdbkaiigcaaW.PrintWords Go.Proofs.YtbpccdbkaiigcaaW.PrintLast Go.Proofs.YtbpccdbkaiigcaaW.PrintMore
attribute [local go_sem] max2_int min2_int max_two min_two max_three min_three max_four min_four   -- for this text's walks alone
set_option linter.unusedVariables false
set_option linter.unusedSimpArgs false

attribute [local go_sem high] eqA48
/-! ### spec_l16Clear: function 91 -/
def spec_l16Clear.l0:Nat → List (List (S48)) → Int → Int → Int → Int → Int → Int → Option (Bool)
 | 0,_,_,_,_,_,_,_=>none
 | k + 1,x0,x3,x9,x471000,x471001,x472000,x472001=>if x9 < (x0.length:Int) then (if 0 ≤ x9 then ((spec_l16At.f (rd_L6 x0 x9) x3).bind fun bt473=>(if (bt473.1 == x472000 && (bt473.2 == x472001)) = true then (some false) else (if x3 > 0 then ((spec_l16At.f (rd_L6 x0 x9) x3).bind fun bt476=>(if (bt476.1 == x471000 && (bt476.2 == x471001)) = true then ((spec_l16At.f (rd_L6 x0 x9) (wrap64 (x3 - 1))).bind fun bt479=>(if (bt479.1 == x472000 && (bt479.2 == x472001)) = true then (some false) else (spec_l16Clear.l0 k x0 x3 (wrap64 (x9 + 1)) x471000 x471001 x472000 x472001))) else (spec_l16Clear.l0 k x0 x3 (wrap64 (x9 + 1)) x471000 x471001 x472000 x472001))) else (spec_l16Clear.l0 k x0 x3 (wrap64 (x9 + 1)) x471000 x471001 x472000 x472001)))) else (none)) else (some true)
def spec_l16Clear.f (k:Nat) (l0:List (List (S48))) (a1_0:Int) (a1_1:Int) (a2_0:Int) (a2_1:Int) (a3:Int):Option (Bool):=spec_l16Clear.l0 k l0 a3 0 a1_0 a1_1 a2_0 a2_1
def spec_l16Clear.T4:Bool × List (List Nat × List Nat):=(true,[([],[]),([],[]),([0,1],[0,1]),([2],[2]),([],[]),([3,4],[3,4]),([],[]),([5,6],[5,6])])
def spec_l16Clear.B4:List Nat:=[0,0,3,7,0,31,0,127]
theorem spec_l16Clear.tab4:rtab .any (opsOf Try.f91 4) = spec_l16Clear.T4:=by kernel_rfl
theorem spec_l16Clear.bits4:waitsOk spec_l16Clear.T4.2 spec_l16Clear.B4 = true:=by kernel_rfl
def spec_l16Clear.T6:Bool × List (List Nat × List Nat):=(true,[([],[]),([0],[0]),([1],[1]),([2],[2]),([2],[2]),([3,4,2],[2,3,4]),([5,2],[2,5]),([2],[2]),([6,7,2,2],[2,6,7]),([2],[2]),([8,9,2],[2,8,9]),([2,10],[2,10]),([11,8],[11]),([12],[12]),([12],[12]),([13,14,12],[12,13,14]),([15,12],[12,15]),([12],[12]),([17,12],[12,17]),([16,18,12,12],[12,16,18]),([12],[12]),([19,20,12],[12,19,20]),([12,21],[12,21])])
def spec_l16Clear.B6:List Nat:=[0,1,3,7,7,31,63,7,255,7,1023,2047,4095,8191,8191,32767,65535,8191,139263,524287,8191,2097151,4194303]
theorem spec_l16Clear.tab6:rtab .any (opsOf Try.f91 6) = spec_l16Clear.T6:=by kernel_rfl
theorem spec_l16Clear.bits6:waitsOk spec_l16Clear.T6.2 spec_l16Clear.B6 = true:=by kernel_rfl
set_option maxHeartbeats 8000000 in
set_option maxRecDepth 100000 in
theorem spec_l16Clear.calls (k:Nat) (A0:Option Addr) (c0:Nat) (l0:List (List (S48))) (a1_0:Int) (a1_1:Int) (a2_0:Int) (a2_1:Int) (a3:Int) (r:Bool) (w:World) (hr0:Kd.C (Kd.slice 48 k48) w A0 l0.length l0) (hc0:l0.length ≤ c0) (h:spec_l16Clear.f k l0 a1_0 a1_1 a2_0 a2_1 a3 = some r) :
  Calls Try.prog 91 #[.slice A0 l0.length c0,.agg #[.int .i64 a1_0,.int .i64 a1_1],.agg #[.int .i64 a2_0,.int .i64 a2_1],.int .i64 a3] w fun e w'=>e = .returned (.bool r) ∧ Below w.heap.size w w':=by
 have hu48:=Try.underlying48;have HR0:=zM hr0;have HC0:=zM hc0;clear hr0 hc0;have HB:=zM (Below.refl w.heap.size w);have H:(spec_l16Clear.l0 k l0 a3 0 a1_0 a1_1 a2_0 a2_1) = some r:=h
 clear h;have H':=zM H;clear H;go_enter Try.func91,Try.ntmps91
 go_wp2_with (first|((with_reducible refine gate_dst (N:=5) rfl ?_);refine box_event ?hg (N:=5) ?hd (cs := #[.int .i64 a1_0,.int .i64 a1_1]) (t:=48) ?hr ?_;(case hd=>rfl);(case hg=>rfl);(case hr=>first|(go_simp;done)|(go_simp;rfl));intro gb470 hg w5 hbox hb;have n0_:=zM (zQ (by repeat (first|(with_reducible first|exact HB.out|apply zD|apply zE|apply zF)|exact HB.out)) hb);have n1_:=zM (hbox);have n2_:=zM ((by rw [hg];exact (zR (by repeat (first|(with_reducible first|exact HB.out|apply zD|apply zE|apply zF)|exact HB.out))):w.heap.size ≤ gb470));have n3_:=zM ((by rw [hg];exact (zR (by repeat (first|(with_reducible first|exact HB.out|apply zD|apply zE|apply zF)|exact HB.out))):w.heap.size ≤ gb470));clear HB;have HB:=n0_;have BK470:=n1_;have GW470:=n2_;have GE470:=n3_;clear n0_ n1_ n2_ n3_;clear hb hbox hg)|((with_reducible refine gate_dst (N:=6) rfl ?_);refine box_event ?hg (N:=6) ?hd (cs := #[.int .i64 a2_0,.int .i64 a2_1]) (t:=48) ?hr ?_;(case hd=>rfl);(case hg=>rfl);(case hr=>first|(go_simp;done)|(go_simp;rfl));intro gb471 hg w6 hbox hb;have n0_:=zM (blk_below (g:=gb470) (o := .cells #[.int .i64 a1_0,.int .i64 a1_1] 48 (0,0)) (by (with_reducible repeat (first|refine zJ ?_ _|refine zK ?_|refine zL ?_ _));exact BK470.out) hb);have n1_:=zM (zQ (by repeat (first|(with_reducible first|exact HB.out|apply zD|apply zE|apply zF|refine below_set ?_ GE470.out)|exact HB.out)) hb);have n2_:=zM (hbox);have n3_:=zM ((by rw [hg];exact (zR (by repeat (first|(with_reducible first|exact HB.out|apply zD|apply zE|apply zF|refine below_set ?_ GE470.out)|exact HB.out))):w.heap.size ≤ gb471));have n4_:=zM ((by rw [hg];exact (zR (by repeat (first|(with_reducible first|exact HB.out|apply zD|apply zE|apply zF|refine below_set ?_ GE470.out)|exact HB.out))):w.heap.size ≤ gb471));have n5_:=zM ((by rw [hg];exact Nat.ne_of_lt (blk_lt (g:=gb470) (o := .cells #[.int .i64 a1_0,.int .i64 a1_1] 48 (0,0)) (by (with_reducible repeat (first|refine zJ ?_ _|refine zK ?_|refine zL ?_ _));exact BK470.out)):gb470 ≠ gb471));have n6_:=zM ((by rw [hg];exact Nat.ne_of_gt (blk_lt (g:=gb470) (o := .cells #[.int .i64 a1_0,.int .i64 a1_1] 48 (0,0)) (by (with_reducible repeat (first|refine zJ ?_ _|refine zK ?_|refine zL ?_ _));exact BK470.out)):gb471 ≠ gb470));clear BK470;clear HB;have BK470:=n0_;have HB:=n1_;have BK471:=n2_;have GW471:=n3_;have GE471:=n4_;have NB470_471:=n5_;have NB471_470:=n6_;clear n0_ n1_ n2_ n3_ n4_ n5_ n6_;clear hb hbox hg))
 go_loopg [9] k (fun kq v9 w' => ∃ (x9_1:Int),v9 = .int .i64 x9_1 ∧ Aside0 (spec_l16Clear.l0 kq l0 a3 x9_1 a1_0 a1_1 a2_0 a2_1 = some r) ∧ Aside0 (kq ≤ k) ∧ Aside0 (w'.heap[gb470]? = some (.cells #[.int .i64 a1_0,.int .i64 a1_1] 48 (0,0))) ∧ Aside0 (w'.heap[gb471]? = some (.cells #[.int .i64 a2_0,.int .i64 a2_1] 48 (0,0))) ∧ Aside0 (Below w.heap.size w w'))
 case atStart=>exact ⟨(0),(by first|rfl|(simp;done)|(simp [*];done)),H',⟨Nat.le_refl _⟩,⟨by (with_reducible repeat (first|refine zJ ?_ _|refine zK ?_|refine zL ?_ _));exact BK470.out⟩,⟨by (with_reducible repeat (first|refine zJ ?_ _|refine zK ?_|refine zL ?_ _));exact BK471.out⟩,⟨by repeat (first|(with_reducible first|exact HB.out|apply zD|apply zE|apply zF|refine below_set ?_ GE470.out|refine below_set ?_ GE471.out)|exact HB.out)⟩⟩
 case round =>
  clear H';(try clear p2);obtain ⟨x9_1,rfl,HA,HK1,BK470,BK471,HB⟩:=hrel;cases gk with
  | zero=>exact absurd HA.out (by simp [spec_l16Clear.l0])
  | succ k1 =>
   have H:=HA.out;clear HA;simp only [spec_l16Clear.l0] at H
   by_cases c7:x9_1 < (l0.length:Int)
   ·rw [if_pos c7] at H
    have c7b0:decide (x9_1 < (l0.length:Int)) = true:=decide_eq_true c7
    clear c7;by_cases c8:0 ≤ x9_1
    ·rw [if_pos c8] at H
     have c8b0:decide (0 ≤ x9_1) = true:=decide_eq_true c8
     clear c8;replace H:=Option.bind_eq_some_iff.mp H;obtain ⟨⟨t473,t474⟩,A90,H⟩:=H;replace H:(if (t473 == a2_0 && (t474 == a2_1)) = true then (some false) else (if a3 > 0 then ((spec_l16At.f (rd_L6 l0 x9_1) a3).bind fun bt476=>(if (bt476.1 == a1_0 && (bt476.2 == a1_1)) = true then ((spec_l16At.f (rd_L6 l0 x9_1) (wrap64 (a3 - 1))).bind fun bt479=>(if (bt479.1 == a2_0 && (bt479.2 == a2_1)) = true then (some false) else (spec_l16Clear.l0 k1 l0 a3 (wrap64 (x9_1 + 1)) a1_0 a1_1 a2_0 a2_1))) else (spec_l16Clear.l0 k1 l0 a3 (wrap64 (x9_1 + 1)) a1_0 a1_1 a2_0 a2_1))) else (spec_l16Clear.l0 k1 l0 a3 (wrap64 (x9_1 + 1)) a1_0 a1_1 a2_0 a2_1))) = some r:=H
     have A9:=zM A90;clear A90;by_cases c10:(t473 == a2_0 && (t474 == a2_1)) = true
     ·rw [if_pos c10] at H
      have c10b0:(t473 == a2_0 && (t474 == a2_1)) = true:=c10
      (try (have c10b1:decide (t473 = a2_0 && (t474 == a2_1)) = true:=by simpa using c10))
      (try (have c10b2:(t473 == a2_0 && (t474 == a2_1)) = true:=by simpa using c10))
      clear c10;obtain rfl:=Option.some.inj H;try go_wp2
      have n0_:=zM (zK BK470.out);have n1_:=zM (zK BK471.out);have n2_:=zM (zF HB.out);clear BK470;clear BK471;clear HB;have BK470:=n0_;have BK471:=n1_;have HB:=n2_;clear n0_ n1_ n2_;have p472:0 ≤ (x9_1:Int):=of_decide_eq_true (by first|(with_reducible assumption)|assumption)
      have q472:x9_1 < (l0.length:Int):=of_decide_eq_true (by first|(with_reducible assumption)|assumption)
      obtain ⟨ad472,A472_0,c472_0,e472,hx472_0,hl472_0,hi472_0⟩:=at_L6 HR0.out x9_1 p472 q472;have hw472_0:=hx472_0;cases e472
      replace hx472_0:=zS HB.out hx472_0;have HR472_0:=zM hi472_0;have HC472_0:=zM hl472_0;clear hi472_0 hl472_0;replace p472:=eq_true p472;replace q472:=eq_true q472;refine start_ (n:=8) (S:=fun w'=>w'.cell? ⟨gb471,0,none⟩ = some (.int .i64 a2_0) ∧ w'.cell? ⟨gb471,1,none⟩ = some (.int .i64 a2_1) ∧ w'.cell? (ad472.add (x9_1).toNat) = some (.slice A472_0 (rd_L6 l0 x9_1).length c472_0)) (ds:=[]) #[false,false,false,false,false,false,false,false] (by kernel_rfl) rfl rfl ⟨(blk_cell BK471.out 0).trans rfl,(blk_cell BK471.out 1).trans rfl,(zS HB.out hw472_0 :)⟩ (fun hHeld=>?_);refine with_tabW spec_l16Clear.tab4 spec_l16Clear.bits4 (fun HT_ HW_=>?_)
      generalize wr.drew = w11 at BK470 BK471 HB HR472_0 hx472_0 hHeld ⊢
      refine pure_ (i:=0) (N:=some 16) (v:=?_) (a':=?_) #[true,false,false,false,false,false,false,false] rfl rfl (any_of HT_.out (by kernel_rfl)) (fun _ _ _ h=>h) (Or.inl ⟨by rfl,?_⟩) ?_ ?_
      rotate_left
      ·intro w'
       go_simp
       with_reducible rfl
      rotate_left
      ·simp only [Act.put,zT,zU,zV,i64_w,i32_w]
       rfl
      refine pure_ (i:=1) (N:=some 17) (v:=?_) (a':=?_) #[true,true,false,false,false,false,false,false] rfl rfl (any_of HT_.out (by kernel_rfl)) (fun _ _ _ h=>h) (Or.inl ⟨by rfl,?_⟩) ?_ ?_
      rotate_left
      ·intro w'
       go_simp
       with_reducible rfl
      rotate_left
      ·simp only [Act.put,zT,zU,zV,i64_w,i32_w]
       rfl
      refine pure_ (i:=2) (N:=some 18) (v:=?_) (a':=?_) #[true,true,true,false,false,false,false,false] rfl rfl (any_of HT_.out (by kernel_rfl)) (fun _ _ _ h=>h) (Or.inl ⟨by rfl,?_⟩) ?_ ?_
      rotate_left
      ·intro w'
       go_simp
       with_reducible rfl
      rotate_left
      ·simp only [Act.put,zT,zU,zV,i64_w,i32_w]
       rfl
      refine pure_ (i:=4) (N:=some 20) (v:=?_) (a':=?_) #[true,true,true,false,true,false,false,false] rfl rfl (any_of HT_.out (by kernel_rfl)) (fun _ _ _ h=>h) (Or.inl ⟨by rfl,?_⟩) ?_ ?_
      rotate_left
      ·intro w'
       go_simp
       with_reducible rfl
      rotate_left
      ·simp only [Act.put,zT,zU,zV,i64_w,i32_w]
       rfl
      refine take_ (i:=3) (N:=some 19) (v:=?_) (a':=?_) #[true,true,true,true,true,false,false,false] rfl rfl (take_ofW HT_.out HW_.out (by kernel_rfl)) (fun _ _ _ h=>h) (Or.inl ⟨by rfl,?_⟩) hHeld ?_ ?_
      rotate_left
      ·rintro w' ⟨s0,s1,s2⟩
       go_simp
       with_reducible rfl
      rotate_left
      ·simp only [Act.put,zT,zU,zV,i64_w,i32_w]
       rfl
      refine take_ (i:=6) (N:=some 22) (v:=?_) (a':=?_) #[true,true,true,true,true,false,true,false] rfl rfl (take_ofW HT_.out HW_.out (by kernel_rfl)) (fun _ _ _ h=>h) (Or.inl ⟨by rfl,?_⟩) hHeld ?_ ?_
      rotate_left
      ·rintro w' ⟨s0,s1,s2⟩
       go_simp
       with_reducible rfl
      rotate_left
      ·simp only [Act.put,zT,zU,zV,i64_w,i32_w]
       rfl
      refine one_ (i:=5) (N:=some 21) #[true,true,true,true,true,true,true,false] rfl rfl (one_of HT_.out (by kernel_rfl)) (by decide) (fun K hK=>?_)
      refine goes_ Try.func98 (by kernel_rfl) rfl #[.slice A472_0 (rd_L6 l0 x9_1).length c472_0,.int .i64 a3] (by rfl) rfl rfl (by (try simp only [List.map_toArray,List.map_cons,List.map_nil]);first|done|rfl|(simp only [List.length_drop,List.length_take];rfl)) ?_
      with_reducible refine (spec_l16At.calls _ _ (rd_L6 l0 x9_1) a3 t473 t474 _ ?side1 ?side2 A9.out).mono ?_
      (case side1=>repeat (first|exact (zO HR472_0.out HB.out)|(with_reducible first|refine zG ?_ _|refine zH ?_ _|refine zI ?_)))
      (case side2=>exact HC472_0.out)
      rintro e w12 ⟨rfl,hb⟩
      refine ⟨_,rfl,?_⟩
      have n0_:=zM (blk_below (g:=gb470) (o := .cells #[.int .i64 a1_0,.int .i64 a1_1] 48 (0,0)) (by (with_reducible repeat (first|refine zJ ?_ _|refine zK ?_|refine zL ?_ _));exact BK470.out) hb)
      have n1_:=zM (blk_below (g:=gb471) (o := .cells #[.int .i64 a2_0,.int .i64 a2_1] 48 (0,0)) (by (with_reducible repeat (first|refine zJ ?_ _|refine zK ?_|refine zL ?_ _));exact BK471.out) hb)
      have n2_:=zM (zQ (by repeat (first|(with_reducible first|exact HB.out|apply zD|apply zE|apply zF|refine below_set ?_ GE470.out|refine below_set ?_ GE471.out)|exact HB.out)) hb)
      clear BK470;clear BK471;clear HB;have BK470:=n0_;have BK471:=n1_;have HB:=n2_;clear n0_ n1_ n2_;(try clear hb)
      (try clear hb2)
      (try clear hk)
      (try clear hi)
      refine hK.out _ _ ⟨(blk_cell BK471.out 0).trans rfl,(blk_cell BK471.out 1).trans rfl,(zS HB.out hw472_0 :)⟩ (fun hHeld=>?_)
      clear hK K;refine norm_ (a':=?_) ?_ ?_
      rotate_left
      ·show Act.put _ (some 21) _ = _
       simp only [Act.put,zT,zU,zV,i64_w,i32_w]
       rfl
      refine pure_ (i:=7) (N:=some 23) (v:=?_) (a':=?_) #[true,true,true,true,true,true,true,true] rfl rfl (any_of HT_.out (by kernel_rfl)) (fun _ _ _ h=>h) (Or.inl ⟨by rfl,?_⟩) ?_ ?_
      rotate_left
      ·intro w'
       go_simp
       with_reducible rfl
      rotate_left
      ·simp only [Act.put,zT,zU,zV,i64_w,i32_w]
       rfl
      refine done_ (done_of HT_.out (by kernel_rfl)) ?_
      try go_wp2
      go_ret
      exact ⟨by first|rfl|(simp [errW_none,errW_some] <;> rfl)|(simp [*,errW_none,errW_some] <;> rfl),by repeat (first|(with_reducible first|exact HB.out|apply zD|apply zE|apply zF|refine below_set ?_ GE470.out|refine below_set ?_ GE471.out)|exact HB.out)⟩
     ·rw [if_neg c10] at H
      have c10b0:(t473 == a2_0 && (t474 == a2_1)) = false:=by simpa using c10
      (try (have c10b1:decide (t473 = a2_0 && (t474 == a2_1)) = false:=by simpa using c10))
      (try (have c10b2:(t473 == a2_0 && (t474 == a2_1)) = false:=by simpa using c10))
      (try (have c10b3:¬ (t473 = a2_0 && (t474 == a2_1)):=by simpa using c10))
      clear c10;by_cases c13:a3 > 0
      ·rw [if_pos c13] at H
       have c13b0:decide (0 < a3) = true:=decide_eq_true c13
       clear c13;replace H:=Option.bind_eq_some_iff.mp H;obtain ⟨⟨t476,t477⟩,A140,H⟩:=H;replace H:(if (t476 == a1_0 && (t477 == a1_1)) = true then ((spec_l16At.f (rd_L6 l0 x9_1) (wrap64 (a3 - 1))).bind fun bt479=>(if (bt479.1 == a2_0 && (bt479.2 == a2_1)) = true then (some false) else (spec_l16Clear.l0 k1 l0 a3 (wrap64 (x9_1 + 1)) a1_0 a1_1 a2_0 a2_1))) else (spec_l16Clear.l0 k1 l0 a3 (wrap64 (x9_1 + 1)) a1_0 a1_1 a2_0 a2_1)) = some r:=H
       have A14:=zM A140;clear A140;by_cases c15:(t476 == a1_0 && (t477 == a1_1)) = true
       ·rw [if_pos c15] at H
        have c15b0:(t476 == a1_0 && (t477 == a1_1)) = true:=c15
        (try (have c15b1:decide (t476 = a1_0 && (t477 == a1_1)) = true:=by simpa using c15))
        (try (have c15b2:(t476 == a1_0 && (t477 == a1_1)) = true:=by simpa using c15))
        clear c15;replace H:=Option.bind_eq_some_iff.mp H;obtain ⟨⟨t479,t480⟩,A160,H⟩:=H;replace H:(if (t479 == a2_0 && (t480 == a2_1)) = true then (some false) else (spec_l16Clear.l0 k1 l0 a3 (wrap64 (x9_1 + 1)) a1_0 a1_1 a2_0 a2_1)) = some r:=H
        have A16:=zM A160;clear A160;by_cases c17:(t479 == a2_0 && (t480 == a2_1)) = true
        ·rw [if_pos c17] at H
         have c17b0:(t479 == a2_0 && (t480 == a2_1)) = true:=c17
         (try (have c17b1:decide (t479 = a2_0 && (t480 == a2_1)) = true:=by simpa using c17))
         (try (have c17b2:(t479 == a2_0 && (t480 == a2_1)) = true:=by simpa using c17))
         clear c17;obtain rfl:=Option.some.inj H;try go_wp2
         have n0_:=zM (zK BK470.out);have n1_:=zM (zK BK471.out);have n2_:=zM (zF HB.out);clear BK470;clear BK471;clear HB;have BK470:=n0_;have BK471:=n1_;have HB:=n2_;clear n0_ n1_ n2_;have p472:0 ≤ (x9_1:Int):=of_decide_eq_true (by first|(with_reducible assumption)|assumption)
         have q472:x9_1 < (l0.length:Int):=of_decide_eq_true (by first|(with_reducible assumption)|assumption)
         obtain ⟨ad472,A472_0,c472_0,e472,hx472_0,hl472_0,hi472_0⟩:=at_L6 HR0.out x9_1 p472 q472;have hw472_0:=hx472_0;cases e472
         replace hx472_0:=zS HB.out hx472_0;have HR472_0:=zM hi472_0;have HC472_0:=zM hl472_0;clear hi472_0 hl472_0;replace p472:=eq_true p472;replace q472:=eq_true q472;refine start_ (n:=8) (S:=fun w'=>w'.cell? ⟨gb471,0,none⟩ = some (.int .i64 a2_0) ∧ w'.cell? ⟨gb471,1,none⟩ = some (.int .i64 a2_1) ∧ w'.cell? (ad472.add (x9_1).toNat) = some (.slice A472_0 (rd_L6 l0 x9_1).length c472_0)) (ds:=[]) #[false,false,false,false,false,false,false,false] (by kernel_rfl) rfl rfl ⟨(blk_cell BK471.out 0).trans rfl,(blk_cell BK471.out 1).trans rfl,(zS HB.out hw472_0 :)⟩ (fun hHeld=>?_);refine with_tabW spec_l16Clear.tab4 spec_l16Clear.bits4 (fun HT_ HW_=>?_)
         generalize wr.drew = w18 at BK470 BK471 HB HR472_0 hx472_0 hHeld ⊢
         refine pure_ (i:=0) (N:=some 16) (v:=?_) (a':=?_) #[true,false,false,false,false,false,false,false] rfl rfl (any_of HT_.out (by kernel_rfl)) (fun _ _ _ h=>h) (Or.inl ⟨by rfl,?_⟩) ?_ ?_
         rotate_left
         ·intro w'
          go_simp
          with_reducible rfl
         rotate_left
         ·simp only [Act.put,zT,zU,zV,i64_w,i32_w]
          rfl
         refine pure_ (i:=1) (N:=some 17) (v:=?_) (a':=?_) #[true,true,false,false,false,false,false,false] rfl rfl (any_of HT_.out (by kernel_rfl)) (fun _ _ _ h=>h) (Or.inl ⟨by rfl,?_⟩) ?_ ?_
         rotate_left
         ·intro w'
          go_simp
          with_reducible rfl
         rotate_left
         ·simp only [Act.put,zT,zU,zV,i64_w,i32_w]
          rfl
         refine pure_ (i:=2) (N:=some 18) (v:=?_) (a':=?_) #[true,true,true,false,false,false,false,false] rfl rfl (any_of HT_.out (by kernel_rfl)) (fun _ _ _ h=>h) (Or.inl ⟨by rfl,?_⟩) ?_ ?_
         rotate_left
         ·intro w'
          go_simp
          with_reducible rfl
         rotate_left
         ·simp only [Act.put,zT,zU,zV,i64_w,i32_w]
          rfl
         refine pure_ (i:=4) (N:=some 20) (v:=?_) (a':=?_) #[true,true,true,false,true,false,false,false] rfl rfl (any_of HT_.out (by kernel_rfl)) (fun _ _ _ h=>h) (Or.inl ⟨by rfl,?_⟩) ?_ ?_
         rotate_left
         ·intro w'
          go_simp
          with_reducible rfl
         rotate_left
         ·simp only [Act.put,zT,zU,zV,i64_w,i32_w]
          rfl
         refine take_ (i:=3) (N:=some 19) (v:=?_) (a':=?_) #[true,true,true,true,true,false,false,false] rfl rfl (take_ofW HT_.out HW_.out (by kernel_rfl)) (fun _ _ _ h=>h) (Or.inl ⟨by rfl,?_⟩) hHeld ?_ ?_
         rotate_left
         ·rintro w' ⟨s0,s1,s2⟩
          go_simp
          with_reducible rfl
         rotate_left
         ·simp only [Act.put,zT,zU,zV,i64_w,i32_w]
          rfl
         refine take_ (i:=6) (N:=some 22) (v:=?_) (a':=?_) #[true,true,true,true,true,false,true,false] rfl rfl (take_ofW HT_.out HW_.out (by kernel_rfl)) (fun _ _ _ h=>h) (Or.inl ⟨by rfl,?_⟩) hHeld ?_ ?_
         rotate_left
         ·rintro w' ⟨s0,s1,s2⟩
          go_simp
          with_reducible rfl
         rotate_left
         ·simp only [Act.put,zT,zU,zV,i64_w,i32_w]
          rfl
         refine one_ (i:=5) (N:=some 21) #[true,true,true,true,true,true,true,false] rfl rfl (one_of HT_.out (by kernel_rfl)) (by decide) (fun K hK=>?_)
         refine goes_ Try.func98 (by kernel_rfl) rfl #[.slice A472_0 (rd_L6 l0 x9_1).length c472_0,.int .i64 a3] (by rfl) rfl rfl (by (try simp only [List.map_toArray,List.map_cons,List.map_nil]);first|done|rfl|(simp only [List.length_drop,List.length_take];rfl)) ?_
         with_reducible refine (spec_l16At.calls _ _ (rd_L6 l0 x9_1) a3 t473 t474 _ ?side1 ?side2 A9.out).mono ?_
         (case side1=>repeat (first|exact (zO HR472_0.out HB.out)|(with_reducible first|refine zG ?_ _|refine zH ?_ _|refine zI ?_)))
         (case side2=>exact HC472_0.out)
         rintro e w19 ⟨rfl,hb⟩
         refine ⟨_,rfl,?_⟩
         have n0_:=zM (blk_below (g:=gb470) (o := .cells #[.int .i64 a1_0,.int .i64 a1_1] 48 (0,0)) (by (with_reducible repeat (first|refine zJ ?_ _|refine zK ?_|refine zL ?_ _));exact BK470.out) hb)
         have n1_:=zM (blk_below (g:=gb471) (o := .cells #[.int .i64 a2_0,.int .i64 a2_1] 48 (0,0)) (by (with_reducible repeat (first|refine zJ ?_ _|refine zK ?_|refine zL ?_ _));exact BK471.out) hb)
         have n2_:=zM (zQ (by repeat (first|(with_reducible first|exact HB.out|apply zD|apply zE|apply zF|refine below_set ?_ GE470.out|refine below_set ?_ GE471.out)|exact HB.out)) hb)
         clear BK470;clear BK471;clear HB;have BK470:=n0_;have BK471:=n1_;have HB:=n2_;clear n0_ n1_ n2_;(try clear hb)
         (try clear hb2)
         (try clear hk)
         (try clear hi)
         refine hK.out _ _ ⟨(blk_cell BK471.out 0).trans rfl,(blk_cell BK471.out 1).trans rfl,(zS HB.out hw472_0 :)⟩ (fun hHeld=>?_)
         clear hK K;refine norm_ (a':=?_) ?_ ?_
         rotate_left
         ·show Act.put _ (some 21) _ = _
          simp only [Act.put,zT,zU,zV,i64_w,i32_w]
          rfl
         refine pure_ (i:=7) (N:=some 23) (v:=?_) (a':=?_) #[true,true,true,true,true,true,true,true] rfl rfl (any_of HT_.out (by kernel_rfl)) (fun _ _ _ h=>h) (Or.inl ⟨by rfl,?_⟩) ?_ ?_
         rotate_left
         ·intro w'
          go_simp
          with_reducible rfl
         rotate_left
         ·simp only [Act.put,zT,zU,zV,i64_w,i32_w]
          rfl
         refine done_ (done_of HT_.out (by kernel_rfl)) ?_
         try go_wp2
         have n0_:=zM (zK BK470.out);have n1_:=zM (zK BK471.out);have n2_:=zM (zF HB.out);clear BK470;clear BK471;clear HB;have BK470:=n0_;have BK471:=n1_;have HB:=n2_;clear n0_ n1_ n2_;have p475:0 ≤ (x9_1:Int):=of_decide_eq_true (by first|(with_reducible assumption)|assumption)
         have q475:x9_1 < (l0.length:Int):=of_decide_eq_true (by first|(with_reducible assumption)|assumption)
         obtain ⟨ad475,A475_0,c475_0,e475,hx475_0,hl475_0,hi475_0⟩:=at_L6 HR0.out x9_1 p475 q475;have hw475_0:=hx475_0;obtain rfl:ad472 = ad475:=(by injection e475)
         replace hx475_0:=zS HB.out hx475_0;have HR475_0:=zM hi475_0;have HC475_0:=zM hl475_0;clear hi475_0 hl475_0;replace p475:=eq_true p475;replace q475:=eq_true q475;have p478:0 ≤ (x9_1:Int):=of_decide_eq_true (by first|(with_reducible assumption)|assumption)
         have q478:x9_1 < (l0.length:Int):=of_decide_eq_true (by first|(with_reducible assumption)|assumption)
         obtain ⟨ad478,A478_0,c478_0,e478,hx478_0,hl478_0,hi478_0⟩:=at_L6 HR0.out x9_1 p478 q478;have hw478_0:=hx478_0;obtain rfl:ad472 = ad478:=(by injection e478)
         (have hj2_:=Option.some.inj (hw475_0.symm.trans hw478_0);injection hj2_ with hjA_ hjN_ hjC_;subst hjA_;subst hjC_)
         replace hx478_0:=zS HB.out hx478_0;have HR478_0:=zM hi478_0;have HC478_0:=zM hl478_0;clear hi478_0 hl478_0;replace p478:=eq_true p478;replace q478:=eq_true q478;refine start_ (n:=23) (S:=fun w'=>w'.cell? ⟨gb470,0,none⟩ = some (.int .i64 a1_0) ∧ w'.cell? ⟨gb470,1,none⟩ = some (.int .i64 a1_1) ∧ w'.cell? ⟨gb471,0,none⟩ = some (.int .i64 a2_0) ∧ w'.cell? ⟨gb471,1,none⟩ = some (.int .i64 a2_1) ∧ w'.cell? (ad472.add (x9_1).toNat) = some (.slice A475_0 (rd_L6 l0 x9_1).length c475_0) ∧ w'.cell? (ad472.add (x9_1).toNat) = some (.slice A475_0 (rd_L6 l0 x9_1).length c475_0)) (ds:=[]) #[false,false,false,false,false,false,false,false,false,false,false,false,false,false,false,false,false,false,false,false,false,false,false] (by kernel_rfl) rfl rfl ⟨(blk_cell BK470.out 0).trans rfl,(blk_cell BK470.out 1).trans rfl,(blk_cell BK471.out 0).trans rfl,(blk_cell BK471.out 1).trans rfl,(zS HB.out hw475_0 :),(zS HB.out hw478_0 :)⟩ (fun hHeld=>?_);refine with_tabW spec_l16Clear.tab6 spec_l16Clear.bits6 (fun HT_ HW_=>?_)
         generalize w19.drew = w20 at BK470 BK471 HB HR475_0 HR478_0 hx475_0 hx478_0 hHeld ⊢
         refine pure_ (i:=0) (N:=some 24) (v:=?_) (a':=?_) #[true,false,false,false,false,false,false,false,false,false,false,false,false,false,false,false,false,false,false,false,false,false,false] rfl rfl (any_of HT_.out (by kernel_rfl)) (fun _ _ _ h=>h) (Or.inl ⟨by rfl,?_⟩) ?_ ?_
         rotate_left
         ·intro w'
          go_simp
          with_reducible rfl
         rotate_left
         ·simp only [Act.put,zT,zU,zV,i64_w,i32_w]
          rfl
         refine pure_ (i:=1) (N:=some 25) (v:=?_) (a':=?_) #[true,true,false,false,false,false,false,false,false,false,false,false,false,false,false,false,false,false,false,false,false,false,false] rfl rfl (any_of HT_.out (by kernel_rfl)) (fun _ _ _ h=>h) (Or.inl ⟨by rfl,?_⟩) ?_ ?_
         rotate_left
         ·intro w'
          go_simp
          with_reducible rfl
         rotate_left
         ·simp only [Act.put,zT,zU,zV,i64_w,i32_w]
          rfl
         refine pure_ (i:=2) (N:=some 26) (v:=?_) (a':=?_) #[true,true,true,false,false,false,false,false,false,false,false,false,false,false,false,false,false,false,false,false,false,false,false] rfl rfl (any_of HT_.out (by kernel_rfl)) (fun _ _ _ h=>h) (Or.inl ⟨by rfl,?_⟩) ?_ ?_
         rotate_left
         ·intro w'
          go_simp
          with_reducible rfl
         rotate_left
         ·simp only [Act.put,zT,zU,zV,i64_w,i32_w]
          rfl
         refine pure_ (i:=3) (N:=some 27) (v:=?_) (a':=?_) #[true,true,true,true,false,false,false,false,false,false,false,false,false,false,false,false,false,false,false,false,false,false,false] rfl rfl (any_of HT_.out (by kernel_rfl)) (fun _ _ _ h=>h) (Or.inl ⟨by rfl,?_⟩) ?_ ?_
         rotate_left
         ·intro w'
          go_simp
          with_reducible rfl
         rotate_left
         ·simp only [Act.put,zT,zU,zV,i64_w,i32_w]
          rfl
         refine pure_ (i:=4) (N:=some 28) (v:=?_) (a':=?_) #[true,true,true,true,true,false,false,false,false,false,false,false,false,false,false,false,false,false,false,false,false,false,false] rfl rfl (any_of HT_.out (by kernel_rfl)) (fun _ _ _ h=>h) (Or.inl ⟨by rfl,?_⟩) ?_ ?_
         rotate_left
         ·intro w'
          go_simp
          with_reducible rfl
         rotate_left
         ·simp only [Act.put,zT,zU,zV,i64_w,i32_w]
          rfl
         refine pure_ (i:=5) (N:=some 29) (v:=?_) (a':=?_) #[true,true,true,true,true,true,false,false,false,false,false,false,false,false,false,false,false,false,false,false,false,false,false] rfl rfl (any_of HT_.out (by kernel_rfl)) (fun _ _ _ h=>h) (Or.inl ⟨by rfl,?_⟩) ?_ ?_
         rotate_left
         ·intro w'
          go_simp
          with_reducible rfl
         rotate_left
         ·simp only [Act.put,zT,zU,zV,i64_w,i32_w]
          rfl
         refine pure_ (i:=7) (N:=some 31) (v:=?_) (a':=?_) #[true,true,true,true,true,true,false,true,false,false,false,false,false,false,false,false,false,false,false,false,false,false,false] rfl rfl (any_of HT_.out (by kernel_rfl)) (fun _ _ _ h=>h) (Or.inl ⟨by rfl,?_⟩) ?_ ?_
         rotate_left
         ·intro w'
          go_simp
          with_reducible rfl
         rotate_left
         ·simp only [Act.put,zT,zU,zV,i64_w,i32_w]
          rfl
         refine take_ (i:=6) (N:=some 30) (v:=?_) (a':=?_) #[true,true,true,true,true,true,true,true,false,false,false,false,false,false,false,false,false,false,false,false,false,false,false] rfl rfl (take_ofW HT_.out HW_.out (by kernel_rfl)) (fun _ _ _ h=>h) (Or.inl ⟨by rfl,?_⟩) hHeld ?_ ?_
         rotate_left
         ·rintro w' ⟨s0,s1,s2,s3,s4,s5⟩
          go_simp
          with_reducible rfl
         rotate_left
         ·simp only [Act.put,zT,zU,zV,i64_w,i32_w]
          rfl
         refine take_ (i:=9) (N:=some 33) (v:=?_) (a':=?_) #[true,true,true,true,true,true,true,true,false,true,false,false,false,false,false,false,false,false,false,false,false,false,false] rfl rfl (take_ofW HT_.out HW_.out (by kernel_rfl)) (fun _ _ _ h=>h) (Or.inl ⟨by rfl,?_⟩) hHeld ?_ ?_
         rotate_left
         ·rintro w' ⟨s0,s1,s2,s3,s4,s5⟩
          go_simp
          with_reducible rfl
         rotate_left
         ·simp only [Act.put,zT,zU,zV,i64_w,i32_w]
          rfl
         refine one_ (i:=8) (N:=some 32) #[true,true,true,true,true,true,true,true,true,true,false,false,false,false,false,false,false,false,false,false,false,false,false] rfl rfl (one_of HT_.out (by kernel_rfl)) (by decide) (fun K hK=>?_)
         refine goes_ Try.func98 (by kernel_rfl) rfl #[.slice A475_0 (rd_L6 l0 x9_1).length c475_0,.int .i64 a3] (by rfl) rfl rfl (by (try simp only [List.map_toArray,List.map_cons,List.map_nil]);first|done|rfl|(simp only [List.length_drop,List.length_take];rfl)) ?_
         with_reducible refine (spec_l16At.calls _ _ (rd_L6 l0 x9_1) a3 t476 t477 _ ?side1 ?side2 A14.out).mono ?_
         (case side1=>repeat (first|exact (zO HR475_0.out HB.out)|(with_reducible first|refine zG ?_ _|refine zH ?_ _|refine zI ?_)))
         (case side2=>exact HC475_0.out)
         rintro e w21 ⟨rfl,hb⟩
         refine ⟨_,rfl,?_⟩
         have n0_:=zM (blk_below (g:=gb470) (o := .cells #[.int .i64 a1_0,.int .i64 a1_1] 48 (0,0)) (by (with_reducible repeat (first|refine zJ ?_ _|refine zK ?_|refine zL ?_ _));exact BK470.out) hb)
         have n1_:=zM (blk_below (g:=gb471) (o := .cells #[.int .i64 a2_0,.int .i64 a2_1] 48 (0,0)) (by (with_reducible repeat (first|refine zJ ?_ _|refine zK ?_|refine zL ?_ _));exact BK471.out) hb)
         have n2_:=zM (zQ (by repeat (first|(with_reducible first|exact HB.out|apply zD|apply zE|apply zF|refine below_set ?_ GE470.out|refine below_set ?_ GE471.out)|exact HB.out)) hb)
         clear BK470;clear BK471;clear HB;have BK470:=n0_;have BK471:=n1_;have HB:=n2_;clear n0_ n1_ n2_;(try clear hb)
         (try clear hb2)
         (try clear hk)
         (try clear hi)
         refine hK.out _ _ ⟨(blk_cell BK470.out 0).trans rfl,(blk_cell BK470.out 1).trans rfl,(blk_cell BK471.out 0).trans rfl,(blk_cell BK471.out 1).trans rfl,(zS HB.out hw475_0 :),(zS HB.out hw478_0 :)⟩ (fun hHeld=>?_)
         clear hK K;refine norm_ (a':=?_) ?_ ?_
         rotate_left
         ·show Act.put _ (some 32) _ = _
          simp only [Act.put,zT,zU,zV,i64_w,i32_w]
          rfl
         refine pure_ (i:=10) (N:=some 34) (v:=?_) (a':=?_) #[true,true,true,true,true,true,true,true,true,true,true,false,false,false,false,false,false,false,false,false,false,false,false] rfl rfl (any_of HT_.out (by kernel_rfl)) (fun _ _ _ h=>h) (Or.inl ⟨by rfl,?_⟩) ?_ ?_
         rotate_left
         ·intro w'
          go_simp
          with_reducible rfl
         rotate_left
         ·simp only [Act.put,zT,zU,zV,i64_w,i32_w]
          rfl
         refine pure_ (i:=11) (N:=some 35) (v:=?_) (a':=?_) #[true,true,true,true,true,true,true,true,true,true,true,true,false,false,false,false,false,false,false,false,false,false,false] rfl rfl (any_of HT_.out (by kernel_rfl)) (fun _ _ _ h=>h) (Or.inl ⟨by rfl,?_⟩) ?_ ?_
         rotate_left
         ·intro w'
          go_simp
          with_reducible rfl
         rotate_left
         ·simp only [Act.put,zT,zU,zV,i64_w,i32_w]
          rfl
         refine pure_ (i:=12) (N:=some 36) (v:=?_) (a':=?_) #[true,true,true,true,true,true,true,true,true,true,true,true,true,false,false,false,false,false,false,false,false,false,false] rfl rfl (any_of HT_.out (by kernel_rfl)) (fun _ _ _ h=>h) (Or.inl ⟨by rfl,?_⟩) ?_ ?_
         rotate_left
         ·intro w'
          go_simp
          with_reducible rfl
         rotate_left
         ·simp only [Act.put,zT,zU,zV,i64_w,i32_w]
          rfl
         refine pure_ (i:=13) (N:=some 37) (v:=?_) (a':=?_) #[true,true,true,true,true,true,true,true,true,true,true,true,true,true,false,false,false,false,false,false,false,false,false] rfl rfl (any_of HT_.out (by kernel_rfl)) (fun _ _ _ h=>h) (Or.inl ⟨by rfl,?_⟩) ?_ ?_
         rotate_left
         ·intro w'
          go_simp
          with_reducible rfl
         rotate_left
         ·simp only [Act.put,zT,zU,zV,i64_w,i32_w]
          rfl
         refine pure_ (i:=14) (N:=some 38) (v:=?_) (a':=?_) #[true,true,true,true,true,true,true,true,true,true,true,true,true,true,true,false,false,false,false,false,false,false,false] rfl rfl (any_of HT_.out (by kernel_rfl)) (fun _ _ _ h=>h) (Or.inl ⟨by rfl,?_⟩) ?_ ?_
         rotate_left
         ·intro w'
          go_simp
          with_reducible rfl
         rotate_left
         ·simp only [Act.put,zT,zU,zV,i64_w,i32_w]
          rfl
         refine pure_ (i:=15) (N:=some 39) (v:=?_) (a':=?_) #[true,true,true,true,true,true,true,true,true,true,true,true,true,true,true,true,false,false,false,false,false,false,false] rfl rfl (any_of HT_.out (by kernel_rfl)) (fun _ _ _ h=>h) (Or.inl ⟨by rfl,?_⟩) ?_ ?_
         rotate_left
         ·intro w'
          go_simp
          with_reducible rfl
         rotate_left
         ·simp only [Act.put,zT,zU,zV,i64_w,i32_w]
          rfl
         refine pure_ (i:=17) (N:=some 41) (v:=?_) (a':=?_) #[true,true,true,true,true,true,true,true,true,true,true,true,true,true,true,true,false,true,false,false,false,false,false] rfl rfl (any_of HT_.out (by kernel_rfl)) (fun _ _ _ h=>h) (Or.inl ⟨by rfl,?_⟩) ?_ ?_
         rotate_left
         ·intro w'
          go_simp
          with_reducible rfl
         rotate_left
         ·simp only [Act.put,zT,zU,zV,i64_w,i32_w]
          rfl
         refine pure_ (i:=18) (N:=some 42) (v:=?_) (a':=?_) #[true,true,true,true,true,true,true,true,true,true,true,true,true,true,true,true,false,true,true,false,false,false,false] rfl rfl (any_of HT_.out (by kernel_rfl)) (fun _ _ _ h=>h) (Or.inl ⟨by rfl,?_⟩) ?_ ?_
         rotate_left
         ·intro w'
          go_simp
          with_reducible rfl
         rotate_left
         ·simp only [Act.put,zT,zU,zV,i64_w,i32_w]
          rfl
         refine take_ (i:=16) (N:=some 40) (v:=?_) (a':=?_) #[true,true,true,true,true,true,true,true,true,true,true,true,true,true,true,true,true,true,true,false,false,false,false] rfl rfl (take_ofW HT_.out HW_.out (by kernel_rfl)) (fun _ _ _ h=>h) (Or.inl ⟨by rfl,?_⟩) hHeld ?_ ?_
         rotate_left
         ·rintro w' ⟨s0,s1,s2,s3,s4,s5⟩
          go_simp
          with_reducible rfl
         rotate_left
         ·simp only [Act.put,zT,zU,zV,i64_w,i32_w]
          rfl
         refine take_ (i:=20) (N:=some 44) (v:=?_) (a':=?_) #[true,true,true,true,true,true,true,true,true,true,true,true,true,true,true,true,true,true,true,false,true,false,false] rfl rfl (take_ofW HT_.out HW_.out (by kernel_rfl)) (fun _ _ _ h=>h) (Or.inl ⟨by rfl,?_⟩) hHeld ?_ ?_
         rotate_left
         ·rintro w' ⟨s0,s1,s2,s3,s4,s5⟩
          go_simp
          with_reducible rfl
         rotate_left
         ·simp only [Act.put,zT,zU,zV,i64_w,i32_w]
          rfl
         refine one_ (i:=19) (N:=some 43) #[true,true,true,true,true,true,true,true,true,true,true,true,true,true,true,true,true,true,true,true,true,false,false] rfl rfl (one_of HT_.out (by kernel_rfl)) (by decide) (fun K hK=>?_)
         refine goes_ Try.func98 (by kernel_rfl) rfl #[.slice A475_0 (rd_L6 l0 x9_1).length c475_0,.int .i64 (wrap64 (a3 - 1))] (by rfl) rfl rfl (by (try simp only [List.map_toArray,List.map_cons,List.map_nil]);first|done|rfl|(simp only [List.length_drop,List.length_take];rfl)) ?_
         with_reducible refine (spec_l16At.calls _ _ (rd_L6 l0 x9_1) (wrap64 (a3 - 1)) t479 t480 _ ?side1 ?side2 A16.out).mono ?_
         (case side1=>repeat (first|exact (zO HR478_0.out HB.out)|(with_reducible first|refine zG ?_ _|refine zH ?_ _|refine zI ?_)))
         (case side2=>exact HC478_0.out)
         rintro e w22 ⟨rfl,hb⟩
         refine ⟨_,rfl,?_⟩
         have n0_:=zM (blk_below (g:=gb470) (o := .cells #[.int .i64 a1_0,.int .i64 a1_1] 48 (0,0)) (by (with_reducible repeat (first|refine zJ ?_ _|refine zK ?_|refine zL ?_ _));exact BK470.out) hb)
         have n1_:=zM (blk_below (g:=gb471) (o := .cells #[.int .i64 a2_0,.int .i64 a2_1] 48 (0,0)) (by (with_reducible repeat (first|refine zJ ?_ _|refine zK ?_|refine zL ?_ _));exact BK471.out) hb)
         have n2_:=zM (zQ (by repeat (first|(with_reducible first|exact HB.out|apply zD|apply zE|apply zF|refine below_set ?_ GE470.out|refine below_set ?_ GE471.out)|exact HB.out)) hb)
         clear BK470;clear BK471;clear HB;have BK470:=n0_;have BK471:=n1_;have HB:=n2_;clear n0_ n1_ n2_;(try clear hb)
         (try clear hb2)
         (try clear hk)
         (try clear hi)
         refine hK.out _ _ ⟨(blk_cell BK470.out 0).trans rfl,(blk_cell BK470.out 1).trans rfl,(blk_cell BK471.out 0).trans rfl,(blk_cell BK471.out 1).trans rfl,(zS HB.out hw475_0 :),(zS HB.out hw478_0 :)⟩ (fun hHeld=>?_)
         clear hK K;refine norm_ (a':=?_) ?_ ?_
         rotate_left
         ·show Act.put _ (some 43) _ = _
          simp only [Act.put,zT,zU,zV,i64_w,i32_w]
          rfl
         refine pure_ (i:=21) (N:=some 45) (v:=?_) (a':=?_) #[true,true,true,true,true,true,true,true,true,true,true,true,true,true,true,true,true,true,true,true,true,true,false] rfl rfl (any_of HT_.out (by kernel_rfl)) (fun _ _ _ h=>h) (Or.inl ⟨by rfl,?_⟩) ?_ ?_
         rotate_left
         ·intro w'
          go_simp
          with_reducible rfl
         rotate_left
         ·simp only [Act.put,zT,zU,zV,i64_w,i32_w]
          rfl
         refine pure_ (i:=22) (N:=some 46) (v:=?_) (a':=?_) #[true,true,true,true,true,true,true,true,true,true,true,true,true,true,true,true,true,true,true,true,true,true,true] rfl rfl (any_of HT_.out (by kernel_rfl)) (fun _ _ _ h=>h) (Or.inl ⟨by rfl,?_⟩) ?_ ?_
         rotate_left
         ·intro w'
          go_simp
          with_reducible rfl
         rotate_left
         ·simp only [Act.put,zT,zU,zV,i64_w,i32_w]
          rfl
         refine done_ (done_of HT_.out (by kernel_rfl)) ?_
         try go_wp2
         go_ret
         exact ⟨by first|rfl|(simp [errW_none,errW_some] <;> rfl)|(simp [*,errW_none,errW_some] <;> rfl),by repeat (first|(with_reducible first|exact HB.out|apply zD|apply zE|apply zF|refine below_set ?_ GE470.out|refine below_set ?_ GE471.out)|exact HB.out)⟩
        ·rw [if_neg c17] at H
         have c17b0:(t479 == a2_0 && (t480 == a2_1)) = false:=by simpa using c17
         (try (have c17b1:decide (t479 = a2_0 && (t480 == a2_1)) = false:=by simpa using c17))
         (try (have c17b2:(t479 == a2_0 && (t480 == a2_1)) = false:=by simpa using c17))
         (try (have c17b3:¬ (t479 = a2_0 && (t480 == a2_1)):=by simpa using c17))
         clear c17;have H':=zM H;clear H;try go_wp2
         have n0_:=zM (zK BK470.out);have n1_:=zM (zK BK471.out);have n2_:=zM (zF HB.out);clear BK470;clear BK471;clear HB;have BK470:=n0_;have BK471:=n1_;have HB:=n2_;clear n0_ n1_ n2_;have p472:0 ≤ (x9_1:Int):=of_decide_eq_true (by first|(with_reducible assumption)|assumption)
         have q472:x9_1 < (l0.length:Int):=of_decide_eq_true (by first|(with_reducible assumption)|assumption)
         obtain ⟨ad472,A472_0,c472_0,e472,hx472_0,hl472_0,hi472_0⟩:=at_L6 HR0.out x9_1 p472 q472;have hw472_0:=hx472_0;cases e472
         replace hx472_0:=zS HB.out hx472_0;have HR472_0:=zM hi472_0;have HC472_0:=zM hl472_0;clear hi472_0 hl472_0;replace p472:=eq_true p472;replace q472:=eq_true q472;refine start_ (n:=8) (S:=fun w'=>w'.cell? ⟨gb471,0,none⟩ = some (.int .i64 a2_0) ∧ w'.cell? ⟨gb471,1,none⟩ = some (.int .i64 a2_1) ∧ w'.cell? (ad472.add (x9_1).toNat) = some (.slice A472_0 (rd_L6 l0 x9_1).length c472_0)) (ds:=[]) #[false,false,false,false,false,false,false,false] (by kernel_rfl) rfl rfl ⟨(blk_cell BK471.out 0).trans rfl,(blk_cell BK471.out 1).trans rfl,(zS HB.out hw472_0 :)⟩ (fun hHeld=>?_);refine with_tabW spec_l16Clear.tab4 spec_l16Clear.bits4 (fun HT_ HW_=>?_)
         generalize wr.drew = w23 at BK470 BK471 HB HR472_0 hx472_0 hHeld ⊢
         refine pure_ (i:=0) (N:=some 16) (v:=?_) (a':=?_) #[true,false,false,false,false,false,false,false] rfl rfl (any_of HT_.out (by kernel_rfl)) (fun _ _ _ h=>h) (Or.inl ⟨by rfl,?_⟩) ?_ ?_
         rotate_left
         ·intro w'
          go_simp
          with_reducible rfl
         rotate_left
         ·simp only [Act.put,zT,zU,zV,i64_w,i32_w]
          rfl
         refine pure_ (i:=1) (N:=some 17) (v:=?_) (a':=?_) #[true,true,false,false,false,false,false,false] rfl rfl (any_of HT_.out (by kernel_rfl)) (fun _ _ _ h=>h) (Or.inl ⟨by rfl,?_⟩) ?_ ?_
         rotate_left
         ·intro w'
          go_simp
          with_reducible rfl
         rotate_left
         ·simp only [Act.put,zT,zU,zV,i64_w,i32_w]
          rfl
         refine pure_ (i:=2) (N:=some 18) (v:=?_) (a':=?_) #[true,true,true,false,false,false,false,false] rfl rfl (any_of HT_.out (by kernel_rfl)) (fun _ _ _ h=>h) (Or.inl ⟨by rfl,?_⟩) ?_ ?_
         rotate_left
         ·intro w'
          go_simp
          with_reducible rfl
         rotate_left
         ·simp only [Act.put,zT,zU,zV,i64_w,i32_w]
          rfl
         refine pure_ (i:=4) (N:=some 20) (v:=?_) (a':=?_) #[true,true,true,false,true,false,false,false] rfl rfl (any_of HT_.out (by kernel_rfl)) (fun _ _ _ h=>h) (Or.inl ⟨by rfl,?_⟩) ?_ ?_
         rotate_left
         ·intro w'
          go_simp
          with_reducible rfl
         rotate_left
         ·simp only [Act.put,zT,zU,zV,i64_w,i32_w]
          rfl
         refine take_ (i:=3) (N:=some 19) (v:=?_) (a':=?_) #[true,true,true,true,true,false,false,false] rfl rfl (take_ofW HT_.out HW_.out (by kernel_rfl)) (fun _ _ _ h=>h) (Or.inl ⟨by rfl,?_⟩) hHeld ?_ ?_
         rotate_left
         ·rintro w' ⟨s0,s1,s2⟩
          go_simp
          with_reducible rfl
         rotate_left
         ·simp only [Act.put,zT,zU,zV,i64_w,i32_w]
          rfl
         refine take_ (i:=6) (N:=some 22) (v:=?_) (a':=?_) #[true,true,true,true,true,false,true,false] rfl rfl (take_ofW HT_.out HW_.out (by kernel_rfl)) (fun _ _ _ h=>h) (Or.inl ⟨by rfl,?_⟩) hHeld ?_ ?_
         rotate_left
         ·rintro w' ⟨s0,s1,s2⟩
          go_simp
          with_reducible rfl
         rotate_left
         ·simp only [Act.put,zT,zU,zV,i64_w,i32_w]
          rfl
         refine one_ (i:=5) (N:=some 21) #[true,true,true,true,true,true,true,false] rfl rfl (one_of HT_.out (by kernel_rfl)) (by decide) (fun K hK=>?_)
         refine goes_ Try.func98 (by kernel_rfl) rfl #[.slice A472_0 (rd_L6 l0 x9_1).length c472_0,.int .i64 a3] (by rfl) rfl rfl (by (try simp only [List.map_toArray,List.map_cons,List.map_nil]);first|done|rfl|(simp only [List.length_drop,List.length_take];rfl)) ?_
         with_reducible refine (spec_l16At.calls _ _ (rd_L6 l0 x9_1) a3 t473 t474 _ ?side1 ?side2 A9.out).mono ?_
         (case side1=>repeat (first|exact (zO HR472_0.out HB.out)|(with_reducible first|refine zG ?_ _|refine zH ?_ _|refine zI ?_)))
         (case side2=>exact HC472_0.out)
         rintro e w24 ⟨rfl,hb⟩
         refine ⟨_,rfl,?_⟩
         have n0_:=zM (blk_below (g:=gb470) (o := .cells #[.int .i64 a1_0,.int .i64 a1_1] 48 (0,0)) (by (with_reducible repeat (first|refine zJ ?_ _|refine zK ?_|refine zL ?_ _));exact BK470.out) hb)
         have n1_:=zM (blk_below (g:=gb471) (o := .cells #[.int .i64 a2_0,.int .i64 a2_1] 48 (0,0)) (by (with_reducible repeat (first|refine zJ ?_ _|refine zK ?_|refine zL ?_ _));exact BK471.out) hb)
         have n2_:=zM (zQ (by repeat (first|(with_reducible first|exact HB.out|apply zD|apply zE|apply zF|refine below_set ?_ GE470.out|refine below_set ?_ GE471.out)|exact HB.out)) hb)
         clear BK470;clear BK471;clear HB;have BK470:=n0_;have BK471:=n1_;have HB:=n2_;clear n0_ n1_ n2_;(try clear hb)
         (try clear hb2)
         (try clear hk)
         (try clear hi)
         refine hK.out _ _ ⟨(blk_cell BK471.out 0).trans rfl,(blk_cell BK471.out 1).trans rfl,(zS HB.out hw472_0 :)⟩ (fun hHeld=>?_)
         clear hK K;refine norm_ (a':=?_) ?_ ?_
         rotate_left
         ·show Act.put _ (some 21) _ = _
          simp only [Act.put,zT,zU,zV,i64_w,i32_w]
          rfl
         refine pure_ (i:=7) (N:=some 23) (v:=?_) (a':=?_) #[true,true,true,true,true,true,true,true] rfl rfl (any_of HT_.out (by kernel_rfl)) (fun _ _ _ h=>h) (Or.inl ⟨by rfl,?_⟩) ?_ ?_
         rotate_left
         ·intro w'
          go_simp
          with_reducible rfl
         rotate_left
         ·simp only [Act.put,zT,zU,zV,i64_w,i32_w]
          rfl
         refine done_ (done_of HT_.out (by kernel_rfl)) ?_
         try go_wp2
         have n0_:=zM (zK BK470.out);have n1_:=zM (zK BK471.out);have n2_:=zM (zF HB.out);clear BK470;clear BK471;clear HB;have BK470:=n0_;have BK471:=n1_;have HB:=n2_;clear n0_ n1_ n2_;have p475:0 ≤ (x9_1:Int):=of_decide_eq_true (by first|(with_reducible assumption)|assumption)
         have q475:x9_1 < (l0.length:Int):=of_decide_eq_true (by first|(with_reducible assumption)|assumption)
         obtain ⟨ad475,A475_0,c475_0,e475,hx475_0,hl475_0,hi475_0⟩:=at_L6 HR0.out x9_1 p475 q475;have hw475_0:=hx475_0;obtain rfl:ad472 = ad475:=(by injection e475)
         replace hx475_0:=zS HB.out hx475_0;have HR475_0:=zM hi475_0;have HC475_0:=zM hl475_0;clear hi475_0 hl475_0;replace p475:=eq_true p475;replace q475:=eq_true q475;have p478:0 ≤ (x9_1:Int):=of_decide_eq_true (by first|(with_reducible assumption)|assumption)
         have q478:x9_1 < (l0.length:Int):=of_decide_eq_true (by first|(with_reducible assumption)|assumption)
         obtain ⟨ad478,A478_0,c478_0,e478,hx478_0,hl478_0,hi478_0⟩:=at_L6 HR0.out x9_1 p478 q478;have hw478_0:=hx478_0;obtain rfl:ad472 = ad478:=(by injection e478)
         (have hj2_:=Option.some.inj (hw475_0.symm.trans hw478_0);injection hj2_ with hjA_ hjN_ hjC_;subst hjA_;subst hjC_)
         replace hx478_0:=zS HB.out hx478_0;have HR478_0:=zM hi478_0;have HC478_0:=zM hl478_0;clear hi478_0 hl478_0;replace p478:=eq_true p478;replace q478:=eq_true q478;refine start_ (n:=23) (S:=fun w'=>w'.cell? ⟨gb470,0,none⟩ = some (.int .i64 a1_0) ∧ w'.cell? ⟨gb470,1,none⟩ = some (.int .i64 a1_1) ∧ w'.cell? ⟨gb471,0,none⟩ = some (.int .i64 a2_0) ∧ w'.cell? ⟨gb471,1,none⟩ = some (.int .i64 a2_1) ∧ w'.cell? (ad472.add (x9_1).toNat) = some (.slice A475_0 (rd_L6 l0 x9_1).length c475_0) ∧ w'.cell? (ad472.add (x9_1).toNat) = some (.slice A475_0 (rd_L6 l0 x9_1).length c475_0)) (ds:=[]) #[false,false,false,false,false,false,false,false,false,false,false,false,false,false,false,false,false,false,false,false,false,false,false] (by kernel_rfl) rfl rfl ⟨(blk_cell BK470.out 0).trans rfl,(blk_cell BK470.out 1).trans rfl,(blk_cell BK471.out 0).trans rfl,(blk_cell BK471.out 1).trans rfl,(zS HB.out hw475_0 :),(zS HB.out hw478_0 :)⟩ (fun hHeld=>?_);refine with_tabW spec_l16Clear.tab6 spec_l16Clear.bits6 (fun HT_ HW_=>?_)
         generalize w24.drew = w25 at BK470 BK471 HB HR475_0 HR478_0 hx475_0 hx478_0 hHeld ⊢
         refine pure_ (i:=0) (N:=some 24) (v:=?_) (a':=?_) #[true,false,false,false,false,false,false,false,false,false,false,false,false,false,false,false,false,false,false,false,false,false,false] rfl rfl (any_of HT_.out (by kernel_rfl)) (fun _ _ _ h=>h) (Or.inl ⟨by rfl,?_⟩) ?_ ?_
         rotate_left
         ·intro w'
          go_simp
          with_reducible rfl
         rotate_left
         ·simp only [Act.put,zT,zU,zV,i64_w,i32_w]
          rfl
         refine pure_ (i:=1) (N:=some 25) (v:=?_) (a':=?_) #[true,true,false,false,false,false,false,false,false,false,false,false,false,false,false,false,false,false,false,false,false,false,false] rfl rfl (any_of HT_.out (by kernel_rfl)) (fun _ _ _ h=>h) (Or.inl ⟨by rfl,?_⟩) ?_ ?_
         rotate_left
         ·intro w'
          go_simp
          with_reducible rfl
         rotate_left
         ·simp only [Act.put,zT,zU,zV,i64_w,i32_w]
          rfl
         refine pure_ (i:=2) (N:=some 26) (v:=?_) (a':=?_) #[true,true,true,false,false,false,false,false,false,false,false,false,false,false,false,false,false,false,false,false,false,false,false] rfl rfl (any_of HT_.out (by kernel_rfl)) (fun _ _ _ h=>h) (Or.inl ⟨by rfl,?_⟩) ?_ ?_
         rotate_left
         ·intro w'
          go_simp
          with_reducible rfl
         rotate_left
         ·simp only [Act.put,zT,zU,zV,i64_w,i32_w]
          rfl
         refine pure_ (i:=3) (N:=some 27) (v:=?_) (a':=?_) #[true,true,true,true,false,false,false,false,false,false,false,false,false,false,false,false,false,false,false,false,false,false,false] rfl rfl (any_of HT_.out (by kernel_rfl)) (fun _ _ _ h=>h) (Or.inl ⟨by rfl,?_⟩) ?_ ?_
         rotate_left
         ·intro w'
          go_simp
          with_reducible rfl
         rotate_left
         ·simp only [Act.put,zT,zU,zV,i64_w,i32_w]
          rfl
         refine pure_ (i:=4) (N:=some 28) (v:=?_) (a':=?_) #[true,true,true,true,true,false,false,false,false,false,false,false,false,false,false,false,false,false,false,false,false,false,false] rfl rfl (any_of HT_.out (by kernel_rfl)) (fun _ _ _ h=>h) (Or.inl ⟨by rfl,?_⟩) ?_ ?_
         rotate_left
         ·intro w'
          go_simp
          with_reducible rfl
         rotate_left
         ·simp only [Act.put,zT,zU,zV,i64_w,i32_w]
          rfl
         refine pure_ (i:=5) (N:=some 29) (v:=?_) (a':=?_) #[true,true,true,true,true,true,false,false,false,false,false,false,false,false,false,false,false,false,false,false,false,false,false] rfl rfl (any_of HT_.out (by kernel_rfl)) (fun _ _ _ h=>h) (Or.inl ⟨by rfl,?_⟩) ?_ ?_
         rotate_left
         ·intro w'
          go_simp
          with_reducible rfl
         rotate_left
         ·simp only [Act.put,zT,zU,zV,i64_w,i32_w]
          rfl
         refine pure_ (i:=7) (N:=some 31) (v:=?_) (a':=?_) #[true,true,true,true,true,true,false,true,false,false,false,false,false,false,false,false,false,false,false,false,false,false,false] rfl rfl (any_of HT_.out (by kernel_rfl)) (fun _ _ _ h=>h) (Or.inl ⟨by rfl,?_⟩) ?_ ?_
         rotate_left
         ·intro w'
          go_simp
          with_reducible rfl
         rotate_left
         ·simp only [Act.put,zT,zU,zV,i64_w,i32_w]
          rfl
         refine take_ (i:=6) (N:=some 30) (v:=?_) (a':=?_) #[true,true,true,true,true,true,true,true,false,false,false,false,false,false,false,false,false,false,false,false,false,false,false] rfl rfl (take_ofW HT_.out HW_.out (by kernel_rfl)) (fun _ _ _ h=>h) (Or.inl ⟨by rfl,?_⟩) hHeld ?_ ?_
         rotate_left
         ·rintro w' ⟨s0,s1,s2,s3,s4,s5⟩
          go_simp
          with_reducible rfl
         rotate_left
         ·simp only [Act.put,zT,zU,zV,i64_w,i32_w]
          rfl
         refine take_ (i:=9) (N:=some 33) (v:=?_) (a':=?_) #[true,true,true,true,true,true,true,true,false,true,false,false,false,false,false,false,false,false,false,false,false,false,false] rfl rfl (take_ofW HT_.out HW_.out (by kernel_rfl)) (fun _ _ _ h=>h) (Or.inl ⟨by rfl,?_⟩) hHeld ?_ ?_
         rotate_left
         ·rintro w' ⟨s0,s1,s2,s3,s4,s5⟩
          go_simp
          with_reducible rfl
         rotate_left
         ·simp only [Act.put,zT,zU,zV,i64_w,i32_w]
          rfl
         refine one_ (i:=8) (N:=some 32) #[true,true,true,true,true,true,true,true,true,true,false,false,false,false,false,false,false,false,false,false,false,false,false] rfl rfl (one_of HT_.out (by kernel_rfl)) (by decide) (fun K hK=>?_)
         refine goes_ Try.func98 (by kernel_rfl) rfl #[.slice A475_0 (rd_L6 l0 x9_1).length c475_0,.int .i64 a3] (by rfl) rfl rfl (by (try simp only [List.map_toArray,List.map_cons,List.map_nil]);first|done|rfl|(simp only [List.length_drop,List.length_take];rfl)) ?_
         with_reducible refine (spec_l16At.calls _ _ (rd_L6 l0 x9_1) a3 t476 t477 _ ?side1 ?side2 A14.out).mono ?_
         (case side1=>repeat (first|exact (zO HR475_0.out HB.out)|(with_reducible first|refine zG ?_ _|refine zH ?_ _|refine zI ?_)))
         (case side2=>exact HC475_0.out)
         rintro e w26 ⟨rfl,hb⟩
         refine ⟨_,rfl,?_⟩
         have n0_:=zM (blk_below (g:=gb470) (o := .cells #[.int .i64 a1_0,.int .i64 a1_1] 48 (0,0)) (by (with_reducible repeat (first|refine zJ ?_ _|refine zK ?_|refine zL ?_ _));exact BK470.out) hb)
         have n1_:=zM (blk_below (g:=gb471) (o := .cells #[.int .i64 a2_0,.int .i64 a2_1] 48 (0,0)) (by (with_reducible repeat (first|refine zJ ?_ _|refine zK ?_|refine zL ?_ _));exact BK471.out) hb)
         have n2_:=zM (zQ (by repeat (first|(with_reducible first|exact HB.out|apply zD|apply zE|apply zF|refine below_set ?_ GE470.out|refine below_set ?_ GE471.out)|exact HB.out)) hb)
         clear BK470;clear BK471;clear HB;have BK470:=n0_;have BK471:=n1_;have HB:=n2_;clear n0_ n1_ n2_;(try clear hb)
         (try clear hb2)
         (try clear hk)
         (try clear hi)
         refine hK.out _ _ ⟨(blk_cell BK470.out 0).trans rfl,(blk_cell BK470.out 1).trans rfl,(blk_cell BK471.out 0).trans rfl,(blk_cell BK471.out 1).trans rfl,(zS HB.out hw475_0 :),(zS HB.out hw478_0 :)⟩ (fun hHeld=>?_)
         clear hK K;refine norm_ (a':=?_) ?_ ?_
         rotate_left
         ·show Act.put _ (some 32) _ = _
          simp only [Act.put,zT,zU,zV,i64_w,i32_w]
          rfl
         refine pure_ (i:=10) (N:=some 34) (v:=?_) (a':=?_) #[true,true,true,true,true,true,true,true,true,true,true,false,false,false,false,false,false,false,false,false,false,false,false] rfl rfl (any_of HT_.out (by kernel_rfl)) (fun _ _ _ h=>h) (Or.inl ⟨by rfl,?_⟩) ?_ ?_
         rotate_left
         ·intro w'
          go_simp
          with_reducible rfl
         rotate_left
         ·simp only [Act.put,zT,zU,zV,i64_w,i32_w]
          rfl
         refine pure_ (i:=11) (N:=some 35) (v:=?_) (a':=?_) #[true,true,true,true,true,true,true,true,true,true,true,true,false,false,false,false,false,false,false,false,false,false,false] rfl rfl (any_of HT_.out (by kernel_rfl)) (fun _ _ _ h=>h) (Or.inl ⟨by rfl,?_⟩) ?_ ?_
         rotate_left
         ·intro w'
          go_simp
          with_reducible rfl
         rotate_left
         ·simp only [Act.put,zT,zU,zV,i64_w,i32_w]
          rfl
         refine pure_ (i:=12) (N:=some 36) (v:=?_) (a':=?_) #[true,true,true,true,true,true,true,true,true,true,true,true,true,false,false,false,false,false,false,false,false,false,false] rfl rfl (any_of HT_.out (by kernel_rfl)) (fun _ _ _ h=>h) (Or.inl ⟨by rfl,?_⟩) ?_ ?_
         rotate_left
         ·intro w'
          go_simp
          with_reducible rfl
         rotate_left
         ·simp only [Act.put,zT,zU,zV,i64_w,i32_w]
          rfl
         refine pure_ (i:=13) (N:=some 37) (v:=?_) (a':=?_) #[true,true,true,true,true,true,true,true,true,true,true,true,true,true,false,false,false,false,false,false,false,false,false] rfl rfl (any_of HT_.out (by kernel_rfl)) (fun _ _ _ h=>h) (Or.inl ⟨by rfl,?_⟩) ?_ ?_
         rotate_left
         ·intro w'
          go_simp
          with_reducible rfl
         rotate_left
         ·simp only [Act.put,zT,zU,zV,i64_w,i32_w]
          rfl
         refine pure_ (i:=14) (N:=some 38) (v:=?_) (a':=?_) #[true,true,true,true,true,true,true,true,true,true,true,true,true,true,true,false,false,false,false,false,false,false,false] rfl rfl (any_of HT_.out (by kernel_rfl)) (fun _ _ _ h=>h) (Or.inl ⟨by rfl,?_⟩) ?_ ?_
         rotate_left
         ·intro w'
          go_simp
          with_reducible rfl
         rotate_left
         ·simp only [Act.put,zT,zU,zV,i64_w,i32_w]
          rfl
         refine pure_ (i:=15) (N:=some 39) (v:=?_) (a':=?_) #[true,true,true,true,true,true,true,true,true,true,true,true,true,true,true,true,false,false,false,false,false,false,false] rfl rfl (any_of HT_.out (by kernel_rfl)) (fun _ _ _ h=>h) (Or.inl ⟨by rfl,?_⟩) ?_ ?_
         rotate_left
         ·intro w'
          go_simp
          with_reducible rfl
         rotate_left
         ·simp only [Act.put,zT,zU,zV,i64_w,i32_w]
          rfl
         refine pure_ (i:=17) (N:=some 41) (v:=?_) (a':=?_) #[true,true,true,true,true,true,true,true,true,true,true,true,true,true,true,true,false,true,false,false,false,false,false] rfl rfl (any_of HT_.out (by kernel_rfl)) (fun _ _ _ h=>h) (Or.inl ⟨by rfl,?_⟩) ?_ ?_
         rotate_left
         ·intro w'
          go_simp
          with_reducible rfl
         rotate_left
         ·simp only [Act.put,zT,zU,zV,i64_w,i32_w]
          rfl
         refine pure_ (i:=18) (N:=some 42) (v:=?_) (a':=?_) #[true,true,true,true,true,true,true,true,true,true,true,true,true,true,true,true,false,true,true,false,false,false,false] rfl rfl (any_of HT_.out (by kernel_rfl)) (fun _ _ _ h=>h) (Or.inl ⟨by rfl,?_⟩) ?_ ?_
         rotate_left
         ·intro w'
          go_simp
          with_reducible rfl
         rotate_left
         ·simp only [Act.put,zT,zU,zV,i64_w,i32_w]
          rfl
         refine take_ (i:=16) (N:=some 40) (v:=?_) (a':=?_) #[true,true,true,true,true,true,true,true,true,true,true,true,true,true,true,true,true,true,true,false,false,false,false] rfl rfl (take_ofW HT_.out HW_.out (by kernel_rfl)) (fun _ _ _ h=>h) (Or.inl ⟨by rfl,?_⟩) hHeld ?_ ?_
         rotate_left
         ·rintro w' ⟨s0,s1,s2,s3,s4,s5⟩
          go_simp
          with_reducible rfl
         rotate_left
         ·simp only [Act.put,zT,zU,zV,i64_w,i32_w]
          rfl
         refine take_ (i:=20) (N:=some 44) (v:=?_) (a':=?_) #[true,true,true,true,true,true,true,true,true,true,true,true,true,true,true,true,true,true,true,false,true,false,false] rfl rfl (take_ofW HT_.out HW_.out (by kernel_rfl)) (fun _ _ _ h=>h) (Or.inl ⟨by rfl,?_⟩) hHeld ?_ ?_
         rotate_left
         ·rintro w' ⟨s0,s1,s2,s3,s4,s5⟩
          go_simp
          with_reducible rfl
         rotate_left
         ·simp only [Act.put,zT,zU,zV,i64_w,i32_w]
          rfl
         refine one_ (i:=19) (N:=some 43) #[true,true,true,true,true,true,true,true,true,true,true,true,true,true,true,true,true,true,true,true,true,false,false] rfl rfl (one_of HT_.out (by kernel_rfl)) (by decide) (fun K hK=>?_)
         refine goes_ Try.func98 (by kernel_rfl) rfl #[.slice A475_0 (rd_L6 l0 x9_1).length c475_0,.int .i64 (wrap64 (a3 - 1))] (by rfl) rfl rfl (by (try simp only [List.map_toArray,List.map_cons,List.map_nil]);first|done|rfl|(simp only [List.length_drop,List.length_take];rfl)) ?_
         with_reducible refine (spec_l16At.calls _ _ (rd_L6 l0 x9_1) (wrap64 (a3 - 1)) t479 t480 _ ?side1 ?side2 A16.out).mono ?_
         (case side1=>repeat (first|exact (zO HR478_0.out HB.out)|(with_reducible first|refine zG ?_ _|refine zH ?_ _|refine zI ?_)))
         (case side2=>exact HC478_0.out)
         rintro e w27 ⟨rfl,hb⟩
         refine ⟨_,rfl,?_⟩
         have n0_:=zM (blk_below (g:=gb470) (o := .cells #[.int .i64 a1_0,.int .i64 a1_1] 48 (0,0)) (by (with_reducible repeat (first|refine zJ ?_ _|refine zK ?_|refine zL ?_ _));exact BK470.out) hb)
         have n1_:=zM (blk_below (g:=gb471) (o := .cells #[.int .i64 a2_0,.int .i64 a2_1] 48 (0,0)) (by (with_reducible repeat (first|refine zJ ?_ _|refine zK ?_|refine zL ?_ _));exact BK471.out) hb)
         have n2_:=zM (zQ (by repeat (first|(with_reducible first|exact HB.out|apply zD|apply zE|apply zF|refine below_set ?_ GE470.out|refine below_set ?_ GE471.out)|exact HB.out)) hb)
         clear BK470;clear BK471;clear HB;have BK470:=n0_;have BK471:=n1_;have HB:=n2_;clear n0_ n1_ n2_;(try clear hb)
         (try clear hb2)
         (try clear hk)
         (try clear hi)
         refine hK.out _ _ ⟨(blk_cell BK470.out 0).trans rfl,(blk_cell BK470.out 1).trans rfl,(blk_cell BK471.out 0).trans rfl,(blk_cell BK471.out 1).trans rfl,(zS HB.out hw475_0 :),(zS HB.out hw478_0 :)⟩ (fun hHeld=>?_)
         clear hK K;refine norm_ (a':=?_) ?_ ?_
         rotate_left
         ·show Act.put _ (some 43) _ = _
          simp only [Act.put,zT,zU,zV,i64_w,i32_w]
          rfl
         refine pure_ (i:=21) (N:=some 45) (v:=?_) (a':=?_) #[true,true,true,true,true,true,true,true,true,true,true,true,true,true,true,true,true,true,true,true,true,true,false] rfl rfl (any_of HT_.out (by kernel_rfl)) (fun _ _ _ h=>h) (Or.inl ⟨by rfl,?_⟩) ?_ ?_
         rotate_left
         ·intro w'
          go_simp
          with_reducible rfl
         rotate_left
         ·simp only [Act.put,zT,zU,zV,i64_w,i32_w]
          rfl
         refine pure_ (i:=22) (N:=some 46) (v:=?_) (a':=?_) #[true,true,true,true,true,true,true,true,true,true,true,true,true,true,true,true,true,true,true,true,true,true,true] rfl rfl (any_of HT_.out (by kernel_rfl)) (fun _ _ _ h=>h) (Or.inl ⟨by rfl,?_⟩) ?_ ?_
         rotate_left
         ·intro w'
          go_simp
          with_reducible rfl
         rotate_left
         ·simp only [Act.put,zT,zU,zV,i64_w,i32_w]
          rfl
         refine done_ (done_of HT_.out (by kernel_rfl)) ?_
         try go_wp2
         go_roundg k1
         case measure=>have:=HK1.out;omega
         case rel=>exact ⟨(wrap64 (x9_1 + 1)),(by first|rfl|(simp;done)|(simp [*];done)),H',⟨by have:=HK1.out;omega⟩,⟨by (with_reducible repeat (first|refine zJ ?_ _|refine zK ?_|refine zL ?_ _));exact BK470.out⟩,⟨by (with_reducible repeat (first|refine zJ ?_ _|refine zK ?_|refine zL ?_ _));exact BK471.out⟩,⟨by repeat (first|(with_reducible first|exact HB.out|apply zD|apply zE|apply zF|refine below_set ?_ GE470.out|refine below_set ?_ GE471.out)|exact HB.out)⟩⟩
       ·rw [if_neg c15] at H
        have c15b0:(t476 == a1_0 && (t477 == a1_1)) = false:=by simpa using c15
        (try (have c15b1:decide (t476 = a1_0 && (t477 == a1_1)) = false:=by simpa using c15))
        (try (have c15b2:(t476 == a1_0 && (t477 == a1_1)) = false:=by simpa using c15))
        (try (have c15b3:¬ (t476 = a1_0 && (t477 == a1_1)):=by simpa using c15))
        clear c15;have H':=zM H;clear H;try go_wp2
        have n0_:=zM (zK BK470.out);have n1_:=zM (zK BK471.out);have n2_:=zM (zF HB.out);clear BK470;clear BK471;clear HB;have BK470:=n0_;have BK471:=n1_;have HB:=n2_;clear n0_ n1_ n2_;have p472:0 ≤ (x9_1:Int):=of_decide_eq_true (by first|(with_reducible assumption)|assumption)
        have q472:x9_1 < (l0.length:Int):=of_decide_eq_true (by first|(with_reducible assumption)|assumption)
        obtain ⟨ad472,A472_0,c472_0,e472,hx472_0,hl472_0,hi472_0⟩:=at_L6 HR0.out x9_1 p472 q472;have hw472_0:=hx472_0;cases e472
        replace hx472_0:=zS HB.out hx472_0;have HR472_0:=zM hi472_0;have HC472_0:=zM hl472_0;clear hi472_0 hl472_0;replace p472:=eq_true p472;replace q472:=eq_true q472;refine start_ (n:=8) (S:=fun w'=>w'.cell? ⟨gb471,0,none⟩ = some (.int .i64 a2_0) ∧ w'.cell? ⟨gb471,1,none⟩ = some (.int .i64 a2_1) ∧ w'.cell? (ad472.add (x9_1).toNat) = some (.slice A472_0 (rd_L6 l0 x9_1).length c472_0)) (ds:=[]) #[false,false,false,false,false,false,false,false] (by kernel_rfl) rfl rfl ⟨(blk_cell BK471.out 0).trans rfl,(blk_cell BK471.out 1).trans rfl,(zS HB.out hw472_0 :)⟩ (fun hHeld=>?_);refine with_tabW spec_l16Clear.tab4 spec_l16Clear.bits4 (fun HT_ HW_=>?_)
        generalize wr.drew = w28 at BK470 BK471 HB HR472_0 hx472_0 hHeld ⊢
        refine pure_ (i:=0) (N:=some 16) (v:=?_) (a':=?_) #[true,false,false,false,false,false,false,false] rfl rfl (any_of HT_.out (by kernel_rfl)) (fun _ _ _ h=>h) (Or.inl ⟨by rfl,?_⟩) ?_ ?_
        rotate_left
        ·intro w'
         go_simp
         with_reducible rfl
        rotate_left
        ·simp only [Act.put,zT,zU,zV,i64_w,i32_w]
         rfl
        refine pure_ (i:=1) (N:=some 17) (v:=?_) (a':=?_) #[true,true,false,false,false,false,false,false] rfl rfl (any_of HT_.out (by kernel_rfl)) (fun _ _ _ h=>h) (Or.inl ⟨by rfl,?_⟩) ?_ ?_
        rotate_left
        ·intro w'
         go_simp
         with_reducible rfl
        rotate_left
        ·simp only [Act.put,zT,zU,zV,i64_w,i32_w]
         rfl
        refine pure_ (i:=2) (N:=some 18) (v:=?_) (a':=?_) #[true,true,true,false,false,false,false,false] rfl rfl (any_of HT_.out (by kernel_rfl)) (fun _ _ _ h=>h) (Or.inl ⟨by rfl,?_⟩) ?_ ?_
        rotate_left
        ·intro w'
         go_simp
         with_reducible rfl
        rotate_left
        ·simp only [Act.put,zT,zU,zV,i64_w,i32_w]
         rfl
        refine pure_ (i:=4) (N:=some 20) (v:=?_) (a':=?_) #[true,true,true,false,true,false,false,false] rfl rfl (any_of HT_.out (by kernel_rfl)) (fun _ _ _ h=>h) (Or.inl ⟨by rfl,?_⟩) ?_ ?_
        rotate_left
        ·intro w'
         go_simp
         with_reducible rfl
        rotate_left
        ·simp only [Act.put,zT,zU,zV,i64_w,i32_w]
         rfl
        refine take_ (i:=3) (N:=some 19) (v:=?_) (a':=?_) #[true,true,true,true,true,false,false,false] rfl rfl (take_ofW HT_.out HW_.out (by kernel_rfl)) (fun _ _ _ h=>h) (Or.inl ⟨by rfl,?_⟩) hHeld ?_ ?_
        rotate_left
        ·rintro w' ⟨s0,s1,s2⟩
         go_simp
         with_reducible rfl
        rotate_left
        ·simp only [Act.put,zT,zU,zV,i64_w,i32_w]
         rfl
        refine take_ (i:=6) (N:=some 22) (v:=?_) (a':=?_) #[true,true,true,true,true,false,true,false] rfl rfl (take_ofW HT_.out HW_.out (by kernel_rfl)) (fun _ _ _ h=>h) (Or.inl ⟨by rfl,?_⟩) hHeld ?_ ?_
        rotate_left
        ·rintro w' ⟨s0,s1,s2⟩
         go_simp
         with_reducible rfl
        rotate_left
        ·simp only [Act.put,zT,zU,zV,i64_w,i32_w]
         rfl
        refine one_ (i:=5) (N:=some 21) #[true,true,true,true,true,true,true,false] rfl rfl (one_of HT_.out (by kernel_rfl)) (by decide) (fun K hK=>?_)
        refine goes_ Try.func98 (by kernel_rfl) rfl #[.slice A472_0 (rd_L6 l0 x9_1).length c472_0,.int .i64 a3] (by rfl) rfl rfl (by (try simp only [List.map_toArray,List.map_cons,List.map_nil]);first|done|rfl|(simp only [List.length_drop,List.length_take];rfl)) ?_
        with_reducible refine (spec_l16At.calls _ _ (rd_L6 l0 x9_1) a3 t473 t474 _ ?side1 ?side2 A9.out).mono ?_
        (case side1=>repeat (first|exact (zO HR472_0.out HB.out)|(with_reducible first|refine zG ?_ _|refine zH ?_ _|refine zI ?_)))
        (case side2=>exact HC472_0.out)
        rintro e w29 ⟨rfl,hb⟩
        refine ⟨_,rfl,?_⟩
        have n0_:=zM (blk_below (g:=gb470) (o := .cells #[.int .i64 a1_0,.int .i64 a1_1] 48 (0,0)) (by (with_reducible repeat (first|refine zJ ?_ _|refine zK ?_|refine zL ?_ _));exact BK470.out) hb)
        have n1_:=zM (blk_below (g:=gb471) (o := .cells #[.int .i64 a2_0,.int .i64 a2_1] 48 (0,0)) (by (with_reducible repeat (first|refine zJ ?_ _|refine zK ?_|refine zL ?_ _));exact BK471.out) hb)
        have n2_:=zM (zQ (by repeat (first|(with_reducible first|exact HB.out|apply zD|apply zE|apply zF|refine below_set ?_ GE470.out|refine below_set ?_ GE471.out)|exact HB.out)) hb)
        clear BK470;clear BK471;clear HB;have BK470:=n0_;have BK471:=n1_;have HB:=n2_;clear n0_ n1_ n2_;(try clear hb)
        (try clear hb2)
        (try clear hk)
        (try clear hi)
        refine hK.out _ _ ⟨(blk_cell BK471.out 0).trans rfl,(blk_cell BK471.out 1).trans rfl,(zS HB.out hw472_0 :)⟩ (fun hHeld=>?_)
        clear hK K;refine norm_ (a':=?_) ?_ ?_
        rotate_left
        ·show Act.put _ (some 21) _ = _
         simp only [Act.put,zT,zU,zV,i64_w,i32_w]
         rfl
        refine pure_ (i:=7) (N:=some 23) (v:=?_) (a':=?_) #[true,true,true,true,true,true,true,true] rfl rfl (any_of HT_.out (by kernel_rfl)) (fun _ _ _ h=>h) (Or.inl ⟨by rfl,?_⟩) ?_ ?_
        rotate_left
        ·intro w'
         go_simp
         with_reducible rfl
        rotate_left
        ·simp only [Act.put,zT,zU,zV,i64_w,i32_w]
         rfl
        refine done_ (done_of HT_.out (by kernel_rfl)) ?_
        try go_wp2
        have n0_:=zM (zK BK470.out);have n1_:=zM (zK BK471.out);have n2_:=zM (zF HB.out);clear BK470;clear BK471;clear HB;have BK470:=n0_;have BK471:=n1_;have HB:=n2_;clear n0_ n1_ n2_;have p475:0 ≤ (x9_1:Int):=of_decide_eq_true (by first|(with_reducible assumption)|assumption)
        have q475:x9_1 < (l0.length:Int):=of_decide_eq_true (by first|(with_reducible assumption)|assumption)
        obtain ⟨ad475,A475_0,c475_0,e475,hx475_0,hl475_0,hi475_0⟩:=at_L6 HR0.out x9_1 p475 q475;have hw475_0:=hx475_0;obtain rfl:ad472 = ad475:=(by injection e475)
        replace hx475_0:=zS HB.out hx475_0;have HR475_0:=zM hi475_0;have HC475_0:=zM hl475_0;clear hi475_0 hl475_0;replace p475:=eq_true p475;replace q475:=eq_true q475;refine start_ (n:=23) (S:=fun w'=>w'.cell? ⟨gb470,0,none⟩ = some (.int .i64 a1_0) ∧ w'.cell? ⟨gb470,1,none⟩ = some (.int .i64 a1_1) ∧ w'.cell? (ad472.add (x9_1).toNat) = some (.slice A475_0 (rd_L6 l0 x9_1).length c475_0)) (ds:=[]) #[false,false,false,false,false,false,false,false,false,false,false,false,false,false,false,false,false,false,false,false,false,false,false] (by kernel_rfl) rfl rfl ⟨(blk_cell BK470.out 0).trans rfl,(blk_cell BK470.out 1).trans rfl,(zS HB.out hw475_0 :)⟩ (fun hHeld=>?_);refine with_tabW spec_l16Clear.tab6 spec_l16Clear.bits6 (fun HT_ HW_=>?_)
        generalize w29.drew = w30 at BK470 BK471 HB HR475_0 hx475_0 hHeld ⊢
        refine pure_ (i:=0) (N:=some 24) (v:=?_) (a':=?_) #[true,false,false,false,false,false,false,false,false,false,false,false,false,false,false,false,false,false,false,false,false,false,false] rfl rfl (any_of HT_.out (by kernel_rfl)) (fun _ _ _ h=>h) (Or.inl ⟨by rfl,?_⟩) ?_ ?_
        rotate_left
        ·intro w'
         go_simp
         with_reducible rfl
        rotate_left
        ·simp only [Act.put,zT,zU,zV,i64_w,i32_w]
         rfl
        refine pure_ (i:=1) (N:=some 25) (v:=?_) (a':=?_) #[true,true,false,false,false,false,false,false,false,false,false,false,false,false,false,false,false,false,false,false,false,false,false] rfl rfl (any_of HT_.out (by kernel_rfl)) (fun _ _ _ h=>h) (Or.inl ⟨by rfl,?_⟩) ?_ ?_
        rotate_left
        ·intro w'
         go_simp
         with_reducible rfl
        rotate_left
        ·simp only [Act.put,zT,zU,zV,i64_w,i32_w]
         rfl
        refine pure_ (i:=2) (N:=some 26) (v:=?_) (a':=?_) #[true,true,true,false,false,false,false,false,false,false,false,false,false,false,false,false,false,false,false,false,false,false,false] rfl rfl (any_of HT_.out (by kernel_rfl)) (fun _ _ _ h=>h) (Or.inl ⟨by rfl,?_⟩) ?_ ?_
        rotate_left
        ·intro w'
         go_simp
         with_reducible rfl
        rotate_left
        ·simp only [Act.put,zT,zU,zV,i64_w,i32_w]
         rfl
        refine pure_ (i:=3) (N:=some 27) (v:=?_) (a':=?_) #[true,true,true,true,false,false,false,false,false,false,false,false,false,false,false,false,false,false,false,false,false,false,false] rfl rfl (any_of HT_.out (by kernel_rfl)) (fun _ _ _ h=>h) (Or.inl ⟨by rfl,?_⟩) ?_ ?_
        rotate_left
        ·intro w'
         go_simp
         with_reducible rfl
        rotate_left
        ·simp only [Act.put,zT,zU,zV,i64_w,i32_w]
         rfl
        refine pure_ (i:=4) (N:=some 28) (v:=?_) (a':=?_) #[true,true,true,true,true,false,false,false,false,false,false,false,false,false,false,false,false,false,false,false,false,false,false] rfl rfl (any_of HT_.out (by kernel_rfl)) (fun _ _ _ h=>h) (Or.inl ⟨by rfl,?_⟩) ?_ ?_
        rotate_left
        ·intro w'
         go_simp
         with_reducible rfl
        rotate_left
        ·simp only [Act.put,zT,zU,zV,i64_w,i32_w]
         rfl
        refine pure_ (i:=5) (N:=some 29) (v:=?_) (a':=?_) #[true,true,true,true,true,true,false,false,false,false,false,false,false,false,false,false,false,false,false,false,false,false,false] rfl rfl (any_of HT_.out (by kernel_rfl)) (fun _ _ _ h=>h) (Or.inl ⟨by rfl,?_⟩) ?_ ?_
        rotate_left
        ·intro w'
         go_simp
         with_reducible rfl
        rotate_left
        ·simp only [Act.put,zT,zU,zV,i64_w,i32_w]
         rfl
        refine pure_ (i:=7) (N:=some 31) (v:=?_) (a':=?_) #[true,true,true,true,true,true,false,true,false,false,false,false,false,false,false,false,false,false,false,false,false,false,false] rfl rfl (any_of HT_.out (by kernel_rfl)) (fun _ _ _ h=>h) (Or.inl ⟨by rfl,?_⟩) ?_ ?_
        rotate_left
        ·intro w'
         go_simp
         with_reducible rfl
        rotate_left
        ·simp only [Act.put,zT,zU,zV,i64_w,i32_w]
         rfl
        refine take_ (i:=6) (N:=some 30) (v:=?_) (a':=?_) #[true,true,true,true,true,true,true,true,false,false,false,false,false,false,false,false,false,false,false,false,false,false,false] rfl rfl (take_ofW HT_.out HW_.out (by kernel_rfl)) (fun _ _ _ h=>h) (Or.inl ⟨by rfl,?_⟩) hHeld ?_ ?_
        rotate_left
        ·rintro w' ⟨s0,s1,s2⟩
         go_simp
         with_reducible rfl
        rotate_left
        ·simp only [Act.put,zT,zU,zV,i64_w,i32_w]
         rfl
        refine take_ (i:=9) (N:=some 33) (v:=?_) (a':=?_) #[true,true,true,true,true,true,true,true,false,true,false,false,false,false,false,false,false,false,false,false,false,false,false] rfl rfl (take_ofW HT_.out HW_.out (by kernel_rfl)) (fun _ _ _ h=>h) (Or.inl ⟨by rfl,?_⟩) hHeld ?_ ?_
        rotate_left
        ·rintro w' ⟨s0,s1,s2⟩
         go_simp
         with_reducible rfl
        rotate_left
        ·simp only [Act.put,zT,zU,zV,i64_w,i32_w]
         rfl
        refine one_ (i:=8) (N:=some 32) #[true,true,true,true,true,true,true,true,true,true,false,false,false,false,false,false,false,false,false,false,false,false,false] rfl rfl (one_of HT_.out (by kernel_rfl)) (by decide) (fun K hK=>?_)
        refine goes_ Try.func98 (by kernel_rfl) rfl #[.slice A475_0 (rd_L6 l0 x9_1).length c475_0,.int .i64 a3] (by rfl) rfl rfl (by (try simp only [List.map_toArray,List.map_cons,List.map_nil]);first|done|rfl|(simp only [List.length_drop,List.length_take];rfl)) ?_
        with_reducible refine (spec_l16At.calls _ _ (rd_L6 l0 x9_1) a3 t476 t477 _ ?side1 ?side2 A14.out).mono ?_
        (case side1=>repeat (first|exact (zO HR475_0.out HB.out)|(with_reducible first|refine zG ?_ _|refine zH ?_ _|refine zI ?_)))
        (case side2=>exact HC475_0.out)
        rintro e w31 ⟨rfl,hb⟩
        refine ⟨_,rfl,?_⟩
        have n0_:=zM (blk_below (g:=gb470) (o := .cells #[.int .i64 a1_0,.int .i64 a1_1] 48 (0,0)) (by (with_reducible repeat (first|refine zJ ?_ _|refine zK ?_|refine zL ?_ _));exact BK470.out) hb)
        have n1_:=zM (blk_below (g:=gb471) (o := .cells #[.int .i64 a2_0,.int .i64 a2_1] 48 (0,0)) (by (with_reducible repeat (first|refine zJ ?_ _|refine zK ?_|refine zL ?_ _));exact BK471.out) hb)
        have n2_:=zM (zQ (by repeat (first|(with_reducible first|exact HB.out|apply zD|apply zE|apply zF|refine below_set ?_ GE470.out|refine below_set ?_ GE471.out)|exact HB.out)) hb)
        clear BK470;clear BK471;clear HB;have BK470:=n0_;have BK471:=n1_;have HB:=n2_;clear n0_ n1_ n2_;(try clear hb)
        (try clear hb2)
        (try clear hk)
        (try clear hi)
        refine hK.out _ _ ⟨(blk_cell BK470.out 0).trans rfl,(blk_cell BK470.out 1).trans rfl,(zS HB.out hw475_0 :)⟩ (fun hHeld=>?_)
        clear hK K;refine norm_ (a':=?_) ?_ ?_
        rotate_left
        ·show Act.put _ (some 32) _ = _
         simp only [Act.put,zT,zU,zV,i64_w,i32_w]
         rfl
        refine pure_ (i:=10) (N:=some 34) (v:=?_) (a':=?_) #[true,true,true,true,true,true,true,true,true,true,true,false,false,false,false,false,false,false,false,false,false,false,false] rfl rfl (any_of HT_.out (by kernel_rfl)) (fun _ _ _ h=>h) (Or.inl ⟨by rfl,?_⟩) ?_ ?_
        rotate_left
        ·intro w'
         go_simp
         with_reducible rfl
        rotate_left
        ·simp only [Act.put,zT,zU,zV,i64_w,i32_w]
         rfl
        refine pure_ (i:=11) (N:=some 35) (v:=?_) (a':=?_) #[true,true,true,true,true,true,true,true,true,true,true,true,false,false,false,false,false,false,false,false,false,false,false] rfl rfl (any_of HT_.out (by kernel_rfl)) (fun _ _ _ h=>h) (Or.inl ⟨by rfl,?_⟩) ?_ ?_
        rotate_left
        ·intro w'
         go_simp
         with_reducible rfl
        rotate_left
        ·simp only [Act.put,zT,zU,zV,i64_w,i32_w]
         rfl
        refine pure_ (i:=12) (N:=some 36) (v:=?_) (a':=?_) #[true,true,true,true,true,true,true,true,true,true,true,true,true,false,false,false,false,false,false,false,false,false,false] rfl rfl (any_of HT_.out (by kernel_rfl)) (fun _ _ _ h=>h) (Or.inl ⟨by rfl,?_⟩) ?_ ?_
        rotate_left
        ·intro w'
         go_simp
         with_reducible rfl
        rotate_left
        ·simp only [Act.put,zT,zU,zV,i64_w,i32_w]
         rfl
        refine pure_ (i:=13) (N:=some 37) (v:=undef) (a':=?_) #[true,true,true,true,true,true,true,true,true,true,true,true,true,true,false,false,false,false,false,false,false,false,false] rfl rfl (any_of HT_.out (by kernel_rfl)) (fun _ _ _ h=>h) (Or.inr ⟨by rfl,rfl⟩) ?_ ?_
        rotate_left
        ·simp only [Act.put,zT,zU,zV,i64_w,i32_w]
         rfl
        refine pure_ (i:=14) (N:=some 38) (v:=undef) (a':=?_) #[true,true,true,true,true,true,true,true,true,true,true,true,true,true,true,false,false,false,false,false,false,false,false] rfl rfl (any_of HT_.out (by kernel_rfl)) (fun _ _ _ h=>h) (Or.inr ⟨by rfl,rfl⟩) ?_ ?_
        rotate_left
        ·simp only [Act.put,zT,zU,zV,i64_w,i32_w]
         rfl
        refine pure_ (i:=15) (N:=some 39) (v:=undef) (a':=?_) #[true,true,true,true,true,true,true,true,true,true,true,true,true,true,true,true,false,false,false,false,false,false,false] rfl rfl (any_of HT_.out (by kernel_rfl)) (fun _ _ _ h=>h) (Or.inr ⟨by rfl,rfl⟩) ?_ ?_
        rotate_left
        ·simp only [Act.put,zT,zU,zV,i64_w,i32_w]
         rfl
        refine pure_ (i:=16) (N:=some 40) (v:=undef) (a':=?_) #[true,true,true,true,true,true,true,true,true,true,true,true,true,true,true,true,true,false,false,false,false,false,false] rfl rfl (any_of HT_.out (by kernel_rfl)) (fun _ _ _ h=>h) (Or.inr ⟨by rfl,rfl⟩) ?_ ?_
        rotate_left
        ·simp only [Act.put,zT,zU,zV,i64_w,i32_w]
         rfl
        refine pure_ (i:=17) (N:=some 41) (v:=undef) (a':=?_) #[true,true,true,true,true,true,true,true,true,true,true,true,true,true,true,true,true,true,false,false,false,false,false] rfl rfl (any_of HT_.out (by kernel_rfl)) (fun _ _ _ h=>h) (Or.inr ⟨by rfl,rfl⟩) ?_ ?_
        rotate_left
        ·simp only [Act.put,zT,zU,zV,i64_w,i32_w]
         rfl
        refine pure_ (i:=18) (N:=some 42) (v:=undef) (a':=?_) #[true,true,true,true,true,true,true,true,true,true,true,true,true,true,true,true,true,true,true,false,false,false,false] rfl rfl (any_of HT_.out (by kernel_rfl)) (fun _ _ _ h=>h) (Or.inr ⟨by rfl,rfl⟩) ?_ ?_
        rotate_left
        ·simp only [Act.put,zT,zU,zV,i64_w,i32_w]
         rfl
        refine pure_ (i:=19) (N:=some 43) (v:=undef) (a':=?_) #[true,true,true,true,true,true,true,true,true,true,true,true,true,true,true,true,true,true,true,true,false,false,false] rfl rfl (any_of HT_.out (by kernel_rfl)) (fun _ _ _ h=>h) (Or.inr ⟨by rfl,rfl⟩) ?_ ?_
        rotate_left
        ·simp only [Act.put,zT,zU,zV,i64_w,i32_w]
         rfl
        refine pure_ (i:=20) (N:=some 44) (v:=undef) (a':=?_) #[true,true,true,true,true,true,true,true,true,true,true,true,true,true,true,true,true,true,true,true,true,false,false] rfl rfl (any_of HT_.out (by kernel_rfl)) (fun _ _ _ h=>h) (Or.inr ⟨by rfl,rfl⟩) ?_ ?_
        rotate_left
        ·simp only [Act.put,zT,zU,zV,i64_w,i32_w]
         rfl
        refine pure_ (i:=21) (N:=some 45) (v:=undef) (a':=?_) #[true,true,true,true,true,true,true,true,true,true,true,true,true,true,true,true,true,true,true,true,true,true,false] rfl rfl (any_of HT_.out (by kernel_rfl)) (fun _ _ _ h=>h) (Or.inr ⟨by rfl,rfl⟩) ?_ ?_
        rotate_left
        ·simp only [Act.put,zT,zU,zV,i64_w,i32_w]
         rfl
        refine pure_ (i:=22) (N:=some 46) (v:=?_) (a':=?_) #[true,true,true,true,true,true,true,true,true,true,true,true,true,true,true,true,true,true,true,true,true,true,true] rfl rfl (any_of HT_.out (by kernel_rfl)) (fun _ _ _ h=>h) (Or.inl ⟨by rfl,?_⟩) ?_ ?_
        rotate_left
        ·intro w'
         go_simp
         with_reducible rfl
        rotate_left
        ·simp only [Act.put,zT,zU,zV,i64_w,i32_w]
         rfl
        refine done_ (done_of HT_.out (by kernel_rfl)) ?_
        try go_wp2
        go_roundg k1
        case measure=>have:=HK1.out;omega
        case rel=>exact ⟨(wrap64 (x9_1 + 1)),(by first|rfl|(simp;done)|(simp [*];done)),H',⟨by have:=HK1.out;omega⟩,⟨by (with_reducible repeat (first|refine zJ ?_ _|refine zK ?_|refine zL ?_ _));exact BK470.out⟩,⟨by (with_reducible repeat (first|refine zJ ?_ _|refine zK ?_|refine zL ?_ _));exact BK471.out⟩,⟨by repeat (first|(with_reducible first|exact HB.out|apply zD|apply zE|apply zF|refine below_set ?_ GE470.out|refine below_set ?_ GE471.out)|exact HB.out)⟩⟩
      ·rw [if_neg c13] at H
       have c13b0:decide (0 < a3) = false:=decide_eq_false c13
       clear c13;have H':=zM H;clear H;try go_wp2
       have n0_:=zM (zK BK470.out);have n1_:=zM (zK BK471.out);have n2_:=zM (zF HB.out);clear BK470;clear BK471;clear HB;have BK470:=n0_;have BK471:=n1_;have HB:=n2_;clear n0_ n1_ n2_;have p472:0 ≤ (x9_1:Int):=of_decide_eq_true (by first|(with_reducible assumption)|assumption)
       have q472:x9_1 < (l0.length:Int):=of_decide_eq_true (by first|(with_reducible assumption)|assumption)
       obtain ⟨ad472,A472_0,c472_0,e472,hx472_0,hl472_0,hi472_0⟩:=at_L6 HR0.out x9_1 p472 q472;have hw472_0:=hx472_0;cases e472
       replace hx472_0:=zS HB.out hx472_0;have HR472_0:=zM hi472_0;have HC472_0:=zM hl472_0;clear hi472_0 hl472_0;replace p472:=eq_true p472;replace q472:=eq_true q472;refine start_ (n:=8) (S:=fun w'=>w'.cell? ⟨gb471,0,none⟩ = some (.int .i64 a2_0) ∧ w'.cell? ⟨gb471,1,none⟩ = some (.int .i64 a2_1) ∧ w'.cell? (ad472.add (x9_1).toNat) = some (.slice A472_0 (rd_L6 l0 x9_1).length c472_0)) (ds:=[]) #[false,false,false,false,false,false,false,false] (by kernel_rfl) rfl rfl ⟨(blk_cell BK471.out 0).trans rfl,(blk_cell BK471.out 1).trans rfl,(zS HB.out hw472_0 :)⟩ (fun hHeld=>?_);refine with_tabW spec_l16Clear.tab4 spec_l16Clear.bits4 (fun HT_ HW_=>?_)
       generalize wr.drew = w32 at BK470 BK471 HB HR472_0 hx472_0 hHeld ⊢
       refine pure_ (i:=0) (N:=some 16) (v:=?_) (a':=?_) #[true,false,false,false,false,false,false,false] rfl rfl (any_of HT_.out (by kernel_rfl)) (fun _ _ _ h=>h) (Or.inl ⟨by rfl,?_⟩) ?_ ?_
       rotate_left
       ·intro w'
        go_simp
        with_reducible rfl
       rotate_left
       ·simp only [Act.put,zT,zU,zV,i64_w,i32_w]
        rfl
       refine pure_ (i:=1) (N:=some 17) (v:=?_) (a':=?_) #[true,true,false,false,false,false,false,false] rfl rfl (any_of HT_.out (by kernel_rfl)) (fun _ _ _ h=>h) (Or.inl ⟨by rfl,?_⟩) ?_ ?_
       rotate_left
       ·intro w'
        go_simp
        with_reducible rfl
       rotate_left
       ·simp only [Act.put,zT,zU,zV,i64_w,i32_w]
        rfl
       refine pure_ (i:=2) (N:=some 18) (v:=?_) (a':=?_) #[true,true,true,false,false,false,false,false] rfl rfl (any_of HT_.out (by kernel_rfl)) (fun _ _ _ h=>h) (Or.inl ⟨by rfl,?_⟩) ?_ ?_
       rotate_left
       ·intro w'
        go_simp
        with_reducible rfl
       rotate_left
       ·simp only [Act.put,zT,zU,zV,i64_w,i32_w]
        rfl
       refine pure_ (i:=4) (N:=some 20) (v:=?_) (a':=?_) #[true,true,true,false,true,false,false,false] rfl rfl (any_of HT_.out (by kernel_rfl)) (fun _ _ _ h=>h) (Or.inl ⟨by rfl,?_⟩) ?_ ?_
       rotate_left
       ·intro w'
        go_simp
        with_reducible rfl
       rotate_left
       ·simp only [Act.put,zT,zU,zV,i64_w,i32_w]
        rfl
       refine take_ (i:=3) (N:=some 19) (v:=?_) (a':=?_) #[true,true,true,true,true,false,false,false] rfl rfl (take_ofW HT_.out HW_.out (by kernel_rfl)) (fun _ _ _ h=>h) (Or.inl ⟨by rfl,?_⟩) hHeld ?_ ?_
       rotate_left
       ·rintro w' ⟨s0,s1,s2⟩
        go_simp
        with_reducible rfl
       rotate_left
       ·simp only [Act.put,zT,zU,zV,i64_w,i32_w]
        rfl
       refine take_ (i:=6) (N:=some 22) (v:=?_) (a':=?_) #[true,true,true,true,true,false,true,false] rfl rfl (take_ofW HT_.out HW_.out (by kernel_rfl)) (fun _ _ _ h=>h) (Or.inl ⟨by rfl,?_⟩) hHeld ?_ ?_
       rotate_left
       ·rintro w' ⟨s0,s1,s2⟩
        go_simp
        with_reducible rfl
       rotate_left
       ·simp only [Act.put,zT,zU,zV,i64_w,i32_w]
        rfl
       refine one_ (i:=5) (N:=some 21) #[true,true,true,true,true,true,true,false] rfl rfl (one_of HT_.out (by kernel_rfl)) (by decide) (fun K hK=>?_)
       refine goes_ Try.func98 (by kernel_rfl) rfl #[.slice A472_0 (rd_L6 l0 x9_1).length c472_0,.int .i64 a3] (by rfl) rfl rfl (by (try simp only [List.map_toArray,List.map_cons,List.map_nil]);first|done|rfl|(simp only [List.length_drop,List.length_take];rfl)) ?_
       with_reducible refine (spec_l16At.calls _ _ (rd_L6 l0 x9_1) a3 t473 t474 _ ?side1 ?side2 A9.out).mono ?_
       (case side1=>repeat (first|exact (zO HR472_0.out HB.out)|(with_reducible first|refine zG ?_ _|refine zH ?_ _|refine zI ?_)))
       (case side2=>exact HC472_0.out)
       rintro e w33 ⟨rfl,hb⟩
       refine ⟨_,rfl,?_⟩
       have n0_:=zM (blk_below (g:=gb470) (o := .cells #[.int .i64 a1_0,.int .i64 a1_1] 48 (0,0)) (by (with_reducible repeat (first|refine zJ ?_ _|refine zK ?_|refine zL ?_ _));exact BK470.out) hb)
       have n1_:=zM (blk_below (g:=gb471) (o := .cells #[.int .i64 a2_0,.int .i64 a2_1] 48 (0,0)) (by (with_reducible repeat (first|refine zJ ?_ _|refine zK ?_|refine zL ?_ _));exact BK471.out) hb)
       have n2_:=zM (zQ (by repeat (first|(with_reducible first|exact HB.out|apply zD|apply zE|apply zF|refine below_set ?_ GE470.out|refine below_set ?_ GE471.out)|exact HB.out)) hb)
       clear BK470;clear BK471;clear HB;have BK470:=n0_;have BK471:=n1_;have HB:=n2_;clear n0_ n1_ n2_;(try clear hb)
       (try clear hb2)
       (try clear hk)
       (try clear hi)
       refine hK.out _ _ ⟨(blk_cell BK471.out 0).trans rfl,(blk_cell BK471.out 1).trans rfl,(zS HB.out hw472_0 :)⟩ (fun hHeld=>?_)
       clear hK K;refine norm_ (a':=?_) ?_ ?_
       rotate_left
       ·show Act.put _ (some 21) _ = _
        simp only [Act.put,zT,zU,zV,i64_w,i32_w]
        rfl
       refine pure_ (i:=7) (N:=some 23) (v:=?_) (a':=?_) #[true,true,true,true,true,true,true,true] rfl rfl (any_of HT_.out (by kernel_rfl)) (fun _ _ _ h=>h) (Or.inl ⟨by rfl,?_⟩) ?_ ?_
       rotate_left
       ·intro w'
        go_simp
        with_reducible rfl
       rotate_left
       ·simp only [Act.put,zT,zU,zV,i64_w,i32_w]
        rfl
       refine done_ (done_of HT_.out (by kernel_rfl)) ?_
       try go_wp2
       have n0_:=zM (zK BK470.out);have n1_:=zM (zK BK471.out);have n2_:=zM (zF HB.out);clear BK470;clear BK471;clear HB;have BK470:=n0_;have BK471:=n1_;have HB:=n2_;clear n0_ n1_ n2_;refine start_ (n:=23) (S:=fun w'=>True) (ds:=[]) #[false,false,false,false,false,false,false,false,false,false,false,false,false,false,false,false,false,false,false,false,false,false,false] (by kernel_rfl) rfl rfl trivial (fun hHeld=>?_);refine with_tabW spec_l16Clear.tab6 spec_l16Clear.bits6 (fun HT_ HW_=>?_)
       generalize w33.drew = w34 at BK470 BK471 HB hHeld ⊢
       refine pure_ (i:=0) (N:=some 24) (v:=?_) (a':=?_) #[true,false,false,false,false,false,false,false,false,false,false,false,false,false,false,false,false,false,false,false,false,false,false] rfl rfl (any_of HT_.out (by kernel_rfl)) (fun _ _ _ h=>h) (Or.inl ⟨by rfl,?_⟩) ?_ ?_
       rotate_left
       ·intro w'
        go_simp
        with_reducible rfl
       rotate_left
       ·simp only [Act.put,zT,zU,zV,i64_w,i32_w]
        rfl
       refine pure_ (i:=1) (N:=some 25) (v:=?_) (a':=?_) #[true,true,false,false,false,false,false,false,false,false,false,false,false,false,false,false,false,false,false,false,false,false,false] rfl rfl (any_of HT_.out (by kernel_rfl)) (fun _ _ _ h=>h) (Or.inl ⟨by rfl,?_⟩) ?_ ?_
       rotate_left
       ·intro w'
        go_simp
        with_reducible rfl
       rotate_left
       ·simp only [Act.put,zT,zU,zV,i64_w,i32_w]
        rfl
       refine pure_ (i:=2) (N:=some 26) (v:=?_) (a':=?_) #[true,true,true,false,false,false,false,false,false,false,false,false,false,false,false,false,false,false,false,false,false,false,false] rfl rfl (any_of HT_.out (by kernel_rfl)) (fun _ _ _ h=>h) (Or.inl ⟨by rfl,?_⟩) ?_ ?_
       rotate_left
       ·intro w'
        go_simp
        with_reducible rfl
       rotate_left
       ·simp only [Act.put,zT,zU,zV,i64_w,i32_w]
        rfl
       refine pure_ (i:=3) (N:=some 27) (v:=undef) (a':=?_) #[true,true,true,true,false,false,false,false,false,false,false,false,false,false,false,false,false,false,false,false,false,false,false] rfl rfl (any_of HT_.out (by kernel_rfl)) (fun _ _ _ h=>h) (Or.inr ⟨by rfl,rfl⟩) ?_ ?_
       rotate_left
       ·simp only [Act.put,zT,zU,zV,i64_w,i32_w]
        rfl
       refine pure_ (i:=4) (N:=some 28) (v:=undef) (a':=?_) #[true,true,true,true,true,false,false,false,false,false,false,false,false,false,false,false,false,false,false,false,false,false,false] rfl rfl (any_of HT_.out (by kernel_rfl)) (fun _ _ _ h=>h) (Or.inr ⟨by rfl,rfl⟩) ?_ ?_
       rotate_left
       ·simp only [Act.put,zT,zU,zV,i64_w,i32_w]
        rfl
       refine pure_ (i:=5) (N:=some 29) (v:=undef) (a':=?_) #[true,true,true,true,true,true,false,false,false,false,false,false,false,false,false,false,false,false,false,false,false,false,false] rfl rfl (any_of HT_.out (by kernel_rfl)) (fun _ _ _ h=>h) (Or.inr ⟨by rfl,rfl⟩) ?_ ?_
       rotate_left
       ·simp only [Act.put,zT,zU,zV,i64_w,i32_w]
        rfl
       refine pure_ (i:=6) (N:=some 30) (v:=undef) (a':=?_) #[true,true,true,true,true,true,true,false,false,false,false,false,false,false,false,false,false,false,false,false,false,false,false] rfl rfl (any_of HT_.out (by kernel_rfl)) (fun _ _ _ h=>h) (Or.inr ⟨by rfl,rfl⟩) ?_ ?_
       rotate_left
       ·simp only [Act.put,zT,zU,zV,i64_w,i32_w]
        rfl
       refine pure_ (i:=7) (N:=some 31) (v:=undef) (a':=?_) #[true,true,true,true,true,true,true,true,false,false,false,false,false,false,false,false,false,false,false,false,false,false,false] rfl rfl (any_of HT_.out (by kernel_rfl)) (fun _ _ _ h=>h) (Or.inr ⟨by rfl,rfl⟩) ?_ ?_
       rotate_left
       ·simp only [Act.put,zT,zU,zV,i64_w,i32_w]
        rfl
       refine pure_ (i:=8) (N:=some 32) (v:=undef) (a':=?_) #[true,true,true,true,true,true,true,true,true,false,false,false,false,false,false,false,false,false,false,false,false,false,false] rfl rfl (any_of HT_.out (by kernel_rfl)) (fun _ _ _ h=>h) (Or.inr ⟨by rfl,rfl⟩) ?_ ?_
       rotate_left
       ·simp only [Act.put,zT,zU,zV,i64_w,i32_w]
        rfl
       refine pure_ (i:=9) (N:=some 33) (v:=undef) (a':=?_) #[true,true,true,true,true,true,true,true,true,true,false,false,false,false,false,false,false,false,false,false,false,false,false] rfl rfl (any_of HT_.out (by kernel_rfl)) (fun _ _ _ h=>h) (Or.inr ⟨by rfl,rfl⟩) ?_ ?_
       rotate_left
       ·simp only [Act.put,zT,zU,zV,i64_w,i32_w]
        rfl
       refine pure_ (i:=10) (N:=some 34) (v:=undef) (a':=?_) #[true,true,true,true,true,true,true,true,true,true,true,false,false,false,false,false,false,false,false,false,false,false,false] rfl rfl (any_of HT_.out (by kernel_rfl)) (fun _ _ _ h=>h) (Or.inr ⟨by rfl,rfl⟩) ?_ ?_
       rotate_left
       ·simp only [Act.put,zT,zU,zV,i64_w,i32_w]
        rfl
       refine pure_ (i:=11) (N:=some 35) (v:=?_) (a':=?_) #[true,true,true,true,true,true,true,true,true,true,true,true,false,false,false,false,false,false,false,false,false,false,false] rfl rfl (any_of HT_.out (by kernel_rfl)) (fun _ _ _ h=>h) (Or.inl ⟨by rfl,?_⟩) ?_ ?_
       rotate_left
       ·intro w'
        go_simp
        with_reducible rfl
       rotate_left
       ·simp only [Act.put,zT,zU,zV,i64_w,i32_w]
        rfl
       refine pure_ (i:=12) (N:=some 36) (v:=?_) (a':=?_) #[true,true,true,true,true,true,true,true,true,true,true,true,true,false,false,false,false,false,false,false,false,false,false] rfl rfl (any_of HT_.out (by kernel_rfl)) (fun _ _ _ h=>h) (Or.inl ⟨by rfl,?_⟩) ?_ ?_
       rotate_left
       ·intro w'
        go_simp
        with_reducible rfl
       rotate_left
       ·simp only [Act.put,zT,zU,zV,i64_w,i32_w]
        rfl
       refine pure_ (i:=13) (N:=some 37) (v:=undef) (a':=?_) #[true,true,true,true,true,true,true,true,true,true,true,true,true,true,false,false,false,false,false,false,false,false,false] rfl rfl (any_of HT_.out (by kernel_rfl)) (fun _ _ _ h=>h) (Or.inr ⟨by rfl,rfl⟩) ?_ ?_
       rotate_left
       ·simp only [Act.put,zT,zU,zV,i64_w,i32_w]
        rfl
       refine pure_ (i:=14) (N:=some 38) (v:=undef) (a':=?_) #[true,true,true,true,true,true,true,true,true,true,true,true,true,true,true,false,false,false,false,false,false,false,false] rfl rfl (any_of HT_.out (by kernel_rfl)) (fun _ _ _ h=>h) (Or.inr ⟨by rfl,rfl⟩) ?_ ?_
       rotate_left
       ·simp only [Act.put,zT,zU,zV,i64_w,i32_w]
        rfl
       refine pure_ (i:=15) (N:=some 39) (v:=undef) (a':=?_) #[true,true,true,true,true,true,true,true,true,true,true,true,true,true,true,true,false,false,false,false,false,false,false] rfl rfl (any_of HT_.out (by kernel_rfl)) (fun _ _ _ h=>h) (Or.inr ⟨by rfl,rfl⟩) ?_ ?_
       rotate_left
       ·simp only [Act.put,zT,zU,zV,i64_w,i32_w]
        rfl
       refine pure_ (i:=16) (N:=some 40) (v:=undef) (a':=?_) #[true,true,true,true,true,true,true,true,true,true,true,true,true,true,true,true,true,false,false,false,false,false,false] rfl rfl (any_of HT_.out (by kernel_rfl)) (fun _ _ _ h=>h) (Or.inr ⟨by rfl,rfl⟩) ?_ ?_
       rotate_left
       ·simp only [Act.put,zT,zU,zV,i64_w,i32_w]
        rfl
       refine pure_ (i:=17) (N:=some 41) (v:=undef) (a':=?_) #[true,true,true,true,true,true,true,true,true,true,true,true,true,true,true,true,true,true,false,false,false,false,false] rfl rfl (any_of HT_.out (by kernel_rfl)) (fun _ _ _ h=>h) (Or.inr ⟨by rfl,rfl⟩) ?_ ?_
       rotate_left
       ·simp only [Act.put,zT,zU,zV,i64_w,i32_w]
        rfl
       refine pure_ (i:=18) (N:=some 42) (v:=undef) (a':=?_) #[true,true,true,true,true,true,true,true,true,true,true,true,true,true,true,true,true,true,true,false,false,false,false] rfl rfl (any_of HT_.out (by kernel_rfl)) (fun _ _ _ h=>h) (Or.inr ⟨by rfl,rfl⟩) ?_ ?_
       rotate_left
       ·simp only [Act.put,zT,zU,zV,i64_w,i32_w]
        rfl
       refine pure_ (i:=19) (N:=some 43) (v:=undef) (a':=?_) #[true,true,true,true,true,true,true,true,true,true,true,true,true,true,true,true,true,true,true,true,false,false,false] rfl rfl (any_of HT_.out (by kernel_rfl)) (fun _ _ _ h=>h) (Or.inr ⟨by rfl,rfl⟩) ?_ ?_
       rotate_left
       ·simp only [Act.put,zT,zU,zV,i64_w,i32_w]
        rfl
       refine pure_ (i:=20) (N:=some 44) (v:=undef) (a':=?_) #[true,true,true,true,true,true,true,true,true,true,true,true,true,true,true,true,true,true,true,true,true,false,false] rfl rfl (any_of HT_.out (by kernel_rfl)) (fun _ _ _ h=>h) (Or.inr ⟨by rfl,rfl⟩) ?_ ?_
       rotate_left
       ·simp only [Act.put,zT,zU,zV,i64_w,i32_w]
        rfl
       refine pure_ (i:=21) (N:=some 45) (v:=undef) (a':=?_) #[true,true,true,true,true,true,true,true,true,true,true,true,true,true,true,true,true,true,true,true,true,true,false] rfl rfl (any_of HT_.out (by kernel_rfl)) (fun _ _ _ h=>h) (Or.inr ⟨by rfl,rfl⟩) ?_ ?_
       rotate_left
       ·simp only [Act.put,zT,zU,zV,i64_w,i32_w]
        rfl
       refine pure_ (i:=22) (N:=some 46) (v:=?_) (a':=?_) #[true,true,true,true,true,true,true,true,true,true,true,true,true,true,true,true,true,true,true,true,true,true,true] rfl rfl (any_of HT_.out (by kernel_rfl)) (fun _ _ _ h=>h) (Or.inl ⟨by rfl,?_⟩) ?_ ?_
       rotate_left
       ·intro w'
        go_simp
        with_reducible rfl
       rotate_left
       ·simp only [Act.put,zT,zU,zV,i64_w,i32_w]
        rfl
       refine done_ (done_of HT_.out (by kernel_rfl)) ?_
       try go_wp2
       go_roundg k1
       case measure=>have:=HK1.out;omega
       case rel=>exact ⟨(wrap64 (x9_1 + 1)),(by first|rfl|(simp;done)|(simp [*];done)),H',⟨by have:=HK1.out;omega⟩,⟨by (with_reducible repeat (first|refine zJ ?_ _|refine zK ?_|refine zL ?_ _));exact BK470.out⟩,⟨by (with_reducible repeat (first|refine zJ ?_ _|refine zK ?_|refine zL ?_ _));exact BK471.out⟩,⟨by repeat (first|(with_reducible first|exact HB.out|apply zD|apply zE|apply zF|refine below_set ?_ GE470.out|refine below_set ?_ GE471.out)|exact HB.out)⟩⟩
    ·rw [if_neg c8] at H
     exact absurd H (by simp)
   ·rw [if_neg c7] at H
    have c7b0:decide (x9_1 < (l0.length:Int)) = false:=decide_eq_false c7
    clear c7;obtain rfl:=Option.some.inj H;go_wp2
    go_ret
    exact ⟨by first|rfl|(simp [errW_none,errW_some] <;> rfl)|(simp [*,errW_none,errW_some] <;> rfl),by repeat (first|(with_reducible first|exact HB.out|apply zD|apply zE|apply zF|refine below_set ?_ GE470.out|refine below_set ?_ GE471.out)|exact HB.out)⟩



/-! ### spec_l16Rest: function 90 -/
def spec_l16Rest.l0:Nat → List (List (S48)) → Int → Int → Int → Option (Bool)
 | 0,_,_,_,_=>none
 | k + 1,x0,x2,x511000,x511001=>if x2 ≤ 24 then ((spec_l16Clear.f k x0 x511000 x511001 x511000 x511001 x2).bind fun t511=>(if t511 = true then (spec_l16Rest.l0 k x0 (wrap64 (x2 + 1)) x511000 x511001) else (some false))) else (some true)
def spec_l16Rest.f (k:Nat) (l0:List (List (S48))) (a1_0:Int) (a1_1:Int) (a2:Int):Option (Bool):=spec_l16Rest.l0 k l0 a2 a1_0 a1_1
set_option maxHeartbeats 8000000 in
set_option maxRecDepth 100000 in
theorem spec_l16Rest.calls (k:Nat) (A0:Option Addr) (c0:Nat) (l0:List (List (S48))) (a1_0:Int) (a1_1:Int) (a2:Int) (r:Bool) (w:World) (hr0:Kd.C (Kd.slice 48 k48) w A0 l0.length l0) (hc0:l0.length ≤ c0) (h:spec_l16Rest.f k l0 a1_0 a1_1 a2 = some r) :
  Calls Try.prog 90 #[.slice A0 l0.length c0,.agg #[.int .i64 a1_0,.int .i64 a1_1],.int .i64 a2] w fun e w'=>e = .returned (.bool r) ∧ Below w.heap.size w w':=by
 have hu48:=Try.underlying48;have HR0:=zM hr0;have HC0:=zM hc0;clear hr0 hc0;have HB:=zM (Below.refl w.heap.size w);have H:(spec_l16Rest.l0 k l0 a2 a1_0 a1_1) = some r:=h
 clear h;have H':=zM H;clear H;go_enter Try.func90,Try.ntmps90
 go_wp2_with (first|((with_reducible refine gate_dst (N:=4) rfl ?_);refine box_event ?hg (N:=4) ?hd (cs := #[.int .i64 a1_0,.int .i64 a1_1]) (t:=48) ?hr ?_;(case hd=>rfl);(case hg=>rfl);(case hr=>first|(go_simp;done)|(go_simp;rfl));intro gb510 hg w4 hbox hb;have n0_:=zM (zQ (by repeat (first|(with_reducible first|exact HB.out|apply zD|apply zE|apply zF)|exact HB.out)) hb);have n1_:=zM (hbox);have n2_:=zM ((by rw [hg];exact (zR (by repeat (first|(with_reducible first|exact HB.out|apply zD|apply zE|apply zF)|exact HB.out))):w.heap.size ≤ gb510));have n3_:=zM ((by rw [hg];exact (zR (by repeat (first|(with_reducible first|exact HB.out|apply zD|apply zE|apply zF)|exact HB.out))):w.heap.size ≤ gb510));clear HB;have HB:=n0_;have BK510:=n1_;have GW510:=n2_;have GE510:=n3_;clear n0_ n1_ n2_ n3_;clear hb hbox hg))
 go_loopg [2] k (fun kq v2 w' => ∃ (x2_1:Int),v2 = .int .i64 x2_1 ∧ Aside0 (spec_l16Rest.l0 kq l0 x2_1 a1_0 a1_1 = some r) ∧ Aside0 (kq ≤ k) ∧ Aside0 (w'.heap[gb510]? = some (.cells #[.int .i64 a1_0,.int .i64 a1_1] 48 (0,0))) ∧ Aside0 (Below w.heap.size w w'))
 case atStart=>exact ⟨(a2),(by first|rfl|(simp;done)|(simp [*];done)),H',⟨Nat.le_refl _⟩,⟨by (with_reducible repeat (first|refine zJ ?_ _|refine zK ?_|refine zL ?_ _));exact BK510.out⟩,⟨by repeat (first|(with_reducible first|exact HB.out|apply zD|apply zE|apply zF|refine below_set ?_ GE510.out)|exact HB.out)⟩⟩
 case round =>
  clear H';(try clear p2);obtain ⟨x2_1,rfl,HA,HK1,BK510,HB⟩:=hrel;cases gk with
  | zero=>exact absurd HA.out (by simp [spec_l16Rest.l0])
  | succ k1 =>
   have H:=HA.out;clear HA;simp only [spec_l16Rest.l0] at H
   by_cases c5:x2_1 ≤ 24
   ·rw [if_pos c5] at H
    have c5b0:decide (x2_1 ≤ 24) = true:=decide_eq_true c5
    clear c5;replace H:=Option.bind_eq_some_iff.mp H;obtain ⟨t511,A60,H⟩:=H;replace H:(if t511 = true then (spec_l16Rest.l0 k1 l0 (wrap64 (x2_1 + 1)) a1_0 a1_1) else (some false)) = some r:=H
    have A6:=zM A60;clear A60;by_cases c7:t511 = true
    ·subst c7
     have H1:(spec_l16Rest.l0 k1 l0 (wrap64 (x2_1 + 1)) a1_0 a1_1) = some r:=by rw [if_pos rfl] at H;exact H
     clear H;have H:=H1;clear H1;have H':=zM H;clear H;have hcz8_0:wr.cell? ⟨gb510,0,none⟩ = some (.int .i64 a1_0):=(blk_cell BK510.out 0).trans rfl
     have hcz8_1:wr.cell? ⟨gb510,1,none⟩ = some (.int .i64 a1_1):=(blk_cell BK510.out 1).trans rfl
     have hfz8_0:=blk_frozen BK510.out 0;have hfz8_1:=blk_frozen BK510.out 1;go_wp2_with (first|((with_reducible refine gate_callee (f:=91) rfl ?_);refine goesL_ (some 15) rfl rfl Try.func91 (by kernel_rfl) rfl #[.slice A0 l0.length c0,.agg #[.int .i64 a1_0,.int .i64 a1_1],.agg #[.int .i64 a1_0,.int .i64 a1_1],.int .i64 x2_1] rfl (by (try simp only [List.map_toArray,List.map_cons,List.map_nil]);first|done|rfl|(simp only [List.length_drop,List.length_take];rfl)) ?_;(with_reducible refine (spec_l16Clear.calls k1 _ _ l0 a1_0 a1_1 a1_0 a1_1 x2_1 true _ ?side1 ?side2 A6.out).mono ?_);(case side1=>repeat (first|exact (zO HR0.out HB.out)|(with_reducible first|refine zG ?_ _|refine zH ?_ _|refine zI ?_)));(case side2=>exact HC0.out);rintro e w9 ⟨rfl,hb⟩;refine ⟨_,rfl,?_⟩;have n0_:=zM (blk_below (g:=gb510) (o := .cells #[.int .i64 a1_0,.int .i64 a1_1] 48 (0,0)) (by (with_reducible repeat (first|refine zJ ?_ _|refine zK ?_|refine zL ?_ _));exact BK510.out) hb);have n1_:=zM (zQ (by repeat (first|(with_reducible first|exact HB.out|apply zD|apply zE|apply zF|refine below_set ?_ GE510.out)|exact HB.out)) hb);clear BK510;clear HB;have BK510:=n0_;have HB:=n1_;clear n0_ n1_;(try clear hb);(try clear hb2);(try clear hk);(try clear hi)))
     go_roundg k1
     case measure=>have:=HK1.out;omega
     case rel=>exact ⟨(wrap64 (x2_1 + 1)),(by first|rfl|(simp;done)|(simp [*];done)),H',⟨by have:=HK1.out;omega⟩,⟨by (with_reducible repeat (first|refine zJ ?_ _|refine zK ?_|refine zL ?_ _));exact BK510.out⟩,⟨by repeat (first|(with_reducible first|exact HB.out|apply zD|apply zE|apply zF|refine below_set ?_ GE510.out)|exact HB.out)⟩⟩
    ·replace c7:=Bool.eq_false_iff.mpr c7
     subst c7;have H1:(some false) = some r:=by rw [if_neg (show ¬ (false = true) by decide)] at H;exact H
     clear H;have H:=H1;clear H1;obtain rfl:=Option.some.inj H;have hcz10_0:wr.cell? ⟨gb510,0,none⟩ = some (.int .i64 a1_0):=(blk_cell BK510.out 0).trans rfl
     have hcz10_1:wr.cell? ⟨gb510,1,none⟩ = some (.int .i64 a1_1):=(blk_cell BK510.out 1).trans rfl
     have hfz10_0:=blk_frozen BK510.out 0;have hfz10_1:=blk_frozen BK510.out 1;go_wp2_with (first|((with_reducible refine gate_callee (f:=91) rfl ?_);refine goesL_ (some 15) rfl rfl Try.func91 (by kernel_rfl) rfl #[.slice A0 l0.length c0,.agg #[.int .i64 a1_0,.int .i64 a1_1],.agg #[.int .i64 a1_0,.int .i64 a1_1],.int .i64 x2_1] rfl (by (try simp only [List.map_toArray,List.map_cons,List.map_nil]);first|done|rfl|(simp only [List.length_drop,List.length_take];rfl)) ?_;(with_reducible refine (spec_l16Clear.calls k1 _ _ l0 a1_0 a1_1 a1_0 a1_1 x2_1 false _ ?side1 ?side2 A6.out).mono ?_);(case side1=>repeat (first|exact (zO HR0.out HB.out)|(with_reducible first|refine zG ?_ _|refine zH ?_ _|refine zI ?_)));(case side2=>exact HC0.out);rintro e w11 ⟨rfl,hb⟩;refine ⟨_,rfl,?_⟩;have n0_:=zM (blk_below (g:=gb510) (o := .cells #[.int .i64 a1_0,.int .i64 a1_1] 48 (0,0)) (by (with_reducible repeat (first|refine zJ ?_ _|refine zK ?_|refine zL ?_ _));exact BK510.out) hb);have n1_:=zM (zQ (by repeat (first|(with_reducible first|exact HB.out|apply zD|apply zE|apply zF|refine below_set ?_ GE510.out)|exact HB.out)) hb);clear BK510;clear HB;have BK510:=n0_;have HB:=n1_;clear n0_ n1_;(try clear hb);(try clear hb2);(try clear hk);(try clear hi)))
     go_ret
     exact ⟨by first|rfl|(simp [errW_none,errW_some] <;> rfl)|(simp [*,errW_none,errW_some] <;> rfl),by repeat (first|(with_reducible first|exact HB.out|apply zD|apply zE|apply zF|refine below_set ?_ GE510.out)|exact HB.out)⟩
   ·rw [if_neg c5] at H
    have c5b0:decide (x2_1 ≤ 24) = false:=decide_eq_false c5
    clear c5;obtain rfl:=Option.some.inj H;go_wp2
    go_ret
    exact ⟨by first|rfl|(simp [errW_none,errW_some] <;> rfl)|(simp [*,errW_none,errW_some] <;> rfl),by repeat (first|(with_reducible first|exact HB.out|apply zD|apply zE|apply zF|refine below_set ?_ GE510.out)|exact HB.out)⟩



attribute [local go_sem high] eqA48
/-! ### spec_l16Has: function 89 -/
def spec_l16Has.l0:Nat → List (S48) → Int → Int → Int → Option (Bool)
 | 0,_,_,_,_=>none
 | k + 1,x0,x5,x509000,x509001=>if x5 < (x0.length:Int) then (if 0 ≤ x5 then (if (((rd_T48 x0 x5).f0) == x509000 && (((rd_T48 x0 x5).f1) == x509001)) = true then (some true) else (spec_l16Has.l0 k x0 (wrap64 (x5 + 1)) x509000 x509001)) else (none)) else (some false)
def spec_l16Has.f (k:Nat) (l0:List (S48)) (a1_0:Int) (a1_1:Int):Option (Bool):=spec_l16Has.l0 k l0 0 a1_0 a1_1
set_option maxHeartbeats 8000000 in
set_option maxRecDepth 100000 in
theorem spec_l16Has.calls (k:Nat) (A0:Option Addr) (c0:Nat) (l0:List (S48)) (a1_0:Int) (a1_1:Int) (r:Bool) (w:World) (hr0:Kd.C k48 w A0 l0.length l0) (hc0:l0.length ≤ c0) (h:spec_l16Has.f k l0 a1_0 a1_1 = some r) :
  Calls Try.prog 89 #[.slice A0 l0.length c0,.agg #[.int .i64 a1_0,.int .i64 a1_1]] w fun e w'=>e = .returned (.bool r) ∧ Below w.heap.size w w':=by
 have hu48:=Try.underlying48;have HR0:=zM hr0;have HC0:=zM hc0;clear hr0 hc0;have HB:=zM (Below.refl w.heap.size w);have H:(spec_l16Has.l0 k l0 0 a1_0 a1_1) = some r:=h
 clear h;have H':=zM H;clear H;go_enter Try.func89,Try.ntmps89
 go_wp2_with (first|((with_reducible refine gate_dst (N:=3) rfl ?_);refine box_event ?hg (N:=3) ?hd (cs := #[.int .i64 a1_0,.int .i64 a1_1]) (t:=48) ?hr ?_;(case hd=>rfl);(case hg=>rfl);(case hr=>first|(go_simp;done)|(go_simp;rfl));intro gb508 hg w3 hbox hb;have n0_:=zM (zQ (by repeat (first|(with_reducible first|exact HB.out|apply zD|apply zE|apply zF)|exact HB.out)) hb);have n1_:=zM (hbox);have n2_:=zM ((by rw [hg];exact (zR (by repeat (first|(with_reducible first|exact HB.out|apply zD|apply zE|apply zF)|exact HB.out))):w.heap.size ≤ gb508));have n3_:=zM ((by rw [hg];exact (zR (by repeat (first|(with_reducible first|exact HB.out|apply zD|apply zE|apply zF)|exact HB.out))):w.heap.size ≤ gb508));clear HB;have HB:=n0_;have BK508:=n1_;have GW508:=n2_;have GE508:=n3_;clear n0_ n1_ n2_ n3_;clear hb hbox hg))
 repeat (go_quiet (first|((with_reducible refine gate_dst (N:=3) rfl ?_);refine box_event ?hg (N:=3) ?hd (cs := #[.int .i64 a1_0,.int .i64 a1_1]) (t:=48) ?hr ?_;(case hd=>rfl);(case hg=>rfl);(case hr=>first|(go_simp;done)|(go_simp;rfl));intro gb508 hg w3 hbox hb;have n0_:=zM (zQ (by repeat (first|(with_reducible first|exact HB.out|apply zD|apply zE|apply zF)|exact HB.out)) hb);have n1_:=zM (hbox);have n2_:=zM ((by rw [hg];exact (zR (by repeat (first|(with_reducible first|exact HB.out|apply zD|apply zE|apply zF)|exact HB.out))):w.heap.size ≤ gb508));have n3_:=zM ((by rw [hg];exact (zR (by repeat (first|(with_reducible first|exact HB.out|apply zD|apply zE|apply zF)|exact HB.out))):w.heap.size ≤ gb508));clear HB;have HB:=n0_;have BK508:=n1_;have GW508:=n2_;have GE508:=n3_;clear n0_ n1_ n2_ n3_;clear hb hbox hg));try go_wp2_with (first|((with_reducible refine gate_dst (N:=3) rfl ?_);refine box_event ?hg (N:=3) ?hd (cs := #[.int .i64 a1_0,.int .i64 a1_1]) (t:=48) ?hr ?_;(case hd=>rfl);(case hg=>rfl);(case hr=>first|(go_simp;done)|(go_simp;rfl));intro gb508 hg w3 hbox hb;have n0_:=zM (zQ (by repeat (first|(with_reducible first|exact HB.out|apply zD|apply zE|apply zF)|exact HB.out)) hb);have n1_:=zM (hbox);have n2_:=zM ((by rw [hg];exact (zR (by repeat (first|(with_reducible first|exact HB.out|apply zD|apply zE|apply zF)|exact HB.out))):w.heap.size ≤ gb508));have n3_:=zM ((by rw [hg];exact (zR (by repeat (first|(with_reducible first|exact HB.out|apply zD|apply zE|apply zF)|exact HB.out))):w.heap.size ≤ gb508));clear HB;have HB:=n0_;have BK508:=n1_;have GW508:=n2_;have GE508:=n3_;clear n0_ n1_ n2_ n3_;clear hb hbox hg)))
 go_loopg [5] k (fun kq v5 w' => ∃ (x5_1:Int),v5 = .int .i64 x5_1 ∧ Aside0 (spec_l16Has.l0 kq l0 x5_1 a1_0 a1_1 = some r) ∧ Aside0 (kq ≤ k) ∧ Aside0 (w'.heap[gb508]? = some (.cells #[.int .i64 a1_0,.int .i64 a1_1] 48 (0,0))) ∧ Aside0 (Below w.heap.size w w'))
 case atStart=>exact ⟨(0),(by first|rfl|(simp;done)|(simp [*];done)),H',⟨Nat.le_refl _⟩,⟨by (with_reducible repeat (first|refine zJ ?_ _|refine zK ?_|refine zL ?_ _));exact BK508.out⟩,⟨by repeat (first|(with_reducible first|exact HB.out|apply zD|apply zE|apply zF|refine below_set ?_ GE508.out)|exact HB.out)⟩⟩
 case round =>
  clear H';(try clear p2);obtain ⟨x5_1,rfl,HA,HK1,BK508,HB⟩:=hrel;cases gk with
  | zero=>exact absurd HA.out (by simp [spec_l16Has.l0])
  | succ k1 =>
   have H:=HA.out;clear HA;simp only [spec_l16Has.l0] at H
   by_cases c4:x5_1 < (l0.length:Int)
   ·rw [if_pos c4] at H
    have c4b0:decide (x5_1 < (l0.length:Int)) = true:=decide_eq_true c4
    clear c4;by_cases c5:0 ≤ x5_1
    ·rw [if_pos c5] at H
     have c5b0:decide (0 ≤ x5_1) = true:=decide_eq_true c5
     clear c5;by_cases c6:(((rd_T48 l0 x5_1).f0) == a1_0 && (((rd_T48 l0 x5_1).f1) == a1_1)) = true
     ·rw [if_pos c6] at H
      have c6b0:(((rd_T48 l0 x5_1).f0) == a1_0 && (((rd_T48 l0 x5_1).f1) == a1_1)) = true:=c6
      (try (have c6b1:decide (((rd_T48 l0 x5_1).f0) = a1_0 && (((rd_T48 l0 x5_1).f1) == a1_1)) = true:=by simpa using c6))
      (try (have c6b2:(((rd_T48 l0 x5_1).f0) == a1_0 && (((rd_T48 l0 x5_1).f1) == a1_1)) = true:=by simpa using c6))
      clear c6;obtain rfl:=Option.some.inj H;have p509:0 ≤ (x5_1:Int):=of_decide_eq_true (by first|(with_reducible assumption)|assumption)
      have q509:x5_1 < (l0.length:Int):=of_decide_eq_true (by first|(with_reducible assumption)|assumption)
      obtain ⟨ad509,e509,hx509_0,hx509_1⟩:=at_T48 HR0.out x5_1 p509 q509;cases e509
      replace hx509_0:=zS HB.out hx509_0;replace hx509_1:=zS HB.out hx509_1;replace p509:=eq_true p509;replace q509:=eq_true q509;have hcz7_0:wr.cell? ⟨gb508,0,none⟩ = some (.int .i64 a1_0):=(blk_cell BK508.out 0).trans rfl
      have hcz7_1:wr.cell? ⟨gb508,1,none⟩ = some (.int .i64 a1_1):=(blk_cell BK508.out 1).trans rfl
      have hfz7_0:=blk_frozen BK508.out 0;have hfz7_1:=blk_frozen BK508.out 1;go_wp2
      repeat (go_quiet (fail);try go_wp2)
      go_ret
      exact ⟨by first|rfl|(simp [errW_none,errW_some] <;> rfl)|(simp [*,errW_none,errW_some] <;> rfl),by repeat (first|(with_reducible first|exact HB.out|apply zD|apply zE|apply zF|refine below_set ?_ GE508.out)|exact HB.out)⟩
     ·rw [if_neg c6] at H
      have c6b0:(((rd_T48 l0 x5_1).f0) == a1_0 && (((rd_T48 l0 x5_1).f1) == a1_1)) = false:=by simpa using c6
      (try (have c6b1:decide (((rd_T48 l0 x5_1).f0) = a1_0 && (((rd_T48 l0 x5_1).f1) == a1_1)) = false:=by simpa using c6))
      (try (have c6b2:(((rd_T48 l0 x5_1).f0) == a1_0 && (((rd_T48 l0 x5_1).f1) == a1_1)) = false:=by simpa using c6))
      (try (have c6b3:¬ (((rd_T48 l0 x5_1).f0) = a1_0 && (((rd_T48 l0 x5_1).f1) == a1_1)):=by simpa using c6))
      clear c6;have H':=zM H;clear H;have p509:0 ≤ (x5_1:Int):=of_decide_eq_true (by first|(with_reducible assumption)|assumption)
      have q509:x5_1 < (l0.length:Int):=of_decide_eq_true (by first|(with_reducible assumption)|assumption)
      obtain ⟨ad509,e509,hx509_0,hx509_1⟩:=at_T48 HR0.out x5_1 p509 q509;cases e509
      replace hx509_0:=zS HB.out hx509_0;replace hx509_1:=zS HB.out hx509_1;replace p509:=eq_true p509;replace q509:=eq_true q509;have hcz8_0:wr.cell? ⟨gb508,0,none⟩ = some (.int .i64 a1_0):=(blk_cell BK508.out 0).trans rfl
      have hcz8_1:wr.cell? ⟨gb508,1,none⟩ = some (.int .i64 a1_1):=(blk_cell BK508.out 1).trans rfl
      have hfz8_0:=blk_frozen BK508.out 0;have hfz8_1:=blk_frozen BK508.out 1;go_wp2
      repeat (go_quiet (fail);try go_wp2)
      go_roundg k1
      case measure=>have:=HK1.out;omega
      case rel=>exact ⟨(wrap64 (x5_1 + 1)),(by first|rfl|(simp;done)|(simp [*];done)),H',⟨by have:=HK1.out;omega⟩,⟨by (with_reducible repeat (first|refine zJ ?_ _|refine zK ?_|refine zL ?_ _));exact BK508.out⟩,⟨by repeat (first|(with_reducible first|exact HB.out|apply zD|apply zE|apply zF|refine below_set ?_ GE508.out)|exact HB.out)⟩⟩
    ·rw [if_neg c5] at H
     exact absurd H (by simp)
   ·rw [if_neg c4] at H
    have c4b0:decide (x5_1 < (l0.length:Int)) = false:=decide_eq_false c4
    clear c4;obtain rfl:=Option.some.inj H;go_wp2
    repeat (go_quiet (fail);try go_wp2)
    go_ret
    exact ⟨by first|rfl|(simp [errW_none,errW_some] <;> rfl)|(simp [*,errW_none,errW_some] <;> rfl),by repeat (first|(with_reducible first|exact HB.out|apply zD|apply zE|apply zF|refine below_set ?_ GE508.out)|exact HB.out)⟩

end Go.Proofs.Ytbpccdbkaiigcaa.G
