/- Texts of the proof of FnForces, joined in build order. -/
import Derived.Test.YtcgfedaoimhejaaMgFnForces1
-- Written by wip/tools/gen.py out of the translation (the kit's printer, one namespace a seat). Lean checks it.
namespace Go.Proofs.Ytcgfedaoimhejaa.G
open Go.RowKit Go.Proofs.YtcgfedaoimhejaaW.PrintWords Go.Proofs.YtcgfedaoimhejaaW.PrintLast Go.Proofs.YtcgfedaoimhejaaW.PrintMore
attribute [local go_sem] max2_int min2_int max_two min_two max_three min_three max_four min_four   -- for this text's walks alone
set_option linter.unusedVariables false
set_option linter.unusedSimpArgs false

/-! ### spec_LightestForce: function 30 -/
mutual
def spec_LightestForce.j0:Nat → List Int → Bool → Int → Int → Int → Option (List Int × Int × Bool)
 | 0,_,_,_,_,_=>none
 | k + 1,x0,x19,x502000,x502001,x502002=>if x19 = true then (some ((([]:List Int)),0,false)) else (if 0 ≤ (x0.length:Int) then (if ((x0.length:Int):Int).toNat ≤ 281474976710656 then ((spec_l12Orders.f k x0 (List.replicate ((x0.length:Int):Int).toNat false) (([]:List Int))).bind fun t513=>(spec_LightestForce.l0 k t513 (([]:List Int)) (-1) 0 x502000 x502001 x502002)) else (none)) else (none))
def spec_LightestForce.l0:Nat → List (List Int) → List Int → Int → Int → Int → Int → Int → Option (List Int × Int × Bool)
 | 0,_,_,_,_,_,_,_=>none
 | k + 1,x7,x8,x9,x10,x502000,x502001,x502002=>if x10 < (x7.length:Int) then (if 0 ≤ x10 then ((spec_l12Forces.f k (rd_L1 x7 x10) x502001).bind fun t520=>((spec_l12Sum.f k t520 0).bind fun t523=>(if x9 < 0 then (spec_LightestForce.l0 k x7 (rd_L1 x7 x10) t523 (wrap64 (x10 + 1)) x502000 x502001 x502002) else (if t523 < x9 then (spec_LightestForce.l0 k x7 (rd_L1 x7 x10) t523 (wrap64 (x10 + 1)) x502000 x502001 x502002) else (if t523 = x9 then ((spec_l12Before.f k (rd_L1 x7 x10) x8).bind fun t527=>(if t527 = true then (spec_LightestForce.l0 k x7 (rd_L1 x7 x10) t523 (wrap64 (x10 + 1)) x502000 x502001 x502002) else (spec_LightestForce.l0 k x7 x8 x9 (wrap64 (x10 + 1)) x502000 x502001 x502002))) else (spec_LightestForce.l0 k x7 x8 x9 (wrap64 (x10 + 1)) x502000 x502001 x502002)))))) else (none)) else (some (x8,x9,true))
end
def spec_LightestForce.f (k:Nat) (l0:List Int) (a1_0:Int) (a1_1:Int) (a1_2:Int):Option (List Int × Int × Bool):=(spec_l12Good.f k l0).bind fun t502=>(if t502 = true then ((spec_l12Rules.f a1_0 a1_1 a1_2).bind fun t503=>(spec_LightestForce.j0 k l0 (!t503) a1_0 a1_1 a1_2)) else (spec_LightestForce.j0 k l0 true a1_0 a1_1 a1_2))
def spec_LightestForce.T8:Bool × List (List Nat × List Nat):=(true,[([],[]),([],[]),([0,1],[0,1]),([2],[2]),([],[]),([4],[4]),([3,5],[3,5]),([6,6],[6]),([7,7,0,1,2,3,4,5,6,7],[7])])
def spec_LightestForce.B8:List Nat:=[0,0,3,7,0,16,63,127,255]
theorem spec_LightestForce.tab8:rtab .any (opsOf Try.f30 8) = spec_LightestForce.T8:=by kernel_rfl
theorem spec_LightestForce.bits8:waitsOk spec_LightestForce.T8.2 spec_LightestForce.B8 = true:=by kernel_rfl
set_option maxHeartbeats 8000000 in
set_option maxRecDepth 100000 in
theorem spec_LightestForce.calls (k:Nat) (A0:Option Addr) (c0:Nat) (l0:List Int) (a1_0:Int) (a1_1:Int) (a1_2:Int) (r1:List Int) (r2:Int) (r3:Bool) (w:World) (hr0:Kd.C (Kd.int .i64) w A0 l0.length l0) (hc0:l0.length ≤ c0) (h:spec_LightestForce.f k l0 a1_0 a1_1 a1_2 = some (r1,r2,r3)) :
  Calls Try.prog 30 #[.slice A0 l0.length c0,.agg #[.int .i64 a1_0,.int .i64 a1_1,.int .i64 a1_2]] w fun e w' => ∃ v0_:Value,e = .returned (.tuple #[v0_,.int .i64 r2,.bool r3]) ∧ Kd.V (Kd.int .i64) 3 w' w.heap.size (fun k_=>(w.heap.size ≤ k_)) v0_ r1 ∧ Below w.heap.size w w':=by
 have hu28:=Try.underlying28;have HR0:=zM hr0;have HC0:=zM hc0;clear hr0 hc0;have HB:=zM (Below.refl w.heap.size w);have H:((spec_l12Good.f k l0).bind fun t502=>(if t502 = true then ((spec_l12Rules.f a1_0 a1_1 a1_2).bind fun t503=>(spec_LightestForce.j0 k l0 (!t503) a1_0 a1_1 a1_2)) else (spec_LightestForce.j0 k l0 true a1_0 a1_1 a1_2))) = some (r1,r2,r3):=h
 clear h;have HC3:=zM H;clear H;go_enter Try.func30,Try.ntmps30
 go_upto_region 1 with (first|((with_reducible refine gate_dst (N:=3) rfl ?_);refine box_event ?hg (N:=3) ?hd (cs := #[.int .i64 a1_0,.int .i64 a1_1,.int .i64 a1_2]) (t:=28) ?hr ?_;(case hd=>rfl);(case hg=>rfl);(case hr=>first|(go_simp;done)|(go_simp;rfl));intro gb501 hg w4 hbox hb;have n0_:=zM (zQ (by repeat (first|(with_reducible first|exact HB.out|apply zD|apply zE|apply zF)|exact HB.out)) hb);have n1_:=zM (hbox);have n2_:=zM ((by rw [hg];exact (zR (by repeat (first|(with_reducible first|exact HB.out|apply zD|apply zE|apply zF)|exact HB.out))):w.heap.size ≤ gb501));have n3_:=zM ((by rw [hg];exact (zR (by repeat (first|(with_reducible first|exact HB.out|apply zD|apply zE|apply zF)|exact HB.out))):w.heap.size ≤ gb501));clear HB;have HB:=n0_;have BK501:=n1_;have GW501:=n2_;have GE501:=n3_;clear n0_ n1_ n2_ n3_;clear hb hbox hg))
 (try simp only [Act.put,zT,zU,zV])
 go_cut [19] (fun v19 wc => ∃ (kq:Nat) (x19_2:Bool),v19 = .bool x19_2 ∧ Aside0 (spec_LightestForce.j0 kq l0 x19_2 a1_0 a1_1 a1_2 = some (r1,r2,r3)) ∧ Aside0 (kq ≤ k) ∧ Aside0 (wc.heap[gb501]? = some (.cells #[.int .i64 a1_0,.int .i64 a1_1,.int .i64 a1_2] 28 (0,0))) ∧ Aside0 (Below w.heap.size w wc))
 case first =>
  have H:=HC3.out;clear HC3;replace H:=Option.bind_eq_some_iff.mp H;obtain ⟨t502,A50,H⟩:=H;replace H:(if t502 = true then ((spec_l12Rules.f a1_0 a1_1 a1_2).bind fun t503=>(spec_LightestForce.j0 k l0 (!t503) a1_0 a1_1 a1_2)) else (spec_LightestForce.j0 k l0 true a1_0 a1_1 a1_2)) = some (r1,r2,r3):=H
  have A5:=zM A50;clear A50;by_cases c6:t502 = true
  ·subst c6
   have H1:((spec_l12Rules.f a1_0 a1_1 a1_2).bind fun t503=>(spec_LightestForce.j0 k l0 (!t503) a1_0 a1_1 a1_2)) = some (r1,r2,r3):=by rw [if_pos rfl] at H;exact H
   clear H;have H:=H1;clear H1;replace H:=Option.bind_eq_some_iff.mp H;obtain ⟨t503,A70,H⟩:=H;replace H:(spec_LightestForce.j0 k l0 (!t503) a1_0 a1_1 a1_2) = some (r1,r2,r3):=H
   have A7:=zM A70;clear A70;have H':=zM H;clear H;go_wp2_with (first|((with_reducible refine gate_callee (f:=44) rfl ?_);refine goesL_ (some 13) rfl rfl Try.func44 (by kernel_rfl) rfl #[.slice A0 l0.length c0] rfl (by (try simp only [List.map_toArray,List.map_cons,List.map_nil]);first|done|rfl|(simp only [List.length_drop,List.length_take];rfl)) ?_;(with_reducible refine (spec_l12Good.calls k _ _ l0 true _ ?side1 ?side2 A5.out).mono ?_);(case side1=>repeat (first|exact (zO HR0.out HB.out)|(with_reducible first|refine zG ?_ _|refine zH ?_ _|refine zI ?_)));(case side2=>exact HC0.out);rintro e w' ⟨rfl,⟨nd,rfl⟩⟩;refine ⟨_,rfl,?_⟩;have hcz8_0:w4.cell? ⟨gb501,0,none⟩ = some (.int .i64 a1_0):=(blk_cell BK501.out 0).trans rfl;have hcz8_1:w4.cell? ⟨gb501,1,none⟩ = some (.int .i64 a1_1):=(blk_cell BK501.out 1).trans rfl;have hcz8_2:w4.cell? ⟨gb501,2,none⟩ = some (.int .i64 a1_2):=(blk_cell BK501.out 2).trans rfl;have hfz8_0:=blk_frozen BK501.out 0;have hfz8_1:=blk_frozen BK501.out 1;have hfz8_2:=blk_frozen BK501.out 2)|(go_at_call 45;(with_reducible refine (spec_l12Rules.calls a1_0 a1_1 a1_2 t503 _ A7.out).mono ?_);rintro e w9 ⟨rfl,hb⟩;have n0_:=zM (blk_below (g:=gb501) (o := .cells #[.int .i64 a1_0,.int .i64 a1_1,.int .i64 a1_2] 28 (0,0)) (by (with_reducible repeat (first|refine zJ ?_ _|refine zK ?_|refine zL ?_ _));exact BK501.out) hb);have n1_:=zM (zQ (by repeat (first|(with_reducible first|exact HB.out|apply zD|apply zE|apply zF|refine below_set ?_ GE501.out)|exact HB.out)) hb);clear BK501;clear HB;have BK501:=n0_;have HB:=n1_;clear n0_ n1_;(try clear hb);(try clear hb2);(try clear hk);(try clear hi)))
   go_meet
   case rel=>exact ⟨_,(!t503),(by first|rfl|(simp;done)|(simp [*];done)),H',⟨by first|omega|exact Nat.le_refl _⟩,⟨by (with_reducible repeat (first|refine zJ ?_ _|refine zK ?_|refine zL ?_ _));exact BK501.out⟩,⟨by repeat (first|(with_reducible first|exact HB.out|apply zD|apply zE|apply zF|refine below_set ?_ GE501.out)|exact HB.out)⟩⟩
  ·replace c6:=Bool.eq_false_iff.mpr c6
   subst c6;have H1:(spec_LightestForce.j0 k l0 true a1_0 a1_1 a1_2) = some (r1,r2,r3):=by rw [if_neg (show ¬ (false = true) by decide)] at H;exact H
   clear H;have H:=H1;clear H1;have H':=zM H;clear H;go_wp2_with (first|((with_reducible refine gate_callee (f:=44) rfl ?_);refine goesL_ (some 13) rfl rfl Try.func44 (by kernel_rfl) rfl #[.slice A0 l0.length c0] rfl (by (try simp only [List.map_toArray,List.map_cons,List.map_nil]);first|done|rfl|(simp only [List.length_drop,List.length_take];rfl)) ?_;(with_reducible refine (spec_l12Good.calls k _ _ l0 false _ ?side1 ?side2 A5.out).mono ?_);(case side1=>repeat (first|exact (zO HR0.out HB.out)|(with_reducible first|refine zG ?_ _|refine zH ?_ _|refine zI ?_)));(case side2=>exact HC0.out);rintro e w' ⟨rfl,⟨nd,rfl⟩⟩;refine ⟨_,rfl,?_⟩))
   go_meet
   case rel=>exact ⟨_,(true),(by first|rfl|(simp;done)|(simp [*];done)),H',⟨by first|omega|exact Nat.le_refl _⟩,⟨by (with_reducible repeat (first|refine zJ ?_ _|refine zK ?_|refine zL ?_ _));exact BK501.out⟩,⟨by repeat (first|(with_reducible first|exact HB.out|apply zD|apply zE|apply zF|refine below_set ?_ GE501.out)|exact HB.out)⟩⟩
 case rest =>
  clear HC3;(try clear p2);(try clear c3);(try clear c4);(try clear c6);(try clear hcz8_0);(try clear hcz8_1);(try clear hcz8_2);(try clear hfz8_0);(try clear hfz8_1);(try clear hfz8_2);obtain ⟨kq,x19_2,rfl,HA,HJ2,BK501,HB⟩:=hcut;cases kq with
  | zero=>exact absurd HA.out (by simp [spec_LightestForce.j0])
  | succ kj2 =>
   have H:=HA.out;clear HA;simp only [spec_LightestForce.j0] at H
   by_cases c10:x19_2 = true
   ·subst c10
    have H1:(some ((([]:List Int)),0,false)) = some (r1,r2,r3):=by rw [if_pos rfl] at H;exact H
    clear H;have H:=H1;clear H1;obtain ⟨y504,hy504⟩ : ∃ y_:List Int,y_ = (([]:List Int)):=⟨_,rfl⟩
    replace H:(some (y504,0,false)) = some (r1,r2,r3):=by first|(rw [hy504];with_reducible exact H)|(have H2_:=(Option.bind_some _ _).symm.trans H;rw [hy504];with_reducible exact H2_)|(have H2_:=(Option.bind_some _ _).symm.trans H;with_reducible exact H2_)|with_reducible exact H|(rw [hy504];exact H)|exact H
    have Ny504:=zM hy504;clear hy504;simp only [Option.some.injEq,Prod.mk.injEq] at H
    obtain ⟨rfl,rfl,rfl⟩:=H;go_wp2_with (first|((with_reducible refine gate_dst (N:=20) rfl ?_);refine Kd.R_lit (Kd.int .i64) _ 3 ?hg (N:=20) ?hd (xs:=([]:List Int)) (inner:=[]) (ok:=fun _=>True) (okp:=fun _=>True) ?hr ?hp (fun _ hk=>hk) trivial (Below.refl _ _) (Nat.le_refl _) (by simp) ?_;(case hd=>rfl);(case hg=>rfl);(case hr=>first|(go_simp;done)|(go_simp;rfl));(case hp=>exact (Reps.none _ _));intro v505 w11 ho12 hb hg_ hnew_;clear hg_ hnew_;(first|rw [← Ny504.out] at ho12|(simp only [Int.reduceToNat] at ho12;rw [← Ny504.out] at ho12));have n0_:=zM (Kd.R_lower (Kd.R_newM (M:=fun k_=>(w.heap.size ≤ k_)) ho12 (zR (by repeat (first|(with_reducible first|exact HB.out|apply zD|apply zE|apply zF|refine below_set ?_ GE501.out)|exact HB.out))) (fun k_ h_=>h_)) (zR (by repeat (first|(with_reducible first|exact HB.out|apply zD|apply zE|apply zF|refine below_set ?_ GE501.out)|exact HB.out))));have n1_:=zM (blk_below (g:=gb501) (o := .cells #[.int .i64 a1_0,.int .i64 a1_1,.int .i64 a1_2] 28 (0,0)) (by (with_reducible repeat (first|refine zJ ?_ _|refine zK ?_|refine zL ?_ _));exact BK501.out) hb);have n2_:=zM (zQ (by repeat (first|(with_reducible first|exact HB.out|apply zD|apply zE|apply zF|refine below_set ?_ GE501.out)|exact HB.out)) hb);clear BK501;clear HB;have HO506:=n0_;have BK501:=n1_;have HB:=n2_;clear n0_ n1_ n2_;clear hb ho12))
    go_ret3
    exact ⟨_,by first|rfl|(simp [errW_none,errW_some] <;> rfl)|(simp [*,errW_none,errW_some] <;> rfl),Kd.R_V (by (with_reducible repeat (first|apply zA|apply zB|apply zC));exact Kd.R_mono HO506.out (fun _ hk=>hk.1)),by repeat (first|(with_reducible first|exact HB.out|apply zD|apply zE|apply zF|refine below_set ?_ GE501.out)|exact HB.out)⟩
   ·replace c10:=Bool.eq_false_iff.mpr c10
    subst c10;have H1:(if 0 ≤ (l0.length:Int) then (if ((l0.length:Int):Int).toNat ≤ 281474976710656 then ((spec_l12Orders.f kj2 l0 (List.replicate ((l0.length:Int):Int).toNat false) (([]:List Int))).bind fun t513=>(spec_LightestForce.l0 kj2 t513 (([]:List Int)) (-1) 0 a1_0 a1_1 a1_2)) else (none)) else (none)) = some (r1,r2,r3):=by rw [if_neg (show ¬ (false = true) by decide)] at H;exact H
    clear H;have H:=H1;clear H1;by_cases c13:0 ≤ (l0.length:Int)
    ·rw [if_pos c13] at H
     have c13b0:=eq_true c13;have c13b1:decide (0 ≤ (l0.length:Int)) = true:=decide_eq_true c13
     clear c13;by_cases c14:((l0.length:Int):Int).toNat ≤ 281474976710656
     ·rw [if_pos c14] at H
      have c14b0:=eq_true c14;have c14b1:decide (((l0.length:Int):Int).toNat ≤ 281474976710656) = true:=decide_eq_true c14
      clear c14;obtain ⟨y507,hy507⟩ : ∃ y_:List Bool,y_ = (List.replicate ((l0.length:Int):Int).toNat false):=⟨_,rfl⟩
      replace H:((spec_l12Orders.f kj2 l0 y507 (([]:List Int))).bind fun t513=>(spec_LightestForce.l0 kj2 t513 (([]:List Int)) (-1) 0 a1_0 a1_1 a1_2)) = some (r1,r2,r3):=by first|(rw [hy507];with_reducible exact H)|(have H2_:=(Option.bind_some _ _).symm.trans H;rw [hy507];with_reducible exact H2_)|(have H2_:=(Option.bind_some _ _).symm.trans H;with_reducible exact H2_)|with_reducible exact H|(rw [hy507];exact H)|exact H
      have Ny507:=zM hy507;clear hy507;obtain ⟨y510,hy510⟩ : ∃ y_:List Int,y_ = (([]:List Int)):=⟨_,rfl⟩
      replace H:((spec_l12Orders.f kj2 l0 y507 y510).bind fun t513=>(spec_LightestForce.l0 kj2 t513 (([]:List Int)) (-1) 0 a1_0 a1_1 a1_2)) = some (r1,r2,r3):=by first|(rw [hy510];with_reducible exact H)|(have H2_:=(Option.bind_some _ _).symm.trans H;rw [hy510];with_reducible exact H2_)|(have H2_:=(Option.bind_some _ _).symm.trans H;with_reducible exact H2_)|with_reducible exact H|(rw [hy510];exact H)|exact H
      have Ny510:=zM hy510;clear hy510;replace H:=Option.bind_eq_some_iff.mp H;obtain ⟨t513,A150,H⟩:=H;replace H:(spec_LightestForce.l0 kj2 t513 (([]:List Int)) (-1) 0 a1_0 a1_1 a1_2) = some (r1,r2,r3):=H
      have A15:=zM A150;clear A150;obtain ⟨y516,hy516⟩ : ∃ y_:List Int,y_ = (([]:List Int)):=⟨_,rfl⟩
      replace H:(spec_LightestForce.l0 kj2 t513 y516 (-1) 0 a1_0 a1_1 a1_2) = some (r1,r2,r3):=by first|(rw [hy516];with_reducible exact H)|(have H2_:=(Option.bind_some _ _).symm.trans H;rw [hy516];with_reducible exact H2_)|(have H2_:=(Option.bind_some _ _).symm.trans H;with_reducible exact H2_)|with_reducible exact H|(rw [hy516];exact H)|exact H
      have Ny516:=zM hy516;clear hy516;have H':=zM H;clear H;go_wp2_with (first|((with_reducible refine gate_dst (N:=24) rfl ?_);refine Kd.R_make Kd.bool _ 4 rfl (N:=24) rfl 71 _ _ rfl (l0.length:Int) rfl rfl Try.underlying71 (.bool false) 1 info4 rfl (by decide) (by omega) false (ok:=fun _=>True) (okp:=fun _=>True) rfl (fun _ hk=>hk) trivial (of_decide_eq_true (by first|(with_reducible assumption)|assumption)) (Nat.le_trans (Nat.mul_le_mul_right _ (of_decide_eq_true (by first|(with_reducible assumption)|assumption):(l0.length:Int).toNat ≤ 281474976710656)) (by omega)) (Below.refl _ _) (Nat.le_refl _) ?_;intro v508 w16 ho17 hb hg_ hnew_;clear hg_ hnew_;(first|rw [← Ny507.out] at ho17|(simp only [Int.reduceToNat] at ho17;rw [← Ny507.out] at ho17));have n0_:=zM (Kd.R_lower (Kd.R_newM (M:=fun k_=>(w.heap.size ≤ k_)) ho17 (zR (by repeat (first|(with_reducible first|exact HB.out|apply zD|apply zE|apply zF|refine below_set ?_ GE501.out)|exact HB.out))) (fun k_ h_=>h_)) (zR (by repeat (first|(with_reducible first|exact HB.out|apply zD|apply zE|apply zF|refine below_set ?_ GE501.out)|exact HB.out))));have n1_:=zM (blk_below (g:=gb501) (o := .cells #[.int .i64 a1_0,.int .i64 a1_1,.int .i64 a1_2] 28 (0,0)) (by (with_reducible repeat (first|refine zJ ?_ _|refine zK ?_|refine zL ?_ _));exact BK501.out) hb);have n2_:=zM (zQ (by repeat (first|(with_reducible first|exact HB.out|apply zD|apply zE|apply zF|refine below_set ?_ GE501.out)|exact HB.out)) hb);clear BK501;clear HB;have HO509:=n0_;have BK501:=n1_;have HB:=n2_;clear n0_ n1_ n2_;clear hb ho17)|((with_reducible refine gate_dst (N:=25) rfl ?_);refine Kd.R_lit (Kd.int .i64) _ 3 ?hg (N:=25) ?hd (xs:=([]:List Int)) (inner:=[]) (ok:=fun _=>True) (okp:=fun _=>True) ?hr ?hp (fun _ hk=>hk) trivial (Below.refl _ _) (Nat.le_refl _) (by simp) ?_;(case hd=>rfl);(case hg=>rfl);(case hr=>first|(go_simp;done)|(go_simp;rfl));(case hp=>exact (Reps.none _ _));intro v511 w18 ho19 hb hg_ hnew_;clear hg_ hnew_;(first|rw [← Ny510.out] at ho19|(simp only [Int.reduceToNat] at ho19;rw [← Ny510.out] at ho19));have n0_:=zM (zP (by (with_reducible repeat (first|apply zA|apply zB|apply zC));exact HO509.out) hb);have n1_:=zM (Kd.R_lower (Kd.R_newM (M:=fun k_=>(w.heap.size ≤ k_)) ho19 (zR (by repeat (first|(with_reducible first|exact HB.out|apply zD|apply zE|apply zF|refine below_set ?_ GE501.out)|exact HB.out))) (fun k_ h_=>h_)) (zR (by repeat (first|(with_reducible first|exact HB.out|apply zD|apply zE|apply zF|refine below_set ?_ GE501.out)|exact HB.out))));have n2_:=zM (blk_below (g:=gb501) (o := .cells #[.int .i64 a1_0,.int .i64 a1_1,.int .i64 a1_2] 28 (0,0)) (by (with_reducible repeat (first|refine zJ ?_ _|refine zK ?_|refine zL ?_ _));exact BK501.out) hb);have n3_:=zM (zQ (by repeat (first|(with_reducible first|exact HB.out|apply zD|apply zE|apply zF|refine below_set ?_ GE501.out)|exact HB.out)) hb);clear HO509;clear BK501;clear HB;have HO509:=n0_;have HO512:=n1_;have BK501:=n2_;have HB:=n3_;clear n0_ n1_ n2_ n3_;clear hb ho19;obtain ⟨Ao20,co20,eo20⟩:=Kd.R_slice HO509.out;subst eo20;obtain ⟨Ao21,co21,eo21⟩:=Kd.R_slice HO512.out;subst eo21)|((with_reducible refine gate_callee (f:=63) rfl ?_);refine goesL_ (some 26) rfl rfl Try.func63 (by kernel_rfl) rfl #[.slice A0 l0.length c0,.slice Ao20 y507.length co20,.slice Ao21 y510.length co21] rfl (by (try simp only [List.map_toArray,List.map_cons,List.map_nil]);first|done|rfl|(simp only [List.length_drop,List.length_take];rfl)) ?_;(with_reducible refine (spec_l12Orders.calls kj2 _ _ l0 _ _ y507 (fun k_=>some k_ = (.slice Ao21 y510.length co21:Value).ownBlock) _ _ y510 t513 _ ?side1 ?side2 ?side3 ?side4 ?side5 A15.out).mono ?_);(case side1=>repeat (first|exact (zO HR0.out HB.out)|(with_reducible first|refine zG ?_ _|refine zH ?_ _|refine zI ?_)));(case side2=>exact HC0.out);(case side3=>repeat (first|exact (zN HO509.out).2.2|(with_reducible first|refine zG ?_ _|refine zH ?_ _|refine zI ?_)));(case side4=>exact (zN HO509.out).2.1);(case side5=>exact Kd.R_V (Kd.R_tight rfl (Kd.R_types (Kd.R_apart' (HO512.out) (Kd.R_typed HO509.out) (by decide)) BK501.out (by decide))));rintro e w22 ⟨v514,rfl,ho0,hb⟩;refine ⟨_,rfl,?_⟩;have n0_:=zM (zP (by (with_reducible repeat (first|apply zA|apply zB|apply zC));exact HO509.out) hb);have n1_:=zM (zP (by (with_reducible repeat (first|apply zA|apply zB|apply zC));exact HO512.out) hb);have n2_:=zM (Kd.N_lower (Kd.N_mono (ok':=fun k_=>(w.heap.size ≤ k_) ∧ some k_ ≠ (.slice Ao20 y507.length co20:Value).ownBlock ∧ k_ ≠ gb501) ho0 (fun k_ hk_=>⟨Or.elim hk_ (fun hs_=>((Kd.R_types (Kd.R_apart' (HO512.out) (Kd.R_typed HO509.out) (by decide)) BK501.out (by decide)).1 k_ hs_.symm).1.1.1) (fun hn_=>(Nat.le_trans (zR (by repeat (first|(with_reducible first|exact HB.out|apply zD|apply zE|apply zF|refine below_set ?_ GE501.out)|exact HB.out))) hn_)),Or.elim hk_ (fun hs_=>((Kd.R_types (Kd.R_apart' (HO512.out) (Kd.R_typed HO509.out) (by decide)) BK501.out (by decide)).1 k_ hs_.symm).1.2) (fun hn_=>(Kd.fresh' (Kd.R_lt (by (with_reducible repeat (first|apply zA|apply zB|apply zC));exact HO509.out)) k_ hn_)),Or.elim hk_ (fun hs_=>((Kd.R_types (Kd.R_apart' (HO512.out) (Kd.R_typed HO509.out) (by decide)) BK501.out (by decide)).1 k_ hs_.symm).2) (fun hn_=>(Kd.freshB (g:=gb501) (o := .cells #[.int .i64 a1_0,.int .i64 a1_1,.int .i64 a1_2] 28 (0,0)) (by (with_reducible repeat (first|refine zJ ?_ _|refine zK ?_|refine zL ?_ _));exact BK501.out) k_ hn_))⟩)) (zR (by repeat (first|(with_reducible first|exact HB.out|apply zD|apply zE|apply zF|refine below_set ?_ GE501.out)|exact HB.out))));have n3_:=zM (blk_below (g:=gb501) (o := .cells #[.int .i64 a1_0,.int .i64 a1_1,.int .i64 a1_2] 28 (0,0)) (by (with_reducible repeat (first|refine zJ ?_ _|refine zK ?_|refine zL ?_ _));exact BK501.out) hb);have n4_:=zM (zQ (by repeat (first|(with_reducible first|exact HB.out|apply zD|apply zE|apply zF|refine below_set ?_ GE501.out)|exact HB.out)) hb);clear HO509;clear HO512;clear BK501;clear HB;have HO509:=n0_;have HO512:=n1_;have HO515:=n2_;have BK501:=n3_;have HB:=n4_;clear n0_ n1_ n2_ n3_ n4_;(try clear hb);(try clear hb2);(try clear hk);(try clear hi);(try clear ho0))|((with_reducible refine gate_dst (N:=27) rfl ?_);refine Kd.R_lit (Kd.int .i64) _ 3 ?hg (N:=27) ?hd (xs:=([]:List Int)) (inner:=[]) (ok:=fun _=>True) (okp:=fun _=>True) ?hr ?hp (fun _ hk=>hk) trivial (Below.refl _ _) (Nat.le_refl _) (by simp) ?_;(case hd=>rfl);(case hg=>rfl);(case hr=>first|(go_simp;done)|(go_simp;rfl));(case hp=>exact (Reps.none _ _));intro v517 w23 ho24 hb hg_ hnew_;clear hg_ hnew_;(first|rw [← Ny516.out] at ho24|(simp only [Int.reduceToNat] at ho24;rw [← Ny516.out] at ho24));have n0_:=zM (zP (by (with_reducible repeat (first|apply zA|apply zB|apply zC));exact HO509.out) hb);have n1_:=zM (Kd.R_elder' (by (with_reducible repeat (first|apply zA|apply zB|apply zC));exact HO512.out) (Kd.R_base ho24) hb);have n2_:=zM (Kd.N_elder' (by (with_reducible repeat (first|apply Kd.N_alloc|apply Kd.N_drewN|apply Kd.N_drew));exact HO515.out) (Kd.R_base ho24) hb);have n3_:=zM (Kd.R_lower (Kd.R_new' (Kd.R_newM (M:=fun k_=>(w.heap.size ≤ k_)) ho24 (zR (by repeat (first|(with_reducible first|exact HB.out|apply zD|apply zE|apply zF|refine below_set ?_ GE501.out)|exact HB.out))) (fun k_ h_=>h_)) (Kd.R_lt (by (with_reducible repeat (first|apply zA|apply zB|apply zC));exact HO512.out))) (zR (by repeat (first|(with_reducible first|exact HB.out|apply zD|apply zE|apply zF|refine below_set ?_ GE501.out)|exact HB.out))));have n4_:=zM (blk_below (g:=gb501) (o := .cells #[.int .i64 a1_0,.int .i64 a1_1,.int .i64 a1_2] 28 (0,0)) (by (with_reducible repeat (first|refine zJ ?_ _|refine zK ?_|refine zL ?_ _));exact BK501.out) hb);have n5_:=zM (zQ (by repeat (first|(with_reducible first|exact HB.out|apply zD|apply zE|apply zF|refine below_set ?_ GE501.out)|exact HB.out)) hb);clear HO509;clear HO512;clear HO515;clear BK501;clear HB;have HO509:=n0_;have HO512:=n1_;have HO515:=n2_;have HO518:=n3_;have BK501:=n4_;have HB:=n5_;clear n0_ n1_ n2_ n3_ n4_ n5_;clear hb ho24))
      go_loopg [8,9,10] kj2 (fun kq v8 v9 v10 w' => ∃ (x8_2:List Int) (x9_2:Int) (x10_2:Int),v9 = .int .i64 x9_2 ∧ v10 = .int .i64 x10_2 ∧ Aside0 (spec_LightestForce.l0 kq t513 x8_2 x9_2 x10_2 a1_0 a1_1 a1_2 = some (r1,r2,r3)) ∧ Aside0 (kq ≤ kj2) ∧ Aside0 (Kd.N (Kd.slice 3 (Kd.int .i64)) 22 w' w.heap.size (fun k_=>(w.heap.size ≤ k_) ∧ k_ ≠ gb501) v514 t513) ∧ Aside0 (Kd.V (Kd.int .i64) 3 w' w.heap.size (fun k_=>(w.heap.size ≤ k_) ∧ some k_ ≠ (v514:Value).ownBlock ∧ k_ ≠ gb501) v8 x8_2) ∧ Aside0 (w'.heap[gb501]? = some (.cells #[.int .i64 a1_0,.int .i64 a1_1,.int .i64 a1_2] 28 (0,0))) ∧ Aside0 (Below w.heap.size w w'))
      case atStart=>exact ⟨(y516),((-1)),(0),(by first|rfl|(simp;done)|(simp [*];done)),(by first|rfl|(simp;done)|(simp [*];done)),H',⟨Nat.le_refl _⟩,⟨by (with_reducible repeat (first|apply Kd.N_alloc|apply Kd.N_drewN|apply Kd.N_drew));exact Kd.N_mono HO515.out (fun _ hk=>⟨hk.1.1,hk.1.2.2⟩)⟩,⟨Kd.R_V (by (with_reducible repeat (first|apply zA|apply zB|apply zC));exact Kd.R_mono (Kd.R_types (Kd.R_apart' HO518.out (Kd.N_typed HO515.out) (by decide)) BK501.out (by decide)) (fun _ hk=>⟨hk.1.1.1.1,⟨hk.1.2,hk.2⟩⟩))⟩,⟨by (with_reducible repeat (first|refine zJ ?_ _|refine zK ?_|refine zL ?_ _));exact BK501.out⟩,⟨by repeat (first|(with_reducible first|exact HB.out|apply zD|apply zE|apply zF|refine below_set ?_ GE501.out)|exact HB.out)⟩⟩
      case round =>
       clear H';(try clear c1);(try clear p2);(try clear c3);(try clear c4);(try clear c6);(try clear c10);(try clear c13);(try clear c13b0);(try clear c13b1);(try clear c14);(try clear c14b0);(try clear c14b1);(try clear hcz8_0);(try clear hcz8_1);(try clear hcz8_2);(try clear hfz8_0);(try clear hfz8_1);(try clear hfz8_2);(try clear p2);obtain ⟨x8_2,x9_2,x10_2,rfl,rfl,HA,HK2,HO_7,HO_8,BK501,HB⟩:=hrel;cases gk with
       | zero=>exact absurd HA.out (by simp [spec_LightestForce.l0])
       | succ k2 =>
        have H:=HA.out;clear HA;simp only [spec_LightestForce.l0] at H
        by_cases c25:x10_2 < (t513.length:Int)
        ·rw [if_pos c25] at H
         have c25b0:decide (x10_2 < (t513.length:Int)) = true:=decide_eq_true c25
         clear c25;by_cases c26:0 ≤ x10_2
         ·rw [if_pos c26] at H
          have c26b0:decide (0 ≤ x10_2) = true:=decide_eq_true c26
          clear c26;replace H:=Option.bind_eq_some_iff.mp H;obtain ⟨t520,A270,H⟩:=H;replace H:((spec_l12Sum.f k2 t520 0).bind fun t523=>(if x9_2 < 0 then (spec_LightestForce.l0 k2 t513 (rd_L1 t513 x10_2) t523 (wrap64 (x10_2 + 1)) a1_0 a1_1 a1_2) else (if t523 < x9_2 then (spec_LightestForce.l0 k2 t513 (rd_L1 t513 x10_2) t523 (wrap64 (x10_2 + 1)) a1_0 a1_1 a1_2) else (if t523 = x9_2 then ((spec_l12Before.f k2 (rd_L1 t513 x10_2) x8_2).bind fun t527=>(if t527 = true then (spec_LightestForce.l0 k2 t513 (rd_L1 t513 x10_2) t523 (wrap64 (x10_2 + 1)) a1_0 a1_1 a1_2) else (spec_LightestForce.l0 k2 t513 x8_2 x9_2 (wrap64 (x10_2 + 1)) a1_0 a1_1 a1_2))) else (spec_LightestForce.l0 k2 t513 x8_2 x9_2 (wrap64 (x10_2 + 1)) a1_0 a1_1 a1_2))))) = some (r1,r2,r3):=H
          have A27:=zM A270;clear A270;replace H:=Option.bind_eq_some_iff.mp H;obtain ⟨t523,A280,H⟩:=H;replace H:(if x9_2 < 0 then (spec_LightestForce.l0 k2 t513 (rd_L1 t513 x10_2) t523 (wrap64 (x10_2 + 1)) a1_0 a1_1 a1_2) else (if t523 < x9_2 then (spec_LightestForce.l0 k2 t513 (rd_L1 t513 x10_2) t523 (wrap64 (x10_2 + 1)) a1_0 a1_1 a1_2) else (if t523 = x9_2 then ((spec_l12Before.f k2 (rd_L1 t513 x10_2) x8_2).bind fun t527=>(if t527 = true then (spec_LightestForce.l0 k2 t513 (rd_L1 t513 x10_2) t523 (wrap64 (x10_2 + 1)) a1_0 a1_1 a1_2) else (spec_LightestForce.l0 k2 t513 x8_2 x9_2 (wrap64 (x10_2 + 1)) a1_0 a1_1 a1_2))) else (spec_LightestForce.l0 k2 t513 x8_2 x9_2 (wrap64 (x10_2 + 1)) a1_0 a1_1 a1_2)))) = some (r1,r2,r3):=H
          have A28:=zM A280;clear A280;by_cases c29:x9_2 < 0
          ·rw [if_pos c29] at H
           have c29b0:decide (x9_2 < 0) = true:=decide_eq_true c29
           clear c29;have H':=zM H;clear H;obtain ⟨Ao30,co30,eo30⟩:=Kd.N_slice HO_7.out;subst eo30;try go_wp2
           have n0_:=zM (Kd.N_drew HO_7.out);have n1_:=zM (Kd.V_drew HO_8.out);have n2_:=zM (zK BK501.out);have n3_:=zM (zF HB.out);clear HO_7;clear HO_8;clear BK501;clear HB;have HO_7:=n0_;have HO_8:=n1_;have BK501:=n2_;have HB:=n3_;clear n0_ n1_ n2_ n3_;have p519:0 ≤ (x10_2:Int):=of_decide_eq_true (by first|(with_reducible assumption)|assumption)
           have q519:x10_2 < (t513.length:Int):=of_decide_eq_true (by first|(with_reducible assumption)|assumption)
           obtain ⟨ad519,A519_0,c519_0,e519,hx519_0,hl519_0,hi519_0⟩:=at_L1 (Kd.N_reads' HO_7.out).2.2 x10_2 p519 q519;cases e519
           obtain ⟨ce519,hce519,hMe519,hcc519⟩:=Kd.N_get HO_7.out [] x10_2 p519 (by first|exact q519|exact of_decide_eq_true (by first|(with_reducible assumption)|assumption)|(have e_:=(Kd.N_reads' HO_7.out).1;omega))
           obtain ⟨ua519_0,uc519_0,rfl,ul519_0,ge519_0⟩:=Kd.FK_slice_open hMe519;have hv519_0:=hcc519 0 _ rfl;rw [Nat.add_zero,show ((Kd.slice 3 (Kd.int .i64))).sz = 1 from rfl,Nat.mul_one] at hv519_0
           replace hv519_0:=Option.some.inj (hv519_0.symm.trans hx519_0);injection hv519_0 with hva_ hvn_ hvc_;rw [hva_] at ge519_0;rw [hvc_] at ul519_0;have HL519_0:=zM (show Kd.V (Kd.int .i64) 3 _ w.heap.size _ _ (rd_L1 t513 x10_2) from Kd.V_mk ul519_0 ge519_0)
           clear hva_ hvn_ hvc_ ge519_0 ul519_0;clear hcc519 hce519;have HR519_0:=zM hi519_0;have HC519_0:=zM hl519_0;clear hi519_0 hl519_0;replace p519:=eq_true p519;replace q519:=eq_true q519;refine start_ (n:=9) (S:=fun w'=>w'.cell? ⟨gb501,0,none⟩ = some (.int .i64 a1_0) ∧ w'.cell? ⟨gb501,1,none⟩ = some (.int .i64 a1_1) ∧ w'.cell? ⟨gb501,2,none⟩ = some (.int .i64 a1_2) ∧ w'.cell? (ad519.add (x10_2).toNat) = some (.slice A519_0 (rd_L1 t513 x10_2).length c519_0)) (ds:=[]) #[false,false,false,false,false,false,false,false,false] (by kernel_rfl) rfl rfl ⟨(blk_cell BK501.out 0).trans rfl,(blk_cell BK501.out 1).trans rfl,(blk_cell BK501.out 2).trans rfl,hx519_0⟩ (fun hHeld=>?_);refine with_tabW spec_LightestForce.tab8 spec_LightestForce.bits8 (fun HT_ HW_=>?_)
           generalize wr.drew = w31 at HO_7 HO_8 BK501 HB HL519_0 HR519_0 hx519_0 hHeld ⊢
           refine pure_ (i:=0) (N:=some 34) (v:=?_) (a':=?_) #[true,false,false,false,false,false,false,false,false] rfl rfl (any_of HT_.out (by kernel_rfl)) (fun _ _ _ h=>h) (Or.inl ⟨by rfl,?_⟩) ?_ ?_
           rotate_left
           ·intro w'
            go_simp
            with_reducible rfl
           rotate_left
           ·simp only [Act.put,zT,zU,zV,i64_w,i32_w]
            rfl
           refine pure_ (i:=1) (N:=some 35) (v:=?_) (a':=?_) #[true,true,false,false,false,false,false,false,false] rfl rfl (any_of HT_.out (by kernel_rfl)) (fun _ _ _ h=>h) (Or.inl ⟨by rfl,?_⟩) ?_ ?_
           rotate_left
           ·intro w'
            go_simp
            with_reducible rfl
           rotate_left
           ·simp only [Act.put,zT,zU,zV,i64_w,i32_w]
            rfl
           refine pure_ (i:=2) (N:=some 36) (v:=?_) (a':=?_) #[true,true,true,false,false,false,false,false,false] rfl rfl (any_of HT_.out (by kernel_rfl)) (fun _ _ _ h=>h) (Or.inl ⟨by rfl,?_⟩) ?_ ?_
           rotate_left
           ·intro w'
            go_simp
            with_reducible rfl
           rotate_left
           ·simp only [Act.put,zT,zU,zV,i64_w,i32_w]
            rfl
           refine pure_ (i:=4) (N:=some 38) (v:=?_) (a':=?_) #[true,true,true,false,true,false,false,false,false] rfl rfl (any_of HT_.out (by kernel_rfl)) (fun _ _ _ h=>h) (Or.inl ⟨by rfl,?_⟩) ?_ ?_
           rotate_left
           ·intro w'
            go_simp
            with_reducible rfl
           rotate_left
           ·simp only [Act.put,zT,zU,zV,i64_w,i32_w]
            rfl
           refine take_ (i:=3) (N:=some 37) (v:=?_) (a':=?_) #[true,true,true,true,true,false,false,false,false] rfl rfl (take_ofW HT_.out HW_.out (by kernel_rfl)) (fun _ _ _ h=>h) (Or.inl ⟨by rfl,?_⟩) hHeld ?_ ?_
           rotate_left
           ·rintro w' ⟨s0,s1,s2,s3⟩
            go_simp
            with_reducible rfl
           rotate_left
           ·simp only [Act.put,zT,zU,zV,i64_w,i32_w]
            rfl
           refine take_ (i:=5) (N:=some 39) (v:=?_) (a':=?_) #[true,true,true,true,true,true,false,false,false] rfl rfl (take_ofW HT_.out HW_.out (by kernel_rfl)) (fun _ _ _ h=>h) (Or.inl ⟨by rfl,?_⟩) hHeld ?_ ?_
           rotate_left
           ·rintro w' ⟨s0,s1,s2,s3⟩
            go_simp
            with_reducible rfl
           rotate_left
           ·simp only [Act.put,zT,zU,zV,i64_w,i32_w]
            rfl
           refine one_ (i:=6) (N:=some 40) #[true,true,true,true,true,true,true,false,false] rfl rfl (one_of HT_.out (by kernel_rfl)) (by decide) (fun K hK=>?_)
           refine goes_ Try.func46 (by kernel_rfl) rfl #[.slice A519_0 (rd_L1 t513 x10_2).length c519_0,.int .i64 a1_1] (by rfl) rfl rfl (by (try simp only [List.map_toArray,List.map_cons,List.map_nil]);first|done|rfl|(simp only [List.length_drop,List.length_take];rfl)) ?_
           with_reducible refine (spec_l12Forces.calls k2 _ _ (rd_L1 t513 x10_2) a1_1 t520 _ ?side1 ?side2 A27.out).mono ?_
           (case side1=>repeat (first|exact (by repeat (first|(with_reducible exact HR519_0.out)|(with_reducible first|refine zG ?_ _|refine zH ?_ _|refine zI ?_)|exact HR519_0.out))|(with_reducible first|refine zG ?_ _|refine zH ?_ _|refine zI ?_)))
           (case side2=>exact HC519_0.out)
           rintro e w32 ⟨v521,rfl,ho0,hb⟩
           have HS3_:=(hb.cell (World.block_lt_of_cell? _ _ (hHeld.2.2.2))).trans (hHeld.2.2.2);refine ⟨_,rfl,?_⟩
           have n0_:=zM (Kd.N_elder' (by (with_reducible repeat (first|apply Kd.N_alloc|apply Kd.N_drewN|apply Kd.N_drew));exact HO_7.out) (Kd.R_base ho0) hb)
           have n1_:=zM (Kd.V_elder' (by (with_reducible repeat (first|apply Kd.V_alloc|apply Kd.V_drewN|apply Kd.V_drew));exact HO_8.out) (Kd.R_base ho0) hb)
           have n2_:=zM (Kd.V_elder' (by (with_reducible repeat (first|apply Kd.V_alloc|apply Kd.V_drewN|apply Kd.V_drew));exact HL519_0.out) (Kd.R_base ho0) hb)
           have n3_:=zM (Kd.R_lower (Kd.R_newM (M:=fun k_=>(w.heap.size ≤ k_)) ho0 (zR (by repeat (first|(with_reducible first|exact HB.out|apply zD|apply zE|apply zF|refine below_set ?_ GE501.out)|exact HB.out))) (fun k_ h_=>h_)) (zR (by repeat (first|(with_reducible first|exact HB.out|apply zD|apply zE|apply zF|refine below_set ?_ GE501.out)|exact HB.out))))
           have n4_:=zM (blk_below (g:=gb501) (o := .cells #[.int .i64 a1_0,.int .i64 a1_1,.int .i64 a1_2] 28 (0,0)) (by (with_reducible repeat (first|refine zJ ?_ _|refine zK ?_|refine zL ?_ _));exact BK501.out) hb)
           have n5_:=zM (zO (by repeat (first|(with_reducible exact HR519_0.out)|(with_reducible first|refine zG ?_ _|refine zH ?_ _|refine zI ?_)|exact HR519_0.out)) hb)
           have n6_:=zM (zQ (by repeat (first|(with_reducible first|exact HB.out|apply zD|apply zE|apply zF|refine below_set ?_ GE501.out)|exact HB.out)) hb)
           clear HO_7;clear HO_8;clear HL519_0;clear BK501;clear HR519_0;clear HB;have HO_7:=n0_;have HO_8:=n1_;have HL519_0:=n2_;have HO522:=n3_;have BK501:=n4_;have HR519_0:=n5_;have HB:=n6_;clear n0_ n1_ n2_ n3_ n4_ n5_ n6_;(try clear hb)
           (try clear hb2)
           (try clear hk)
           (try clear hi)
           (try clear ho0)
           obtain ⟨Ao33,co33,eo33⟩:=Kd.R_slice HO522.out;(first|subst eo33|(injection eo33 with f1_ f2_ f3_;have f4_:=f1_.symm;have f5_:=f3_.symm;clear f1_ f2_ f3_;subst f4_;subst f5_))
           refine hK.out _ _ ⟨(blk_cell BK501.out 0).trans rfl,(blk_cell BK501.out 1).trans rfl,(blk_cell BK501.out 2).trans rfl,HS3_⟩ (fun hHeld=>?_)
           clear hK K;refine norm_ (a':=?_) ?_ ?_
           rotate_left
           ·show Act.put _ (some 40) _ = _
            simp only [Act.put,zT,zU,zV,i64_w,i32_w]
            rfl
           refine one_ (i:=7) (N:=some 41) #[true,true,true,true,true,true,true,true,false] rfl rfl (one_of HT_.out (by kernel_rfl)) (by decide) (fun K hK=>?_)
           refine goes_ Try.func51 (by kernel_rfl) rfl #[.slice Ao33 t520.length co33,.int .i64 0] (by rfl) rfl rfl (by (try simp only [List.map_toArray,List.map_cons,List.map_nil]);first|done|rfl|(simp only [List.length_drop,List.length_take];rfl)) ?_
           with_reducible refine (spec_l12Sum.calls k2 _ _ t520 0 t523 _ ?side1 ?side2 A28.out).mono ?_
           (case side1=>repeat (first|exact (zN HO522.out).2.2|(with_reducible first|refine zG ?_ _|refine zH ?_ _|refine zI ?_)))
           (case side2=>exact (zN HO522.out).2.1)
           rintro e w' ⟨rfl,⟨nd,rfl⟩⟩
           refine ⟨_,rfl,?_⟩
           refine hK.out _ _ ⟨(blk_cell BK501.out 0).trans rfl,(blk_cell BK501.out 1).trans rfl,(blk_cell BK501.out 2).trans rfl,hHeld.2.2.2⟩ (fun hHeld=>?_)
           clear hK K;refine norm_ (a':=?_) ?_ ?_
           rotate_left
           ·show Act.put _ (some 41) _ = _
            simp only [Act.put,zT,zU,zV,i64_w,i32_w]
            rfl
           refine pure_ (i:=8) (N:=some 11) (v:=?_) (a':=?_) #[true,true,true,true,true,true,true,true,true] rfl rfl (any_of HT_.out (by kernel_rfl)) (fun _ _ _ h=>h) (Or.inl ⟨by rfl,?_⟩) ?_ ?_
           rotate_left
           ·intro w'
            go_simp
            with_reducible rfl
           rotate_left
           ·simp only [Act.put,zT,zU,zV,i64_w,i32_w]
            rfl
           refine done_ (done_of HT_.out (by kernel_rfl)) ?_
           have p524:0 ≤ (x10_2:Int):=of_decide_eq_true (by first|(with_reducible assumption)|assumption)
           have q524:x10_2 < (t513.length:Int):=of_decide_eq_true (by first|(with_reducible assumption)|assumption)
           obtain ⟨ad524,A524_0,c524_0,e524,hx524_0,hl524_0,hi524_0⟩:=at_L1 (Kd.N_reads' HO_7.out).2.2 x10_2 p524 q524;obtain rfl:ad519 = ad524:=(by injection e524)
           (try (obtain ⟨_,_,_,hj_⟩:=hHeld;have hj2_:=Option.some.inj (hj_.symm.trans hx524_0);injection hj2_ with hjA_ hjN_ hjC_;subst hjA_;subst hjC_))
           obtain ⟨ce524,hce524,hMe524,hcc524⟩:=Kd.N_get HO_7.out [] x10_2 p524 (by first|exact q524|exact of_decide_eq_true (by first|(with_reducible assumption)|assumption)|(have e_:=(Kd.N_reads' HO_7.out).1;omega))
           obtain ⟨ua524_0,uc524_0,rfl,ul524_0,ge524_0⟩:=Kd.FK_slice_open hMe524;have hv524_0:=hcc524 0 _ rfl;rw [Nat.add_zero,show ((Kd.slice 3 (Kd.int .i64))).sz = 1 from rfl,Nat.mul_one] at hv524_0
           replace hv524_0:=Option.some.inj (hv524_0.symm.trans hx524_0);injection hv524_0 with hva_ hvn_ hvc_;rw [hva_] at ge524_0;rw [hvc_] at ul524_0;have HL524_0:=zM (show Kd.V (Kd.int .i64) 3 _ w.heap.size _ _ (rd_L1 t513 x10_2) from Kd.V_mk ul524_0 ge524_0)
           clear hva_ hvn_ hvc_ ge524_0 ul524_0;clear hcc524 hce524;have HR524_0:=zM hi524_0;have HC524_0:=zM hl524_0;clear hi524_0 hl524_0;replace p524:=eq_true p524;replace q524:=eq_true q524;try go_wp2
           go_roundg k2
           case measure=>have:=HJ2.out;have:=HK2.out;omega
           case rel=>exact ⟨(rd_L1 t513 x10_2),(t523),(wrap64 (x10_2 + 1)),(by first|rfl|(simp;done)|(simp [*];done)),(by first|rfl|(simp;done)|(simp [*];done)),H',⟨by have:=HJ2.out;have:=HK2.out;omega⟩,⟨by (with_reducible repeat (first|apply Kd.N_alloc|apply Kd.N_drewN|apply Kd.N_drew));exact Kd.N_mono HO_7.out (fun _ hk=>⟨hk.1.1,hk.1.2⟩)⟩,⟨by (with_reducible repeat (first|apply Kd.V_alloc|apply Kd.V_drewN|apply Kd.V_drew));exact Kd.V_mono HL524_0.out (fun _ hk=>⟨hk.1.1.1,⟨hk.2,hk.1.1.2⟩⟩)⟩,⟨by (with_reducible repeat (first|refine zJ ?_ _|refine zK ?_|refine zL ?_ _));exact BK501.out⟩,⟨by repeat (first|(with_reducible first|exact HB.out|apply zD|apply zE|apply zF|refine below_set ?_ GE501.out)|exact HB.out)⟩⟩
          ·rw [if_neg c29] at H
           have c29b0:decide (x9_2 < 0) = false:=decide_eq_false c29
           clear c29;by_cases c34:t523 < x9_2
           ·rw [if_pos c34] at H
            have c34b0:decide (t523 < x9_2) = true:=decide_eq_true c34
            clear c34;have H':=zM H;clear H;obtain ⟨Ao35,co35,eo35⟩:=Kd.N_slice HO_7.out;subst eo35;try go_wp2
            have n0_:=zM (Kd.N_drew HO_7.out);have n1_:=zM (Kd.V_drew HO_8.out);have n2_:=zM (zK BK501.out);have n3_:=zM (zF HB.out);clear HO_7;clear HO_8;clear BK501;clear HB;have HO_7:=n0_;have HO_8:=n1_;have BK501:=n2_;have HB:=n3_;clear n0_ n1_ n2_ n3_;have p519:0 ≤ (x10_2:Int):=of_decide_eq_true (by first|(with_reducible assumption)|assumption)
            have q519:x10_2 < (t513.length:Int):=of_decide_eq_true (by first|(with_reducible assumption)|assumption)
            obtain ⟨ad519,A519_0,c519_0,e519,hx519_0,hl519_0,hi519_0⟩:=at_L1 (Kd.N_reads' HO_7.out).2.2 x10_2 p519 q519;cases e519
            obtain ⟨ce519,hce519,hMe519,hcc519⟩:=Kd.N_get HO_7.out [] x10_2 p519 (by first|exact q519|exact of_decide_eq_true (by first|(with_reducible assumption)|assumption)|(have e_:=(Kd.N_reads' HO_7.out).1;omega))
            obtain ⟨ua519_0,uc519_0,rfl,ul519_0,ge519_0⟩:=Kd.FK_slice_open hMe519;have hv519_0:=hcc519 0 _ rfl;rw [Nat.add_zero,show ((Kd.slice 3 (Kd.int .i64))).sz = 1 from rfl,Nat.mul_one] at hv519_0
            replace hv519_0:=Option.some.inj (hv519_0.symm.trans hx519_0);injection hv519_0 with hva_ hvn_ hvc_;rw [hva_] at ge519_0;rw [hvc_] at ul519_0;have HL519_0:=zM (show Kd.V (Kd.int .i64) 3 _ w.heap.size _ _ (rd_L1 t513 x10_2) from Kd.V_mk ul519_0 ge519_0)
            clear hva_ hvn_ hvc_ ge519_0 ul519_0;clear hcc519 hce519;have HR519_0:=zM hi519_0;have HC519_0:=zM hl519_0;clear hi519_0 hl519_0;replace p519:=eq_true p519;replace q519:=eq_true q519;refine start_ (n:=9) (S:=fun w'=>w'.cell? ⟨gb501,0,none⟩ = some (.int .i64 a1_0) ∧ w'.cell? ⟨gb501,1,none⟩ = some (.int .i64 a1_1) ∧ w'.cell? ⟨gb501,2,none⟩ = some (.int .i64 a1_2) ∧ w'.cell? (ad519.add (x10_2).toNat) = some (.slice A519_0 (rd_L1 t513 x10_2).length c519_0)) (ds:=[]) #[false,false,false,false,false,false,false,false,false] (by kernel_rfl) rfl rfl ⟨(blk_cell BK501.out 0).trans rfl,(blk_cell BK501.out 1).trans rfl,(blk_cell BK501.out 2).trans rfl,hx519_0⟩ (fun hHeld=>?_);refine with_tabW spec_LightestForce.tab8 spec_LightestForce.bits8 (fun HT_ HW_=>?_)
            generalize wr.drew = w36 at HO_7 HO_8 BK501 HB HL519_0 HR519_0 hx519_0 hHeld ⊢
            refine pure_ (i:=0) (N:=some 34) (v:=?_) (a':=?_) #[true,false,false,false,false,false,false,false,false] rfl rfl (any_of HT_.out (by kernel_rfl)) (fun _ _ _ h=>h) (Or.inl ⟨by rfl,?_⟩) ?_ ?_
            rotate_left
            ·intro w'
             go_simp
             with_reducible rfl
            rotate_left
            ·simp only [Act.put,zT,zU,zV,i64_w,i32_w]
             rfl
            refine pure_ (i:=1) (N:=some 35) (v:=?_) (a':=?_) #[true,true,false,false,false,false,false,false,false] rfl rfl (any_of HT_.out (by kernel_rfl)) (fun _ _ _ h=>h) (Or.inl ⟨by rfl,?_⟩) ?_ ?_
            rotate_left
            ·intro w'
             go_simp
             with_reducible rfl
            rotate_left
            ·simp only [Act.put,zT,zU,zV,i64_w,i32_w]
             rfl
            refine pure_ (i:=2) (N:=some 36) (v:=?_) (a':=?_) #[true,true,true,false,false,false,false,false,false] rfl rfl (any_of HT_.out (by kernel_rfl)) (fun _ _ _ h=>h) (Or.inl ⟨by rfl,?_⟩) ?_ ?_
            rotate_left
            ·intro w'
             go_simp
             with_reducible rfl
            rotate_left
            ·simp only [Act.put,zT,zU,zV,i64_w,i32_w]
             rfl
            refine pure_ (i:=4) (N:=some 38) (v:=?_) (a':=?_) #[true,true,true,false,true,false,false,false,false] rfl rfl (any_of HT_.out (by kernel_rfl)) (fun _ _ _ h=>h) (Or.inl ⟨by rfl,?_⟩) ?_ ?_
            rotate_left
            ·intro w'
             go_simp
             with_reducible rfl
            rotate_left
            ·simp only [Act.put,zT,zU,zV,i64_w,i32_w]
             rfl
            refine take_ (i:=3) (N:=some 37) (v:=?_) (a':=?_) #[true,true,true,true,true,false,false,false,false] rfl rfl (take_ofW HT_.out HW_.out (by kernel_rfl)) (fun _ _ _ h=>h) (Or.inl ⟨by rfl,?_⟩) hHeld ?_ ?_
            rotate_left
            ·rintro w' ⟨s0,s1,s2,s3⟩
             go_simp
             with_reducible rfl
            rotate_left
            ·simp only [Act.put,zT,zU,zV,i64_w,i32_w]
             rfl
            refine take_ (i:=5) (N:=some 39) (v:=?_) (a':=?_) #[true,true,true,true,true,true,false,false,false] rfl rfl (take_ofW HT_.out HW_.out (by kernel_rfl)) (fun _ _ _ h=>h) (Or.inl ⟨by rfl,?_⟩) hHeld ?_ ?_
            rotate_left
            ·rintro w' ⟨s0,s1,s2,s3⟩
             go_simp
             with_reducible rfl
            rotate_left
            ·simp only [Act.put,zT,zU,zV,i64_w,i32_w]
             rfl
            refine one_ (i:=6) (N:=some 40) #[true,true,true,true,true,true,true,false,false] rfl rfl (one_of HT_.out (by kernel_rfl)) (by decide) (fun K hK=>?_)
            refine goes_ Try.func46 (by kernel_rfl) rfl #[.slice A519_0 (rd_L1 t513 x10_2).length c519_0,.int .i64 a1_1] (by rfl) rfl rfl (by (try simp only [List.map_toArray,List.map_cons,List.map_nil]);first|done|rfl|(simp only [List.length_drop,List.length_take];rfl)) ?_
            with_reducible refine (spec_l12Forces.calls k2 _ _ (rd_L1 t513 x10_2) a1_1 t520 _ ?side1 ?side2 A27.out).mono ?_
            (case side1=>repeat (first|exact (by repeat (first|(with_reducible exact HR519_0.out)|(with_reducible first|refine zG ?_ _|refine zH ?_ _|refine zI ?_)|exact HR519_0.out))|(with_reducible first|refine zG ?_ _|refine zH ?_ _|refine zI ?_)))
            (case side2=>exact HC519_0.out)
            rintro e w37 ⟨v521,rfl,ho0,hb⟩
            have HS3_:=(hb.cell (World.block_lt_of_cell? _ _ (hHeld.2.2.2))).trans (hHeld.2.2.2);refine ⟨_,rfl,?_⟩
            have n0_:=zM (Kd.N_elder' (by (with_reducible repeat (first|apply Kd.N_alloc|apply Kd.N_drewN|apply Kd.N_drew));exact HO_7.out) (Kd.R_base ho0) hb)
            have n1_:=zM (Kd.V_elder' (by (with_reducible repeat (first|apply Kd.V_alloc|apply Kd.V_drewN|apply Kd.V_drew));exact HO_8.out) (Kd.R_base ho0) hb)
            have n2_:=zM (Kd.V_elder' (by (with_reducible repeat (first|apply Kd.V_alloc|apply Kd.V_drewN|apply Kd.V_drew));exact HL519_0.out) (Kd.R_base ho0) hb)
            have n3_:=zM (Kd.R_lower (Kd.R_newM (M:=fun k_=>(w.heap.size ≤ k_)) ho0 (zR (by repeat (first|(with_reducible first|exact HB.out|apply zD|apply zE|apply zF|refine below_set ?_ GE501.out)|exact HB.out))) (fun k_ h_=>h_)) (zR (by repeat (first|(with_reducible first|exact HB.out|apply zD|apply zE|apply zF|refine below_set ?_ GE501.out)|exact HB.out))))
            have n4_:=zM (blk_below (g:=gb501) (o := .cells #[.int .i64 a1_0,.int .i64 a1_1,.int .i64 a1_2] 28 (0,0)) (by (with_reducible repeat (first|refine zJ ?_ _|refine zK ?_|refine zL ?_ _));exact BK501.out) hb)
            have n5_:=zM (zO (by repeat (first|(with_reducible exact HR519_0.out)|(with_reducible first|refine zG ?_ _|refine zH ?_ _|refine zI ?_)|exact HR519_0.out)) hb)
            have n6_:=zM (zQ (by repeat (first|(with_reducible first|exact HB.out|apply zD|apply zE|apply zF|refine below_set ?_ GE501.out)|exact HB.out)) hb)
            clear HO_7;clear HO_8;clear HL519_0;clear BK501;clear HR519_0;clear HB;have HO_7:=n0_;have HO_8:=n1_;have HL519_0:=n2_;have HO522:=n3_;have BK501:=n4_;have HR519_0:=n5_;have HB:=n6_;clear n0_ n1_ n2_ n3_ n4_ n5_ n6_;(try clear hb)
            (try clear hb2)
            (try clear hk)
            (try clear hi)
            (try clear ho0)
            obtain ⟨Ao38,co38,eo38⟩:=Kd.R_slice HO522.out;(first|subst eo38|(injection eo38 with f1_ f2_ f3_;have f4_:=f1_.symm;have f5_:=f3_.symm;clear f1_ f2_ f3_;subst f4_;subst f5_))
            refine hK.out _ _ ⟨(blk_cell BK501.out 0).trans rfl,(blk_cell BK501.out 1).trans rfl,(blk_cell BK501.out 2).trans rfl,HS3_⟩ (fun hHeld=>?_)
            clear hK K;refine norm_ (a':=?_) ?_ ?_
            rotate_left
            ·show Act.put _ (some 40) _ = _
             simp only [Act.put,zT,zU,zV,i64_w,i32_w]
             rfl
            refine one_ (i:=7) (N:=some 41) #[true,true,true,true,true,true,true,true,false] rfl rfl (one_of HT_.out (by kernel_rfl)) (by decide) (fun K hK=>?_)
            refine goes_ Try.func51 (by kernel_rfl) rfl #[.slice Ao38 t520.length co38,.int .i64 0] (by rfl) rfl rfl (by (try simp only [List.map_toArray,List.map_cons,List.map_nil]);first|done|rfl|(simp only [List.length_drop,List.length_take];rfl)) ?_
            with_reducible refine (spec_l12Sum.calls k2 _ _ t520 0 t523 _ ?side1 ?side2 A28.out).mono ?_
            (case side1=>repeat (first|exact (zN HO522.out).2.2|(with_reducible first|refine zG ?_ _|refine zH ?_ _|refine zI ?_)))
            (case side2=>exact (zN HO522.out).2.1)
            rintro e w' ⟨rfl,⟨nd,rfl⟩⟩
            refine ⟨_,rfl,?_⟩
            refine hK.out _ _ ⟨(blk_cell BK501.out 0).trans rfl,(blk_cell BK501.out 1).trans rfl,(blk_cell BK501.out 2).trans rfl,hHeld.2.2.2⟩ (fun hHeld=>?_)
            clear hK K;refine norm_ (a':=?_) ?_ ?_
            rotate_left
            ·show Act.put _ (some 41) _ = _
             simp only [Act.put,zT,zU,zV,i64_w,i32_w]
             rfl
            refine pure_ (i:=8) (N:=some 11) (v:=?_) (a':=?_) #[true,true,true,true,true,true,true,true,true] rfl rfl (any_of HT_.out (by kernel_rfl)) (fun _ _ _ h=>h) (Or.inl ⟨by rfl,?_⟩) ?_ ?_
            rotate_left
            ·intro w'
             go_simp
             with_reducible rfl
            rotate_left
            ·simp only [Act.put,zT,zU,zV,i64_w,i32_w]
             rfl
            refine done_ (done_of HT_.out (by kernel_rfl)) ?_
            have p525:0 ≤ (x10_2:Int):=of_decide_eq_true (by first|(with_reducible assumption)|assumption)
            have q525:x10_2 < (t513.length:Int):=of_decide_eq_true (by first|(with_reducible assumption)|assumption)
            obtain ⟨ad525,A525_0,c525_0,e525,hx525_0,hl525_0,hi525_0⟩:=at_L1 (Kd.N_reads' HO_7.out).2.2 x10_2 p525 q525;obtain rfl:ad519 = ad525:=(by injection e525)
            (try (obtain ⟨_,_,_,hj_⟩:=hHeld;have hj2_:=Option.some.inj (hj_.symm.trans hx525_0);injection hj2_ with hjA_ hjN_ hjC_;subst hjA_;subst hjC_))
            obtain ⟨ce525,hce525,hMe525,hcc525⟩:=Kd.N_get HO_7.out [] x10_2 p525 (by first|exact q525|exact of_decide_eq_true (by first|(with_reducible assumption)|assumption)|(have e_:=(Kd.N_reads' HO_7.out).1;omega))
            obtain ⟨ua525_0,uc525_0,rfl,ul525_0,ge525_0⟩:=Kd.FK_slice_open hMe525;have hv525_0:=hcc525 0 _ rfl;rw [Nat.add_zero,show ((Kd.slice 3 (Kd.int .i64))).sz = 1 from rfl,Nat.mul_one] at hv525_0
            replace hv525_0:=Option.some.inj (hv525_0.symm.trans hx525_0);injection hv525_0 with hva_ hvn_ hvc_;rw [hva_] at ge525_0;rw [hvc_] at ul525_0;have HL525_0:=zM (show Kd.V (Kd.int .i64) 3 _ w.heap.size _ _ (rd_L1 t513 x10_2) from Kd.V_mk ul525_0 ge525_0)
            clear hva_ hvn_ hvc_ ge525_0 ul525_0;clear hcc525 hce525;have HR525_0:=zM hi525_0;have HC525_0:=zM hl525_0;clear hi525_0 hl525_0;replace p525:=eq_true p525;replace q525:=eq_true q525;try go_wp2
            go_roundg k2
            case measure=>have:=HJ2.out;have:=HK2.out;omega
            case rel=>exact ⟨(rd_L1 t513 x10_2),(t523),(wrap64 (x10_2 + 1)),(by first|rfl|(simp;done)|(simp [*];done)),(by first|rfl|(simp;done)|(simp [*];done)),H',⟨by have:=HJ2.out;have:=HK2.out;omega⟩,⟨by (with_reducible repeat (first|apply Kd.N_alloc|apply Kd.N_drewN|apply Kd.N_drew));exact Kd.N_mono HO_7.out (fun _ hk=>⟨hk.1.1,hk.1.2⟩)⟩,⟨by (with_reducible repeat (first|apply Kd.V_alloc|apply Kd.V_drewN|apply Kd.V_drew));exact Kd.V_mono HL525_0.out (fun _ hk=>⟨hk.1.1.1,⟨hk.2,hk.1.1.2⟩⟩)⟩,⟨by (with_reducible repeat (first|refine zJ ?_ _|refine zK ?_|refine zL ?_ _));exact BK501.out⟩,⟨by repeat (first|(with_reducible first|exact HB.out|apply zD|apply zE|apply zF|refine below_set ?_ GE501.out)|exact HB.out)⟩⟩
           ·rw [if_neg c34] at H
            have c34b0:decide (t523 < x9_2) = false:=decide_eq_false c34
            clear c34;by_cases c39:t523 = x9_2
            ·rw [if_pos c39] at H
             have c39b0:(t523 == x9_2) = true:=beq_iff_eq.mpr c39
             have c39b1:(t523 != x9_2) = false:=bne_eq_false_iff_eq.mpr c39
             clear c39;replace H:=Option.bind_eq_some_iff.mp H;obtain ⟨t527,A400,H⟩:=H;replace H:(if t527 = true then (spec_LightestForce.l0 k2 t513 (rd_L1 t513 x10_2) t523 (wrap64 (x10_2 + 1)) a1_0 a1_1 a1_2) else (spec_LightestForce.l0 k2 t513 x8_2 x9_2 (wrap64 (x10_2 + 1)) a1_0 a1_1 a1_2)) = some (r1,r2,r3):=H
             have A40:=zM A400;clear A400;by_cases c41:t527 = true
             ·subst c41
              have H1:(spec_LightestForce.l0 k2 t513 (rd_L1 t513 x10_2) t523 (wrap64 (x10_2 + 1)) a1_0 a1_1 a1_2) = some (r1,r2,r3):=by rw [if_pos rfl] at H;exact H
              clear H;have H:=H1;clear H1;have H':=zM H;clear H;obtain ⟨Ao42,co42,eo42⟩:=Kd.N_slice HO_7.out;subst eo42;try go_wp2
              have n0_:=zM (Kd.N_drew HO_7.out);have n1_:=zM (Kd.V_drew HO_8.out);have n2_:=zM (zK BK501.out);have n3_:=zM (zF HB.out);clear HO_7;clear HO_8;clear BK501;clear HB;have HO_7:=n0_;have HO_8:=n1_;have BK501:=n2_;have HB:=n3_;clear n0_ n1_ n2_ n3_;have p519:0 ≤ (x10_2:Int):=of_decide_eq_true (by first|(with_reducible assumption)|assumption)
              have q519:x10_2 < (t513.length:Int):=of_decide_eq_true (by first|(with_reducible assumption)|assumption)
              obtain ⟨ad519,A519_0,c519_0,e519,hx519_0,hl519_0,hi519_0⟩:=at_L1 (Kd.N_reads' HO_7.out).2.2 x10_2 p519 q519;cases e519
              obtain ⟨ce519,hce519,hMe519,hcc519⟩:=Kd.N_get HO_7.out [] x10_2 p519 (by first|exact q519|exact of_decide_eq_true (by first|(with_reducible assumption)|assumption)|(have e_:=(Kd.N_reads' HO_7.out).1;omega))
              obtain ⟨ua519_0,uc519_0,rfl,ul519_0,ge519_0⟩:=Kd.FK_slice_open hMe519;have hv519_0:=hcc519 0 _ rfl;rw [Nat.add_zero,show ((Kd.slice 3 (Kd.int .i64))).sz = 1 from rfl,Nat.mul_one] at hv519_0
              replace hv519_0:=Option.some.inj (hv519_0.symm.trans hx519_0);injection hv519_0 with hva_ hvn_ hvc_;rw [hva_] at ge519_0;rw [hvc_] at ul519_0;have HL519_0:=zM (show Kd.V (Kd.int .i64) 3 _ w.heap.size _ _ (rd_L1 t513 x10_2) from Kd.V_mk ul519_0 ge519_0)
              clear hva_ hvn_ hvc_ ge519_0 ul519_0;clear hcc519 hce519;have HR519_0:=zM hi519_0;have HC519_0:=zM hl519_0;clear hi519_0 hl519_0;replace p519:=eq_true p519;replace q519:=eq_true q519;refine start_ (n:=9) (S:=fun w'=>w'.cell? ⟨gb501,0,none⟩ = some (.int .i64 a1_0) ∧ w'.cell? ⟨gb501,1,none⟩ = some (.int .i64 a1_1) ∧ w'.cell? ⟨gb501,2,none⟩ = some (.int .i64 a1_2) ∧ w'.cell? (ad519.add (x10_2).toNat) = some (.slice A519_0 (rd_L1 t513 x10_2).length c519_0)) (ds:=[]) #[false,false,false,false,false,false,false,false,false] (by kernel_rfl) rfl rfl ⟨(blk_cell BK501.out 0).trans rfl,(blk_cell BK501.out 1).trans rfl,(blk_cell BK501.out 2).trans rfl,hx519_0⟩ (fun hHeld=>?_);refine with_tabW spec_LightestForce.tab8 spec_LightestForce.bits8 (fun HT_ HW_=>?_)
              generalize wr.drew = w43 at HO_7 HO_8 BK501 HB HL519_0 HR519_0 hx519_0 hHeld ⊢
              refine pure_ (i:=0) (N:=some 34) (v:=?_) (a':=?_) #[true,false,false,false,false,false,false,false,false] rfl rfl (any_of HT_.out (by kernel_rfl)) (fun _ _ _ h=>h) (Or.inl ⟨by rfl,?_⟩) ?_ ?_
              rotate_left
              ·intro w'
               go_simp
               with_reducible rfl
              rotate_left
              ·simp only [Act.put,zT,zU,zV,i64_w,i32_w]
               rfl
              refine pure_ (i:=1) (N:=some 35) (v:=?_) (a':=?_) #[true,true,false,false,false,false,false,false,false] rfl rfl (any_of HT_.out (by kernel_rfl)) (fun _ _ _ h=>h) (Or.inl ⟨by rfl,?_⟩) ?_ ?_
              rotate_left
              ·intro w'
               go_simp
               with_reducible rfl
              rotate_left
              ·simp only [Act.put,zT,zU,zV,i64_w,i32_w]
               rfl
              refine pure_ (i:=2) (N:=some 36) (v:=?_) (a':=?_) #[true,true,true,false,false,false,false,false,false] rfl rfl (any_of HT_.out (by kernel_rfl)) (fun _ _ _ h=>h) (Or.inl ⟨by rfl,?_⟩) ?_ ?_
              rotate_left
              ·intro w'
               go_simp
               with_reducible rfl
              rotate_left
              ·simp only [Act.put,zT,zU,zV,i64_w,i32_w]
               rfl
              refine pure_ (i:=4) (N:=some 38) (v:=?_) (a':=?_) #[true,true,true,false,true,false,false,false,false] rfl rfl (any_of HT_.out (by kernel_rfl)) (fun _ _ _ h=>h) (Or.inl ⟨by rfl,?_⟩) ?_ ?_
              rotate_left
              ·intro w'
               go_simp
               with_reducible rfl
              rotate_left
              ·simp only [Act.put,zT,zU,zV,i64_w,i32_w]
               rfl
              refine take_ (i:=3) (N:=some 37) (v:=?_) (a':=?_) #[true,true,true,true,true,false,false,false,false] rfl rfl (take_ofW HT_.out HW_.out (by kernel_rfl)) (fun _ _ _ h=>h) (Or.inl ⟨by rfl,?_⟩) hHeld ?_ ?_
              rotate_left
              ·rintro w' ⟨s0,s1,s2,s3⟩
               go_simp
               with_reducible rfl
              rotate_left
              ·simp only [Act.put,zT,zU,zV,i64_w,i32_w]
               rfl
              refine take_ (i:=5) (N:=some 39) (v:=?_) (a':=?_) #[true,true,true,true,true,true,false,false,false] rfl rfl (take_ofW HT_.out HW_.out (by kernel_rfl)) (fun _ _ _ h=>h) (Or.inl ⟨by rfl,?_⟩) hHeld ?_ ?_
              rotate_left
              ·rintro w' ⟨s0,s1,s2,s3⟩
               go_simp
               with_reducible rfl
              rotate_left
              ·simp only [Act.put,zT,zU,zV,i64_w,i32_w]
               rfl
              refine one_ (i:=6) (N:=some 40) #[true,true,true,true,true,true,true,false,false] rfl rfl (one_of HT_.out (by kernel_rfl)) (by decide) (fun K hK=>?_)
              refine goes_ Try.func46 (by kernel_rfl) rfl #[.slice A519_0 (rd_L1 t513 x10_2).length c519_0,.int .i64 a1_1] (by rfl) rfl rfl (by (try simp only [List.map_toArray,List.map_cons,List.map_nil]);first|done|rfl|(simp only [List.length_drop,List.length_take];rfl)) ?_
              with_reducible refine (spec_l12Forces.calls k2 _ _ (rd_L1 t513 x10_2) a1_1 t520 _ ?side1 ?side2 A27.out).mono ?_
              (case side1=>repeat (first|exact (by repeat (first|(with_reducible exact HR519_0.out)|(with_reducible first|refine zG ?_ _|refine zH ?_ _|refine zI ?_)|exact HR519_0.out))|(with_reducible first|refine zG ?_ _|refine zH ?_ _|refine zI ?_)))
              (case side2=>exact HC519_0.out)
              rintro e w44 ⟨v521,rfl,ho0,hb⟩
              have HS3_:=(hb.cell (World.block_lt_of_cell? _ _ (hHeld.2.2.2))).trans (hHeld.2.2.2);refine ⟨_,rfl,?_⟩
              have n0_:=zM (Kd.N_elder' (by (with_reducible repeat (first|apply Kd.N_alloc|apply Kd.N_drewN|apply Kd.N_drew));exact HO_7.out) (Kd.R_base ho0) hb)
              have n1_:=zM (Kd.V_elder' (by (with_reducible repeat (first|apply Kd.V_alloc|apply Kd.V_drewN|apply Kd.V_drew));exact HO_8.out) (Kd.R_base ho0) hb)
              have n2_:=zM (Kd.V_elder' (by (with_reducible repeat (first|apply Kd.V_alloc|apply Kd.V_drewN|apply Kd.V_drew));exact HL519_0.out) (Kd.R_base ho0) hb)
              have n3_:=zM (Kd.R_lower (Kd.R_newM (M:=fun k_=>(w.heap.size ≤ k_)) ho0 (zR (by repeat (first|(with_reducible first|exact HB.out|apply zD|apply zE|apply zF|refine below_set ?_ GE501.out)|exact HB.out))) (fun k_ h_=>h_)) (zR (by repeat (first|(with_reducible first|exact HB.out|apply zD|apply zE|apply zF|refine below_set ?_ GE501.out)|exact HB.out))))
              have n4_:=zM (blk_below (g:=gb501) (o := .cells #[.int .i64 a1_0,.int .i64 a1_1,.int .i64 a1_2] 28 (0,0)) (by (with_reducible repeat (first|refine zJ ?_ _|refine zK ?_|refine zL ?_ _));exact BK501.out) hb)
              have n5_:=zM (zO (by repeat (first|(with_reducible exact HR519_0.out)|(with_reducible first|refine zG ?_ _|refine zH ?_ _|refine zI ?_)|exact HR519_0.out)) hb)
              have n6_:=zM (zQ (by repeat (first|(with_reducible first|exact HB.out|apply zD|apply zE|apply zF|refine below_set ?_ GE501.out)|exact HB.out)) hb)
              clear HO_7;clear HO_8;clear HL519_0;clear BK501;clear HR519_0;clear HB;have HO_7:=n0_;have HO_8:=n1_;have HL519_0:=n2_;have HO522:=n3_;have BK501:=n4_;have HR519_0:=n5_;have HB:=n6_;clear n0_ n1_ n2_ n3_ n4_ n5_ n6_;(try clear hb)
              (try clear hb2)
              (try clear hk)
              (try clear hi)
              (try clear ho0)
              obtain ⟨Ao45,co45,eo45⟩:=Kd.R_slice HO522.out;(first|subst eo45|(injection eo45 with f1_ f2_ f3_;have f4_:=f1_.symm;have f5_:=f3_.symm;clear f1_ f2_ f3_;subst f4_;subst f5_))
              refine hK.out _ _ ⟨(blk_cell BK501.out 0).trans rfl,(blk_cell BK501.out 1).trans rfl,(blk_cell BK501.out 2).trans rfl,HS3_⟩ (fun hHeld=>?_)
              clear hK K;refine norm_ (a':=?_) ?_ ?_
              rotate_left
              ·show Act.put _ (some 40) _ = _
               simp only [Act.put,zT,zU,zV,i64_w,i32_w]
               rfl
              refine one_ (i:=7) (N:=some 41) #[true,true,true,true,true,true,true,true,false] rfl rfl (one_of HT_.out (by kernel_rfl)) (by decide) (fun K hK=>?_)
              refine goes_ Try.func51 (by kernel_rfl) rfl #[.slice Ao45 t520.length co45,.int .i64 0] (by rfl) rfl rfl (by (try simp only [List.map_toArray,List.map_cons,List.map_nil]);first|done|rfl|(simp only [List.length_drop,List.length_take];rfl)) ?_
              with_reducible refine (spec_l12Sum.calls k2 _ _ t520 0 t523 _ ?side1 ?side2 A28.out).mono ?_
              (case side1=>repeat (first|exact (zN HO522.out).2.2|(with_reducible first|refine zG ?_ _|refine zH ?_ _|refine zI ?_)))
              (case side2=>exact (zN HO522.out).2.1)
              rintro e w' ⟨rfl,⟨nd,rfl⟩⟩
              refine ⟨_,rfl,?_⟩
              refine hK.out _ _ ⟨(blk_cell BK501.out 0).trans rfl,(blk_cell BK501.out 1).trans rfl,(blk_cell BK501.out 2).trans rfl,hHeld.2.2.2⟩ (fun hHeld=>?_)
              clear hK K;refine norm_ (a':=?_) ?_ ?_
              rotate_left
              ·show Act.put _ (some 41) _ = _
               simp only [Act.put,zT,zU,zV,i64_w,i32_w]
               rfl
              refine pure_ (i:=8) (N:=some 11) (v:=?_) (a':=?_) #[true,true,true,true,true,true,true,true,true] rfl rfl (any_of HT_.out (by kernel_rfl)) (fun _ _ _ h=>h) (Or.inl ⟨by rfl,?_⟩) ?_ ?_
              rotate_left
              ·intro w'
               go_simp
               with_reducible rfl
              rotate_left
              ·simp only [Act.put,zT,zU,zV,i64_w,i32_w]
               rfl
              refine done_ (done_of HT_.out (by kernel_rfl)) ?_
              have p526:0 ≤ (x10_2:Int):=of_decide_eq_true (by first|(with_reducible assumption)|assumption)
              have q526:x10_2 < (t513.length:Int):=of_decide_eq_true (by first|(with_reducible assumption)|assumption)
              obtain ⟨ad526,A526_0,c526_0,e526,hx526_0,hl526_0,hi526_0⟩:=at_L1 (Kd.N_reads' HO_7.out).2.2 x10_2 p526 q526;obtain rfl:ad519 = ad526:=(by injection e526)
              (try (obtain ⟨_,_,_,hj_⟩:=hHeld;have hj2_:=Option.some.inj (hj_.symm.trans hx526_0);injection hj2_ with hjA_ hjN_ hjC_;subst hjA_;subst hjC_))
              obtain ⟨ce526,hce526,hMe526,hcc526⟩:=Kd.N_get HO_7.out [] x10_2 p526 (by first|exact q526|exact of_decide_eq_true (by first|(with_reducible assumption)|assumption)|(have e_:=(Kd.N_reads' HO_7.out).1;omega))
              obtain ⟨ua526_0,uc526_0,rfl,ul526_0,ge526_0⟩:=Kd.FK_slice_open hMe526;have hv526_0:=hcc526 0 _ rfl;rw [Nat.add_zero,show ((Kd.slice 3 (Kd.int .i64))).sz = 1 from rfl,Nat.mul_one] at hv526_0
              replace hv526_0:=Option.some.inj (hv526_0.symm.trans hx526_0);injection hv526_0 with hva_ hvn_ hvc_;rw [hva_] at ge526_0;rw [hvc_] at ul526_0;have HL526_0:=zM (show Kd.V (Kd.int .i64) 3 _ w.heap.size _ _ (rd_L1 t513 x10_2) from Kd.V_mk ul526_0 ge526_0)
              clear hva_ hvn_ hvc_ ge526_0 ul526_0;clear hcc526 hce526;have HR526_0:=zM hi526_0;have HC526_0:=zM hl526_0;clear hi526_0 hl526_0;replace p526:=eq_true p526;replace q526:=eq_true q526;obtain ⟨Ao46,co46,eo46⟩:=Kd.V_slice HO_8.out;subst eo46;try go_wp2_with (first|(go_at_call 64;(with_reducible refine (spec_l12Before.calls k2 _ _ (rd_L1 t513 x10_2) _ _ x8_2 true _ ?side1 ?side2 ?side3 ?side4 A40.out).mono ?_);(case side1=>repeat (first|exact (by repeat (first|(with_reducible exact HR526_0.out)|(with_reducible first|refine zG ?_ _|refine zH ?_ _|refine zI ?_)|exact HR526_0.out))|(with_reducible first|refine zG ?_ _|refine zH ?_ _|refine zI ?_)));(case side2=>exact HC526_0.out);(case side3=>repeat (first|exact (Kd.V_reads' HO_8.out).2.2|(with_reducible first|refine zG ?_ _|refine zH ?_ _|refine zI ?_)));(case side4=>exact (Kd.V_reads' HO_8.out).2.1);rintro e w' ⟨rfl,⟨nd,rfl⟩⟩;have p528:0 ≤ (x10_2:Int):=of_decide_eq_true (by first|(with_reducible assumption)|assumption);have q528:x10_2 < (t513.length:Int):=of_decide_eq_true (by first|(with_reducible assumption)|assumption);obtain ⟨ad528,A528_0,c528_0,e528,hx528_0,hl528_0,hi528_0⟩:=at_L1 (Kd.N_reads' HO_7.out).2.2 x10_2 p528 q528;obtain rfl:ad519 = ad528:=(by injection e528);obtain ⟨ce528,hce528,hMe528,hcc528⟩:=Kd.N_get HO_7.out [] x10_2 p528 (by first|exact q528|exact of_decide_eq_true (by first|(with_reducible assumption)|assumption)|(have e_:=(Kd.N_reads' HO_7.out).1;omega));obtain ⟨ua528_0,uc528_0,rfl,ul528_0,ge528_0⟩:=Kd.FK_slice_open hMe528;have hv528_0:=hcc528 0 _ rfl;rw [Nat.add_zero,show ((Kd.slice 3 (Kd.int .i64))).sz = 1 from rfl,Nat.mul_one] at hv528_0;replace hv528_0:=Option.some.inj (hv528_0.symm.trans hx528_0);injection hv528_0 with hva_ hvn_ hvc_;rw [hva_] at ge528_0;rw [hvc_] at ul528_0;have HL528_0:=zM (show Kd.V (Kd.int .i64) 3 _ w.heap.size _ _ (rd_L1 t513 x10_2) from Kd.V_mk ul528_0 ge528_0);clear hva_ hvn_ hvc_ ge528_0 ul528_0;clear hcc528 hce528;have HR528_0:=zM hi528_0;have HC528_0:=zM hl528_0;clear hi528_0 hl528_0;replace p528:=eq_true p528;replace q528:=eq_true q528;have ea_:=Option.some.inj (hx526_0.symm.trans hx528_0);injection ea_ with ea_ en_ ec_;subst ea_;subst ec_;clear en_))
              go_roundg k2
              case measure=>have:=HJ2.out;have:=HK2.out;omega
              case rel=>exact ⟨(rd_L1 t513 x10_2),(t523),(wrap64 (x10_2 + 1)),(by first|rfl|(simp;done)|(simp [*];done)),(by first|rfl|(simp;done)|(simp [*];done)),H',⟨by have:=HJ2.out;have:=HK2.out;omega⟩,⟨by (with_reducible repeat (first|apply Kd.N_alloc|apply Kd.N_drewN|apply Kd.N_drew));exact Kd.N_mono HO_7.out (fun _ hk=>⟨hk.1.1,hk.1.2⟩)⟩,⟨by (with_reducible repeat (first|apply Kd.V_alloc|apply Kd.V_drewN|apply Kd.V_drew));exact Kd.V_mono HL528_0.out (fun _ hk=>⟨hk.1.1.1,⟨hk.2,hk.1.1.2⟩⟩)⟩,⟨by (with_reducible repeat (first|refine zJ ?_ _|refine zK ?_|refine zL ?_ _));exact BK501.out⟩,⟨by repeat (first|(with_reducible first|exact HB.out|apply zD|apply zE|apply zF|refine below_set ?_ GE501.out)|exact HB.out)⟩⟩
             ·replace c41:=Bool.eq_false_iff.mpr c41
              subst c41;have H1:(spec_LightestForce.l0 k2 t513 x8_2 x9_2 (wrap64 (x10_2 + 1)) a1_0 a1_1 a1_2) = some (r1,r2,r3):=by rw [if_neg (show ¬ (false = true) by decide)] at H;exact H
              clear H;have H:=H1;clear H1;have H':=zM H;clear H;obtain ⟨Ao47,co47,eo47⟩:=Kd.N_slice HO_7.out;subst eo47;try go_wp2
              have n0_:=zM (Kd.N_drew HO_7.out);have n1_:=zM (Kd.V_drew HO_8.out);have n2_:=zM (zK BK501.out);have n3_:=zM (zF HB.out);clear HO_7;clear HO_8;clear BK501;clear HB;have HO_7:=n0_;have HO_8:=n1_;have BK501:=n2_;have HB:=n3_;clear n0_ n1_ n2_ n3_;have p519:0 ≤ (x10_2:Int):=of_decide_eq_true (by first|(with_reducible assumption)|assumption)
              have q519:x10_2 < (t513.length:Int):=of_decide_eq_true (by first|(with_reducible assumption)|assumption)
              obtain ⟨ad519,A519_0,c519_0,e519,hx519_0,hl519_0,hi519_0⟩:=at_L1 (Kd.N_reads' HO_7.out).2.2 x10_2 p519 q519;cases e519
              obtain ⟨ce519,hce519,hMe519,hcc519⟩:=Kd.N_get HO_7.out [] x10_2 p519 (by first|exact q519|exact of_decide_eq_true (by first|(with_reducible assumption)|assumption)|(have e_:=(Kd.N_reads' HO_7.out).1;omega))
              obtain ⟨ua519_0,uc519_0,rfl,ul519_0,ge519_0⟩:=Kd.FK_slice_open hMe519;have hv519_0:=hcc519 0 _ rfl;rw [Nat.add_zero,show ((Kd.slice 3 (Kd.int .i64))).sz = 1 from rfl,Nat.mul_one] at hv519_0
              replace hv519_0:=Option.some.inj (hv519_0.symm.trans hx519_0);injection hv519_0 with hva_ hvn_ hvc_;rw [hva_] at ge519_0;rw [hvc_] at ul519_0;have HL519_0:=zM (show Kd.V (Kd.int .i64) 3 _ w.heap.size _ _ (rd_L1 t513 x10_2) from Kd.V_mk ul519_0 ge519_0)
              clear hva_ hvn_ hvc_ ge519_0 ul519_0;clear hcc519 hce519;have HR519_0:=zM hi519_0;have HC519_0:=zM hl519_0;clear hi519_0 hl519_0;replace p519:=eq_true p519;replace q519:=eq_true q519;refine start_ (n:=9) (S:=fun w'=>w'.cell? ⟨gb501,0,none⟩ = some (.int .i64 a1_0) ∧ w'.cell? ⟨gb501,1,none⟩ = some (.int .i64 a1_1) ∧ w'.cell? ⟨gb501,2,none⟩ = some (.int .i64 a1_2) ∧ w'.cell? (ad519.add (x10_2).toNat) = some (.slice A519_0 (rd_L1 t513 x10_2).length c519_0)) (ds:=[]) #[false,false,false,false,false,false,false,false,false] (by kernel_rfl) rfl rfl ⟨(blk_cell BK501.out 0).trans rfl,(blk_cell BK501.out 1).trans rfl,(blk_cell BK501.out 2).trans rfl,hx519_0⟩ (fun hHeld=>?_);refine with_tabW spec_LightestForce.tab8 spec_LightestForce.bits8 (fun HT_ HW_=>?_)
              generalize wr.drew = w48 at HO_7 HO_8 BK501 HB HL519_0 HR519_0 hx519_0 hHeld ⊢
              refine pure_ (i:=0) (N:=some 34) (v:=?_) (a':=?_) #[true,false,false,false,false,false,false,false,false] rfl rfl (any_of HT_.out (by kernel_rfl)) (fun _ _ _ h=>h) (Or.inl ⟨by rfl,?_⟩) ?_ ?_
              rotate_left
              ·intro w'
               go_simp
               with_reducible rfl
              rotate_left
              ·simp only [Act.put,zT,zU,zV,i64_w,i32_w]
               rfl
              refine pure_ (i:=1) (N:=some 35) (v:=?_) (a':=?_) #[true,true,false,false,false,false,false,false,false] rfl rfl (any_of HT_.out (by kernel_rfl)) (fun _ _ _ h=>h) (Or.inl ⟨by rfl,?_⟩) ?_ ?_
              rotate_left
              ·intro w'
               go_simp
               with_reducible rfl
              rotate_left
              ·simp only [Act.put,zT,zU,zV,i64_w,i32_w]
               rfl
              refine pure_ (i:=2) (N:=some 36) (v:=?_) (a':=?_) #[true,true,true,false,false,false,false,false,false] rfl rfl (any_of HT_.out (by kernel_rfl)) (fun _ _ _ h=>h) (Or.inl ⟨by rfl,?_⟩) ?_ ?_
              rotate_left
              ·intro w'
               go_simp
               with_reducible rfl
              rotate_left
              ·simp only [Act.put,zT,zU,zV,i64_w,i32_w]
               rfl
              refine pure_ (i:=4) (N:=some 38) (v:=?_) (a':=?_) #[true,true,true,false,true,false,false,false,false] rfl rfl (any_of HT_.out (by kernel_rfl)) (fun _ _ _ h=>h) (Or.inl ⟨by rfl,?_⟩) ?_ ?_
              rotate_left
              ·intro w'
               go_simp
               with_reducible rfl
              rotate_left
              ·simp only [Act.put,zT,zU,zV,i64_w,i32_w]
               rfl
              refine take_ (i:=3) (N:=some 37) (v:=?_) (a':=?_) #[true,true,true,true,true,false,false,false,false] rfl rfl (take_ofW HT_.out HW_.out (by kernel_rfl)) (fun _ _ _ h=>h) (Or.inl ⟨by rfl,?_⟩) hHeld ?_ ?_
              rotate_left
              ·rintro w' ⟨s0,s1,s2,s3⟩
               go_simp
               with_reducible rfl
              rotate_left
              ·simp only [Act.put,zT,zU,zV,i64_w,i32_w]
               rfl
              refine take_ (i:=5) (N:=some 39) (v:=?_) (a':=?_) #[true,true,true,true,true,true,false,false,false] rfl rfl (take_ofW HT_.out HW_.out (by kernel_rfl)) (fun _ _ _ h=>h) (Or.inl ⟨by rfl,?_⟩) hHeld ?_ ?_
              rotate_left
              ·rintro w' ⟨s0,s1,s2,s3⟩
               go_simp
               with_reducible rfl
              rotate_left
              ·simp only [Act.put,zT,zU,zV,i64_w,i32_w]
               rfl
              refine one_ (i:=6) (N:=some 40) #[true,true,true,true,true,true,true,false,false] rfl rfl (one_of HT_.out (by kernel_rfl)) (by decide) (fun K hK=>?_)
              refine goes_ Try.func46 (by kernel_rfl) rfl #[.slice A519_0 (rd_L1 t513 x10_2).length c519_0,.int .i64 a1_1] (by rfl) rfl rfl (by (try simp only [List.map_toArray,List.map_cons,List.map_nil]);first|done|rfl|(simp only [List.length_drop,List.length_take];rfl)) ?_
              with_reducible refine (spec_l12Forces.calls k2 _ _ (rd_L1 t513 x10_2) a1_1 t520 _ ?side1 ?side2 A27.out).mono ?_
              (case side1=>repeat (first|exact (by repeat (first|(with_reducible exact HR519_0.out)|(with_reducible first|refine zG ?_ _|refine zH ?_ _|refine zI ?_)|exact HR519_0.out))|(with_reducible first|refine zG ?_ _|refine zH ?_ _|refine zI ?_)))
              (case side2=>exact HC519_0.out)
              rintro e w49 ⟨v521,rfl,ho0,hb⟩
              have HS3_:=(hb.cell (World.block_lt_of_cell? _ _ (hHeld.2.2.2))).trans (hHeld.2.2.2);refine ⟨_,rfl,?_⟩
              have n0_:=zM (Kd.N_elder' (by (with_reducible repeat (first|apply Kd.N_alloc|apply Kd.N_drewN|apply Kd.N_drew));exact HO_7.out) (Kd.R_base ho0) hb)
              have n1_:=zM (Kd.V_elder' (by (with_reducible repeat (first|apply Kd.V_alloc|apply Kd.V_drewN|apply Kd.V_drew));exact HO_8.out) (Kd.R_base ho0) hb)
              have n2_:=zM (Kd.V_elder' (by (with_reducible repeat (first|apply Kd.V_alloc|apply Kd.V_drewN|apply Kd.V_drew));exact HL519_0.out) (Kd.R_base ho0) hb)
              have n3_:=zM (Kd.R_lower (Kd.R_newM (M:=fun k_=>(w.heap.size ≤ k_)) ho0 (zR (by repeat (first|(with_reducible first|exact HB.out|apply zD|apply zE|apply zF|refine below_set ?_ GE501.out)|exact HB.out))) (fun k_ h_=>h_)) (zR (by repeat (first|(with_reducible first|exact HB.out|apply zD|apply zE|apply zF|refine below_set ?_ GE501.out)|exact HB.out))))
              have n4_:=zM (blk_below (g:=gb501) (o := .cells #[.int .i64 a1_0,.int .i64 a1_1,.int .i64 a1_2] 28 (0,0)) (by (with_reducible repeat (first|refine zJ ?_ _|refine zK ?_|refine zL ?_ _));exact BK501.out) hb)
              have n5_:=zM (zO (by repeat (first|(with_reducible exact HR519_0.out)|(with_reducible first|refine zG ?_ _|refine zH ?_ _|refine zI ?_)|exact HR519_0.out)) hb)
              have n6_:=zM (zQ (by repeat (first|(with_reducible first|exact HB.out|apply zD|apply zE|apply zF|refine below_set ?_ GE501.out)|exact HB.out)) hb)
              clear HO_7;clear HO_8;clear HL519_0;clear BK501;clear HR519_0;clear HB;have HO_7:=n0_;have HO_8:=n1_;have HL519_0:=n2_;have HO522:=n3_;have BK501:=n4_;have HR519_0:=n5_;have HB:=n6_;clear n0_ n1_ n2_ n3_ n4_ n5_ n6_;(try clear hb)
              (try clear hb2)
              (try clear hk)
              (try clear hi)
              (try clear ho0)
              obtain ⟨Ao50,co50,eo50⟩:=Kd.R_slice HO522.out;(first|subst eo50|(injection eo50 with f1_ f2_ f3_;have f4_:=f1_.symm;have f5_:=f3_.symm;clear f1_ f2_ f3_;subst f4_;subst f5_))
              refine hK.out _ _ ⟨(blk_cell BK501.out 0).trans rfl,(blk_cell BK501.out 1).trans rfl,(blk_cell BK501.out 2).trans rfl,HS3_⟩ (fun hHeld=>?_)
              clear hK K;refine norm_ (a':=?_) ?_ ?_
              rotate_left
              ·show Act.put _ (some 40) _ = _
               simp only [Act.put,zT,zU,zV,i64_w,i32_w]
               rfl
              refine one_ (i:=7) (N:=some 41) #[true,true,true,true,true,true,true,true,false] rfl rfl (one_of HT_.out (by kernel_rfl)) (by decide) (fun K hK=>?_)
              refine goes_ Try.func51 (by kernel_rfl) rfl #[.slice Ao50 t520.length co50,.int .i64 0] (by rfl) rfl rfl (by (try simp only [List.map_toArray,List.map_cons,List.map_nil]);first|done|rfl|(simp only [List.length_drop,List.length_take];rfl)) ?_
              with_reducible refine (spec_l12Sum.calls k2 _ _ t520 0 t523 _ ?side1 ?side2 A28.out).mono ?_
              (case side1=>repeat (first|exact (zN HO522.out).2.2|(with_reducible first|refine zG ?_ _|refine zH ?_ _|refine zI ?_)))
              (case side2=>exact (zN HO522.out).2.1)
              rintro e w' ⟨rfl,⟨nd,rfl⟩⟩
              refine ⟨_,rfl,?_⟩
              refine hK.out _ _ ⟨(blk_cell BK501.out 0).trans rfl,(blk_cell BK501.out 1).trans rfl,(blk_cell BK501.out 2).trans rfl,hHeld.2.2.2⟩ (fun hHeld=>?_)
              clear hK K;refine norm_ (a':=?_) ?_ ?_
              rotate_left
              ·show Act.put _ (some 41) _ = _
               simp only [Act.put,zT,zU,zV,i64_w,i32_w]
               rfl
              refine pure_ (i:=8) (N:=some 11) (v:=?_) (a':=?_) #[true,true,true,true,true,true,true,true,true] rfl rfl (any_of HT_.out (by kernel_rfl)) (fun _ _ _ h=>h) (Or.inl ⟨by rfl,?_⟩) ?_ ?_
              rotate_left
              ·intro w'
               go_simp
               with_reducible rfl
              rotate_left
              ·simp only [Act.put,zT,zU,zV,i64_w,i32_w]
               rfl
              refine done_ (done_of HT_.out (by kernel_rfl)) ?_
              have p526:0 ≤ (x10_2:Int):=of_decide_eq_true (by first|(with_reducible assumption)|assumption)
              have q526:x10_2 < (t513.length:Int):=of_decide_eq_true (by first|(with_reducible assumption)|assumption)
              obtain ⟨ad526,A526_0,c526_0,e526,hx526_0,hl526_0,hi526_0⟩:=at_L1 (Kd.N_reads' HO_7.out).2.2 x10_2 p526 q526;obtain rfl:ad519 = ad526:=(by injection e526)
              (try (obtain ⟨_,_,_,hj_⟩:=hHeld;have hj2_:=Option.some.inj (hj_.symm.trans hx526_0);injection hj2_ with hjA_ hjN_ hjC_;subst hjA_;subst hjC_))
              obtain ⟨ce526,hce526,hMe526,hcc526⟩:=Kd.N_get HO_7.out [] x10_2 p526 (by first|exact q526|exact of_decide_eq_true (by first|(with_reducible assumption)|assumption)|(have e_:=(Kd.N_reads' HO_7.out).1;omega))
              obtain ⟨ua526_0,uc526_0,rfl,ul526_0,ge526_0⟩:=Kd.FK_slice_open hMe526;have hv526_0:=hcc526 0 _ rfl;rw [Nat.add_zero,show ((Kd.slice 3 (Kd.int .i64))).sz = 1 from rfl,Nat.mul_one] at hv526_0
              replace hv526_0:=Option.some.inj (hv526_0.symm.trans hx526_0);injection hv526_0 with hva_ hvn_ hvc_;rw [hva_] at ge526_0;rw [hvc_] at ul526_0;have HL526_0:=zM (show Kd.V (Kd.int .i64) 3 _ w.heap.size _ _ (rd_L1 t513 x10_2) from Kd.V_mk ul526_0 ge526_0)
              clear hva_ hvn_ hvc_ ge526_0 ul526_0;clear hcc526 hce526;have HR526_0:=zM hi526_0;have HC526_0:=zM hl526_0;clear hi526_0 hl526_0;replace p526:=eq_true p526;replace q526:=eq_true q526;obtain ⟨Ao51,co51,eo51⟩:=Kd.V_slice HO_8.out;subst eo51;try go_wp2_with (first|(go_at_call 64;(with_reducible refine (spec_l12Before.calls k2 _ _ (rd_L1 t513 x10_2) _ _ x8_2 false _ ?side1 ?side2 ?side3 ?side4 A40.out).mono ?_);(case side1=>repeat (first|exact (by repeat (first|(with_reducible exact HR526_0.out)|(with_reducible first|refine zG ?_ _|refine zH ?_ _|refine zI ?_)|exact HR526_0.out))|(with_reducible first|refine zG ?_ _|refine zH ?_ _|refine zI ?_)));(case side2=>exact HC526_0.out);(case side3=>repeat (first|exact (Kd.V_reads' HO_8.out).2.2|(with_reducible first|refine zG ?_ _|refine zH ?_ _|refine zI ?_)));(case side4=>exact (Kd.V_reads' HO_8.out).2.1);rintro e w' ⟨rfl,⟨nd,rfl⟩⟩))
              go_roundg k2
              case measure=>have:=HJ2.out;have:=HK2.out;omega
              case rel=>exact ⟨(x8_2),(x9_2),(wrap64 (x10_2 + 1)),(by first|rfl|(simp;done)|(simp [*];done)),(by first|rfl|(simp;done)|(simp [*];done)),H',⟨by have:=HJ2.out;have:=HK2.out;omega⟩,⟨by (with_reducible repeat (first|apply Kd.N_alloc|apply Kd.N_drewN|apply Kd.N_drew));exact Kd.N_mono HO_7.out (fun _ hk=>⟨hk.1.1,hk.1.2⟩)⟩,⟨by (with_reducible repeat (first|apply Kd.V_alloc|apply Kd.V_drewN|apply Kd.V_drew));exact Kd.V_mono HO_8.out (fun _ hk=>⟨hk.1.1,⟨hk.1.2.1,hk.1.2.2⟩⟩)⟩,⟨by (with_reducible repeat (first|refine zJ ?_ _|refine zK ?_|refine zL ?_ _));exact BK501.out⟩,⟨by repeat (first|(with_reducible first|exact HB.out|apply zD|apply zE|apply zF|refine below_set ?_ GE501.out)|exact HB.out)⟩⟩
            ·rw [if_neg c39] at H
             have c39b0:(t523 == x9_2) = false:=beq_eq_false_iff_ne.mpr c39
             have c39b1:(t523 != x9_2) = true:=bne_iff_ne.mpr c39
             have H':=zM H;clear H;obtain ⟨Ao52,co52,eo52⟩:=Kd.N_slice HO_7.out;subst eo52;try go_wp2
             have n0_:=zM (Kd.N_drew HO_7.out);have n1_:=zM (Kd.V_drew HO_8.out);have n2_:=zM (zK BK501.out);have n3_:=zM (zF HB.out);clear HO_7;clear HO_8;clear BK501;clear HB;have HO_7:=n0_;have HO_8:=n1_;have BK501:=n2_;have HB:=n3_;clear n0_ n1_ n2_ n3_;have p519:0 ≤ (x10_2:Int):=of_decide_eq_true (by first|(with_reducible assumption)|assumption)
             have q519:x10_2 < (t513.length:Int):=of_decide_eq_true (by first|(with_reducible assumption)|assumption)
             obtain ⟨ad519,A519_0,c519_0,e519,hx519_0,hl519_0,hi519_0⟩:=at_L1 (Kd.N_reads' HO_7.out).2.2 x10_2 p519 q519;cases e519
             obtain ⟨ce519,hce519,hMe519,hcc519⟩:=Kd.N_get HO_7.out [] x10_2 p519 (by first|exact q519|exact of_decide_eq_true (by first|(with_reducible assumption)|assumption)|(have e_:=(Kd.N_reads' HO_7.out).1;omega))
             obtain ⟨ua519_0,uc519_0,rfl,ul519_0,ge519_0⟩:=Kd.FK_slice_open hMe519;have hv519_0:=hcc519 0 _ rfl;rw [Nat.add_zero,show ((Kd.slice 3 (Kd.int .i64))).sz = 1 from rfl,Nat.mul_one] at hv519_0
             replace hv519_0:=Option.some.inj (hv519_0.symm.trans hx519_0);injection hv519_0 with hva_ hvn_ hvc_;rw [hva_] at ge519_0;rw [hvc_] at ul519_0;have HL519_0:=zM (show Kd.V (Kd.int .i64) 3 _ w.heap.size _ _ (rd_L1 t513 x10_2) from Kd.V_mk ul519_0 ge519_0)
             clear hva_ hvn_ hvc_ ge519_0 ul519_0;clear hcc519 hce519;have HR519_0:=zM hi519_0;have HC519_0:=zM hl519_0;clear hi519_0 hl519_0;replace p519:=eq_true p519;replace q519:=eq_true q519;refine start_ (n:=9) (S:=fun w'=>w'.cell? ⟨gb501,0,none⟩ = some (.int .i64 a1_0) ∧ w'.cell? ⟨gb501,1,none⟩ = some (.int .i64 a1_1) ∧ w'.cell? ⟨gb501,2,none⟩ = some (.int .i64 a1_2) ∧ w'.cell? (ad519.add (x10_2).toNat) = some (.slice A519_0 (rd_L1 t513 x10_2).length c519_0)) (ds:=[]) #[false,false,false,false,false,false,false,false,false] (by kernel_rfl) rfl rfl ⟨(blk_cell BK501.out 0).trans rfl,(blk_cell BK501.out 1).trans rfl,(blk_cell BK501.out 2).trans rfl,hx519_0⟩ (fun hHeld=>?_);refine with_tabW spec_LightestForce.tab8 spec_LightestForce.bits8 (fun HT_ HW_=>?_)
             generalize wr.drew = w53 at HO_7 HO_8 BK501 HB HL519_0 HR519_0 hx519_0 hHeld ⊢
             refine pure_ (i:=0) (N:=some 34) (v:=?_) (a':=?_) #[true,false,false,false,false,false,false,false,false] rfl rfl (any_of HT_.out (by kernel_rfl)) (fun _ _ _ h=>h) (Or.inl ⟨by rfl,?_⟩) ?_ ?_
             rotate_left
             ·intro w'
              go_simp
              with_reducible rfl
             rotate_left
             ·simp only [Act.put,zT,zU,zV,i64_w,i32_w]
              rfl
             refine pure_ (i:=1) (N:=some 35) (v:=?_) (a':=?_) #[true,true,false,false,false,false,false,false,false] rfl rfl (any_of HT_.out (by kernel_rfl)) (fun _ _ _ h=>h) (Or.inl ⟨by rfl,?_⟩) ?_ ?_
             rotate_left
             ·intro w'
              go_simp
              with_reducible rfl
             rotate_left
             ·simp only [Act.put,zT,zU,zV,i64_w,i32_w]
              rfl
             refine pure_ (i:=2) (N:=some 36) (v:=?_) (a':=?_) #[true,true,true,false,false,false,false,false,false] rfl rfl (any_of HT_.out (by kernel_rfl)) (fun _ _ _ h=>h) (Or.inl ⟨by rfl,?_⟩) ?_ ?_
             rotate_left
             ·intro w'
              go_simp
              with_reducible rfl
             rotate_left
             ·simp only [Act.put,zT,zU,zV,i64_w,i32_w]
              rfl
             refine pure_ (i:=4) (N:=some 38) (v:=?_) (a':=?_) #[true,true,true,false,true,false,false,false,false] rfl rfl (any_of HT_.out (by kernel_rfl)) (fun _ _ _ h=>h) (Or.inl ⟨by rfl,?_⟩) ?_ ?_
             rotate_left
             ·intro w'
              go_simp
              with_reducible rfl
             rotate_left
             ·simp only [Act.put,zT,zU,zV,i64_w,i32_w]
              rfl
             refine take_ (i:=3) (N:=some 37) (v:=?_) (a':=?_) #[true,true,true,true,true,false,false,false,false] rfl rfl (take_ofW HT_.out HW_.out (by kernel_rfl)) (fun _ _ _ h=>h) (Or.inl ⟨by rfl,?_⟩) hHeld ?_ ?_
             rotate_left
             ·rintro w' ⟨s0,s1,s2,s3⟩
              go_simp
              with_reducible rfl
             rotate_left
             ·simp only [Act.put,zT,zU,zV,i64_w,i32_w]
              rfl
             refine take_ (i:=5) (N:=some 39) (v:=?_) (a':=?_) #[true,true,true,true,true,true,false,false,false] rfl rfl (take_ofW HT_.out HW_.out (by kernel_rfl)) (fun _ _ _ h=>h) (Or.inl ⟨by rfl,?_⟩) hHeld ?_ ?_
             rotate_left
             ·rintro w' ⟨s0,s1,s2,s3⟩
              go_simp
              with_reducible rfl
             rotate_left
             ·simp only [Act.put,zT,zU,zV,i64_w,i32_w]
              rfl
             refine one_ (i:=6) (N:=some 40) #[true,true,true,true,true,true,true,false,false] rfl rfl (one_of HT_.out (by kernel_rfl)) (by decide) (fun K hK=>?_)
             refine goes_ Try.func46 (by kernel_rfl) rfl #[.slice A519_0 (rd_L1 t513 x10_2).length c519_0,.int .i64 a1_1] (by rfl) rfl rfl (by (try simp only [List.map_toArray,List.map_cons,List.map_nil]);first|done|rfl|(simp only [List.length_drop,List.length_take];rfl)) ?_
             with_reducible refine (spec_l12Forces.calls k2 _ _ (rd_L1 t513 x10_2) a1_1 t520 _ ?side1 ?side2 A27.out).mono ?_
             (case side1=>repeat (first|exact (by repeat (first|(with_reducible exact HR519_0.out)|(with_reducible first|refine zG ?_ _|refine zH ?_ _|refine zI ?_)|exact HR519_0.out))|(with_reducible first|refine zG ?_ _|refine zH ?_ _|refine zI ?_)))
             (case side2=>exact HC519_0.out)
             rintro e w54 ⟨v521,rfl,ho0,hb⟩
             have HS3_:=(hb.cell (World.block_lt_of_cell? _ _ (hHeld.2.2.2))).trans (hHeld.2.2.2);refine ⟨_,rfl,?_⟩
             have n0_:=zM (Kd.N_elder' (by (with_reducible repeat (first|apply Kd.N_alloc|apply Kd.N_drewN|apply Kd.N_drew));exact HO_7.out) (Kd.R_base ho0) hb)
             have n1_:=zM (Kd.V_elder' (by (with_reducible repeat (first|apply Kd.V_alloc|apply Kd.V_drewN|apply Kd.V_drew));exact HO_8.out) (Kd.R_base ho0) hb)
             have n2_:=zM (Kd.V_elder' (by (with_reducible repeat (first|apply Kd.V_alloc|apply Kd.V_drewN|apply Kd.V_drew));exact HL519_0.out) (Kd.R_base ho0) hb)
             have n3_:=zM (Kd.R_lower (Kd.R_newM (M:=fun k_=>(w.heap.size ≤ k_)) ho0 (zR (by repeat (first|(with_reducible first|exact HB.out|apply zD|apply zE|apply zF|refine below_set ?_ GE501.out)|exact HB.out))) (fun k_ h_=>h_)) (zR (by repeat (first|(with_reducible first|exact HB.out|apply zD|apply zE|apply zF|refine below_set ?_ GE501.out)|exact HB.out))))
             have n4_:=zM (blk_below (g:=gb501) (o := .cells #[.int .i64 a1_0,.int .i64 a1_1,.int .i64 a1_2] 28 (0,0)) (by (with_reducible repeat (first|refine zJ ?_ _|refine zK ?_|refine zL ?_ _));exact BK501.out) hb)
             have n5_:=zM (zO (by repeat (first|(with_reducible exact HR519_0.out)|(with_reducible first|refine zG ?_ _|refine zH ?_ _|refine zI ?_)|exact HR519_0.out)) hb)
             have n6_:=zM (zQ (by repeat (first|(with_reducible first|exact HB.out|apply zD|apply zE|apply zF|refine below_set ?_ GE501.out)|exact HB.out)) hb)
             clear HO_7;clear HO_8;clear HL519_0;clear BK501;clear HR519_0;clear HB;have HO_7:=n0_;have HO_8:=n1_;have HL519_0:=n2_;have HO522:=n3_;have BK501:=n4_;have HR519_0:=n5_;have HB:=n6_;clear n0_ n1_ n2_ n3_ n4_ n5_ n6_;(try clear hb)
             (try clear hb2)
             (try clear hk)
             (try clear hi)
             (try clear ho0)
             obtain ⟨Ao55,co55,eo55⟩:=Kd.R_slice HO522.out;(first|subst eo55|(injection eo55 with f1_ f2_ f3_;have f4_:=f1_.symm;have f5_:=f3_.symm;clear f1_ f2_ f3_;subst f4_;subst f5_))
             refine hK.out _ _ ⟨(blk_cell BK501.out 0).trans rfl,(blk_cell BK501.out 1).trans rfl,(blk_cell BK501.out 2).trans rfl,HS3_⟩ (fun hHeld=>?_)
             clear hK K;refine norm_ (a':=?_) ?_ ?_
             rotate_left
             ·show Act.put _ (some 40) _ = _
              simp only [Act.put,zT,zU,zV,i64_w,i32_w]
              rfl
             refine one_ (i:=7) (N:=some 41) #[true,true,true,true,true,true,true,true,false] rfl rfl (one_of HT_.out (by kernel_rfl)) (by decide) (fun K hK=>?_)
             refine goes_ Try.func51 (by kernel_rfl) rfl #[.slice Ao55 t520.length co55,.int .i64 0] (by rfl) rfl rfl (by (try simp only [List.map_toArray,List.map_cons,List.map_nil]);first|done|rfl|(simp only [List.length_drop,List.length_take];rfl)) ?_
             with_reducible refine (spec_l12Sum.calls k2 _ _ t520 0 t523 _ ?side1 ?side2 A28.out).mono ?_
             (case side1=>repeat (first|exact (zN HO522.out).2.2|(with_reducible first|refine zG ?_ _|refine zH ?_ _|refine zI ?_)))
             (case side2=>exact (zN HO522.out).2.1)
             rintro e w' ⟨rfl,⟨nd,rfl⟩⟩
             refine ⟨_,rfl,?_⟩
             refine hK.out _ _ ⟨(blk_cell BK501.out 0).trans rfl,(blk_cell BK501.out 1).trans rfl,(blk_cell BK501.out 2).trans rfl,hHeld.2.2.2⟩ (fun hHeld=>?_)
             clear hK K;refine norm_ (a':=?_) ?_ ?_
             rotate_left
             ·show Act.put _ (some 41) _ = _
              simp only [Act.put,zT,zU,zV,i64_w,i32_w]
              rfl
             refine pure_ (i:=8) (N:=some 11) (v:=?_) (a':=?_) #[true,true,true,true,true,true,true,true,true] rfl rfl (any_of HT_.out (by kernel_rfl)) (fun _ _ _ h=>h) (Or.inl ⟨by rfl,?_⟩) ?_ ?_
             rotate_left
             ·intro w'
              go_simp
              with_reducible rfl
             rotate_left
             ·simp only [Act.put,zT,zU,zV,i64_w,i32_w]
              rfl
             refine done_ (done_of HT_.out (by kernel_rfl)) ?_
             try go_wp2
             go_roundg k2
             case measure=>have:=HJ2.out;have:=HK2.out;omega
             case rel=>exact ⟨(x8_2),(x9_2),(wrap64 (x10_2 + 1)),(by first|rfl|(simp;done)|(simp [*];done)),(by first|rfl|(simp;done)|(simp [*];done)),H',⟨by have:=HJ2.out;have:=HK2.out;omega⟩,⟨by (with_reducible repeat (first|apply Kd.N_alloc|apply Kd.N_drewN|apply Kd.N_drew));exact Kd.N_mono HO_7.out (fun _ hk=>⟨hk.1.1,hk.1.2⟩)⟩,⟨by (with_reducible repeat (first|apply Kd.V_alloc|apply Kd.V_drewN|apply Kd.V_drew));exact Kd.V_mono HO_8.out (fun _ hk=>⟨hk.1.1,⟨hk.1.2.1,hk.1.2.2⟩⟩)⟩,⟨by (with_reducible repeat (first|refine zJ ?_ _|refine zK ?_|refine zL ?_ _));exact BK501.out⟩,⟨by repeat (first|(with_reducible first|exact HB.out|apply zD|apply zE|apply zF|refine below_set ?_ GE501.out)|exact HB.out)⟩⟩
         ·rw [if_neg c26] at H
          exact absurd H (by simp)
        ·rw [if_neg c25] at H
         have c25b0:decide (x10_2 < (t513.length:Int)) = false:=decide_eq_false c25
         clear c25;simp only [Option.some.injEq,Prod.mk.injEq] at H
         obtain ⟨rfl,rfl,rfl⟩:=H;obtain ⟨Ao56,co56,eo56⟩:=Kd.N_slice HO_7.out;subst eo56;go_wp2
         go_ret3
         exact ⟨_,by first|rfl|(simp [errW_none,errW_some] <;> rfl)|(simp [*,errW_none,errW_some] <;> rfl),by (with_reducible repeat (first|apply Kd.V_alloc|apply Kd.V_drewN|apply Kd.V_drew));exact Kd.V_mono HO_8.out (fun _ hk=>hk.1),by repeat (first|(with_reducible first|exact HB.out|apply zD|apply zE|apply zF|refine below_set ?_ GE501.out)|exact HB.out)⟩
     ·rw [if_neg c14] at H
      exact absurd H (by simp)
    ·rw [if_neg c13] at H
     exact absurd H (by simp)



/-! ### spec_HeavyFirst: function 32 -/
mutual
def spec_HeavyFirst.l0:Nat → List Int → List Int → Int → Option (List Int × Bool)
 | 0,_,_,_=>none
 | k + 1,x0,x4,x5=>if x5 < (x0.length:Int) then (spec_HeavyFirst.l1 k x0 x4 x5 (x4.length:Int)) else (some (x4,true))
def spec_HeavyFirst.l1:Nat → List Int → List Int → Int → Int → Option (List Int × Bool)
 | 0,_,_,_,_=>none
 | k + 1,x0,x4,x5,x6=>if x6 > 0 then (if 0 ≤ (wrap64 (x6 - 1)) then (if (wrap64 (x6 - 1)) < (x4.length:Int) then (if 0 ≤ x5 then (if x5 < (x0.length:Int) then (if (rd x4 (wrap64 (x6 - 1))) < (rd x0 x5) then (spec_HeavyFirst.l1 k x0 x4 x5 (wrap64 (x6 - 1))) else ((some (([]:List Int):List Int)).bind fun y582=>(if 0 ≤ x6 then (if x6 ≤ (x4.length:Int) then ((some (x4.take (x6:Int).toNat:List Int)).bind fun y585=>(if y582.length + y585.length < 17592186044416 then ((some (y582 ++ y585:List Int)).bind fun y589=>((some (([rd x0 x5]:List Int):List Int)).bind fun y593=>(if y589.length + y593.length < 17592186044416 then ((some (y589 ++ y593:List Int)).bind fun y596=>((some (x4.drop (x6:Int).toNat:List Int)).bind fun y599=>(if y596.length + y599.length < 17592186044416 then (spec_HeavyFirst.l0 k x0 (y596 ++ y599) (wrap64 (x5 + 1))) else (none)))) else (none)))) else (none))) else (none)) else (none)))) else (none)) else (none)) else (none)) else (none)) else ((some (([]:List Int):List Int)).bind fun y606=>(if 0 ≤ x6 then (if x6 ≤ (x4.length:Int) then ((some (x4.take (x6:Int).toNat:List Int)).bind fun y609=>(if y606.length + y609.length < 17592186044416 then ((some (y606 ++ y609:List Int)).bind fun y613=>(if 0 ≤ x5 then (if x5 < (x0.length:Int) then ((some (([rd x0 x5]:List Int):List Int)).bind fun y617=>(if y613.length + y617.length < 17592186044416 then ((some (y613 ++ y617:List Int)).bind fun y620=>((some (x4.drop (x6:Int).toNat:List Int)).bind fun y623=>(if y620.length + y623.length < 17592186044416 then (spec_HeavyFirst.l0 k x0 (y620 ++ y623) (wrap64 (x5 + 1))) else (none)))) else (none))) else (none)) else (none))) else (none))) else (none)) else (none)))
end
def spec_HeavyFirst.f (k:Nat) (l0:List Int):Option (List Int × Bool):=(some (([]:List Int):List Int)).bind fun y576=>((spec_l12Good.f k l0).bind fun t579=>(if t579 = true then (spec_HeavyFirst.l0 k l0 y576 0) else (some (y576,false))))
def spec_HeavyFirst.T8:Bool × List (List Nat × List Nat):=(true,[([],[]),([0],[0]),([1],[1]),([2],[2]),([2],[2]),([4,2],[2,4]),([3,5,2],[2,3,5]),([6,2],[2,6]),([2],[2]),([2],[2]),([8,9,2],[2,8,9]),([10,2],[2,10]),([7,11,2],[2,7,11]),([2,12],[2,12])])
def spec_HeavyFirst.B8:List Nat:=[0,1,3,7,7,23,63,127,7,7,775,1799,4095,8191]
theorem spec_HeavyFirst.tab8:rtab .any (opsOf Try.f32 8) = spec_HeavyFirst.T8:=by kernel_rfl
theorem spec_HeavyFirst.bits8:waitsOk spec_HeavyFirst.T8.2 spec_HeavyFirst.B8 = true:=by kernel_rfl
def spec_HeavyFirst.T10:Bool × List (List Nat × List Nat):=(true,[([],[]),([],[]),([],[]),([1,2],[1,2]),([0,3],[0,3]),([],[]),([],[]),([5,6],[5,6]),([7],[7]),([8],[8]),([4,9,4],[4,9]),([],[]),([],[]),([11,12],[11,12]),([10,13,10],[10,13]),([14,14,0,1,2,3,4,5,6,7,8,9,10,11,12,13,14],[1,11,14])])
def spec_HeavyFirst.B10:List Nat:=[0,0,0,6,15,0,0,96,224,480,1023,0,0,6144,16383,32767]
theorem spec_HeavyFirst.tab10:rtab .any (opsOf Try.f32 10) = spec_HeavyFirst.T10:=by kernel_rfl
theorem spec_HeavyFirst.bits10:waitsOk spec_HeavyFirst.T10.2 spec_HeavyFirst.B10 = true:=by kernel_rfl
set_option maxHeartbeats 8000000 in
set_option maxRecDepth 100000 in
theorem spec_HeavyFirst.calls (k:Nat) (A0:Option Addr) (c0:Nat) (l0:List Int) (r1:List Int) (r2:Bool) (w:World) (hr0:Kd.C (Kd.int .i64) w A0 l0.length l0) (hc0:l0.length ≤ c0) (h:spec_HeavyFirst.f k l0 = some (r1,r2)) :
  Calls Try.prog 32 #[.slice A0 l0.length c0] w fun e w' => ∃ v0_:Value,e = .returned (.tuple #[v0_,.bool r2]) ∧ Kd.R (Kd.int .i64) 3 w' w.heap.size (fun _=>True) v0_ r1 ∧ Below w.heap.size w w':=by
 have HR0:=zM hr0;have HC0:=zM hc0;clear hr0 hc0;have HB:=zM (Below.refl w.heap.size w);have H:((some (([]:List Int):List Int)).bind fun y576=>((spec_l12Good.f k l0).bind fun t579=>(if t579 = true then (spec_HeavyFirst.l0 k l0 y576 0) else (some (y576,false))))) = some (r1,r2):=h
 clear h;obtain ⟨y576,hy576⟩ : ∃ y_:List Int,y_ = (([]:List Int)):=⟨_,rfl⟩
 replace H:((spec_l12Good.f k l0).bind fun t579=>(if t579 = true then (spec_HeavyFirst.l0 k l0 y576 0) else (some (y576,false)))) = some (r1,r2):=by first|(rw [hy576];with_reducible exact H)|(have H2_:=(Option.bind_some _ _).symm.trans H;rw [hy576];with_reducible exact H2_)|(have H2_:=(Option.bind_some _ _).symm.trans H;with_reducible exact H2_)|with_reducible exact H|(rw [hy576];exact H)|exact H
 have Ny576:=zM hy576;clear hy576;replace H:=Option.bind_eq_some_iff.mp H;obtain ⟨t579,A20,H⟩:=H;replace H:(if t579 = true then (spec_HeavyFirst.l0 k l0 y576 0) else (some (y576,false))) = some (r1,r2):=H
 have A2:=zM A20;clear A20;by_cases c3:t579 = true
 ·subst c3
  have H1:(spec_HeavyFirst.l0 k l0 y576 0) = some (r1,r2):=by rw [if_pos rfl] at H;exact H
  clear H;have H:=H1;clear H1;have H':=zM H;clear H;go_enter Try.func32,Try.ntmps32
  go_wp2_with (first|((with_reducible refine gate_dst (N:=7) rfl ?_);refine Kd.R_lit (Kd.int .i64) _ 3 ?hg (N:=7) ?hd (xs:=([]:List Int)) (inner:=[]) (ok:=fun _=>True) (okp:=fun _=>True) ?hr ?hp (fun _ hk=>hk) trivial (Below.refl _ _) (Nat.le_refl _) (by simp) ?_;(case hd=>rfl);(case hg=>rfl);(case hr=>first|(go_simp;done)|(go_simp;rfl));(case hp=>exact (Reps.none _ _));intro v577 w4 ho5 hb hg_ hnew_;clear hg_ hnew_;(first|rw [← Ny576.out] at ho5|(simp only [Int.reduceToNat] at ho5;rw [← Ny576.out] at ho5));have n0_:=zM (Kd.R_lower ho5 (zR (by repeat (first|(with_reducible first|exact HB.out|apply zD|apply zE|apply zF)|exact HB.out))));have n1_:=zM (zQ (by repeat (first|(with_reducible first|exact HB.out|apply zD|apply zE|apply zF)|exact HB.out)) hb);clear HB;have HO578:=n0_;have HB:=n1_;clear n0_ n1_;clear hb ho5)|((with_reducible refine gate_callee (f:=44) rfl ?_);refine goesL_ (some 9) rfl rfl Try.func44 (by kernel_rfl) rfl #[.slice A0 l0.length c0] rfl (by (try simp only [List.map_toArray,List.map_cons,List.map_nil]);first|done|rfl|(simp only [List.length_drop,List.length_take];rfl)) ?_;(with_reducible refine (spec_l12Good.calls k _ _ l0 true _ ?side1 ?side2 A2.out).mono ?_);(case side1=>repeat (first|exact (zO HR0.out HB.out)|(with_reducible first|refine zG ?_ _|refine zH ?_ _|refine zI ?_)));(case side2=>exact HC0.out);rintro e w' ⟨rfl,⟨nd,rfl⟩⟩;refine ⟨_,rfl,?_⟩))
  go_loopg [4,5] k (fun kq v4 v5 w' => ∃ (x4_1:List Int) (x5_1:Int),v5 = .int .i64 x5_1 ∧ Aside0 (spec_HeavyFirst.l0 kq l0 x4_1 x5_1 = some (r1,r2)) ∧ Aside0 (kq ≤ k) ∧ Aside0 (Kd.R (Kd.int .i64) 3 w' w.heap.size (fun _=>True) v4 x4_1) ∧ Aside0 (Below w.heap.size w w'))
  case atStart=>exact ⟨(y576),(0),(by first|rfl|(simp;done)|(simp [*];done)),H',⟨Nat.le_refl _⟩,⟨by (with_reducible repeat (first|apply zA|apply zB|apply zC));exact HO578.out⟩,⟨by repeat (first|(with_reducible first|exact HB.out|apply zD|apply zE|apply zF)|exact HB.out)⟩⟩
  case round =>
   clear H';(try clear p2);(try clear c3);(try clear c4);obtain ⟨x4_1,x5_1,rfl,HA,HK1,HO_4,HB⟩:=hrel;cases gk with
   | zero=>exact absurd HA.out (by simp [spec_HeavyFirst.l0])
   | succ k1 =>
    have H:=HA.out;clear HA;simp only [spec_HeavyFirst.l0] at H
    by_cases c6:x5_1 < (l0.length:Int)
    ·rw [if_pos c6] at H
     have c6b0:decide (x5_1 < (l0.length:Int)) = true:=decide_eq_true c6
     clear c6;have H':=zM H;clear H;obtain ⟨Ao7,co7,eo7⟩:=Kd.R_slice HO_4.out;subst eo7;go_wp2
     go_loopg [6] k1 (fun kq v6 w' => ∃ (x6_2:Int),v6 = .int .i64 x6_2 ∧ Aside0 (spec_HeavyFirst.l1 kq l0 x4_1 x5_1 x6_2 = some (r1,r2)) ∧ Aside0 (kq ≤ k1) ∧ Aside0 (Kd.R (Kd.int .i64) 3 w' w.heap.size (fun _=>True) (.slice Ao7 x4_1.length co7) x4_1) ∧ Aside0 (Below w.heap.size w w'))
     case atStart=>exact ⟨((x4_1.length:Int)),(by first|rfl|(simp;done)|(simp [*];done)),H',⟨Nat.le_refl _⟩,⟨by (with_reducible repeat (first|apply zA|apply zB|apply zC));exact HO_4.out⟩,⟨by repeat (first|(with_reducible first|exact HB.out|apply zD|apply zE|apply zF)|exact HB.out)⟩⟩
     case round =>
      clear H';(try clear p2);(try clear c3);(try clear c4);(try clear c6);(try clear c6b0);(try clear p2);obtain ⟨x6_2,rfl,HA,HK2,HO_4,HB⟩:=hrel;cases gk with
      | zero=>exact absurd HA.out (by simp [spec_HeavyFirst.l1])
      | succ k2 =>
       have H:=HA.out;clear HA;simp only [spec_HeavyFirst.l1] at H
       by_cases c8:x6_2 > 0
       ·rw [if_pos c8] at H
        have c8b0:decide (0 < x6_2) = true:=decide_eq_true c8
        clear c8;obtain ⟨ji9,hji9⟩ : ∃ j_:Int,(wrap64 (x6_2 - 1)) = j_:=⟨_,rfl⟩
        replace H:(if 0 ≤ (ji9) then (if (ji9) < (x4_1.length:Int) then (if 0 ≤ x5_1 then (if x5_1 < (l0.length:Int) then (if (rd x4_1 (ji9)) < (rd l0 x5_1) then (spec_HeavyFirst.l1 k2 l0 x4_1 x5_1 ji9) else ((some (([]:List Int):List Int)).bind fun y582=>(if 0 ≤ x6_2 then (if x6_2 ≤ (x4_1.length:Int) then ((some (x4_1.take (x6_2:Int).toNat:List Int)).bind fun y585=>(if y582.length + y585.length < 17592186044416 then ((some (y582 ++ y585:List Int)).bind fun y589=>((some (([rd l0 x5_1]:List Int):List Int)).bind fun y593=>(if y589.length + y593.length < 17592186044416 then ((some (y589 ++ y593:List Int)).bind fun y596=>((some (x4_1.drop (x6_2:Int).toNat:List Int)).bind fun y599=>(if y596.length + y599.length < 17592186044416 then (spec_HeavyFirst.l0 k2 l0 (y596 ++ y599) (wrap64 (x5_1 + 1))) else (none)))) else (none)))) else (none))) else (none)) else (none)))) else (none)) else (none)) else (none)) else (none)) = some (r1,r2):=by first|(rw [hji9] at H;exact H)|(simp only [hji9] at H ⊢;exact H)
        have hji9w:(IntKind.i64.wrap (x6_2 - 1)) = ji9:=(i64_w _).trans hji9
        by_cases c10:0 ≤ (ji9)
        ·rw [if_pos c10] at H
         have c10b0:decide (0 ≤ (ji9)) = true:=decide_eq_true c10
         clear c10;by_cases c11:(ji9) < (x4_1.length:Int)
         ·rw [if_pos c11] at H
          have c11b0:decide ((ji9) < (x4_1.length:Int)) = true:=decide_eq_true c11
          clear c11;by_cases c12:0 ≤ x5_1
          ·rw [if_pos c12] at H
           have c12b0:decide (0 ≤ x5_1) = true:=decide_eq_true c12
           clear c12;by_cases c13:x5_1 < (l0.length:Int)
           ·rw [if_pos c13] at H
            have c13b0:decide (x5_1 < (l0.length:Int)) = true:=decide_eq_true c13
            clear c13;by_cases c14:(rd x4_1 (ji9)) < (rd l0 x5_1)
            ·rw [if_pos c14] at H
             have c14b0:decide ((rd x4_1 (ji9)) < (rd l0 x5_1)) = true:=decide_eq_true c14
             clear c14;have H':=zM H;clear H;try go_wp2
             have n0_:=zM (zC HO_4.out);have n1_:=zM (zF HB.out);clear HO_4;clear HB;have HO_4:=n0_;have HB:=n1_;clear n0_ n1_;have p580:0 ≤ ((ji9):Int):=of_decide_eq_true (by first|(with_reducible assumption)|assumption)
             have q580:(ji9) < (x4_1.length:Int):=of_decide_eq_true (by first|(with_reducible assumption)|assumption)
             obtain ⟨ad580,e580,hx580_0⟩:=Kd.at_int (zN HO_4.out).2.2 (ji9) p580 q580;cases e580
             replace p580:=eq_true p580;replace q580:=eq_true q580;have p581:0 ≤ (x5_1:Int):=of_decide_eq_true (by first|(with_reducible assumption)|assumption)
             have q581:x5_1 < (l0.length:Int):=of_decide_eq_true (by first|(with_reducible assumption)|assumption)
             obtain ⟨ad581,e581,hx581_0⟩:=Kd.at_int HR0.out x5_1 p581 q581;have hw581_0:=hx581_0;cases e581
             replace hx581_0:=zS HB.out hx581_0;replace p581:=eq_true p581;replace q581:=eq_true q581;refine start_ (n:=14) (S:=fun w'=>w'.cell? (ad580.add ((ji9)).toNat) = some (.int .i64 (rd x4_1 (ji9))) ∧ w'.cell? (ad581.add (x5_1).toNat) = some (.int .i64 (rd l0 x5_1))) (ds:=[]) #[false,false,false,false,false,false,false,false,false,false,false,false,false,false] (by kernel_rfl) rfl rfl ⟨hx580_0,(zS HB.out hw581_0)⟩ (fun hHeld=>?_);refine with_tabW spec_HeavyFirst.tab8 spec_HeavyFirst.bits8 (fun HT_ HW_=>?_)
             generalize wr.drew = w15 at HO_4 HB hx580_0 hx581_0 hHeld ⊢
             refine pure_ (i:=0) (N:=some 20) (v:=?_) (a':=?_) #[true,false,false,false,false,false,false,false,false,false,false,false,false,false] rfl rfl (any_of HT_.out (by kernel_rfl)) (fun _ _ _ h=>h) (Or.inl ⟨by rfl,?_⟩) ?_ ?_
             rotate_left
             ·intro w'
              go_simp
              with_reducible rfl
             rotate_left
             ·simp only [Act.put,zT,zU,zV,i64_w,i32_w]
              rfl
             refine pure_ (i:=1) (N:=some 21) (v:=?_) (a':=?_) #[true,true,false,false,false,false,false,false,false,false,false,false,false,false] rfl rfl (any_of HT_.out (by kernel_rfl)) (fun _ _ _ h=>h) (Or.inl ⟨by rfl,?_⟩) ?_ ?_
             rotate_left
             ·intro w'
              go_simp
              with_reducible rfl
             rotate_left
             ·simp only [Act.put,zT,zU,zV,i64_w,i32_w]
              rfl
             refine pure_ (i:=2) (N:=some 22) (v:=?_) (a':=?_) #[true,true,true,false,false,false,false,false,false,false,false,false,false,false] rfl rfl (any_of HT_.out (by kernel_rfl)) (fun _ _ _ h=>h) (Or.inl ⟨by rfl,?_⟩) ?_ ?_
             rotate_left
             ·intro w'
              go_simp
              with_reducible rfl
             rotate_left
             ·simp only [Act.put,zT,zU,zV,i64_w,i32_w]
              rfl
             refine pure_ (i:=3) (N:=some 23) (v:=?_) (a':=?_) #[true,true,true,true,false,false,false,false,false,false,false,false,false,false] rfl rfl (any_of HT_.out (by kernel_rfl)) (fun _ _ _ h=>h) (Or.inl ⟨by rfl,?_⟩) ?_ ?_
             rotate_left
             ·intro w'
              go_simp
              with_reducible rfl
             rotate_left
             ·simp only [Act.put,zT,zU,zV,i64_w,i32_w]
              rfl
             refine pure_ (i:=4) (N:=some 24) (v:=?_) (a':=?_) #[true,true,true,true,true,false,false,false,false,false,false,false,false,false] rfl rfl (any_of HT_.out (by kernel_rfl)) (fun _ _ _ h=>h) (Or.inl ⟨by rfl,?_⟩) ?_ ?_
             rotate_left
             ·intro w'
              go_simp
              with_reducible rfl
             rotate_left
             ·simp only [Act.put,zT,zU,zV,i64_w,i32_w]
              rfl
             refine pure_ (i:=5) (N:=some 25) (v:=?_) (a':=?_) #[true,true,true,true,true,true,false,false,false,false,false,false,false,false] rfl rfl (any_of HT_.out (by kernel_rfl)) (fun _ _ _ h=>h) (Or.inl ⟨by rfl,?_⟩) ?_ ?_
             rotate_left
             ·intro w'
              go_simp
              with_reducible rfl
             rotate_left
             ·simp only [Act.put,zT,zU,zV,i64_w,i32_w]
              rfl
             refine pure_ (i:=6) (N:=some 26) (v:=?_) (a':=?_) #[true,true,true,true,true,true,true,false,false,false,false,false,false,false] rfl rfl (any_of HT_.out (by kernel_rfl)) (fun _ _ _ h=>h) (Or.inl ⟨by rfl,?_⟩) ?_ ?_
             rotate_left
             ·intro w'
              go_simp
              with_reducible rfl
             rotate_left
             ·simp only [Act.put,zT,zU,zV,i64_w,i32_w]
              rfl
             refine pure_ (i:=8) (N:=some 28) (v:=?_) (a':=?_) #[true,true,true,true,true,true,true,false,true,false,false,false,false,false] rfl rfl (any_of HT_.out (by kernel_rfl)) (fun _ _ _ h=>h) (Or.inl ⟨by rfl,?_⟩) ?_ ?_
             rotate_left
             ·intro w'
              go_simp
              with_reducible rfl
             rotate_left
             ·simp only [Act.put,zT,zU,zV,i64_w,i32_w]
              rfl
             refine pure_ (i:=9) (N:=some 29) (v:=?_) (a':=?_) #[true,true,true,true,true,true,true,false,true,true,false,false,false,false] rfl rfl (any_of HT_.out (by kernel_rfl)) (fun _ _ _ h=>h) (Or.inl ⟨by rfl,?_⟩) ?_ ?_
             rotate_left
             ·intro w'
              go_simp
              with_reducible rfl
             rotate_left
             ·simp only [Act.put,zT,zU,zV,i64_w,i32_w]
              rfl
             refine pure_ (i:=10) (N:=some 30) (v:=?_) (a':=?_) #[true,true,true,true,true,true,true,false,true,true,true,false,false,false] rfl rfl (any_of HT_.out (by kernel_rfl)) (fun _ _ _ h=>h) (Or.inl ⟨by rfl,?_⟩) ?_ ?_
             rotate_left
             ·intro w'
              go_simp
              with_reducible rfl
             rotate_left
             ·simp only [Act.put,zT,zU,zV,i64_w,i32_w]
              rfl
             refine take_ (i:=7) (N:=some 27) (v:=?_) (a':=?_) #[true,true,true,true,true,true,true,true,true,true,true,false,false,false] rfl rfl (take_ofW HT_.out HW_.out (by kernel_rfl)) (fun _ _ _ h=>h) (Or.inl ⟨by rfl,?_⟩) hHeld ?_ ?_
             rotate_left
             ·rintro w' ⟨s0,s1⟩
              go_simp
              with_reducible rfl
             rotate_left
             ·simp only [Act.put,zT,zU,zV,i64_w,i32_w]
              rfl
             refine take_ (i:=11) (N:=some 31) (v:=?_) (a':=?_) #[true,true,true,true,true,true,true,true,true,true,true,true,false,false] rfl rfl (take_ofW HT_.out HW_.out (by kernel_rfl)) (fun _ _ _ h=>h) (Or.inl ⟨by rfl,?_⟩) hHeld ?_ ?_
             rotate_left
             ·rintro w' ⟨s0,s1⟩
              go_simp
              with_reducible rfl
             rotate_left
             ·simp only [Act.put,zT,zU,zV,i64_w,i32_w]
              rfl
             refine pure_ (i:=12) (N:=some 32) (v:=?_) (a':=?_) #[true,true,true,true,true,true,true,true,true,true,true,true,true,false] rfl rfl (any_of HT_.out (by kernel_rfl)) (fun _ _ _ h=>h) (Or.inl ⟨by rfl,?_⟩) ?_ ?_
             rotate_left
             ·intro w'
              go_simp
              with_reducible rfl
             rotate_left
             ·simp only [Act.put,zT,zU,zV,i64_w,i32_w]
              rfl
             refine pure_ (i:=13) (N:=some 33) (v:=?_) (a':=?_) #[true,true,true,true,true,true,true,true,true,true,true,true,true,true] rfl rfl (any_of HT_.out (by kernel_rfl)) (fun _ _ _ h=>h) (Or.inl ⟨by rfl,?_⟩) ?_ ?_
             rotate_left
             ·intro w'
              go_simp
              with_reducible rfl
             rotate_left
             ·simp only [Act.put,zT,zU,zV,i64_w,i32_w]
              rfl
             refine done_ (done_of HT_.out (by kernel_rfl)) ?_
             try go_wp2
             go_roundg k2
             case measure=>have:=HK1.out;have:=HK2.out;omega
             case rel=>exact ⟨(ji9),(by first|rfl|(simp;done)|(simp only [← hji9] <;> (first|rfl|simp))|(simp [*];done)),H',⟨by have:=HK1.out;have:=HK2.out;omega⟩,⟨by (with_reducible repeat (first|apply zA|apply zB|apply zC));exact HO_4.out⟩,⟨by repeat (first|(with_reducible first|exact HB.out|apply zD|apply zE|apply zF)|exact HB.out)⟩⟩
            ·rw [if_neg c14] at H
             have c14b0:decide ((rd x4_1 (ji9)) < (rd l0 x5_1)) = false:=decide_eq_false c14
             clear c14;obtain ⟨y582,hy582⟩ : ∃ y_:List Int,y_ = (([]:List Int)):=⟨_,rfl⟩
             replace H:(if 0 ≤ x6_2 then (if x6_2 ≤ (x4_1.length:Int) then ((some (x4_1.take (x6_2:Int).toNat:List Int)).bind fun y585=>(if y582.length + y585.length < 17592186044416 then ((some (y582 ++ y585:List Int)).bind fun y589=>((some (([rd l0 x5_1]:List Int):List Int)).bind fun y593=>(if y589.length + y593.length < 17592186044416 then ((some (y589 ++ y593:List Int)).bind fun y596=>((some (x4_1.drop (x6_2:Int).toNat:List Int)).bind fun y599=>(if y596.length + y599.length < 17592186044416 then (spec_HeavyFirst.l0 k2 l0 (y596 ++ y599) (wrap64 (x5_1 + 1))) else (none)))) else (none)))) else (none))) else (none)) else (none)) = some (r1,r2):=by first|(rw [hy582];with_reducible exact H)|(have H2_:=(Option.bind_some _ _).symm.trans H;rw [hy582];with_reducible exact H2_)|(have H2_:=(Option.bind_some _ _).symm.trans H;with_reducible exact H2_)|with_reducible exact H|(rw [hy582];exact H)|exact H
             have Ny582:=zM hy582;clear hy582;by_cases c16:0 ≤ x6_2
             ·rw [if_pos c16] at H
              have c16b0:=eq_true c16;have c16b1:decide (0 ≤ x6_2) = true:=decide_eq_true c16
              clear c16;by_cases c17:x6_2 ≤ (x4_1.length:Int)
              ·rw [if_pos c17] at H
               have c17b0:=eq_true c17;have c17b1:decide (x6_2 ≤ (x4_1.length:Int)) = true:=decide_eq_true c17
               clear c17;obtain ⟨y585,hy585⟩ : ∃ y_:List Int,y_ = (x4_1.take (x6_2:Int).toNat):=⟨_,rfl⟩
               replace H:(if y582.length + y585.length < 17592186044416 then ((some (y582 ++ y585:List Int)).bind fun y589=>((some (([rd l0 x5_1]:List Int):List Int)).bind fun y593=>(if y589.length + y593.length < 17592186044416 then ((some (y589 ++ y593:List Int)).bind fun y596=>((some (x4_1.drop (x6_2:Int).toNat:List Int)).bind fun y599=>(if y596.length + y599.length < 17592186044416 then (spec_HeavyFirst.l0 k2 l0 (y596 ++ y599) (wrap64 (x5_1 + 1))) else (none)))) else (none)))) else (none)) = some (r1,r2):=by first|(rw [hy585];with_reducible exact H)|(have H2_:=(Option.bind_some _ _).symm.trans H;rw [hy585];with_reducible exact H2_)|(have H2_:=(Option.bind_some _ _).symm.trans H;with_reducible exact H2_)|with_reducible exact H|(rw [hy585];exact H)|exact H
               have Ny585:=zM hy585;clear hy585;by_cases c18:y582.length + y585.length < 17592186044416
               ·rw [if_pos c18] at H
                have LMc18:=zM c18;clear c18;obtain ⟨y589,hy589⟩ : ∃ y_:List Int,y_ = (y582 ++ y585):=⟨_,rfl⟩
                replace H:((some (([rd l0 x5_1]:List Int):List Int)).bind fun y593=>(if y589.length + y593.length < 17592186044416 then ((some (y589 ++ y593:List Int)).bind fun y596=>((some (x4_1.drop (x6_2:Int).toNat:List Int)).bind fun y599=>(if y596.length + y599.length < 17592186044416 then (spec_HeavyFirst.l0 k2 l0 (y596 ++ y599) (wrap64 (x5_1 + 1))) else (none)))) else (none))) = some (r1,r2):=by first|(rw [hy589];with_reducible exact H)|(have H2_:=(Option.bind_some _ _).symm.trans H;rw [hy589];with_reducible exact H2_)|(have H2_:=(Option.bind_some _ _).symm.trans H;with_reducible exact H2_)|with_reducible exact H|(rw [hy589];exact H)|exact H
                have Ny589:=zM hy589;clear hy589;obtain ⟨y593,hy593⟩ : ∃ y_:List Int,y_ = (([rd l0 x5_1]:List Int)):=⟨_,rfl⟩
                replace H:(if y589.length + y593.length < 17592186044416 then ((some (y589 ++ y593:List Int)).bind fun y596=>((some (x4_1.drop (x6_2:Int).toNat:List Int)).bind fun y599=>(if y596.length + y599.length < 17592186044416 then (spec_HeavyFirst.l0 k2 l0 (y596 ++ y599) (wrap64 (x5_1 + 1))) else (none)))) else (none)) = some (r1,r2):=by first|(rw [hy593];with_reducible exact H)|(have H2_:=(Option.bind_some _ _).symm.trans H;rw [hy593];with_reducible exact H2_)|(have H2_:=(Option.bind_some _ _).symm.trans H;with_reducible exact H2_)|with_reducible exact H|(rw [hy593];exact H)|exact H
                have Ny593:=zM hy593;clear hy593;by_cases c19:y589.length + y593.length < 17592186044416
                ·rw [if_pos c19] at H
                 have LMc19:=zM c19;clear c19;obtain ⟨y596,hy596⟩ : ∃ y_:List Int,y_ = (y589 ++ y593):=⟨_,rfl⟩
                 replace H:((some (x4_1.drop (x6_2:Int).toNat:List Int)).bind fun y599=>(if y596.length + y599.length < 17592186044416 then (spec_HeavyFirst.l0 k2 l0 (y596 ++ y599) (wrap64 (x5_1 + 1))) else (none))) = some (r1,r2):=by first|(rw [hy596];with_reducible exact H)|(have H2_:=(Option.bind_some _ _).symm.trans H;rw [hy596];with_reducible exact H2_)|(have H2_:=(Option.bind_some _ _).symm.trans H;with_reducible exact H2_)|with_reducible exact H|(rw [hy596];exact H)|exact H
                 have Ny596:=zM hy596;clear hy596;have c20b0:=eq_true (of_decide_eq_true (by first|(with_reducible assumption)|assumption):0 ≤ x6_2)
                 have c21b0:=eq_true (of_decide_eq_true (by first|(with_reducible assumption)|assumption):x6_2 ≤ (x4_1.length:Int))
                 obtain ⟨y599,hy599⟩ : ∃ y_:List Int,y_ = (x4_1.drop (x6_2:Int).toNat):=⟨_,rfl⟩
                 replace H:(if y596.length + y599.length < 17592186044416 then (spec_HeavyFirst.l0 k2 l0 (y596 ++ y599) (wrap64 (x5_1 + 1))) else (none)) = some (r1,r2):=by first|(rw [hy599];with_reducible exact H)|(have H2_:=(Option.bind_some _ _).symm.trans H;rw [hy599];with_reducible exact H2_)|(have H2_:=(Option.bind_some _ _).symm.trans H;with_reducible exact H2_)|with_reducible exact H|(rw [hy599];exact H)|exact H
                 have Ny599:=zM hy599;clear hy599;by_cases c22:y596.length + y599.length < 17592186044416
                 ·rw [if_pos c22] at H
                  have LMc22:=zM c22;clear c22;obtain ⟨y603,hy603⟩ : ∃ y_:List Int,y_ = (y596 ++ y599):=⟨_,rfl⟩
                  replace H:(spec_HeavyFirst.l0 k2 l0 y603 (wrap64 (x5_1 + 1))) = some (r1,r2):=by first|(rw [hy603];with_reducible exact H)|(have H2_:=(Option.bind_some _ _).symm.trans H;rw [hy603];with_reducible exact H2_)|(have H2_:=(Option.bind_some _ _).symm.trans H;with_reducible exact H2_)|with_reducible exact H|(rw [hy603];exact H)|exact H
                  have Ny603:=zM hy603;clear hy603;have H':=zM H;clear H;try go_wp2
                  have n0_:=zM (zC HO_4.out);have n1_:=zM (zF HB.out);clear HO_4;clear HB;have HO_4:=n0_;have HB:=n1_;clear n0_ n1_;have p580:0 ≤ ((ji9):Int):=of_decide_eq_true (by first|(with_reducible assumption)|assumption)
                  have q580:(ji9) < (x4_1.length:Int):=of_decide_eq_true (by first|(with_reducible assumption)|assumption)
                  obtain ⟨ad580,e580,hx580_0⟩:=Kd.at_int (zN HO_4.out).2.2 (ji9) p580 q580;cases e580
                  replace p580:=eq_true p580;replace q580:=eq_true q580;have p581:0 ≤ (x5_1:Int):=of_decide_eq_true (by first|(with_reducible assumption)|assumption)
                  have q581:x5_1 < (l0.length:Int):=of_decide_eq_true (by first|(with_reducible assumption)|assumption)
                  obtain ⟨ad581,e581,hx581_0⟩:=Kd.at_int HR0.out x5_1 p581 q581;have hw581_0:=hx581_0;cases e581
                  replace hx581_0:=zS HB.out hx581_0;replace p581:=eq_true p581;replace q581:=eq_true q581;refine start_ (n:=14) (S:=fun w'=>w'.cell? (ad580.add ((ji9)).toNat) = some (.int .i64 (rd x4_1 (ji9))) ∧ w'.cell? (ad581.add (x5_1).toNat) = some (.int .i64 (rd l0 x5_1))) (ds:=[]) #[false,false,false,false,false,false,false,false,false,false,false,false,false,false] (by kernel_rfl) rfl rfl ⟨hx580_0,(zS HB.out hw581_0)⟩ (fun hHeld=>?_);refine with_tabW spec_HeavyFirst.tab8 spec_HeavyFirst.bits8 (fun HT_ HW_=>?_)
                  generalize wr.drew = w23 at HO_4 HB hx580_0 hx581_0 hHeld ⊢
                  refine pure_ (i:=0) (N:=some 20) (v:=?_) (a':=?_) #[true,false,false,false,false,false,false,false,false,false,false,false,false,false] rfl rfl (any_of HT_.out (by kernel_rfl)) (fun _ _ _ h=>h) (Or.inl ⟨by rfl,?_⟩) ?_ ?_
                  rotate_left
                  ·intro w'
                   go_simp
                   with_reducible rfl
                  rotate_left
                  ·simp only [Act.put,zT,zU,zV,i64_w,i32_w]
                   rfl
                  refine pure_ (i:=1) (N:=some 21) (v:=?_) (a':=?_) #[true,true,false,false,false,false,false,false,false,false,false,false,false,false] rfl rfl (any_of HT_.out (by kernel_rfl)) (fun _ _ _ h=>h) (Or.inl ⟨by rfl,?_⟩) ?_ ?_
                  rotate_left
                  ·intro w'
                   go_simp
                   with_reducible rfl
                  rotate_left
                  ·simp only [Act.put,zT,zU,zV,i64_w,i32_w]
                   rfl
                  refine pure_ (i:=2) (N:=some 22) (v:=?_) (a':=?_) #[true,true,true,false,false,false,false,false,false,false,false,false,false,false] rfl rfl (any_of HT_.out (by kernel_rfl)) (fun _ _ _ h=>h) (Or.inl ⟨by rfl,?_⟩) ?_ ?_
                  rotate_left
                  ·intro w'
                   go_simp
                   with_reducible rfl
                  rotate_left
                  ·simp only [Act.put,zT,zU,zV,i64_w,i32_w]
                   rfl
                  refine pure_ (i:=3) (N:=some 23) (v:=?_) (a':=?_) #[true,true,true,true,false,false,false,false,false,false,false,false,false,false] rfl rfl (any_of HT_.out (by kernel_rfl)) (fun _ _ _ h=>h) (Or.inl ⟨by rfl,?_⟩) ?_ ?_
                  rotate_left
                  ·intro w'
                   go_simp
                   with_reducible rfl
                  rotate_left
                  ·simp only [Act.put,zT,zU,zV,i64_w,i32_w]
                   rfl
                  refine pure_ (i:=4) (N:=some 24) (v:=?_) (a':=?_) #[true,true,true,true,true,false,false,false,false,false,false,false,false,false] rfl rfl (any_of HT_.out (by kernel_rfl)) (fun _ _ _ h=>h) (Or.inl ⟨by rfl,?_⟩) ?_ ?_
                  rotate_left
                  ·intro w'
                   go_simp
                   with_reducible rfl
                  rotate_left
                  ·simp only [Act.put,zT,zU,zV,i64_w,i32_w]
                   rfl
                  refine pure_ (i:=5) (N:=some 25) (v:=?_) (a':=?_) #[true,true,true,true,true,true,false,false,false,false,false,false,false,false] rfl rfl (any_of HT_.out (by kernel_rfl)) (fun _ _ _ h=>h) (Or.inl ⟨by rfl,?_⟩) ?_ ?_
                  rotate_left
                  ·intro w'
                   go_simp
                   with_reducible rfl
                  rotate_left
                  ·simp only [Act.put,zT,zU,zV,i64_w,i32_w]
                   rfl
                  refine pure_ (i:=6) (N:=some 26) (v:=?_) (a':=?_) #[true,true,true,true,true,true,true,false,false,false,false,false,false,false] rfl rfl (any_of HT_.out (by kernel_rfl)) (fun _ _ _ h=>h) (Or.inl ⟨by rfl,?_⟩) ?_ ?_
                  rotate_left
                  ·intro w'
                   go_simp
                   with_reducible rfl
                  rotate_left
                  ·simp only [Act.put,zT,zU,zV,i64_w,i32_w]
                   rfl
                  refine pure_ (i:=8) (N:=some 28) (v:=?_) (a':=?_) #[true,true,true,true,true,true,true,false,true,false,false,false,false,false] rfl rfl (any_of HT_.out (by kernel_rfl)) (fun _ _ _ h=>h) (Or.inl ⟨by rfl,?_⟩) ?_ ?_
                  rotate_left
                  ·intro w'
                   go_simp
                   with_reducible rfl
                  rotate_left
                  ·simp only [Act.put,zT,zU,zV,i64_w,i32_w]
                   rfl
                  refine pure_ (i:=9) (N:=some 29) (v:=?_) (a':=?_) #[true,true,true,true,true,true,true,false,true,true,false,false,false,false] rfl rfl (any_of HT_.out (by kernel_rfl)) (fun _ _ _ h=>h) (Or.inl ⟨by rfl,?_⟩) ?_ ?_
                  rotate_left
                  ·intro w'
                   go_simp
                   with_reducible rfl
                  rotate_left
                  ·simp only [Act.put,zT,zU,zV,i64_w,i32_w]
                   rfl
                  refine pure_ (i:=10) (N:=some 30) (v:=?_) (a':=?_) #[true,true,true,true,true,true,true,false,true,true,true,false,false,false] rfl rfl (any_of HT_.out (by kernel_rfl)) (fun _ _ _ h=>h) (Or.inl ⟨by rfl,?_⟩) ?_ ?_
                  rotate_left
                  ·intro w'
                   go_simp
                   with_reducible rfl
                  rotate_left
                  ·simp only [Act.put,zT,zU,zV,i64_w,i32_w]
                   rfl
                  refine take_ (i:=7) (N:=some 27) (v:=?_) (a':=?_) #[true,true,true,true,true,true,true,true,true,true,true,false,false,false] rfl rfl (take_ofW HT_.out HW_.out (by kernel_rfl)) (fun _ _ _ h=>h) (Or.inl ⟨by rfl,?_⟩) hHeld ?_ ?_
                  rotate_left
                  ·rintro w' ⟨s0,s1⟩
                   go_simp
                   with_reducible rfl
                  rotate_left
                  ·simp only [Act.put,zT,zU,zV,i64_w,i32_w]
                   rfl
                  refine take_ (i:=11) (N:=some 31) (v:=?_) (a':=?_) #[true,true,true,true,true,true,true,true,true,true,true,true,false,false] rfl rfl (take_ofW HT_.out HW_.out (by kernel_rfl)) (fun _ _ _ h=>h) (Or.inl ⟨by rfl,?_⟩) hHeld ?_ ?_
                  rotate_left
                  ·rintro w' ⟨s0,s1⟩
                   go_simp
                   with_reducible rfl
                  rotate_left
                  ·simp only [Act.put,zT,zU,zV,i64_w,i32_w]
                   rfl
                  refine pure_ (i:=12) (N:=some 32) (v:=?_) (a':=?_) #[true,true,true,true,true,true,true,true,true,true,true,true,true,false] rfl rfl (any_of HT_.out (by kernel_rfl)) (fun _ _ _ h=>h) (Or.inl ⟨by rfl,?_⟩) ?_ ?_
                  rotate_left
                  ·intro w'
                   go_simp
                   with_reducible rfl
                  rotate_left
                  ·simp only [Act.put,zT,zU,zV,i64_w,i32_w]
                   rfl
                  refine pure_ (i:=13) (N:=some 33) (v:=?_) (a':=?_) #[true,true,true,true,true,true,true,true,true,true,true,true,true,true] rfl rfl (any_of HT_.out (by kernel_rfl)) (fun _ _ _ h=>h) (Or.inl ⟨by rfl,?_⟩) ?_ ?_
                  rotate_left
                  ·intro w'
                   go_simp
                   with_reducible rfl
                  rotate_left
                  ·simp only [Act.put,zT,zU,zV,i64_w,i32_w]
                   rfl
                  refine done_ (done_of HT_.out (by kernel_rfl)) ?_
                  try go_wp2
                  have n0_:=zM (zC HO_4.out);have n1_:=zM (zF HB.out);clear HO_4;clear HB;have HO_4:=n0_;have HB:=n1_;clear n0_ n1_;have q25:(x6_2:Int) ≤ ((x4_1.length:Int):Int):=of_decide_eq_true (by first|(with_reducible assumption)|assumption)
                  obtain ⟨i025,hi025,_,hsz25,_⟩:=info_parts info3;have hroom25:x4_1.length ≤ co7:=(zN HO_4.out).2.1
                  have hC25:Kd.C (Kd.int .i64) _ (some ad580) x4_1.length x4_1:=(zN HO_4.out).2.2
                  have hcut25:=cut_to (P:=Try.prog) 22 3 .i64 Try.underlying22 hi025 (some ad580) x4_1.length co7 x6_2 (of_decide_eq_true (by first|(with_reducible assumption)|assumption)) q25 hroom25
                  have hr25:=Kd.C_take (m:=(x6_2:Int).toNat) hC25 (by omega)
                  have hy25:y585.length = (x6_2:Int).toNat:=(by rw [Ny585.out,List.length_take];omega)
                  rw [← Ny585.out] at hr25;rw [← hy25] at hcut25;have HR588:=zM hr25;have HC588:=zM (show y585.length ≤ co7 from by omega)
                  clear hr25 hC25 hroom25 hi025 hsz25;have KY25:=zM hy25;clear hy25;have KL25:=zM (show (x6_2:Int).toNat ≤ x4_1.length from by omega)
                  replace q25:=eq_true q25;have p592:0 ≤ (x5_1:Int):=of_decide_eq_true (by first|(with_reducible assumption)|assumption)
                  have q592:x5_1 < (l0.length:Int):=of_decide_eq_true (by first|(with_reducible assumption)|assumption)
                  obtain ⟨ad592,e592,hx592_0⟩:=Kd.at_int HR0.out x5_1 p592 q592;have hw592_0:=hx592_0;obtain rfl:ad581 = ad592:=(by injection e592)
                  replace hx592_0:=zS HB.out hx592_0;replace p592:=eq_true p592;replace q592:=eq_true q592;have q26:(x6_2:Int) ≤ ((x4_1.length:Int):Int):=of_decide_eq_true (by first|(with_reducible assumption)|assumption)
                  obtain ⟨i026,hi026,_,hsz26,_⟩:=info_parts info3;have hroom26:x4_1.length ≤ co7:=(zN HO_4.out).2.1
                  have hC26:Kd.C (Kd.int .i64) _ (some ad580) x4_1.length x4_1:=(zN HO_4.out).2.2
                  have q026:(0:Int) ≤ (x6_2:Int):=of_decide_eq_true (by first|(with_reducible assumption)|assumption)
                  have hcut26:=cut_from (P:=Try.prog) 22 3 .i64 Try.underlying22 hi026 1 hsz26 (some ad580) x4_1.length co7 x6_2 q026 q26;have hr26:=Kd.C_drop (m:=(x6_2:Int).toNat) (c:=co7) hC26 (by omega) hroom26
                  obtain ⟨A26,hA26⟩ : ∃ A1,A1 = (if co7 = (x6_2:Int).toNat then (some ad580) else ((some ad580):Option Addr).map (·.add ((x6_2:Int).toNat * 1))):=⟨_,rfl⟩
                  obtain ⟨c26,hc26⟩ : ∃ c1,c1 = co7 - (x6_2:Int).toNat:=⟨_,rfl⟩
                  have hy26:y599.length = x4_1.length - (x6_2:Int).toNat:=(by rw [Ny599.out,List.length_drop] <;> omega)
                  rw [show (x4_1).drop (x6_2:Int).toNat = y599 from Ny599.out.symm] at hr26
                  replace hr26:Kd.C (Kd.int .i64) _ A26 y599.length y599:=(by rw [hA26];exact hr26)
                  rw [← hy26,← hA26,← hc26] at hcut26;have HR602:=zM hr26;have HC602:=zM (show y599.length ≤ c26 from by rw [hy26,hc26];exact Nat.sub_le_sub_right hroom26 _)
                  clear hr26 hC26 hroom26 hi026 hsz26 hc26;have KY26:=zM hy26;have KA26:=zM hA26;clear hy26 hA26;have KL26:=zM (show (x6_2:Int).toNat ≤ x4_1.length from by omega)
                  replace q26:=eq_true q26;refine start_ (n:=16) (S:=fun w'=>w'.cell? (ad581.add (x5_1).toNat) = some (.int .i64 (rd l0 x5_1))) (ds:=[]) #[false,false,false,false,false,false,false,false,false,false,false,false,false,false,false,false] (by kernel_rfl) rfl rfl ((zS HB.out hw592_0)) (fun hHeld=>?_);refine with_tabW spec_HeavyFirst.tab10 spec_HeavyFirst.bits10 (fun HT_ HW_=>?_)
                  generalize w23.drew = w24 at HO_4 HB HR588 HR602 hx592_0 hHeld ⊢
                  refine pure_ (i:=1) (N:=some 37) (v:=?_) (a':=?_) #[false,true,false,false,false,false,false,false,false,false,false,false,false,false,false,false] rfl rfl (any_of HT_.out (by kernel_rfl)) (fun _ _ _ h=>h) (Or.inl ⟨by rfl,?_⟩) ?_ ?_
                  rotate_left
                  ·intro w'
                   go_simp
                   with_reducible rfl
                  rotate_left
                  ·simp only [Act.put,zT,zU,zV,i64_w,i32_w]
                   rfl
                  refine pure_ (i:=2) (N:=some 38) (v:=?_) (a':=?_) #[false,true,true,false,false,false,false,false,false,false,false,false,false,false,false,false] rfl rfl (any_of HT_.out (by kernel_rfl)) (fun _ _ _ h=>h) (Or.inl ⟨by rfl,?_⟩) ?_ ?_
                  rotate_left
                  ·intro w'
                   go_simp
                   with_reducible rfl
                  rotate_left
                  ·simp only [Act.put,zT,zU,zV,i64_w,i32_w]
                   rfl
                  refine pure_ (i:=3) (N:=some 39) (v:=?_) (a':=?_) #[false,true,true,true,false,false,false,false,false,false,false,false,false,false,false,false] rfl rfl (any_of HT_.out (by kernel_rfl)) (fun _ _ _ h=>h) (Or.inl ⟨by rfl,?_⟩) ?_ ?_
                  rotate_left
                  ·intro w'
                   go_simp
                   with_reducible rfl
                  rotate_left
                  ·simp only [Act.put,zT,zU,zV,i64_w,i32_w]
                   rfl
                  refine pure_ (i:=5) (N:=some 41) (v:=?_) (a':=?_) #[false,true,true,true,false,true,false,false,false,false,false,false,false,false,false,false] rfl rfl (any_of HT_.out (by kernel_rfl)) (fun _ _ _ h=>h) (Or.inl ⟨by rfl,?_⟩) ?_ ?_
                  rotate_left
                  ·intro w'
                   go_simp
                   with_reducible rfl
                  rotate_left
                  ·simp only [Act.put,zT,zU,zV,i64_w,i32_w]
                   rfl
                  refine pure_ (i:=6) (N:=some 42) (v:=?_) (a':=?_) #[false,true,true,true,false,true,true,false,false,false,false,false,false,false,false,false] rfl rfl (any_of HT_.out (by kernel_rfl)) (fun _ _ _ h=>h) (Or.inl ⟨by rfl,?_⟩) ?_ ?_
                  rotate_left
                  ·intro w'
                   go_simp
                   with_reducible rfl
                  rotate_left
                  ·simp only [Act.put,zT,zU,zV,i64_w,i32_w]
                   rfl
                  refine pure_ (i:=7) (N:=some 43) (v:=?_) (a':=?_) #[false,true,true,true,false,true,true,true,false,false,false,false,false,false,false,false] rfl rfl (any_of HT_.out (by kernel_rfl)) (fun _ _ _ h=>h) (Or.inl ⟨by rfl,?_⟩) ?_ ?_
                  rotate_left
                  ·intro w'
                   go_simp
                   with_reducible rfl
                  rotate_left
                  ·simp only [Act.put,zT,zU,zV,i64_w,i32_w]
                   rfl
                  refine pure_ (i:=11) (N:=some 47) (v:=?_) (a':=?_) #[false,true,true,true,false,true,true,true,false,false,false,true,false,false,false,false] rfl rfl (any_of HT_.out (by kernel_rfl)) (fun _ _ _ h=>h) (Or.inl ⟨by rfl,?_⟩) ?_ ?_
                  rotate_left
                  ·intro w'
                   go_simp
                   with_reducible rfl
                  rotate_left
                  ·simp only [Act.put,zT,zU,zV,i64_w,i32_w]
                   rfl
                  refine pure_ (i:=12) (N:=some 48) (v:=?_) (a':=?_) #[false,true,true,true,false,true,true,true,false,false,false,true,true,false,false,false] rfl rfl (any_of HT_.out (by kernel_rfl)) (fun _ _ _ h=>h) (Or.inl ⟨by rfl,?_⟩) ?_ ?_
                  rotate_left
                  ·intro w'
                   go_simp
                   with_reducible rfl
                  rotate_left
                  ·simp only [Act.put,zT,zU,zV,i64_w,i32_w]
                   rfl
                  refine pure_ (i:=13) (N:=some 49) (v:=?_) (a':=?_) #[false,true,true,true,false,true,true,true,false,false,false,true,true,true,false,false] rfl rfl (any_of HT_.out (by kernel_rfl)) (fun _ _ _ h=>h) (Or.inl ⟨by rfl,?_⟩) ?_ ?_
                  rotate_left
                  ·intro w'
                   go_simp
                   with_reducible rfl
                  rotate_left
                  ·simp only [Act.put,zT,zU,zV,i64_w,i32_w]
                   rfl
                  refine take_ (i:=8) (N:=some 44) (v:=?_) (a':=?_) #[false,true,true,true,false,true,true,true,true,false,false,true,true,true,false,false] rfl rfl (take_ofW HT_.out HW_.out (by kernel_rfl)) (fun _ _ _ h=>h) (Or.inl ⟨by rfl,?_⟩) hHeld ?_ ?_
                  rotate_left
                  ·intro w' s0
                   go_simp
                   with_reducible rfl
                  rotate_left
                  ·simp only [Act.put,zT,zU,zV,i64_w,i32_w]
                   rfl
                  refine join_ (σ:=Value × Value × Value) 3 #[true,true,true,true,true,true,true,true,true,true,false,true,true,true,false,false] (fun s_=>[(36,s_.1),(40,s_.2.1),(45,s_.2.2)]) (fun s_ w'=>(w'.cell? (ad581.add (x5_1).toNat) = some (.int .i64 (rd l0 x5_1))) ∧ (Kd.R (Kd.int .i64) 3 w' w.heap.size (fun k_=>some k_ ≠ (s_.2.2:Value).ownBlock ∧ some k_ ≠ (.slice (some ad580) x4_1.length co7:Value).ownBlock) s_.2.1 y589) ∧ (Kd.R (Kd.int .i64) 3 w' w.heap.size (fun k_=>some k_ ≠ (s_.2.1:Value).ownBlock ∧ some k_ ≠ (.slice (some ad580) x4_1.length co7:Value).ownBlock) s_.2.2 y593) ∧ (Kd.R (Kd.int .i64) 3 w' w.heap.size (fun k_=>some k_ ≠ (s_.2.1:Value).ownBlock ∧ some k_ ≠ (s_.2.2:Value).ownBlock) (.slice (some ad580) x4_1.length co7) x4_1) ∧ (Below w.heap.size w w')) ?_ ?_
                  rotate_left
                  ·intro hCont
                   refine two_ (i:=0) (j:=9) (Ni:=some 36) (Nj:=some 45) #[true,true,true,true,false,true,true,true,true,false,false,true,true,true,false,false] #[false,true,true,true,false,true,true,true,true,true,false,true,true,true,false,false] rfl rfl rfl rfl (two_of HT_.out (by kernel_rfl)) (by decide) (by decide) (fun K hK=>?_) (fun K hK=>?_)
                   ·skip
                    refine Kd.R_lit_step (Kd.int .i64) _ 3 ?hg (N:=36) ?hd (xs:=([]:List Int)) (inner:=[]) (ok:=fun _=>True) (okp:=fun _=>True) ?hr ?hp (fun _ hk=>hk) trivial (Below.refl _ _) (Nat.le_refl _) (by simp) ?_;(case hd=>rfl);(case hg=>rfl);(case hr=>first|(go_simp;done)|(go_simp;rfl));(case hp=>exact (Reps.none _ _))
                    intro v583 w27 ho28 hb hg_ hnew_;clear hg_ hnew_;(first|rw [← Ny582.out] at ho28|(simp only [Int.reduceToNat] at ho28;rw [← Ny582.out] at ho28))
                    have n0_:=zM (Kd.R_elder' (by (with_reducible repeat (first|apply zA|apply zB|apply zC));exact HO_4.out) (Kd.R_base ho28) hb)
                    have n1_:=zM (Kd.R_lower (Kd.R_new' ho28 (Kd.R_lt (by (with_reducible repeat (first|apply zA|apply zB|apply zC));exact HO_4.out))) (zR (by repeat (first|(with_reducible first|exact HB.out|apply zD|apply zE|apply zF)|exact HB.out))))
                    have n2_:=zM (zO (by repeat (first|(with_reducible exact HR588.out)|(with_reducible first|refine zG ?_ _|refine zH ?_ _|refine zI ?_)|exact HR588.out)) hb)
                    have n3_:=zM (zO (by repeat (first|(with_reducible exact HR602.out)|(with_reducible first|refine zG ?_ _|refine zH ?_ _|refine zI ?_)|exact HR602.out)) hb)
                    have n4_:=zM (zQ (by repeat (first|(with_reducible first|exact HB.out|apply zD|apply zE|apply zF)|exact HB.out)) hb)
                    clear HO_4;clear HR588;clear HR602;clear HB;have HO_4:=n0_;have HO584:=n1_;have HR588:=n2_;have HR602:=n3_;have HB:=n4_;clear n0_ n1_ n2_ n3_ n4_;clear hb ho28;refine hK.out _ _ ((zS HB.out hw592_0)) (fun hHeld=>?_)
                    clear hK K;refine norm_ (a':=?_) ?_ ?_
                    rotate_left
                    ·show Act.put _ (some 36) _ = _
                     simp only [Act.put,zT,zU,zV,i64_w,i32_w]
                     rfl
                    refine two_ (i:=4) (j:=9) (Ni:=some 40) (Nj:=some 45) #[true,true,true,true,true,true,true,true,true,false,false,true,true,true,false,false] #[true,true,true,true,false,true,true,true,true,true,false,true,true,true,false,false] rfl rfl rfl rfl (two_of HT_.out (by kernel_rfl)) (by decide) (by decide) (fun K hK=>?_) (fun K hK=>?_)
                    ·skip
                     refine Kd.R_append_rows_step (Kd.int .i64) (w0:=w) w.heap.size (by rfl) (.tmp 36) (.tmp 39) 22 3 (.int .i64 0) 8 rfl Try.underlying22 info3 rfl (by decide) (by omega) v583 y582 y585 _ _ _ (fun k_=>some k_ ≠ (.slice (some ad580) x4_1.length co7:Value).ownBlock) (fun _=>False) rfl rfl ?aO ?aR (fun _ _ h=>h) (fun _ h=>h.elim) ?aF ?aB ?aS ?aL ?_
                     (case aR=>repeat (first|exact (by repeat (first|(with_reducible exact HR588.out)|(with_reducible first|refine zG ?_ _|refine zH ?_ _|refine zI ?_)|exact HR588.out))|(with_reducible first|refine zG ?_ _|refine zH ?_ _|refine zI ?_)))
                     (case aB=>exact (by repeat (first|(with_reducible first|exact HB.out|apply zD|apply zE|apply zF)|exact HB.out)))
                     (case aF=>exact (fun k_ hk=>Kd.fresh' (Kd.R_lt (by (with_reducible repeat (first|apply zA|apply zB|apply zC));exact HO_4.out)) k_ hk))
                     (case aO=>exact (by (with_reducible repeat (first|apply zA|apply zB|apply zC));exact Kd.R_mono HO584.out (fun _ hk=>hk.2)))
                     (case aS=>exact (zR (by repeat (first|(with_reducible first|exact HB.out|apply zD|apply zE|apply zF)|exact HB.out))))
                     (case aL=>have:=LMc18.out;omega)
                     intro v590 w29 ho hb hg hat;rw [← Ny589.out] at ho;have n0_:=zM (Kd.R_after (ok:=(fun _=>True)) (by (with_reducible repeat (first|apply zA|apply zB|apply zC));exact HO_4.out) hg hat)
                     have n1_:=zM (hb);have n2_:=zM ((show Kd.C (Kd.int .i64) w29 (some ad580) y585.length y585 from by rw [Ny585.out];exact Kd.C_take (m:=(x6_2:Int).toNat) ((zN (Kd.R_after (ok:=(fun _=>True)) (by (with_reducible repeat (first|apply zA|apply zB|apply zC));exact HO_4.out) hg hat)).2.2) KL25.out))
                     have n3_:=zM ((show Kd.C (Kd.int .i64) w29 A26 y599.length y599 from by rw [Ny599.out,KA26.out];exact Kd.C_drop (m:=(x6_2:Int).toNat) (c:=co7) ((zN (Kd.R_after (ok:=(fun _=>True)) (by (with_reducible repeat (first|apply zA|apply zB|apply zC));exact HO_4.out) hg hat)).2.2) KL26.out ((zN (Kd.R_after (ok:=(fun _=>True)) (by (with_reducible repeat (first|apply zA|apply zB|apply zC));exact HO_4.out) hg hat)).2.1)))
                     have n4_:=zM (ho);clear HO_4;clear HB;clear HR588;clear HR602;clear HO584;have HO_4:=n0_;have HB:=n1_;have HR588:=n2_;have HR602:=n3_;have HO591:=n4_;clear n0_ n1_ n2_ n3_ n4_;clear ho hb hg hat;refine hK.out _ _ ((zS HB.out hw592_0)) (fun hHeld=>?_)
                     clear hK K;refine norm_ (a':=?_) ?_ ?_
                     rotate_left
                     ·show Act.put _ (some 40) _ = _
                      simp only [Act.put,zT,zU,zV,i64_w,i32_w]
                      rfl
                     refine one_ (i:=9) (N:=some 45) #[true,true,true,true,true,true,true,true,true,true,false,true,true,true,false,false] rfl rfl (one_of HT_.out (by kernel_rfl)) (by decide) (fun K hK=>?_)
                     refine Kd.R_lit_step (Kd.int .i64) _ 3 ?hg (N:=45) ?hd (xs:=([rd l0 x5_1]:List Int)) (inner:=[.int .i64 (rd l0 x5_1)]) (ok:=fun _=>True) (okp:=fun _=>True) ?hr ?hp (fun _ hk=>hk) trivial (Below.refl _ _) (Nat.le_refl _) (by simp) ?_;(case hd=>rfl);(case hg=>rfl);(case hr=>first|(go_simp;done)|(go_simp;rfl));(case hp=>exact (Reps.one (show Kd.M (Kd.int .i64) _ _ _ (rd l0 x5_1) [.int .i64 (rd l0 x5_1)] from rfl) (Reps.none _ _)))
                     intro v594 w30 ho31 hb hg_ hnew_;clear hg_ hnew_;(first|rw [← Ny593.out] at ho31|(simp only [Int.reduceToNat] at ho31;rw [← Ny593.out] at ho31))
                     have n0_:=zM (Kd.R_elder' (by (with_reducible repeat (first|apply zA|apply zB|apply zC));exact HO_4.out) (Kd.R_base ho31) hb)
                     have n1_:=zM (Kd.R_elder' (by (with_reducible repeat (first|apply zA|apply zB|apply zC));exact HO591.out) (Kd.R_base ho31) hb)
                     have n2_:=zM (Kd.R_lower (Kd.R_new' (Kd.R_new' ho31 (Kd.R_lt (by (with_reducible repeat (first|apply zA|apply zB|apply zC));exact HO_4.out))) (Kd.R_lt (by (with_reducible repeat (first|apply zA|apply zB|apply zC));exact HO591.out))) (zR (by repeat (first|(with_reducible first|exact HB.out|apply zD|apply zE|apply zF)|exact HB.out))))
                     have n3_:=zM (zO (by repeat (first|(with_reducible exact HR588.out)|(with_reducible first|refine zG ?_ _|refine zH ?_ _|refine zI ?_)|exact HR588.out)) hb)
                     have n4_:=zM (zO (by repeat (first|(with_reducible exact HR602.out)|(with_reducible first|refine zG ?_ _|refine zH ?_ _|refine zI ?_)|exact HR602.out)) hb)
                     have n5_:=zM (zQ (by repeat (first|(with_reducible first|exact HB.out|apply zD|apply zE|apply zF)|exact HB.out)) hb)
                     clear HO_4;clear HO591;clear HR588;clear HR602;clear HB;have HO_4:=n0_;have HO591:=n1_;have HO595:=n2_;have HR588:=n3_;have HR602:=n4_;have HB:=n5_;clear n0_ n1_ n2_ n3_ n4_ n5_;clear hb ho31;refine hK.out _ _ ((zS HB.out hw592_0)) (fun hHeld=>?_)
                     clear hK K;refine norm_ (a':=?_) ?_ ?_
                     rotate_left
                     ·show Act.put _ (some 45) _ = _
                      simp only [Act.put,zT,zU,zV,i64_w,i32_w]
                      rfl
                     exact norm_ (by simp only [putAll,Act.put,List.setIfInBounds_toArray,List.set_cons_zero,List.set_cons_succ]) (hCont (v583,v590,v594) _ ⟨hHeld,(by (with_reducible repeat (first|apply zA|apply zB|apply zC));exact Kd.R_mono HO591.out (fun _ hk=>⟨hk.2,hk.1⟩)),(by (with_reducible repeat (first|apply zA|apply zB|apply zC));exact Kd.R_mono HO595.out (fun _ hk=>⟨hk.2,hk.1.2⟩)),(by (with_reducible repeat (first|apply zA|apply zB|apply zC));exact Kd.R_mono HO_4.out (fun _ hk=>⟨hk.1.2,hk.2⟩)),(by repeat (first|(with_reducible first|exact HB.out|apply zD|apply zE|apply zF)|exact HB.out))⟩)
                    ·skip
                     refine Kd.R_lit_step (Kd.int .i64) _ 3 ?hg (N:=45) ?hd (xs:=([rd l0 x5_1]:List Int)) (inner:=[.int .i64 (rd l0 x5_1)]) (ok:=fun _=>True) (okp:=fun _=>True) ?hr ?hp (fun _ hk=>hk) trivial (Below.refl _ _) (Nat.le_refl _) (by simp) ?_;(case hd=>rfl);(case hg=>rfl);(case hr=>first|(go_simp;done)|(go_simp;rfl));(case hp=>exact (Reps.one (show Kd.M (Kd.int .i64) _ _ _ (rd l0 x5_1) [.int .i64 (rd l0 x5_1)] from rfl) (Reps.none _ _)))
                     intro v594 w29 ho30 hb hg_ hnew_;clear hg_ hnew_;(first|rw [← Ny593.out] at ho30|(simp only [Int.reduceToNat] at ho30;rw [← Ny593.out] at ho30))
                     have n0_:=zM (Kd.R_elder' (by (with_reducible repeat (first|apply zA|apply zB|apply zC));exact HO_4.out) (Kd.R_base ho30) hb)
                     have n1_:=zM (Kd.R_elder' (by (with_reducible repeat (first|apply zA|apply zB|apply zC));exact HO584.out) (Kd.R_base ho30) hb)
                     have n2_:=zM (Kd.R_lower (Kd.R_new' (Kd.R_new' ho30 (Kd.R_lt (by (with_reducible repeat (first|apply zA|apply zB|apply zC));exact HO_4.out))) (Kd.R_lt (by (with_reducible repeat (first|apply zA|apply zB|apply zC));exact HO584.out))) (zR (by repeat (first|(with_reducible first|exact HB.out|apply zD|apply zE|apply zF)|exact HB.out))))
                     have n3_:=zM (zO (by repeat (first|(with_reducible exact HR588.out)|(with_reducible first|refine zG ?_ _|refine zH ?_ _|refine zI ?_)|exact HR588.out)) hb)
                     have n4_:=zM (zO (by repeat (first|(with_reducible exact HR602.out)|(with_reducible first|refine zG ?_ _|refine zH ?_ _|refine zI ?_)|exact HR602.out)) hb)
                     have n5_:=zM (zQ (by repeat (first|(with_reducible first|exact HB.out|apply zD|apply zE|apply zF)|exact HB.out)) hb)
                     clear HO_4;clear HO584;clear HR588;clear HR602;clear HB;have HO_4:=n0_;have HO584:=n1_;have HO595:=n2_;have HR588:=n3_;have HR602:=n4_;have HB:=n5_;clear n0_ n1_ n2_ n3_ n4_ n5_;clear hb ho30;refine hK.out _ _ ((zS HB.out hw592_0)) (fun hHeld=>?_)
                     clear hK K;refine norm_ (a':=?_) ?_ ?_
                     rotate_left
                     ·show Act.put _ (some 45) _ = _
                      simp only [Act.put,zT,zU,zV,i64_w,i32_w]
                      rfl
                     refine one_ (i:=4) (N:=some 40) #[true,true,true,true,true,true,true,true,true,true,false,true,true,true,false,false] rfl rfl (one_of HT_.out (by kernel_rfl)) (by decide) (fun K hK=>?_)
                     refine Kd.R_append_rows_step (Kd.int .i64) (w0:=w) w.heap.size (by rfl) (.tmp 36) (.tmp 39) 22 3 (.int .i64 0) 8 rfl Try.underlying22 info3 rfl (by decide) (by omega) v583 y582 y585 _ _ _ (fun k_=>some k_ ≠ (.slice (some ad580) x4_1.length co7:Value).ownBlock ∧ some k_ ≠ (v594:Value).ownBlock) (fun _=>False) rfl rfl ?aO ?aR (fun _ _ h=>h) (fun _ h=>h.elim) ?aF ?aB ?aS ?aL ?_
                     (case aR=>repeat (first|exact (by repeat (first|(with_reducible exact HR588.out)|(with_reducible first|refine zG ?_ _|refine zH ?_ _|refine zI ?_)|exact HR588.out))|(with_reducible first|refine zG ?_ _|refine zH ?_ _|refine zI ?_)))
                     (case aB=>exact (by repeat (first|(with_reducible first|exact HB.out|apply zD|apply zE|apply zF)|exact HB.out)))
                     (case aF=>exact (fun k_ hk=>⟨Kd.fresh' (Kd.R_lt (by (with_reducible repeat (first|apply zA|apply zB|apply zC));exact HO_4.out)) k_ hk,Kd.fresh' (Kd.R_lt (by (with_reducible repeat (first|apply zA|apply zB|apply zC));exact HO595.out)) k_ hk⟩))
                     (case aO=>exact (by (with_reducible repeat (first|apply zA|apply zB|apply zC));exact Kd.R_mono HO584.out (fun _ hk=>⟨hk.1.2,hk.2⟩)))
                     (case aS=>exact (zR (by repeat (first|(with_reducible first|exact HB.out|apply zD|apply zE|apply zF)|exact HB.out))))
                     (case aL=>have:=LMc18.out;omega)
                     intro v590 w31 ho hb hg hat;rw [← Ny589.out] at ho;have n0_:=zM (Kd.R_after (ok:=(fun k_=>some k_ ≠ (v594:Value).ownBlock)) (by (with_reducible repeat (first|apply zA|apply zB|apply zC));exact Kd.R_mono HO_4.out (fun _ hk=>⟨hk.2,hk.1.2⟩)) hg hat)
                     have n1_:=zM (Kd.R_after (ok:=(fun k_=>some k_ ≠ (.slice (some ad580) x4_1.length co7:Value).ownBlock)) (by (with_reducible repeat (first|apply zA|apply zB|apply zC));exact Kd.R_mono HO595.out (fun _ hk=>⟨hk.1.2,hk.2⟩)) hg hat)
                     have n2_:=zM (hb);have n3_:=zM ((show Kd.C (Kd.int .i64) w31 (some ad580) y585.length y585 from by rw [Ny585.out];exact Kd.C_take (m:=(x6_2:Int).toNat) ((zN (Kd.R_after (ok:=(fun k_=>some k_ ≠ (v594:Value).ownBlock)) (by (with_reducible repeat (first|apply zA|apply zB|apply zC));exact Kd.R_mono HO_4.out (fun _ hk=>⟨hk.2,hk.1.2⟩)) hg hat)).2.2) KL25.out))
                     have n4_:=zM ((show Kd.C (Kd.int .i64) w31 A26 y599.length y599 from by rw [Ny599.out,KA26.out];exact Kd.C_drop (m:=(x6_2:Int).toNat) (c:=co7) ((zN (Kd.R_after (ok:=(fun k_=>some k_ ≠ (v594:Value).ownBlock)) (by (with_reducible repeat (first|apply zA|apply zB|apply zC));exact Kd.R_mono HO_4.out (fun _ hk=>⟨hk.2,hk.1.2⟩)) hg hat)).2.2) KL26.out ((zN (Kd.R_after (ok:=(fun k_=>some k_ ≠ (v594:Value).ownBlock)) (by (with_reducible repeat (first|apply zA|apply zB|apply zC));exact Kd.R_mono HO_4.out (fun _ hk=>⟨hk.2,hk.1.2⟩)) hg hat)).2.1)))
                     have n5_:=zM (ho);clear HO_4;clear HO595;clear HB;clear HR588;clear HR602;clear HO584;have HO_4:=n0_;have HO595:=n1_;have HB:=n2_;have HR588:=n3_;have HR602:=n4_;have HO591:=n5_;clear n0_ n1_ n2_ n3_ n4_ n5_;clear ho hb hg hat;refine hK.out _ _ ((zS HB.out hw592_0)) (fun hHeld=>?_)
                     clear hK K;refine norm_ (a':=?_) ?_ ?_
                     rotate_left
                     ·show Act.put _ (some 40) _ = _
                      simp only [Act.put,zT,zU,zV,i64_w,i32_w]
                      rfl
                     exact norm_ (by simp only [putAll,Act.put,List.setIfInBounds_toArray,List.set_cons_zero,List.set_cons_succ]) (hCont (v583,v590,v594) _ ⟨hHeld,(by (with_reducible repeat (first|apply zA|apply zB|apply zC));exact Kd.R_mono HO591.out (fun _ hk=>⟨hk.2,hk.1⟩)),(by (with_reducible repeat (first|apply zA|apply zB|apply zC));exact Kd.R_mono HO595.out (fun _ hk=>⟨hk.2,hk.1⟩)),(by (with_reducible repeat (first|apply zA|apply zB|apply zC));exact Kd.R_mono HO_4.out (fun _ hk=>⟨hk.2,hk.1⟩)),(by repeat (first|(with_reducible first|exact HB.out|apply zD|apply zE|apply zF)|exact HB.out))⟩)
                   ·skip
                    refine Kd.R_lit_step (Kd.int .i64) _ 3 ?hg (N:=45) ?hd (xs:=([rd l0 x5_1]:List Int)) (inner:=[.int .i64 (rd l0 x5_1)]) (ok:=fun _=>True) (okp:=fun _=>True) ?hr ?hp (fun _ hk=>hk) trivial (Below.refl _ _) (Nat.le_refl _) (by simp) ?_;(case hd=>rfl);(case hg=>rfl);(case hr=>first|(go_simp;done)|(go_simp;rfl));(case hp=>exact (Reps.one (show Kd.M (Kd.int .i64) _ _ _ (rd l0 x5_1) [.int .i64 (rd l0 x5_1)] from rfl) (Reps.none _ _)))
                    intro v594 w27 ho28 hb hg_ hnew_;clear hg_ hnew_;(first|rw [← Ny593.out] at ho28|(simp only [Int.reduceToNat] at ho28;rw [← Ny593.out] at ho28))
                    have n0_:=zM (Kd.R_elder' (by (with_reducible repeat (first|apply zA|apply zB|apply zC));exact HO_4.out) (Kd.R_base ho28) hb)
                    have n1_:=zM (Kd.R_lower (Kd.R_new' ho28 (Kd.R_lt (by (with_reducible repeat (first|apply zA|apply zB|apply zC));exact HO_4.out))) (zR (by repeat (first|(with_reducible first|exact HB.out|apply zD|apply zE|apply zF)|exact HB.out))))
                    have n2_:=zM (zO (by repeat (first|(with_reducible exact HR588.out)|(with_reducible first|refine zG ?_ _|refine zH ?_ _|refine zI ?_)|exact HR588.out)) hb)
                    have n3_:=zM (zO (by repeat (first|(with_reducible exact HR602.out)|(with_reducible first|refine zG ?_ _|refine zH ?_ _|refine zI ?_)|exact HR602.out)) hb)
                    have n4_:=zM (zQ (by repeat (first|(with_reducible first|exact HB.out|apply zD|apply zE|apply zF)|exact HB.out)) hb)
                    clear HO_4;clear HR588;clear HR602;clear HB;have HO_4:=n0_;have HO595:=n1_;have HR588:=n2_;have HR602:=n3_;have HB:=n4_;clear n0_ n1_ n2_ n3_ n4_;clear hb ho28;refine hK.out _ _ ((zS HB.out hw592_0)) (fun hHeld=>?_)
                    clear hK K;refine norm_ (a':=?_) ?_ ?_
                    rotate_left
                    ·show Act.put _ (some 45) _ = _
                     simp only [Act.put,zT,zU,zV,i64_w,i32_w]
                     rfl
                    refine one_ (i:=0) (N:=some 36) #[true,true,true,true,false,true,true,true,true,true,false,true,true,true,false,false] rfl rfl (one_of HT_.out (by kernel_rfl)) (by decide) (fun K hK=>?_)
                    refine Kd.R_lit_step (Kd.int .i64) _ 3 ?hg (N:=36) ?hd (xs:=([]:List Int)) (inner:=[]) (ok:=fun _=>True) (okp:=fun _=>True) ?hr ?hp (fun _ hk=>hk) trivial (Below.refl _ _) (Nat.le_refl _) (by simp) ?_;(case hd=>rfl);(case hg=>rfl);(case hr=>first|(go_simp;done)|(go_simp;rfl));(case hp=>exact (Reps.none _ _))
                    intro v583 w29 ho30 hb hg_ hnew_;clear hg_ hnew_;(first|rw [← Ny582.out] at ho30|(simp only [Int.reduceToNat] at ho30;rw [← Ny582.out] at ho30))
                    have n0_:=zM (Kd.R_elder' (by (with_reducible repeat (first|apply zA|apply zB|apply zC));exact HO_4.out) (Kd.R_base ho30) hb)
                    have n1_:=zM (Kd.R_elder' (by (with_reducible repeat (first|apply zA|apply zB|apply zC));exact HO595.out) (Kd.R_base ho30) hb)
                    have n2_:=zM (Kd.R_lower (Kd.R_new' (Kd.R_new' ho30 (Kd.R_lt (by (with_reducible repeat (first|apply zA|apply zB|apply zC));exact HO_4.out))) (Kd.R_lt (by (with_reducible repeat (first|apply zA|apply zB|apply zC));exact HO595.out))) (zR (by repeat (first|(with_reducible first|exact HB.out|apply zD|apply zE|apply zF)|exact HB.out))))
                    have n3_:=zM (zO (by repeat (first|(with_reducible exact HR588.out)|(with_reducible first|refine zG ?_ _|refine zH ?_ _|refine zI ?_)|exact HR588.out)) hb)
                    have n4_:=zM (zO (by repeat (first|(with_reducible exact HR602.out)|(with_reducible first|refine zG ?_ _|refine zH ?_ _|refine zI ?_)|exact HR602.out)) hb)
                    have n5_:=zM (zQ (by repeat (first|(with_reducible first|exact HB.out|apply zD|apply zE|apply zF)|exact HB.out)) hb)
                    clear HO_4;clear HO595;clear HR588;clear HR602;clear HB;have HO_4:=n0_;have HO595:=n1_;have HO584:=n2_;have HR588:=n3_;have HR602:=n4_;have HB:=n5_;clear n0_ n1_ n2_ n3_ n4_ n5_;clear hb ho30;refine hK.out _ _ ((zS HB.out hw592_0)) (fun hHeld=>?_)
                    clear hK K;refine norm_ (a':=?_) ?_ ?_
                    rotate_left
                    ·show Act.put _ (some 36) _ = _
                     simp only [Act.put,zT,zU,zV,i64_w,i32_w]
                     rfl
                    refine one_ (i:=4) (N:=some 40) #[true,true,true,true,true,true,true,true,true,true,false,true,true,true,false,false] rfl rfl (one_of HT_.out (by kernel_rfl)) (by decide) (fun K hK=>?_)
                    refine Kd.R_append_rows_step (Kd.int .i64) (w0:=w) w.heap.size (by rfl) (.tmp 36) (.tmp 39) 22 3 (.int .i64 0) 8 rfl Try.underlying22 info3 rfl (by decide) (by omega) v583 y582 y585 _ _ _ (fun k_=>some k_ ≠ (.slice (some ad580) x4_1.length co7:Value).ownBlock ∧ some k_ ≠ (v594:Value).ownBlock) (fun _=>False) rfl rfl ?aO ?aR (fun _ _ h=>h) (fun _ h=>h.elim) ?aF ?aB ?aS ?aL ?_
                    (case aR=>repeat (first|exact (by repeat (first|(with_reducible exact HR588.out)|(with_reducible first|refine zG ?_ _|refine zH ?_ _|refine zI ?_)|exact HR588.out))|(with_reducible first|refine zG ?_ _|refine zH ?_ _|refine zI ?_)))
                    (case aB=>exact (by repeat (first|(with_reducible first|exact HB.out|apply zD|apply zE|apply zF)|exact HB.out)))
                    (case aF=>exact (fun k_ hk=>⟨Kd.fresh' (Kd.R_lt (by (with_reducible repeat (first|apply zA|apply zB|apply zC));exact HO_4.out)) k_ hk,Kd.fresh' (Kd.R_lt (by (with_reducible repeat (first|apply zA|apply zB|apply zC));exact HO595.out)) k_ hk⟩))
                    (case aO=>exact (by (with_reducible repeat (first|apply zA|apply zB|apply zC));exact Kd.R_mono HO584.out (fun _ hk=>⟨hk.1.2,hk.2⟩)))
                    (case aS=>exact (zR (by repeat (first|(with_reducible first|exact HB.out|apply zD|apply zE|apply zF)|exact HB.out))))
                    (case aL=>have:=LMc18.out;omega)
                    intro v590 w31 ho hb hg hat;rw [← Ny589.out] at ho;have n0_:=zM (Kd.R_after (ok:=(fun k_=>some k_ ≠ (v594:Value).ownBlock)) (by (with_reducible repeat (first|apply zA|apply zB|apply zC));exact Kd.R_mono HO_4.out (fun _ hk=>⟨hk.1.2,hk.2⟩)) hg hat)
                    have n1_:=zM (Kd.R_after (ok:=(fun k_=>some k_ ≠ (.slice (some ad580) x4_1.length co7:Value).ownBlock)) (by (with_reducible repeat (first|apply zA|apply zB|apply zC));exact Kd.R_mono HO595.out (fun _ hk=>⟨hk.1.2,hk.2⟩)) hg hat)
                    have n2_:=zM (hb);have n3_:=zM ((show Kd.C (Kd.int .i64) w31 (some ad580) y585.length y585 from by rw [Ny585.out];exact Kd.C_take (m:=(x6_2:Int).toNat) ((zN (Kd.R_after (ok:=(fun k_=>some k_ ≠ (v594:Value).ownBlock)) (by (with_reducible repeat (first|apply zA|apply zB|apply zC));exact Kd.R_mono HO_4.out (fun _ hk=>⟨hk.1.2,hk.2⟩)) hg hat)).2.2) KL25.out))
                    have n4_:=zM ((show Kd.C (Kd.int .i64) w31 A26 y599.length y599 from by rw [Ny599.out,KA26.out];exact Kd.C_drop (m:=(x6_2:Int).toNat) (c:=co7) ((zN (Kd.R_after (ok:=(fun k_=>some k_ ≠ (v594:Value).ownBlock)) (by (with_reducible repeat (first|apply zA|apply zB|apply zC));exact Kd.R_mono HO_4.out (fun _ hk=>⟨hk.1.2,hk.2⟩)) hg hat)).2.2) KL26.out ((zN (Kd.R_after (ok:=(fun k_=>some k_ ≠ (v594:Value).ownBlock)) (by (with_reducible repeat (first|apply zA|apply zB|apply zC));exact Kd.R_mono HO_4.out (fun _ hk=>⟨hk.1.2,hk.2⟩)) hg hat)).2.1)))
                    have n5_:=zM (ho);clear HO_4;clear HO595;clear HB;clear HR588;clear HR602;clear HO584;have HO_4:=n0_;have HO595:=n1_;have HB:=n2_;have HR588:=n3_;have HR602:=n4_;have HO591:=n5_;clear n0_ n1_ n2_ n3_ n4_ n5_;clear ho hb hg hat;refine hK.out _ _ ((zS HB.out hw592_0)) (fun hHeld=>?_)
                    clear hK K;refine norm_ (a':=?_) ?_ ?_
                    rotate_left
                    ·show Act.put _ (some 40) _ = _
                     simp only [Act.put,zT,zU,zV,i64_w,i32_w]
                     rfl
                    exact norm_ (by simp only [putAll,Act.put,List.setIfInBounds_toArray,List.set_cons_zero,List.set_cons_succ]) (hCont (v583,v590,v594) _ ⟨hHeld,(by (with_reducible repeat (first|apply zA|apply zB|apply zC));exact Kd.R_mono HO591.out (fun _ hk=>⟨hk.2,hk.1⟩)),(by (with_reducible repeat (first|apply zA|apply zB|apply zC));exact Kd.R_mono HO595.out (fun _ hk=>⟨hk.2,hk.1⟩)),(by (with_reducible repeat (first|apply zA|apply zB|apply zC));exact Kd.R_mono HO_4.out (fun _ hk=>⟨hk.2,hk.1⟩)),(by repeat (first|(with_reducible first|exact HB.out|apply zD|apply zE|apply zF)|exact HB.out))⟩)
                  rintro ⟨v583,v590,v594⟩ w32 ⟨hS_,h0_,h1_,h2_,h3_⟩
                  have n0_:Aside0 (Kd.R (Kd.int .i64) 3 w32 w.heap.size (fun k_=>some k_ ≠ (v594:Value).ownBlock ∧ some k_ ≠ (.slice (some ad580) x4_1.length co7:Value).ownBlock) v590 y589):=⟨h0_⟩
                  have n1_:Aside0 (Kd.R (Kd.int .i64) 3 w32 w.heap.size (fun k_=>some k_ ≠ (v590:Value).ownBlock ∧ some k_ ≠ (.slice (some ad580) x4_1.length co7:Value).ownBlock) v594 y593):=⟨h1_⟩
                  have n2_:Aside0 (Kd.R (Kd.int .i64) 3 w32 w.heap.size (fun k_=>some k_ ≠ (v590:Value).ownBlock ∧ some k_ ≠ (v594:Value).ownBlock) (.slice (some ad580) x4_1.length co7) x4_1):=⟨h2_⟩
                  have n3_:Aside0 (Below w.heap.size w w32):=⟨h3_⟩
                  clear HO_4;clear HB;clear h0_ h1_ h2_ h3_;have HO591:=n0_;have HO595:=n1_;have HO_4:=n2_;have HB:=n3_;clear n0_ n1_ n2_ n3_;have hHeld:w32.cell? (ad581.add (x5_1).toNat) = some (.int .i64 (rd l0 x5_1)):=hS_
                  have HR588:=zM (show Kd.C (Kd.int .i64) w32 (some ad580) y585.length y585 from by rw [Ny585.out];exact Kd.C_take (m:=(x6_2:Int).toNat) ((zN (HO_4.out)).2.2) KL25.out)
                  have HR602:=zM (show Kd.C (Kd.int .i64) w32 A26 y599.length y599 from by rw [Ny599.out,KA26.out];exact Kd.C_drop (m:=(x6_2:Int).toNat) (c:=co7) ((zN (HO_4.out)).2.2) KL26.out ((zN (HO_4.out)).2.1))
                  obtain ⟨Ao34,co34,eo34⟩:=Kd.R_slice HO595.out;(first|subst eo34|(injection eo34 with f1_ f2_ f3_;have f4_:=f1_.symm;have f5_:=f3_.symm;clear f1_ f2_ f3_;subst f4_;subst f5_))
                  refine norm_ (a':=?_) ?_ ?_
                  rotate_left
                  ·simp only [putAll,Act.put,List.setIfInBounds_toArray,List.set_cons_zero,List.set_cons_succ]
                   rfl
                  refine one_ (i:=10) (N:=some 46) #[true,true,true,true,true,true,true,true,true,true,true,true,true,true,false,false] rfl rfl (one_of HT_.out (by kernel_rfl)) (by decide) (fun K hK=>?_)
                  refine Kd.R_append_rows_step (Kd.int .i64) (w0:=w) w.heap.size (by rfl) (.tmp 40) (.tmp 45) 22 3 (.int .i64 0) 8 rfl Try.underlying22 info3 rfl (by decide) (by omega) v590 y589 y593 _ _ _ (fun k_=>some k_ ≠ (.slice (some ad580) x4_1.length co7:Value).ownBlock ∧ some k_ ≠ (.slice Ao34 y593.length co34:Value).ownBlock) (fun _=>False) rfl rfl ?aO ?aR (fun _ _ h=>h) (fun _ h=>h.elim) ?aF ?aB ?aS ?aL ?_
                  (case aR=>repeat (first|exact (zN HO595.out).2.2|(with_reducible first|refine zG ?_ _|refine zH ?_ _|refine zI ?_)))
                  (case aB=>exact (by repeat (first|(with_reducible first|exact HB.out|apply zD|apply zE|apply zF)|exact HB.out)))
                  (case aF=>exact (fun k_ hk=>⟨Kd.fresh' (Kd.R_lt (by (with_reducible repeat (first|apply zA|apply zB|apply zC));exact HO_4.out)) k_ hk,Kd.fresh' (Kd.R_lt (by (with_reducible repeat (first|apply zA|apply zB|apply zC));exact HO595.out)) k_ hk⟩))
                  (case aO=>exact (by (with_reducible repeat (first|apply zA|apply zB|apply zC));exact Kd.R_mono HO591.out (fun _ hk=>⟨hk.2,hk.1⟩)))
                  (case aS=>exact (zR (by repeat (first|(with_reducible first|exact HB.out|apply zD|apply zE|apply zF)|exact HB.out))))
                  (case aL=>have:=LMc19.out;omega)
                  intro v597 w33 ho hb hg hat;rw [← Ny596.out] at ho;have n0_:=zM (Kd.R_after (ok:=(fun k_=>some k_ ≠ (.slice Ao34 y593.length co34:Value).ownBlock)) (by (with_reducible repeat (first|apply zA|apply zB|apply zC));exact Kd.R_mono HO_4.out (fun _ hk=>⟨hk.2,hk.1⟩)) hg hat)
                  have n1_:=zM (Kd.R_after (ok:=(fun k_=>some k_ ≠ (.slice (some ad580) x4_1.length co7:Value).ownBlock)) (by (with_reducible repeat (first|apply zA|apply zB|apply zC));exact Kd.R_mono HO595.out (fun _ hk=>⟨hk.2,hk.1⟩)) hg hat)
                  have n2_:=zM (hb);have n3_:=zM ((show Kd.C (Kd.int .i64) w33 (some ad580) y585.length y585 from by rw [Ny585.out];exact Kd.C_take (m:=(x6_2:Int).toNat) ((zN (Kd.R_after (ok:=(fun k_=>some k_ ≠ (.slice Ao34 y593.length co34:Value).ownBlock)) (by (with_reducible repeat (first|apply zA|apply zB|apply zC));exact Kd.R_mono HO_4.out (fun _ hk=>⟨hk.2,hk.1⟩)) hg hat)).2.2) KL25.out))
                  have n4_:=zM ((show Kd.C (Kd.int .i64) w33 A26 y599.length y599 from by rw [Ny599.out,KA26.out];exact Kd.C_drop (m:=(x6_2:Int).toNat) (c:=co7) ((zN (Kd.R_after (ok:=(fun k_=>some k_ ≠ (.slice Ao34 y593.length co34:Value).ownBlock)) (by (with_reducible repeat (first|apply zA|apply zB|apply zC));exact Kd.R_mono HO_4.out (fun _ hk=>⟨hk.2,hk.1⟩)) hg hat)).2.2) KL26.out ((zN (Kd.R_after (ok:=(fun k_=>some k_ ≠ (.slice Ao34 y593.length co34:Value).ownBlock)) (by (with_reducible repeat (first|apply zA|apply zB|apply zC));exact Kd.R_mono HO_4.out (fun _ hk=>⟨hk.2,hk.1⟩)) hg hat)).2.1)))
                  have n5_:=zM (ho);clear HO_4;clear HO595;clear HB;clear HR588;clear HR602;clear HO591;have HO_4:=n0_;have HO595:=n1_;have HB:=n2_;have HR588:=n3_;have HR602:=n4_;have HO598:=n5_;clear n0_ n1_ n2_ n3_ n4_ n5_;clear ho hb hg hat;refine hK.out _ _ ((zS HB.out hw592_0)) (fun hHeld=>?_)
                  clear hK K;refine norm_ (a':=?_) ?_ ?_
                  rotate_left
                  ·show Act.put _ (some 46) _ = _
                   simp only [Act.put,zT,zU,zV,i64_w,i32_w]
                   rfl
                  refine one_ (i:=14) (N:=some 50) #[true,true,true,true,true,true,true,true,true,true,true,true,true,true,true,false] rfl rfl (one_of HT_.out (by kernel_rfl)) (by decide) (fun K hK=>?_)
                  refine Kd.R_append_rows_step (Kd.int .i64) (w0:=w) w.heap.size (by rfl) (.tmp 46) (.tmp 49) 22 3 (.int .i64 0) 8 rfl Try.underlying22 info3 rfl (by decide) (by omega) v597 y596 y599 _ _ _ (fun k_=>some k_ ≠ (.slice (some ad580) x4_1.length co7:Value).ownBlock ∧ some k_ ≠ (.slice Ao34 y593.length co34:Value).ownBlock) (fun _=>False) rfl rfl ?aO ?aR (fun _ _ h=>h) (fun _ h=>h.elim) ?aF ?aB ?aS ?aL ?_
                  (case aR=>repeat (first|exact (by repeat (first|(with_reducible exact HR602.out)|(with_reducible first|refine zG ?_ _|refine zH ?_ _|refine zI ?_)|exact HR602.out))|(with_reducible first|refine zG ?_ _|refine zH ?_ _|refine zI ?_)))
                  (case aB=>exact (by repeat (first|(with_reducible first|exact HB.out|apply zD|apply zE|apply zF)|exact HB.out)))
                  (case aF=>exact (fun k_ hk=>⟨Kd.fresh' (Kd.R_lt (by (with_reducible repeat (first|apply zA|apply zB|apply zC));exact HO_4.out)) k_ hk,Kd.fresh' (Kd.R_lt (by (with_reducible repeat (first|apply zA|apply zB|apply zC));exact HO595.out)) k_ hk⟩))
                  (case aO=>exact (by (with_reducible repeat (first|apply zA|apply zB|apply zC));exact HO598.out))
                  (case aS=>exact (zR (by repeat (first|(with_reducible first|exact HB.out|apply zD|apply zE|apply zF)|exact HB.out))))
                  (case aL=>have:=LMc22.out;omega)
                  intro v604 w35 ho hb hg hat;rw [← Ny603.out] at ho;have n0_:=zM (Kd.R_after (ok:=(fun k_=>some k_ ≠ (.slice Ao34 y593.length co34:Value).ownBlock)) (by (with_reducible repeat (first|apply zA|apply zB|apply zC));exact HO_4.out) hg hat)
                  have n1_:=zM (Kd.R_after (ok:=(fun k_=>some k_ ≠ (.slice (some ad580) x4_1.length co7:Value).ownBlock)) (by (with_reducible repeat (first|apply zA|apply zB|apply zC));exact HO595.out) hg hat)
                  have n2_:=zM (hb);have n3_:=zM ((show Kd.C (Kd.int .i64) w35 (some ad580) y585.length y585 from by rw [Ny585.out];exact Kd.C_take (m:=(x6_2:Int).toNat) ((zN (Kd.R_after (ok:=(fun k_=>some k_ ≠ (.slice Ao34 y593.length co34:Value).ownBlock)) (by (with_reducible repeat (first|apply zA|apply zB|apply zC));exact HO_4.out) hg hat)).2.2) KL25.out))
                  have n4_:=zM ((show Kd.C (Kd.int .i64) w35 A26 y599.length y599 from by rw [Ny599.out,KA26.out];exact Kd.C_drop (m:=(x6_2:Int).toNat) (c:=co7) ((zN (Kd.R_after (ok:=(fun k_=>some k_ ≠ (.slice Ao34 y593.length co34:Value).ownBlock)) (by (with_reducible repeat (first|apply zA|apply zB|apply zC));exact HO_4.out) hg hat)).2.2) KL26.out ((zN (Kd.R_after (ok:=(fun k_=>some k_ ≠ (.slice Ao34 y593.length co34:Value).ownBlock)) (by (with_reducible repeat (first|apply zA|apply zB|apply zC));exact HO_4.out) hg hat)).2.1)))
                  have n5_:=zM (ho);clear HO_4;clear HO595;clear HB;clear HR588;clear HR602;clear HO598;have HO_4:=n0_;have HO595:=n1_;have HB:=n2_;have HR588:=n3_;have HR602:=n4_;have HO605:=n5_;clear n0_ n1_ n2_ n3_ n4_ n5_;clear ho hb hg hat;refine hK.out _ _ ((zS HB.out hw592_0)) (fun hHeld=>?_)
                  clear hK K;refine norm_ (a':=?_) ?_ ?_
                  rotate_left
                  ·show Act.put _ (some 50) _ = _
                   simp only [Act.put,zT,zU,zV,i64_w,i32_w]
                   rfl
                  refine pure_ (i:=15) (N:=some 4) (v:=?_) (a':=?_) #[true,true,true,true,true,true,true,true,true,true,true,true,true,true,true,true] rfl rfl (any_of HT_.out (by kernel_rfl)) (fun _ _ _ h=>h) (Or.inl ⟨by rfl,?_⟩) ?_ ?_
                  rotate_left
                  ·intro w'
                   go_simp
                   with_reducible rfl
                  rotate_left
                  ·simp only [Act.put,zT,zU,zV,i64_w,i32_w]
                   rfl
                  refine done_ (done_of HT_.out (by kernel_rfl)) ?_
                  try go_wp2
                  go_roundg k2
                  case measure=>have:=HK1.out;have:=HK2.out;omega
                  case rel=>exact ⟨(y603),(wrap64 (x5_1 + 1)),(by first|rfl|(simp;done)|(simp [*];done)),H',⟨by have:=HK1.out;have:=HK2.out;omega⟩,⟨by (with_reducible repeat (first|apply zA|apply zB|apply zC));exact Kd.R_mono HO605.out (fun _ hk=>trivial)⟩,⟨by repeat (first|(with_reducible first|exact HB.out|apply zD|apply zE|apply zF)|exact HB.out)⟩⟩
                 ·rw [if_neg c22] at H
                  exact absurd H (by simp)
                ·rw [if_neg c19] at H
                 exact absurd H (by simp)
               ·rw [if_neg c18] at H
                exact absurd H (by simp)
              ·rw [if_neg c17] at H
               exact absurd H (by simp)
             ·rw [if_neg c16] at H
              exact absurd H (by simp)
           ·rw [if_neg c13] at H
            exact absurd H (by simp)
          ·rw [if_neg c12] at H
           exact absurd H (by simp)
         ·rw [if_neg c11] at H
          exact absurd H (by simp)
        ·rw [if_neg c10] at H
         exact absurd H (by simp)
       ·rw [if_neg c8] at H
        have c8b0:decide (0 < x6_2) = false:=decide_eq_false c8
        clear c8;obtain ⟨y606,hy606⟩ : ∃ y_:List Int,y_ = (([]:List Int)):=⟨_,rfl⟩
        replace H:(if 0 ≤ x6_2 then (if x6_2 ≤ (x4_1.length:Int) then ((some (x4_1.take (x6_2:Int).toNat:List Int)).bind fun y609=>(if y606.length + y609.length < 17592186044416 then ((some (y606 ++ y609:List Int)).bind fun y613=>(if 0 ≤ x5_1 then (if x5_1 < (l0.length:Int) then ((some (([rd l0 x5_1]:List Int):List Int)).bind fun y617=>(if y613.length + y617.length < 17592186044416 then ((some (y613 ++ y617:List Int)).bind fun y620=>((some (x4_1.drop (x6_2:Int).toNat:List Int)).bind fun y623=>(if y620.length + y623.length < 17592186044416 then (spec_HeavyFirst.l0 k2 l0 (y620 ++ y623) (wrap64 (x5_1 + 1))) else (none)))) else (none))) else (none)) else (none))) else (none))) else (none)) else (none)) = some (r1,r2):=by first|(rw [hy606];with_reducible exact H)|(have H2_:=(Option.bind_some _ _).symm.trans H;rw [hy606];with_reducible exact H2_)|(have H2_:=(Option.bind_some _ _).symm.trans H;with_reducible exact H2_)|with_reducible exact H|(rw [hy606];exact H)|exact H
        have Ny606:=zM hy606;clear hy606;by_cases c36:0 ≤ x6_2
        ·rw [if_pos c36] at H
         have c36b0:=eq_true c36;have c36b1:decide (0 ≤ x6_2) = true:=decide_eq_true c36
         clear c36;by_cases c37:x6_2 ≤ (x4_1.length:Int)
         ·rw [if_pos c37] at H
          have c37b0:=eq_true c37;have c37b1:decide (x6_2 ≤ (x4_1.length:Int)) = true:=decide_eq_true c37
          clear c37;obtain ⟨y609,hy609⟩ : ∃ y_:List Int,y_ = (x4_1.take (x6_2:Int).toNat):=⟨_,rfl⟩
          replace H:(if y606.length + y609.length < 17592186044416 then ((some (y606 ++ y609:List Int)).bind fun y613=>(if 0 ≤ x5_1 then (if x5_1 < (l0.length:Int) then ((some (([rd l0 x5_1]:List Int):List Int)).bind fun y617=>(if y613.length + y617.length < 17592186044416 then ((some (y613 ++ y617:List Int)).bind fun y620=>((some (x4_1.drop (x6_2:Int).toNat:List Int)).bind fun y623=>(if y620.length + y623.length < 17592186044416 then (spec_HeavyFirst.l0 k2 l0 (y620 ++ y623) (wrap64 (x5_1 + 1))) else (none)))) else (none))) else (none)) else (none))) else (none)) = some (r1,r2):=by first|(rw [hy609];with_reducible exact H)|(have H2_:=(Option.bind_some _ _).symm.trans H;rw [hy609];with_reducible exact H2_)|(have H2_:=(Option.bind_some _ _).symm.trans H;with_reducible exact H2_)|with_reducible exact H|(rw [hy609];exact H)|exact H
          have Ny609:=zM hy609;clear hy609;by_cases c38:y606.length + y609.length < 17592186044416
          ·rw [if_pos c38] at H
           have LMc38:=zM c38;clear c38;obtain ⟨y613,hy613⟩ : ∃ y_:List Int,y_ = (y606 ++ y609):=⟨_,rfl⟩
           replace H:(if 0 ≤ x5_1 then (if x5_1 < (l0.length:Int) then ((some (([rd l0 x5_1]:List Int):List Int)).bind fun y617=>(if y613.length + y617.length < 17592186044416 then ((some (y613 ++ y617:List Int)).bind fun y620=>((some (x4_1.drop (x6_2:Int).toNat:List Int)).bind fun y623=>(if y620.length + y623.length < 17592186044416 then (spec_HeavyFirst.l0 k2 l0 (y620 ++ y623) (wrap64 (x5_1 + 1))) else (none)))) else (none))) else (none)) else (none)) = some (r1,r2):=by first|(rw [hy613];with_reducible exact H)|(have H2_:=(Option.bind_some _ _).symm.trans H;rw [hy613];with_reducible exact H2_)|(have H2_:=(Option.bind_some _ _).symm.trans H;with_reducible exact H2_)|with_reducible exact H|(rw [hy613];exact H)|exact H
           have Ny613:=zM hy613;clear hy613;by_cases c39:0 ≤ x5_1
           ·rw [if_pos c39] at H
            have c39b0:decide (0 ≤ x5_1) = true:=decide_eq_true c39
            clear c39;by_cases c40:x5_1 < (l0.length:Int)
            ·rw [if_pos c40] at H
             have c40b0:decide (x5_1 < (l0.length:Int)) = true:=decide_eq_true c40
             clear c40;obtain ⟨y617,hy617⟩ : ∃ y_:List Int,y_ = (([rd l0 x5_1]:List Int)):=⟨_,rfl⟩
             replace H:(if y613.length + y617.length < 17592186044416 then ((some (y613 ++ y617:List Int)).bind fun y620=>((some (x4_1.drop (x6_2:Int).toNat:List Int)).bind fun y623=>(if y620.length + y623.length < 17592186044416 then (spec_HeavyFirst.l0 k2 l0 (y620 ++ y623) (wrap64 (x5_1 + 1))) else (none)))) else (none)) = some (r1,r2):=by first|(rw [hy617];with_reducible exact H)|(have H2_:=(Option.bind_some _ _).symm.trans H;rw [hy617];with_reducible exact H2_)|(have H2_:=(Option.bind_some _ _).symm.trans H;with_reducible exact H2_)|with_reducible exact H|(rw [hy617];exact H)|exact H
             have Ny617:=zM hy617;clear hy617;by_cases c41:y613.length + y617.length < 17592186044416
             ·rw [if_pos c41] at H
              have LMc41:=zM c41;clear c41;obtain ⟨y620,hy620⟩ : ∃ y_:List Int,y_ = (y613 ++ y617):=⟨_,rfl⟩
              replace H:((some (x4_1.drop (x6_2:Int).toNat:List Int)).bind fun y623=>(if y620.length + y623.length < 17592186044416 then (spec_HeavyFirst.l0 k2 l0 (y620 ++ y623) (wrap64 (x5_1 + 1))) else (none))) = some (r1,r2):=by first|(rw [hy620];with_reducible exact H)|(have H2_:=(Option.bind_some _ _).symm.trans H;rw [hy620];with_reducible exact H2_)|(have H2_:=(Option.bind_some _ _).symm.trans H;with_reducible exact H2_)|with_reducible exact H|(rw [hy620];exact H)|exact H
              have Ny620:=zM hy620;clear hy620;have c42b0:=eq_true (of_decide_eq_true (by first|(with_reducible assumption)|assumption):0 ≤ x6_2)
              have c43b0:=eq_true (of_decide_eq_true (by first|(with_reducible assumption)|assumption):x6_2 ≤ (x4_1.length:Int))
              obtain ⟨y623,hy623⟩ : ∃ y_:List Int,y_ = (x4_1.drop (x6_2:Int).toNat):=⟨_,rfl⟩
              replace H:(if y620.length + y623.length < 17592186044416 then (spec_HeavyFirst.l0 k2 l0 (y620 ++ y623) (wrap64 (x5_1 + 1))) else (none)) = some (r1,r2):=by first|(rw [hy623];with_reducible exact H)|(have H2_:=(Option.bind_some _ _).symm.trans H;rw [hy623];with_reducible exact H2_)|(have H2_:=(Option.bind_some _ _).symm.trans H;with_reducible exact H2_)|with_reducible exact H|(rw [hy623];exact H)|exact H
              have Ny623:=zM hy623;clear hy623;by_cases c44:y620.length + y623.length < 17592186044416
              ·rw [if_pos c44] at H
               have LMc44:=zM c44;clear c44;obtain ⟨y627,hy627⟩ : ∃ y_:List Int,y_ = (y620 ++ y623):=⟨_,rfl⟩
               replace H:(spec_HeavyFirst.l0 k2 l0 y627 (wrap64 (x5_1 + 1))) = some (r1,r2):=by first|(rw [hy627];with_reducible exact H)|(have H2_:=(Option.bind_some _ _).symm.trans H;rw [hy627];with_reducible exact H2_)|(have H2_:=(Option.bind_some _ _).symm.trans H;with_reducible exact H2_)|with_reducible exact H|(rw [hy627];exact H)|exact H
               have Ny627:=zM hy627;clear hy627;have H':=zM H;clear H;try go_wp2
               have n0_:=zM (zC HO_4.out);have n1_:=zM (zF HB.out);clear HO_4;clear HB;have HO_4:=n0_;have HB:=n1_;clear n0_ n1_;refine start_ (n:=14) (S:=fun w'=>True) (ds:=[]) #[false,false,false,false,false,false,false,false,false,false,false,false,false,false] (by kernel_rfl) rfl rfl trivial (fun hHeld=>?_);refine with_tabW spec_HeavyFirst.tab8 spec_HeavyFirst.bits8 (fun HT_ HW_=>?_)
               generalize wr.drew = w45 at HO_4 HB hHeld ⊢
               refine pure_ (i:=0) (N:=some 20) (v:=?_) (a':=?_) #[true,false,false,false,false,false,false,false,false,false,false,false,false,false] rfl rfl (any_of HT_.out (by kernel_rfl)) (fun _ _ _ h=>h) (Or.inl ⟨by rfl,?_⟩) ?_ ?_
               rotate_left
               ·intro w'
                go_simp
                with_reducible rfl
               rotate_left
               ·simp only [Act.put,zT,zU,zV,i64_w,i32_w]
                rfl
               refine pure_ (i:=1) (N:=some 21) (v:=?_) (a':=?_) #[true,true,false,false,false,false,false,false,false,false,false,false,false,false] rfl rfl (any_of HT_.out (by kernel_rfl)) (fun _ _ _ h=>h) (Or.inl ⟨by rfl,?_⟩) ?_ ?_
               rotate_left
               ·intro w'
                go_simp
                with_reducible rfl
               rotate_left
               ·simp only [Act.put,zT,zU,zV,i64_w,i32_w]
                rfl
               refine pure_ (i:=2) (N:=some 22) (v:=?_) (a':=?_) #[true,true,true,false,false,false,false,false,false,false,false,false,false,false] rfl rfl (any_of HT_.out (by kernel_rfl)) (fun _ _ _ h=>h) (Or.inl ⟨by rfl,?_⟩) ?_ ?_
               rotate_left
               ·intro w'
                go_simp
                with_reducible rfl
               rotate_left
               ·simp only [Act.put,zT,zU,zV,i64_w,i32_w]
                rfl
               refine pure_ (i:=3) (N:=some 23) (v:=undef) (a':=?_) #[true,true,true,true,false,false,false,false,false,false,false,false,false,false] rfl rfl (any_of HT_.out (by kernel_rfl)) (fun _ _ _ h=>h) (Or.inr ⟨by rfl,rfl⟩) ?_ ?_
               rotate_left
               ·simp only [Act.put,zT,zU,zV,i64_w,i32_w]
                rfl
               refine pure_ (i:=4) (N:=some 24) (v:=undef) (a':=?_) #[true,true,true,true,true,false,false,false,false,false,false,false,false,false] rfl rfl (any_of HT_.out (by kernel_rfl)) (fun _ _ _ h=>h) (Or.inr ⟨by rfl,rfl⟩) ?_ ?_
               rotate_left
               ·simp only [Act.put,zT,zU,zV,i64_w,i32_w]
                rfl
               refine pure_ (i:=5) (N:=some 25) (v:=undef) (a':=?_) #[true,true,true,true,true,true,false,false,false,false,false,false,false,false] rfl rfl (any_of HT_.out (by kernel_rfl)) (fun _ _ _ h=>h) (Or.inr ⟨by rfl,rfl⟩) ?_ ?_
               rotate_left
               ·simp only [Act.put,zT,zU,zV,i64_w,i32_w]
                rfl
               refine pure_ (i:=6) (N:=some 26) (v:=undef) (a':=?_) #[true,true,true,true,true,true,true,false,false,false,false,false,false,false] rfl rfl (any_of HT_.out (by kernel_rfl)) (fun _ _ _ h=>h) (Or.inr ⟨by rfl,rfl⟩) ?_ ?_
               rotate_left
               ·simp only [Act.put,zT,zU,zV,i64_w,i32_w]
                rfl
               refine pure_ (i:=7) (N:=some 27) (v:=undef) (a':=?_) #[true,true,true,true,true,true,true,true,false,false,false,false,false,false] rfl rfl (any_of HT_.out (by kernel_rfl)) (fun _ _ _ h=>h) (Or.inr ⟨by rfl,rfl⟩) ?_ ?_
               rotate_left
               ·simp only [Act.put,zT,zU,zV,i64_w,i32_w]
                rfl
               refine pure_ (i:=8) (N:=some 28) (v:=undef) (a':=?_) #[true,true,true,true,true,true,true,true,true,false,false,false,false,false] rfl rfl (any_of HT_.out (by kernel_rfl)) (fun _ _ _ h=>h) (Or.inr ⟨by rfl,rfl⟩) ?_ ?_
               rotate_left
               ·simp only [Act.put,zT,zU,zV,i64_w,i32_w]
                rfl
               refine pure_ (i:=9) (N:=some 29) (v:=undef) (a':=?_) #[true,true,true,true,true,true,true,true,true,true,false,false,false,false] rfl rfl (any_of HT_.out (by kernel_rfl)) (fun _ _ _ h=>h) (Or.inr ⟨by rfl,rfl⟩) ?_ ?_
               rotate_left
               ·simp only [Act.put,zT,zU,zV,i64_w,i32_w]
                rfl
               refine pure_ (i:=10) (N:=some 30) (v:=undef) (a':=?_) #[true,true,true,true,true,true,true,true,true,true,true,false,false,false] rfl rfl (any_of HT_.out (by kernel_rfl)) (fun _ _ _ h=>h) (Or.inr ⟨by rfl,rfl⟩) ?_ ?_
               rotate_left
               ·simp only [Act.put,zT,zU,zV,i64_w,i32_w]
                rfl
               refine pure_ (i:=11) (N:=some 31) (v:=undef) (a':=?_) #[true,true,true,true,true,true,true,true,true,true,true,true,false,false] rfl rfl (any_of HT_.out (by kernel_rfl)) (fun _ _ _ h=>h) (Or.inr ⟨by rfl,rfl⟩) ?_ ?_
               rotate_left
               ·simp only [Act.put,zT,zU,zV,i64_w,i32_w]
                rfl
               refine pure_ (i:=12) (N:=some 32) (v:=undef) (a':=?_) #[true,true,true,true,true,true,true,true,true,true,true,true,true,false] rfl rfl (any_of HT_.out (by kernel_rfl)) (fun _ _ _ h=>h) (Or.inr ⟨by rfl,rfl⟩) ?_ ?_
               rotate_left
               ·simp only [Act.put,zT,zU,zV,i64_w,i32_w]
                rfl
               refine pure_ (i:=13) (N:=some 33) (v:=?_) (a':=?_) #[true,true,true,true,true,true,true,true,true,true,true,true,true,true] rfl rfl (any_of HT_.out (by kernel_rfl)) (fun _ _ _ h=>h) (Or.inl ⟨by rfl,?_⟩) ?_ ?_
               rotate_left
               ·intro w'
                go_simp
                with_reducible rfl
               rotate_left
               ·simp only [Act.put,zT,zU,zV,i64_w,i32_w]
                rfl
               refine done_ (done_of HT_.out (by kernel_rfl)) ?_
               try go_wp2
               have n0_:=zM (zC HO_4.out);have n1_:=zM (zF HB.out);clear HO_4;clear HB;have HO_4:=n0_;have HB:=n1_;clear n0_ n1_;have q47:(x6_2:Int) ≤ ((x4_1.length:Int):Int):=of_decide_eq_true (by first|(with_reducible assumption)|assumption)
               obtain ⟨i047,hi047,_,hsz47,_⟩:=info_parts info3;have hroom47:x4_1.length ≤ co7:=(zN HO_4.out).2.1
               have hC47:Kd.C (Kd.int .i64) _ Ao7 x4_1.length x4_1:=(zN HO_4.out).2.2
               have hcut47:=cut_to (P:=Try.prog) 22 3 .i64 Try.underlying22 hi047 Ao7 x4_1.length co7 x6_2 (of_decide_eq_true (by first|(with_reducible assumption)|assumption)) q47 hroom47
               have hr47:=Kd.C_take (m:=(x6_2:Int).toNat) hC47 (by omega)
               have hy47:y609.length = (x6_2:Int).toNat:=(by rw [Ny609.out,List.length_take];omega)
               rw [← Ny609.out] at hr47;rw [← hy47] at hcut47;have HR612:=zM hr47;have HC612:=zM (show y609.length ≤ co7 from by omega)
               clear hr47 hC47 hroom47 hi047 hsz47;have KY47:=zM hy47;clear hy47;have KL47:=zM (show (x6_2:Int).toNat ≤ x4_1.length from by omega)
               replace q47:=eq_true q47;have p616:0 ≤ (x5_1:Int):=of_decide_eq_true (by first|(with_reducible assumption)|assumption)
               have q616:x5_1 < (l0.length:Int):=of_decide_eq_true (by first|(with_reducible assumption)|assumption)
               obtain ⟨ad616,e616,hx616_0⟩:=Kd.at_int HR0.out x5_1 p616 q616;have hw616_0:=hx616_0;cases e616
               replace hx616_0:=zS HB.out hx616_0;replace p616:=eq_true p616;replace q616:=eq_true q616;have q48:(x6_2:Int) ≤ ((x4_1.length:Int):Int):=of_decide_eq_true (by first|(with_reducible assumption)|assumption)
               obtain ⟨i048,hi048,_,hsz48,_⟩:=info_parts info3;have hroom48:x4_1.length ≤ co7:=(zN HO_4.out).2.1
               have hC48:Kd.C (Kd.int .i64) _ Ao7 x4_1.length x4_1:=(zN HO_4.out).2.2
               have q048:(0:Int) ≤ (x6_2:Int):=of_decide_eq_true (by first|(with_reducible assumption)|assumption)
               have hcut48:=cut_from (P:=Try.prog) 22 3 .i64 Try.underlying22 hi048 1 hsz48 Ao7 x4_1.length co7 x6_2 q048 q48;have hr48:=Kd.C_drop (m:=(x6_2:Int).toNat) (c:=co7) hC48 (by omega) hroom48
               obtain ⟨A48,hA48⟩ : ∃ A1,A1 = (if co7 = (x6_2:Int).toNat then Ao7 else (Ao7:Option Addr).map (·.add ((x6_2:Int).toNat * 1))):=⟨_,rfl⟩
               obtain ⟨c48,hc48⟩ : ∃ c1,c1 = co7 - (x6_2:Int).toNat:=⟨_,rfl⟩
               have hy48:y623.length = x4_1.length - (x6_2:Int).toNat:=(by rw [Ny623.out,List.length_drop] <;> omega)
               rw [show (x4_1).drop (x6_2:Int).toNat = y623 from Ny623.out.symm] at hr48
               replace hr48:Kd.C (Kd.int .i64) _ A48 y623.length y623:=(by rw [hA48];exact hr48)
               rw [← hy48,← hA48,← hc48] at hcut48;have HR626:=zM hr48;have HC626:=zM (show y623.length ≤ c48 from by rw [hy48,hc48];exact Nat.sub_le_sub_right hroom48 _)
               clear hr48 hC48 hroom48 hi048 hsz48 hc48;have KY48:=zM hy48;have KA48:=zM hA48;clear hy48 hA48;have KL48:=zM (show (x6_2:Int).toNat ≤ x4_1.length from by omega)
               replace q48:=eq_true q48;refine start_ (n:=16) (S:=fun w'=>w'.cell? (ad616.add (x5_1).toNat) = some (.int .i64 (rd l0 x5_1))) (ds:=[]) #[false,false,false,false,false,false,false,false,false,false,false,false,false,false,false,false] (by kernel_rfl) rfl rfl ((zS HB.out hw616_0)) (fun hHeld=>?_);refine with_tabW spec_HeavyFirst.tab10 spec_HeavyFirst.bits10 (fun HT_ HW_=>?_)
               generalize w45.drew = w46 at HO_4 HB HR612 HR626 hx616_0 hHeld ⊢
               refine pure_ (i:=1) (N:=some 37) (v:=?_) (a':=?_) #[false,true,false,false,false,false,false,false,false,false,false,false,false,false,false,false] rfl rfl (any_of HT_.out (by kernel_rfl)) (fun _ _ _ h=>h) (Or.inl ⟨by rfl,?_⟩) ?_ ?_
               rotate_left
               ·intro w'
                go_simp
                with_reducible rfl
               rotate_left
               ·simp only [Act.put,zT,zU,zV,i64_w,i32_w]
                rfl
               refine pure_ (i:=2) (N:=some 38) (v:=?_) (a':=?_) #[false,true,true,false,false,false,false,false,false,false,false,false,false,false,false,false] rfl rfl (any_of HT_.out (by kernel_rfl)) (fun _ _ _ h=>h) (Or.inl ⟨by rfl,?_⟩) ?_ ?_
               rotate_left
               ·intro w'
                go_simp
                with_reducible rfl
               rotate_left
               ·simp only [Act.put,zT,zU,zV,i64_w,i32_w]
                rfl
               refine pure_ (i:=3) (N:=some 39) (v:=?_) (a':=?_) #[false,true,true,true,false,false,false,false,false,false,false,false,false,false,false,false] rfl rfl (any_of HT_.out (by kernel_rfl)) (fun _ _ _ h=>h) (Or.inl ⟨by rfl,?_⟩) ?_ ?_
               rotate_left
               ·intro w'
                go_simp
                with_reducible rfl
               rotate_left
               ·simp only [Act.put,zT,zU,zV,i64_w,i32_w]
                rfl
               refine pure_ (i:=5) (N:=some 41) (v:=?_) (a':=?_) #[false,true,true,true,false,true,false,false,false,false,false,false,false,false,false,false] rfl rfl (any_of HT_.out (by kernel_rfl)) (fun _ _ _ h=>h) (Or.inl ⟨by rfl,?_⟩) ?_ ?_
               rotate_left
               ·intro w'
                go_simp
                with_reducible rfl
               rotate_left
               ·simp only [Act.put,zT,zU,zV,i64_w,i32_w]
                rfl
               refine pure_ (i:=6) (N:=some 42) (v:=?_) (a':=?_) #[false,true,true,true,false,true,true,false,false,false,false,false,false,false,false,false] rfl rfl (any_of HT_.out (by kernel_rfl)) (fun _ _ _ h=>h) (Or.inl ⟨by rfl,?_⟩) ?_ ?_
               rotate_left
               ·intro w'
                go_simp
                with_reducible rfl
               rotate_left
               ·simp only [Act.put,zT,zU,zV,i64_w,i32_w]
                rfl
               refine pure_ (i:=7) (N:=some 43) (v:=?_) (a':=?_) #[false,true,true,true,false,true,true,true,false,false,false,false,false,false,false,false] rfl rfl (any_of HT_.out (by kernel_rfl)) (fun _ _ _ h=>h) (Or.inl ⟨by rfl,?_⟩) ?_ ?_
               rotate_left
               ·intro w'
                go_simp
                with_reducible rfl
               rotate_left
               ·simp only [Act.put,zT,zU,zV,i64_w,i32_w]
                rfl
               refine pure_ (i:=11) (N:=some 47) (v:=?_) (a':=?_) #[false,true,true,true,false,true,true,true,false,false,false,true,false,false,false,false] rfl rfl (any_of HT_.out (by kernel_rfl)) (fun _ _ _ h=>h) (Or.inl ⟨by rfl,?_⟩) ?_ ?_
               rotate_left
               ·intro w'
                go_simp
                with_reducible rfl
               rotate_left
               ·simp only [Act.put,zT,zU,zV,i64_w,i32_w]
                rfl
               refine pure_ (i:=12) (N:=some 48) (v:=?_) (a':=?_) #[false,true,true,true,false,true,true,true,false,false,false,true,true,false,false,false] rfl rfl (any_of HT_.out (by kernel_rfl)) (fun _ _ _ h=>h) (Or.inl ⟨by rfl,?_⟩) ?_ ?_
               rotate_left
               ·intro w'
                go_simp
                with_reducible rfl
               rotate_left
               ·simp only [Act.put,zT,zU,zV,i64_w,i32_w]
                rfl
               refine pure_ (i:=13) (N:=some 49) (v:=?_) (a':=?_) #[false,true,true,true,false,true,true,true,false,false,false,true,true,true,false,false] rfl rfl (any_of HT_.out (by kernel_rfl)) (fun _ _ _ h=>h) (Or.inl ⟨by rfl,?_⟩) ?_ ?_
               rotate_left
               ·intro w'
                go_simp
                with_reducible rfl
               rotate_left
               ·simp only [Act.put,zT,zU,zV,i64_w,i32_w]
                rfl
               refine take_ (i:=8) (N:=some 44) (v:=?_) (a':=?_) #[false,true,true,true,false,true,true,true,true,false,false,true,true,true,false,false] rfl rfl (take_ofW HT_.out HW_.out (by kernel_rfl)) (fun _ _ _ h=>h) (Or.inl ⟨by rfl,?_⟩) hHeld ?_ ?_
               rotate_left
               ·intro w' s0
                go_simp
                with_reducible rfl
               rotate_left
               ·simp only [Act.put,zT,zU,zV,i64_w,i32_w]
                rfl
               refine join_ (σ:=Value × Value × Value) 3 #[true,true,true,true,true,true,true,true,true,true,false,true,true,true,false,false] (fun s_=>[(36,s_.1),(40,s_.2.1),(45,s_.2.2)]) (fun s_ w'=>(w'.cell? (ad616.add (x5_1).toNat) = some (.int .i64 (rd l0 x5_1))) ∧ (Kd.R (Kd.int .i64) 3 w' w.heap.size (fun k_=>some k_ ≠ (s_.2.2:Value).ownBlock ∧ some k_ ≠ (.slice Ao7 x4_1.length co7:Value).ownBlock) s_.2.1 y613) ∧ (Kd.R (Kd.int .i64) 3 w' w.heap.size (fun k_=>some k_ ≠ (s_.2.1:Value).ownBlock ∧ some k_ ≠ (.slice Ao7 x4_1.length co7:Value).ownBlock) s_.2.2 y617) ∧ (Kd.R (Kd.int .i64) 3 w' w.heap.size (fun k_=>some k_ ≠ (s_.2.1:Value).ownBlock ∧ some k_ ≠ (s_.2.2:Value).ownBlock) (.slice Ao7 x4_1.length co7) x4_1) ∧ (Below w.heap.size w w')) ?_ ?_
               rotate_left
               ·intro hCont
                refine two_ (i:=0) (j:=9) (Ni:=some 36) (Nj:=some 45) #[true,true,true,true,false,true,true,true,true,false,false,true,true,true,false,false] #[false,true,true,true,false,true,true,true,true,true,false,true,true,true,false,false] rfl rfl rfl rfl (two_of HT_.out (by kernel_rfl)) (by decide) (by decide) (fun K hK=>?_) (fun K hK=>?_)
                ·skip
                 refine Kd.R_lit_step (Kd.int .i64) _ 3 ?hg (N:=36) ?hd (xs:=([]:List Int)) (inner:=[]) (ok:=fun _=>True) (okp:=fun _=>True) ?hr ?hp (fun _ hk=>hk) trivial (Below.refl _ _) (Nat.le_refl _) (by simp) ?_;(case hd=>rfl);(case hg=>rfl);(case hr=>first|(go_simp;done)|(go_simp;rfl));(case hp=>exact (Reps.none _ _))
                 intro v607 w49 ho50 hb hg_ hnew_;clear hg_ hnew_;(first|rw [← Ny606.out] at ho50|(simp only [Int.reduceToNat] at ho50;rw [← Ny606.out] at ho50))
                 have n0_:=zM (Kd.R_elder' (by (with_reducible repeat (first|apply zA|apply zB|apply zC));exact HO_4.out) (Kd.R_base ho50) hb)
                 have n1_:=zM (Kd.R_lower (Kd.R_new' ho50 (Kd.R_lt (by (with_reducible repeat (first|apply zA|apply zB|apply zC));exact HO_4.out))) (zR (by repeat (first|(with_reducible first|exact HB.out|apply zD|apply zE|apply zF)|exact HB.out))))
                 have n2_:=zM (zO (by repeat (first|(with_reducible exact HR612.out)|(with_reducible first|refine zG ?_ _|refine zH ?_ _|refine zI ?_)|exact HR612.out)) hb)
                 have n3_:=zM (zO (by repeat (first|(with_reducible exact HR626.out)|(with_reducible first|refine zG ?_ _|refine zH ?_ _|refine zI ?_)|exact HR626.out)) hb)
                 have n4_:=zM (zQ (by repeat (first|(with_reducible first|exact HB.out|apply zD|apply zE|apply zF)|exact HB.out)) hb)
                 clear HO_4;clear HR612;clear HR626;clear HB;have HO_4:=n0_;have HO608:=n1_;have HR612:=n2_;have HR626:=n3_;have HB:=n4_;clear n0_ n1_ n2_ n3_ n4_;clear hb ho50;refine hK.out _ _ ((zS HB.out hw616_0)) (fun hHeld=>?_)
                 clear hK K;refine norm_ (a':=?_) ?_ ?_
                 rotate_left
                 ·show Act.put _ (some 36) _ = _
                  simp only [Act.put,zT,zU,zV,i64_w,i32_w]
                  rfl
                 refine two_ (i:=4) (j:=9) (Ni:=some 40) (Nj:=some 45) #[true,true,true,true,true,true,true,true,true,false,false,true,true,true,false,false] #[true,true,true,true,false,true,true,true,true,true,false,true,true,true,false,false] rfl rfl rfl rfl (two_of HT_.out (by kernel_rfl)) (by decide) (by decide) (fun K hK=>?_) (fun K hK=>?_)
                 ·skip
                  refine Kd.R_append_rows_step (Kd.int .i64) (w0:=w) w.heap.size (by rfl) (.tmp 36) (.tmp 39) 22 3 (.int .i64 0) 8 rfl Try.underlying22 info3 rfl (by decide) (by omega) v607 y606 y609 _ _ _ (fun k_=>some k_ ≠ (.slice Ao7 x4_1.length co7:Value).ownBlock) (fun _=>False) rfl rfl ?aO ?aR (fun _ _ h=>h) (fun _ h=>h.elim) ?aF ?aB ?aS ?aL ?_
                  (case aR=>repeat (first|exact (by repeat (first|(with_reducible exact HR612.out)|(with_reducible first|refine zG ?_ _|refine zH ?_ _|refine zI ?_)|exact HR612.out))|(with_reducible first|refine zG ?_ _|refine zH ?_ _|refine zI ?_)))
                  (case aB=>exact (by repeat (first|(with_reducible first|exact HB.out|apply zD|apply zE|apply zF)|exact HB.out)))
                  (case aF=>exact (fun k_ hk=>Kd.fresh' (Kd.R_lt (by (with_reducible repeat (first|apply zA|apply zB|apply zC));exact HO_4.out)) k_ hk))
                  (case aO=>exact (by (with_reducible repeat (first|apply zA|apply zB|apply zC));exact Kd.R_mono HO608.out (fun _ hk=>hk.2)))
                  (case aS=>exact (zR (by repeat (first|(with_reducible first|exact HB.out|apply zD|apply zE|apply zF)|exact HB.out))))
                  (case aL=>have:=LMc38.out;omega)
                  intro v614 w51 ho hb hg hat;rw [← Ny613.out] at ho;have n0_:=zM (Kd.R_after (ok:=(fun _=>True)) (by (with_reducible repeat (first|apply zA|apply zB|apply zC));exact HO_4.out) hg hat)
                  have n1_:=zM (hb);have n2_:=zM ((show Kd.C (Kd.int .i64) w51 Ao7 y609.length y609 from by rw [Ny609.out];exact Kd.C_take (m:=(x6_2:Int).toNat) ((zN (Kd.R_after (ok:=(fun _=>True)) (by (with_reducible repeat (first|apply zA|apply zB|apply zC));exact HO_4.out) hg hat)).2.2) KL47.out))
                  have n3_:=zM ((show Kd.C (Kd.int .i64) w51 A48 y623.length y623 from by rw [Ny623.out,KA48.out];exact Kd.C_drop (m:=(x6_2:Int).toNat) (c:=co7) ((zN (Kd.R_after (ok:=(fun _=>True)) (by (with_reducible repeat (first|apply zA|apply zB|apply zC));exact HO_4.out) hg hat)).2.2) KL48.out ((zN (Kd.R_after (ok:=(fun _=>True)) (by (with_reducible repeat (first|apply zA|apply zB|apply zC));exact HO_4.out) hg hat)).2.1)))
                  have n4_:=zM (ho);clear HO_4;clear HB;clear HR612;clear HR626;clear HO608;have HO_4:=n0_;have HB:=n1_;have HR612:=n2_;have HR626:=n3_;have HO615:=n4_;clear n0_ n1_ n2_ n3_ n4_;clear ho hb hg hat;refine hK.out _ _ ((zS HB.out hw616_0)) (fun hHeld=>?_)
                  clear hK K;refine norm_ (a':=?_) ?_ ?_
                  rotate_left
                  ·show Act.put _ (some 40) _ = _
                   simp only [Act.put,zT,zU,zV,i64_w,i32_w]
                   rfl
                  refine one_ (i:=9) (N:=some 45) #[true,true,true,true,true,true,true,true,true,true,false,true,true,true,false,false] rfl rfl (one_of HT_.out (by kernel_rfl)) (by decide) (fun K hK=>?_)
                  refine Kd.R_lit_step (Kd.int .i64) _ 3 ?hg (N:=45) ?hd (xs:=([rd l0 x5_1]:List Int)) (inner:=[.int .i64 (rd l0 x5_1)]) (ok:=fun _=>True) (okp:=fun _=>True) ?hr ?hp (fun _ hk=>hk) trivial (Below.refl _ _) (Nat.le_refl _) (by simp) ?_;(case hd=>rfl);(case hg=>rfl);(case hr=>first|(go_simp;done)|(go_simp;rfl));(case hp=>exact (Reps.one (show Kd.M (Kd.int .i64) _ _ _ (rd l0 x5_1) [.int .i64 (rd l0 x5_1)] from rfl) (Reps.none _ _)))
                  intro v618 w52 ho53 hb hg_ hnew_;clear hg_ hnew_;(first|rw [← Ny617.out] at ho53|(simp only [Int.reduceToNat] at ho53;rw [← Ny617.out] at ho53))
                  have n0_:=zM (Kd.R_elder' (by (with_reducible repeat (first|apply zA|apply zB|apply zC));exact HO_4.out) (Kd.R_base ho53) hb)
                  have n1_:=zM (Kd.R_elder' (by (with_reducible repeat (first|apply zA|apply zB|apply zC));exact HO615.out) (Kd.R_base ho53) hb)
                  have n2_:=zM (Kd.R_lower (Kd.R_new' (Kd.R_new' ho53 (Kd.R_lt (by (with_reducible repeat (first|apply zA|apply zB|apply zC));exact HO_4.out))) (Kd.R_lt (by (with_reducible repeat (first|apply zA|apply zB|apply zC));exact HO615.out))) (zR (by repeat (first|(with_reducible first|exact HB.out|apply zD|apply zE|apply zF)|exact HB.out))))
                  have n3_:=zM (zO (by repeat (first|(with_reducible exact HR612.out)|(with_reducible first|refine zG ?_ _|refine zH ?_ _|refine zI ?_)|exact HR612.out)) hb)
                  have n4_:=zM (zO (by repeat (first|(with_reducible exact HR626.out)|(with_reducible first|refine zG ?_ _|refine zH ?_ _|refine zI ?_)|exact HR626.out)) hb)
                  have n5_:=zM (zQ (by repeat (first|(with_reducible first|exact HB.out|apply zD|apply zE|apply zF)|exact HB.out)) hb)
                  clear HO_4;clear HO615;clear HR612;clear HR626;clear HB;have HO_4:=n0_;have HO615:=n1_;have HO619:=n2_;have HR612:=n3_;have HR626:=n4_;have HB:=n5_;clear n0_ n1_ n2_ n3_ n4_ n5_;clear hb ho53;refine hK.out _ _ ((zS HB.out hw616_0)) (fun hHeld=>?_)
                  clear hK K;refine norm_ (a':=?_) ?_ ?_
                  rotate_left
                  ·show Act.put _ (some 45) _ = _
                   simp only [Act.put,zT,zU,zV,i64_w,i32_w]
                   rfl
                  exact norm_ (by simp only [putAll,Act.put,List.setIfInBounds_toArray,List.set_cons_zero,List.set_cons_succ]) (hCont (v607,v614,v618) _ ⟨hHeld,(by (with_reducible repeat (first|apply zA|apply zB|apply zC));exact Kd.R_mono HO615.out (fun _ hk=>⟨hk.2,hk.1⟩)),(by (with_reducible repeat (first|apply zA|apply zB|apply zC));exact Kd.R_mono HO619.out (fun _ hk=>⟨hk.2,hk.1.2⟩)),(by (with_reducible repeat (first|apply zA|apply zB|apply zC));exact Kd.R_mono HO_4.out (fun _ hk=>⟨hk.1.2,hk.2⟩)),(by repeat (first|(with_reducible first|exact HB.out|apply zD|apply zE|apply zF)|exact HB.out))⟩)
                 ·skip
                  refine Kd.R_lit_step (Kd.int .i64) _ 3 ?hg (N:=45) ?hd (xs:=([rd l0 x5_1]:List Int)) (inner:=[.int .i64 (rd l0 x5_1)]) (ok:=fun _=>True) (okp:=fun _=>True) ?hr ?hp (fun _ hk=>hk) trivial (Below.refl _ _) (Nat.le_refl _) (by simp) ?_;(case hd=>rfl);(case hg=>rfl);(case hr=>first|(go_simp;done)|(go_simp;rfl));(case hp=>exact (Reps.one (show Kd.M (Kd.int .i64) _ _ _ (rd l0 x5_1) [.int .i64 (rd l0 x5_1)] from rfl) (Reps.none _ _)))
                  intro v618 w51 ho52 hb hg_ hnew_;clear hg_ hnew_;(first|rw [← Ny617.out] at ho52|(simp only [Int.reduceToNat] at ho52;rw [← Ny617.out] at ho52))
                  have n0_:=zM (Kd.R_elder' (by (with_reducible repeat (first|apply zA|apply zB|apply zC));exact HO_4.out) (Kd.R_base ho52) hb)
                  have n1_:=zM (Kd.R_elder' (by (with_reducible repeat (first|apply zA|apply zB|apply zC));exact HO608.out) (Kd.R_base ho52) hb)
                  have n2_:=zM (Kd.R_lower (Kd.R_new' (Kd.R_new' ho52 (Kd.R_lt (by (with_reducible repeat (first|apply zA|apply zB|apply zC));exact HO_4.out))) (Kd.R_lt (by (with_reducible repeat (first|apply zA|apply zB|apply zC));exact HO608.out))) (zR (by repeat (first|(with_reducible first|exact HB.out|apply zD|apply zE|apply zF)|exact HB.out))))
                  have n3_:=zM (zO (by repeat (first|(with_reducible exact HR612.out)|(with_reducible first|refine zG ?_ _|refine zH ?_ _|refine zI ?_)|exact HR612.out)) hb)
                  have n4_:=zM (zO (by repeat (first|(with_reducible exact HR626.out)|(with_reducible first|refine zG ?_ _|refine zH ?_ _|refine zI ?_)|exact HR626.out)) hb)
                  have n5_:=zM (zQ (by repeat (first|(with_reducible first|exact HB.out|apply zD|apply zE|apply zF)|exact HB.out)) hb)
                  clear HO_4;clear HO608;clear HR612;clear HR626;clear HB;have HO_4:=n0_;have HO608:=n1_;have HO619:=n2_;have HR612:=n3_;have HR626:=n4_;have HB:=n5_;clear n0_ n1_ n2_ n3_ n4_ n5_;clear hb ho52;refine hK.out _ _ ((zS HB.out hw616_0)) (fun hHeld=>?_)
                  clear hK K;refine norm_ (a':=?_) ?_ ?_
                  rotate_left
                  ·show Act.put _ (some 45) _ = _
                   simp only [Act.put,zT,zU,zV,i64_w,i32_w]
                   rfl
                  refine one_ (i:=4) (N:=some 40) #[true,true,true,true,true,true,true,true,true,true,false,true,true,true,false,false] rfl rfl (one_of HT_.out (by kernel_rfl)) (by decide) (fun K hK=>?_)
                  refine Kd.R_append_rows_step (Kd.int .i64) (w0:=w) w.heap.size (by rfl) (.tmp 36) (.tmp 39) 22 3 (.int .i64 0) 8 rfl Try.underlying22 info3 rfl (by decide) (by omega) v607 y606 y609 _ _ _ (fun k_=>some k_ ≠ (.slice Ao7 x4_1.length co7:Value).ownBlock ∧ some k_ ≠ (v618:Value).ownBlock) (fun _=>False) rfl rfl ?aO ?aR (fun _ _ h=>h) (fun _ h=>h.elim) ?aF ?aB ?aS ?aL ?_
                  (case aR=>repeat (first|exact (by repeat (first|(with_reducible exact HR612.out)|(with_reducible first|refine zG ?_ _|refine zH ?_ _|refine zI ?_)|exact HR612.out))|(with_reducible first|refine zG ?_ _|refine zH ?_ _|refine zI ?_)))
                  (case aB=>exact (by repeat (first|(with_reducible first|exact HB.out|apply zD|apply zE|apply zF)|exact HB.out)))
                  (case aF=>exact (fun k_ hk=>⟨Kd.fresh' (Kd.R_lt (by (with_reducible repeat (first|apply zA|apply zB|apply zC));exact HO_4.out)) k_ hk,Kd.fresh' (Kd.R_lt (by (with_reducible repeat (first|apply zA|apply zB|apply zC));exact HO619.out)) k_ hk⟩))
                  (case aO=>exact (by (with_reducible repeat (first|apply zA|apply zB|apply zC));exact Kd.R_mono HO608.out (fun _ hk=>⟨hk.1.2,hk.2⟩)))
                  (case aS=>exact (zR (by repeat (first|(with_reducible first|exact HB.out|apply zD|apply zE|apply zF)|exact HB.out))))
                  (case aL=>have:=LMc38.out;omega)
                  intro v614 w53 ho hb hg hat;rw [← Ny613.out] at ho;have n0_:=zM (Kd.R_after (ok:=(fun k_=>some k_ ≠ (v618:Value).ownBlock)) (by (with_reducible repeat (first|apply zA|apply zB|apply zC));exact Kd.R_mono HO_4.out (fun _ hk=>⟨hk.2,hk.1.2⟩)) hg hat)
                  have n1_:=zM (Kd.R_after (ok:=(fun k_=>some k_ ≠ (.slice Ao7 x4_1.length co7:Value).ownBlock)) (by (with_reducible repeat (first|apply zA|apply zB|apply zC));exact Kd.R_mono HO619.out (fun _ hk=>⟨hk.1.2,hk.2⟩)) hg hat)
                  have n2_:=zM (hb);have n3_:=zM ((show Kd.C (Kd.int .i64) w53 Ao7 y609.length y609 from by rw [Ny609.out];exact Kd.C_take (m:=(x6_2:Int).toNat) ((zN (Kd.R_after (ok:=(fun k_=>some k_ ≠ (v618:Value).ownBlock)) (by (with_reducible repeat (first|apply zA|apply zB|apply zC));exact Kd.R_mono HO_4.out (fun _ hk=>⟨hk.2,hk.1.2⟩)) hg hat)).2.2) KL47.out))
                  have n4_:=zM ((show Kd.C (Kd.int .i64) w53 A48 y623.length y623 from by rw [Ny623.out,KA48.out];exact Kd.C_drop (m:=(x6_2:Int).toNat) (c:=co7) ((zN (Kd.R_after (ok:=(fun k_=>some k_ ≠ (v618:Value).ownBlock)) (by (with_reducible repeat (first|apply zA|apply zB|apply zC));exact Kd.R_mono HO_4.out (fun _ hk=>⟨hk.2,hk.1.2⟩)) hg hat)).2.2) KL48.out ((zN (Kd.R_after (ok:=(fun k_=>some k_ ≠ (v618:Value).ownBlock)) (by (with_reducible repeat (first|apply zA|apply zB|apply zC));exact Kd.R_mono HO_4.out (fun _ hk=>⟨hk.2,hk.1.2⟩)) hg hat)).2.1)))
                  have n5_:=zM (ho);clear HO_4;clear HO619;clear HB;clear HR612;clear HR626;clear HO608;have HO_4:=n0_;have HO619:=n1_;have HB:=n2_;have HR612:=n3_;have HR626:=n4_;have HO615:=n5_;clear n0_ n1_ n2_ n3_ n4_ n5_;clear ho hb hg hat;refine hK.out _ _ ((zS HB.out hw616_0)) (fun hHeld=>?_)
                  clear hK K;refine norm_ (a':=?_) ?_ ?_
                  rotate_left
                  ·show Act.put _ (some 40) _ = _
                   simp only [Act.put,zT,zU,zV,i64_w,i32_w]
                   rfl
                  exact norm_ (by simp only [putAll,Act.put,List.setIfInBounds_toArray,List.set_cons_zero,List.set_cons_succ]) (hCont (v607,v614,v618) _ ⟨hHeld,(by (with_reducible repeat (first|apply zA|apply zB|apply zC));exact Kd.R_mono HO615.out (fun _ hk=>⟨hk.2,hk.1⟩)),(by (with_reducible repeat (first|apply zA|apply zB|apply zC));exact Kd.R_mono HO619.out (fun _ hk=>⟨hk.2,hk.1⟩)),(by (with_reducible repeat (first|apply zA|apply zB|apply zC));exact Kd.R_mono HO_4.out (fun _ hk=>⟨hk.2,hk.1⟩)),(by repeat (first|(with_reducible first|exact HB.out|apply zD|apply zE|apply zF)|exact HB.out))⟩)
                ·skip
                 refine Kd.R_lit_step (Kd.int .i64) _ 3 ?hg (N:=45) ?hd (xs:=([rd l0 x5_1]:List Int)) (inner:=[.int .i64 (rd l0 x5_1)]) (ok:=fun _=>True) (okp:=fun _=>True) ?hr ?hp (fun _ hk=>hk) trivial (Below.refl _ _) (Nat.le_refl _) (by simp) ?_;(case hd=>rfl);(case hg=>rfl);(case hr=>first|(go_simp;done)|(go_simp;rfl));(case hp=>exact (Reps.one (show Kd.M (Kd.int .i64) _ _ _ (rd l0 x5_1) [.int .i64 (rd l0 x5_1)] from rfl) (Reps.none _ _)))
                 intro v618 w49 ho50 hb hg_ hnew_;clear hg_ hnew_;(first|rw [← Ny617.out] at ho50|(simp only [Int.reduceToNat] at ho50;rw [← Ny617.out] at ho50))
                 have n0_:=zM (Kd.R_elder' (by (with_reducible repeat (first|apply zA|apply zB|apply zC));exact HO_4.out) (Kd.R_base ho50) hb)
                 have n1_:=zM (Kd.R_lower (Kd.R_new' ho50 (Kd.R_lt (by (with_reducible repeat (first|apply zA|apply zB|apply zC));exact HO_4.out))) (zR (by repeat (first|(with_reducible first|exact HB.out|apply zD|apply zE|apply zF)|exact HB.out))))
                 have n2_:=zM (zO (by repeat (first|(with_reducible exact HR612.out)|(with_reducible first|refine zG ?_ _|refine zH ?_ _|refine zI ?_)|exact HR612.out)) hb)
                 have n3_:=zM (zO (by repeat (first|(with_reducible exact HR626.out)|(with_reducible first|refine zG ?_ _|refine zH ?_ _|refine zI ?_)|exact HR626.out)) hb)
                 have n4_:=zM (zQ (by repeat (first|(with_reducible first|exact HB.out|apply zD|apply zE|apply zF)|exact HB.out)) hb)
                 clear HO_4;clear HR612;clear HR626;clear HB;have HO_4:=n0_;have HO619:=n1_;have HR612:=n2_;have HR626:=n3_;have HB:=n4_;clear n0_ n1_ n2_ n3_ n4_;clear hb ho50;refine hK.out _ _ ((zS HB.out hw616_0)) (fun hHeld=>?_)
                 clear hK K;refine norm_ (a':=?_) ?_ ?_
                 rotate_left
                 ·show Act.put _ (some 45) _ = _
                  simp only [Act.put,zT,zU,zV,i64_w,i32_w]
                  rfl
                 refine one_ (i:=0) (N:=some 36) #[true,true,true,true,false,true,true,true,true,true,false,true,true,true,false,false] rfl rfl (one_of HT_.out (by kernel_rfl)) (by decide) (fun K hK=>?_)
                 refine Kd.R_lit_step (Kd.int .i64) _ 3 ?hg (N:=36) ?hd (xs:=([]:List Int)) (inner:=[]) (ok:=fun _=>True) (okp:=fun _=>True) ?hr ?hp (fun _ hk=>hk) trivial (Below.refl _ _) (Nat.le_refl _) (by simp) ?_;(case hd=>rfl);(case hg=>rfl);(case hr=>first|(go_simp;done)|(go_simp;rfl));(case hp=>exact (Reps.none _ _))
                 intro v607 w51 ho52 hb hg_ hnew_;clear hg_ hnew_;(first|rw [← Ny606.out] at ho52|(simp only [Int.reduceToNat] at ho52;rw [← Ny606.out] at ho52))
                 have n0_:=zM (Kd.R_elder' (by (with_reducible repeat (first|apply zA|apply zB|apply zC));exact HO_4.out) (Kd.R_base ho52) hb)
                 have n1_:=zM (Kd.R_elder' (by (with_reducible repeat (first|apply zA|apply zB|apply zC));exact HO619.out) (Kd.R_base ho52) hb)
                 have n2_:=zM (Kd.R_lower (Kd.R_new' (Kd.R_new' ho52 (Kd.R_lt (by (with_reducible repeat (first|apply zA|apply zB|apply zC));exact HO_4.out))) (Kd.R_lt (by (with_reducible repeat (first|apply zA|apply zB|apply zC));exact HO619.out))) (zR (by repeat (first|(with_reducible first|exact HB.out|apply zD|apply zE|apply zF)|exact HB.out))))
                 have n3_:=zM (zO (by repeat (first|(with_reducible exact HR612.out)|(with_reducible first|refine zG ?_ _|refine zH ?_ _|refine zI ?_)|exact HR612.out)) hb)
                 have n4_:=zM (zO (by repeat (first|(with_reducible exact HR626.out)|(with_reducible first|refine zG ?_ _|refine zH ?_ _|refine zI ?_)|exact HR626.out)) hb)
                 have n5_:=zM (zQ (by repeat (first|(with_reducible first|exact HB.out|apply zD|apply zE|apply zF)|exact HB.out)) hb)
                 clear HO_4;clear HO619;clear HR612;clear HR626;clear HB;have HO_4:=n0_;have HO619:=n1_;have HO608:=n2_;have HR612:=n3_;have HR626:=n4_;have HB:=n5_;clear n0_ n1_ n2_ n3_ n4_ n5_;clear hb ho52;refine hK.out _ _ ((zS HB.out hw616_0)) (fun hHeld=>?_)
                 clear hK K;refine norm_ (a':=?_) ?_ ?_
                 rotate_left
                 ·show Act.put _ (some 36) _ = _
                  simp only [Act.put,zT,zU,zV,i64_w,i32_w]
                  rfl
                 refine one_ (i:=4) (N:=some 40) #[true,true,true,true,true,true,true,true,true,true,false,true,true,true,false,false] rfl rfl (one_of HT_.out (by kernel_rfl)) (by decide) (fun K hK=>?_)
                 refine Kd.R_append_rows_step (Kd.int .i64) (w0:=w) w.heap.size (by rfl) (.tmp 36) (.tmp 39) 22 3 (.int .i64 0) 8 rfl Try.underlying22 info3 rfl (by decide) (by omega) v607 y606 y609 _ _ _ (fun k_=>some k_ ≠ (.slice Ao7 x4_1.length co7:Value).ownBlock ∧ some k_ ≠ (v618:Value).ownBlock) (fun _=>False) rfl rfl ?aO ?aR (fun _ _ h=>h) (fun _ h=>h.elim) ?aF ?aB ?aS ?aL ?_
                 (case aR=>repeat (first|exact (by repeat (first|(with_reducible exact HR612.out)|(with_reducible first|refine zG ?_ _|refine zH ?_ _|refine zI ?_)|exact HR612.out))|(with_reducible first|refine zG ?_ _|refine zH ?_ _|refine zI ?_)))
                 (case aB=>exact (by repeat (first|(with_reducible first|exact HB.out|apply zD|apply zE|apply zF)|exact HB.out)))
                 (case aF=>exact (fun k_ hk=>⟨Kd.fresh' (Kd.R_lt (by (with_reducible repeat (first|apply zA|apply zB|apply zC));exact HO_4.out)) k_ hk,Kd.fresh' (Kd.R_lt (by (with_reducible repeat (first|apply zA|apply zB|apply zC));exact HO619.out)) k_ hk⟩))
                 (case aO=>exact (by (with_reducible repeat (first|apply zA|apply zB|apply zC));exact Kd.R_mono HO608.out (fun _ hk=>⟨hk.1.2,hk.2⟩)))
                 (case aS=>exact (zR (by repeat (first|(with_reducible first|exact HB.out|apply zD|apply zE|apply zF)|exact HB.out))))
                 (case aL=>have:=LMc38.out;omega)
                 intro v614 w53 ho hb hg hat;rw [← Ny613.out] at ho;have n0_:=zM (Kd.R_after (ok:=(fun k_=>some k_ ≠ (v618:Value).ownBlock)) (by (with_reducible repeat (first|apply zA|apply zB|apply zC));exact Kd.R_mono HO_4.out (fun _ hk=>⟨hk.1.2,hk.2⟩)) hg hat)
                 have n1_:=zM (Kd.R_after (ok:=(fun k_=>some k_ ≠ (.slice Ao7 x4_1.length co7:Value).ownBlock)) (by (with_reducible repeat (first|apply zA|apply zB|apply zC));exact Kd.R_mono HO619.out (fun _ hk=>⟨hk.1.2,hk.2⟩)) hg hat)
                 have n2_:=zM (hb);have n3_:=zM ((show Kd.C (Kd.int .i64) w53 Ao7 y609.length y609 from by rw [Ny609.out];exact Kd.C_take (m:=(x6_2:Int).toNat) ((zN (Kd.R_after (ok:=(fun k_=>some k_ ≠ (v618:Value).ownBlock)) (by (with_reducible repeat (first|apply zA|apply zB|apply zC));exact Kd.R_mono HO_4.out (fun _ hk=>⟨hk.1.2,hk.2⟩)) hg hat)).2.2) KL47.out))
                 have n4_:=zM ((show Kd.C (Kd.int .i64) w53 A48 y623.length y623 from by rw [Ny623.out,KA48.out];exact Kd.C_drop (m:=(x6_2:Int).toNat) (c:=co7) ((zN (Kd.R_after (ok:=(fun k_=>some k_ ≠ (v618:Value).ownBlock)) (by (with_reducible repeat (first|apply zA|apply zB|apply zC));exact Kd.R_mono HO_4.out (fun _ hk=>⟨hk.1.2,hk.2⟩)) hg hat)).2.2) KL48.out ((zN (Kd.R_after (ok:=(fun k_=>some k_ ≠ (v618:Value).ownBlock)) (by (with_reducible repeat (first|apply zA|apply zB|apply zC));exact Kd.R_mono HO_4.out (fun _ hk=>⟨hk.1.2,hk.2⟩)) hg hat)).2.1)))
                 have n5_:=zM (ho);clear HO_4;clear HO619;clear HB;clear HR612;clear HR626;clear HO608;have HO_4:=n0_;have HO619:=n1_;have HB:=n2_;have HR612:=n3_;have HR626:=n4_;have HO615:=n5_;clear n0_ n1_ n2_ n3_ n4_ n5_;clear ho hb hg hat;refine hK.out _ _ ((zS HB.out hw616_0)) (fun hHeld=>?_)
                 clear hK K;refine norm_ (a':=?_) ?_ ?_
                 rotate_left
                 ·show Act.put _ (some 40) _ = _
                  simp only [Act.put,zT,zU,zV,i64_w,i32_w]
                  rfl
                 exact norm_ (by simp only [putAll,Act.put,List.setIfInBounds_toArray,List.set_cons_zero,List.set_cons_succ]) (hCont (v607,v614,v618) _ ⟨hHeld,(by (with_reducible repeat (first|apply zA|apply zB|apply zC));exact Kd.R_mono HO615.out (fun _ hk=>⟨hk.2,hk.1⟩)),(by (with_reducible repeat (first|apply zA|apply zB|apply zC));exact Kd.R_mono HO619.out (fun _ hk=>⟨hk.2,hk.1⟩)),(by (with_reducible repeat (first|apply zA|apply zB|apply zC));exact Kd.R_mono HO_4.out (fun _ hk=>⟨hk.2,hk.1⟩)),(by repeat (first|(with_reducible first|exact HB.out|apply zD|apply zE|apply zF)|exact HB.out))⟩)
               rintro ⟨v607,v614,v618⟩ w54 ⟨hS_,h0_,h1_,h2_,h3_⟩
               have n0_:Aside0 (Kd.R (Kd.int .i64) 3 w54 w.heap.size (fun k_=>some k_ ≠ (v618:Value).ownBlock ∧ some k_ ≠ (.slice Ao7 x4_1.length co7:Value).ownBlock) v614 y613):=⟨h0_⟩
               have n1_:Aside0 (Kd.R (Kd.int .i64) 3 w54 w.heap.size (fun k_=>some k_ ≠ (v614:Value).ownBlock ∧ some k_ ≠ (.slice Ao7 x4_1.length co7:Value).ownBlock) v618 y617):=⟨h1_⟩
               have n2_:Aside0 (Kd.R (Kd.int .i64) 3 w54 w.heap.size (fun k_=>some k_ ≠ (v614:Value).ownBlock ∧ some k_ ≠ (v618:Value).ownBlock) (.slice Ao7 x4_1.length co7) x4_1):=⟨h2_⟩
               have n3_:Aside0 (Below w.heap.size w w54):=⟨h3_⟩
               clear HO_4;clear HB;clear h0_ h1_ h2_ h3_;have HO615:=n0_;have HO619:=n1_;have HO_4:=n2_;have HB:=n3_;clear n0_ n1_ n2_ n3_;have hHeld:w54.cell? (ad616.add (x5_1).toNat) = some (.int .i64 (rd l0 x5_1)):=hS_
               have HR612:=zM (show Kd.C (Kd.int .i64) w54 Ao7 y609.length y609 from by rw [Ny609.out];exact Kd.C_take (m:=(x6_2:Int).toNat) ((zN (HO_4.out)).2.2) KL47.out)
               have HR626:=zM (show Kd.C (Kd.int .i64) w54 A48 y623.length y623 from by rw [Ny623.out,KA48.out];exact Kd.C_drop (m:=(x6_2:Int).toNat) (c:=co7) ((zN (HO_4.out)).2.2) KL48.out ((zN (HO_4.out)).2.1))
               obtain ⟨Ao56,co56,eo56⟩:=Kd.R_slice HO619.out;(first|subst eo56|(injection eo56 with f1_ f2_ f3_;have f4_:=f1_.symm;have f5_:=f3_.symm;clear f1_ f2_ f3_;subst f4_;subst f5_))
               refine norm_ (a':=?_) ?_ ?_
               rotate_left
               ·simp only [putAll,Act.put,List.setIfInBounds_toArray,List.set_cons_zero,List.set_cons_succ]
                rfl
               refine one_ (i:=10) (N:=some 46) #[true,true,true,true,true,true,true,true,true,true,true,true,true,true,false,false] rfl rfl (one_of HT_.out (by kernel_rfl)) (by decide) (fun K hK=>?_)
               refine Kd.R_append_rows_step (Kd.int .i64) (w0:=w) w.heap.size (by rfl) (.tmp 40) (.tmp 45) 22 3 (.int .i64 0) 8 rfl Try.underlying22 info3 rfl (by decide) (by omega) v614 y613 y617 _ _ _ (fun k_=>some k_ ≠ (.slice Ao7 x4_1.length co7:Value).ownBlock ∧ some k_ ≠ (.slice Ao56 y617.length co56:Value).ownBlock) (fun _=>False) rfl rfl ?aO ?aR (fun _ _ h=>h) (fun _ h=>h.elim) ?aF ?aB ?aS ?aL ?_
               (case aR=>repeat (first|exact (zN HO619.out).2.2|(with_reducible first|refine zG ?_ _|refine zH ?_ _|refine zI ?_)))
               (case aB=>exact (by repeat (first|(with_reducible first|exact HB.out|apply zD|apply zE|apply zF)|exact HB.out)))
               (case aF=>exact (fun k_ hk=>⟨Kd.fresh' (Kd.R_lt (by (with_reducible repeat (first|apply zA|apply zB|apply zC));exact HO_4.out)) k_ hk,Kd.fresh' (Kd.R_lt (by (with_reducible repeat (first|apply zA|apply zB|apply zC));exact HO619.out)) k_ hk⟩))
               (case aO=>exact (by (with_reducible repeat (first|apply zA|apply zB|apply zC));exact Kd.R_mono HO615.out (fun _ hk=>⟨hk.2,hk.1⟩)))
               (case aS=>exact (zR (by repeat (first|(with_reducible first|exact HB.out|apply zD|apply zE|apply zF)|exact HB.out))))
               (case aL=>have:=LMc41.out;omega)
               intro v621 w55 ho hb hg hat;rw [← Ny620.out] at ho;have n0_:=zM (Kd.R_after (ok:=(fun k_=>some k_ ≠ (.slice Ao56 y617.length co56:Value).ownBlock)) (by (with_reducible repeat (first|apply zA|apply zB|apply zC));exact Kd.R_mono HO_4.out (fun _ hk=>⟨hk.2,hk.1⟩)) hg hat)
               have n1_:=zM (Kd.R_after (ok:=(fun k_=>some k_ ≠ (.slice Ao7 x4_1.length co7:Value).ownBlock)) (by (with_reducible repeat (first|apply zA|apply zB|apply zC));exact Kd.R_mono HO619.out (fun _ hk=>⟨hk.2,hk.1⟩)) hg hat)
               have n2_:=zM (hb);have n3_:=zM ((show Kd.C (Kd.int .i64) w55 Ao7 y609.length y609 from by rw [Ny609.out];exact Kd.C_take (m:=(x6_2:Int).toNat) ((zN (Kd.R_after (ok:=(fun k_=>some k_ ≠ (.slice Ao56 y617.length co56:Value).ownBlock)) (by (with_reducible repeat (first|apply zA|apply zB|apply zC));exact Kd.R_mono HO_4.out (fun _ hk=>⟨hk.2,hk.1⟩)) hg hat)).2.2) KL47.out))
               have n4_:=zM ((show Kd.C (Kd.int .i64) w55 A48 y623.length y623 from by rw [Ny623.out,KA48.out];exact Kd.C_drop (m:=(x6_2:Int).toNat) (c:=co7) ((zN (Kd.R_after (ok:=(fun k_=>some k_ ≠ (.slice Ao56 y617.length co56:Value).ownBlock)) (by (with_reducible repeat (first|apply zA|apply zB|apply zC));exact Kd.R_mono HO_4.out (fun _ hk=>⟨hk.2,hk.1⟩)) hg hat)).2.2) KL48.out ((zN (Kd.R_after (ok:=(fun k_=>some k_ ≠ (.slice Ao56 y617.length co56:Value).ownBlock)) (by (with_reducible repeat (first|apply zA|apply zB|apply zC));exact Kd.R_mono HO_4.out (fun _ hk=>⟨hk.2,hk.1⟩)) hg hat)).2.1)))
               have n5_:=zM (ho);clear HO_4;clear HO619;clear HB;clear HR612;clear HR626;clear HO615;have HO_4:=n0_;have HO619:=n1_;have HB:=n2_;have HR612:=n3_;have HR626:=n4_;have HO622:=n5_;clear n0_ n1_ n2_ n3_ n4_ n5_;clear ho hb hg hat;refine hK.out _ _ ((zS HB.out hw616_0)) (fun hHeld=>?_)
               clear hK K;refine norm_ (a':=?_) ?_ ?_
               rotate_left
               ·show Act.put _ (some 46) _ = _
                simp only [Act.put,zT,zU,zV,i64_w,i32_w]
                rfl
               refine one_ (i:=14) (N:=some 50) #[true,true,true,true,true,true,true,true,true,true,true,true,true,true,true,false] rfl rfl (one_of HT_.out (by kernel_rfl)) (by decide) (fun K hK=>?_)
               refine Kd.R_append_rows_step (Kd.int .i64) (w0:=w) w.heap.size (by rfl) (.tmp 46) (.tmp 49) 22 3 (.int .i64 0) 8 rfl Try.underlying22 info3 rfl (by decide) (by omega) v621 y620 y623 _ _ _ (fun k_=>some k_ ≠ (.slice Ao7 x4_1.length co7:Value).ownBlock ∧ some k_ ≠ (.slice Ao56 y617.length co56:Value).ownBlock) (fun _=>False) rfl rfl ?aO ?aR (fun _ _ h=>h) (fun _ h=>h.elim) ?aF ?aB ?aS ?aL ?_
               (case aR=>repeat (first|exact (by repeat (first|(with_reducible exact HR626.out)|(with_reducible first|refine zG ?_ _|refine zH ?_ _|refine zI ?_)|exact HR626.out))|(with_reducible first|refine zG ?_ _|refine zH ?_ _|refine zI ?_)))
               (case aB=>exact (by repeat (first|(with_reducible first|exact HB.out|apply zD|apply zE|apply zF)|exact HB.out)))
               (case aF=>exact (fun k_ hk=>⟨Kd.fresh' (Kd.R_lt (by (with_reducible repeat (first|apply zA|apply zB|apply zC));exact HO_4.out)) k_ hk,Kd.fresh' (Kd.R_lt (by (with_reducible repeat (first|apply zA|apply zB|apply zC));exact HO619.out)) k_ hk⟩))
               (case aO=>exact (by (with_reducible repeat (first|apply zA|apply zB|apply zC));exact HO622.out))
               (case aS=>exact (zR (by repeat (first|(with_reducible first|exact HB.out|apply zD|apply zE|apply zF)|exact HB.out))))
               (case aL=>have:=LMc44.out;omega)
               intro v628 w57 ho hb hg hat;rw [← Ny627.out] at ho;have n0_:=zM (Kd.R_after (ok:=(fun k_=>some k_ ≠ (.slice Ao56 y617.length co56:Value).ownBlock)) (by (with_reducible repeat (first|apply zA|apply zB|apply zC));exact HO_4.out) hg hat)
               have n1_:=zM (Kd.R_after (ok:=(fun k_=>some k_ ≠ (.slice Ao7 x4_1.length co7:Value).ownBlock)) (by (with_reducible repeat (first|apply zA|apply zB|apply zC));exact HO619.out) hg hat)
               have n2_:=zM (hb);have n3_:=zM ((show Kd.C (Kd.int .i64) w57 Ao7 y609.length y609 from by rw [Ny609.out];exact Kd.C_take (m:=(x6_2:Int).toNat) ((zN (Kd.R_after (ok:=(fun k_=>some k_ ≠ (.slice Ao56 y617.length co56:Value).ownBlock)) (by (with_reducible repeat (first|apply zA|apply zB|apply zC));exact HO_4.out) hg hat)).2.2) KL47.out))
               have n4_:=zM ((show Kd.C (Kd.int .i64) w57 A48 y623.length y623 from by rw [Ny623.out,KA48.out];exact Kd.C_drop (m:=(x6_2:Int).toNat) (c:=co7) ((zN (Kd.R_after (ok:=(fun k_=>some k_ ≠ (.slice Ao56 y617.length co56:Value).ownBlock)) (by (with_reducible repeat (first|apply zA|apply zB|apply zC));exact HO_4.out) hg hat)).2.2) KL48.out ((zN (Kd.R_after (ok:=(fun k_=>some k_ ≠ (.slice Ao56 y617.length co56:Value).ownBlock)) (by (with_reducible repeat (first|apply zA|apply zB|apply zC));exact HO_4.out) hg hat)).2.1)))
               have n5_:=zM (ho);clear HO_4;clear HO619;clear HB;clear HR612;clear HR626;clear HO622;have HO_4:=n0_;have HO619:=n1_;have HB:=n2_;have HR612:=n3_;have HR626:=n4_;have HO629:=n5_;clear n0_ n1_ n2_ n3_ n4_ n5_;clear ho hb hg hat;refine hK.out _ _ ((zS HB.out hw616_0)) (fun hHeld=>?_)
               clear hK K;refine norm_ (a':=?_) ?_ ?_
               rotate_left
               ·show Act.put _ (some 50) _ = _
                simp only [Act.put,zT,zU,zV,i64_w,i32_w]
                rfl
               refine pure_ (i:=15) (N:=some 4) (v:=?_) (a':=?_) #[true,true,true,true,true,true,true,true,true,true,true,true,true,true,true,true] rfl rfl (any_of HT_.out (by kernel_rfl)) (fun _ _ _ h=>h) (Or.inl ⟨by rfl,?_⟩) ?_ ?_
               rotate_left
               ·intro w'
                go_simp
                with_reducible rfl
               rotate_left
               ·simp only [Act.put,zT,zU,zV,i64_w,i32_w]
                rfl
               refine done_ (done_of HT_.out (by kernel_rfl)) ?_
               try go_wp2
               go_roundg k2
               case measure=>have:=HK1.out;have:=HK2.out;omega
               case rel=>exact ⟨(y627),(wrap64 (x5_1 + 1)),(by first|rfl|(simp;done)|(simp [*];done)),H',⟨by have:=HK1.out;have:=HK2.out;omega⟩,⟨by (with_reducible repeat (first|apply zA|apply zB|apply zC));exact Kd.R_mono HO629.out (fun _ hk=>trivial)⟩,⟨by repeat (first|(with_reducible first|exact HB.out|apply zD|apply zE|apply zF)|exact HB.out)⟩⟩
              ·rw [if_neg c44] at H
               exact absurd H (by simp)
             ·rw [if_neg c41] at H
              exact absurd H (by simp)
            ·rw [if_neg c40] at H
             exact absurd H (by simp)
           ·rw [if_neg c39] at H
            exact absurd H (by simp)
          ·rw [if_neg c38] at H
           exact absurd H (by simp)
         ·rw [if_neg c37] at H
          exact absurd H (by simp)
        ·rw [if_neg c36] at H
         exact absurd H (by simp)
    ·rw [if_neg c6] at H
     have c6b0:decide (x5_1 < (l0.length:Int)) = false:=decide_eq_false c6
     clear c6;simp only [Option.some.injEq,Prod.mk.injEq] at H
     obtain ⟨rfl,rfl⟩:=H;go_wp2
     go_ret2
     exact ⟨_,by first|rfl|(simp [errW_none,errW_some] <;> rfl)|(simp [*,errW_none,errW_some] <;> rfl),by (with_reducible repeat (first|apply zA|apply zB|apply zC));exact HO_4.out,by repeat (first|(with_reducible first|exact HB.out|apply zD|apply zE|apply zF)|exact HB.out)⟩
 ·replace c3:=Bool.eq_false_iff.mpr c3
  subst c3;have H1:(some (y576,false)) = some (r1,r2):=by rw [if_neg (show ¬ (false = true) by decide)] at H;exact H
  clear H;have H:=H1;clear H1;simp only [Option.some.injEq,Prod.mk.injEq] at H
  obtain ⟨rfl,rfl⟩:=H;go_enter Try.func32,Try.ntmps32
  go_wp2_with (first|((with_reducible refine gate_dst (N:=7) rfl ?_);refine Kd.R_lit (Kd.int .i64) _ 3 ?hg (N:=7) ?hd (xs:=([]:List Int)) (inner:=[]) (ok:=fun _=>True) (okp:=fun _=>True) ?hr ?hp (fun _ hk=>hk) trivial (Below.refl _ _) (Nat.le_refl _) (by simp) ?_;(case hd=>rfl);(case hg=>rfl);(case hr=>first|(go_simp;done)|(go_simp;rfl));(case hp=>exact (Reps.none _ _));intro v577 w58 ho59 hb hg_ hnew_;clear hg_ hnew_;(first|rw [← Ny576.out] at ho59|(simp only [Int.reduceToNat] at ho59;rw [← Ny576.out] at ho59));have n0_:=zM (Kd.R_lower ho59 (zR (by repeat (first|(with_reducible first|exact HB.out|apply zD|apply zE|apply zF)|exact HB.out))));have n1_:=zM (zQ (by repeat (first|(with_reducible first|exact HB.out|apply zD|apply zE|apply zF)|exact HB.out)) hb);clear HB;have HO578:=n0_;have HB:=n1_;clear n0_ n1_;clear hb ho59)|((with_reducible refine gate_callee (f:=44) rfl ?_);refine goesL_ (some 9) rfl rfl Try.func44 (by kernel_rfl) rfl #[.slice A0 l0.length c0] rfl (by (try simp only [List.map_toArray,List.map_cons,List.map_nil]);first|done|rfl|(simp only [List.length_drop,List.length_take];rfl)) ?_;(with_reducible refine (spec_l12Good.calls k _ _ l0 false _ ?side1 ?side2 A2.out).mono ?_);(case side1=>repeat (first|exact (zO HR0.out HB.out)|(with_reducible first|refine zG ?_ _|refine zH ?_ _|refine zI ?_)));(case side2=>exact HC0.out);rintro e w' ⟨rfl,⟨nd,rfl⟩⟩;refine ⟨_,rfl,?_⟩))
  go_ret2
  exact ⟨_,by first|rfl|(simp [errW_none,errW_some] <;> rfl)|(simp [*,errW_none,errW_some] <;> rfl),by (with_reducible repeat (first|apply zA|apply zB|apply zC));exact HO578.out,by repeat (first|(with_reducible first|exact HB.out|apply zD|apply zE|apply zF)|exact HB.out)⟩



/-! ### laws_rBig: function 34 -/
def laws_rBig.f (l0:List Int):Option (Bool):=some (decide ((l0.length:Int) > 65536))
set_option maxHeartbeats 8000000 in
set_option maxRecDepth 100000 in
theorem laws_rBig.calls (A0:Option Addr) (c0:Nat) (l0:List Int) (r:Bool) (w:World) (hr0:Kd.C (Kd.int .u8) w A0 l0.length l0) (hc0:l0.length ≤ c0) (h:laws_rBig.f l0 = some r) :
  Calls Try.prog 34 #[.slice A0 l0.length c0] w fun e w'=>e = .returned (.bool r) ∧ Drawn0 w w':=by
 have HR0:=zM hr0;have HC0:=zM hc0;clear hr0 hc0;have H:(some (decide ((l0.length:Int) > 65536))) = some r:=h
 clear h;obtain rfl:=Option.some.inj H;go_enter Try.func34,Try.ntmps34
 go_wp2
 go_ret
 exact ⟨by first|rfl|(simp;done)|(simp [*];done),by repeat (first|exact Drawn0.refl _|apply Drawn0.step)⟩



/-! ### laws_rInts: function 40 -/
def laws_rInts.l0:Nat → List Int → List Int → Int → Option (Bool)
 | 0,_,_,_=>none
 | k + 1,x0,x1,x5=>if x5 < (x0.length:Int) then (if 0 ≤ x5 then (if x5 < (x1.length:Int) then (if (rd x0 x5) = (rd x1 x5) then (laws_rInts.l0 k x0 x1 (wrap64 (x5 + 1))) else (some false)) else (none)) else (none)) else (some true)
def laws_rInts.f (k:Nat) (l0:List Int) (l1:List Int):Option (Bool):=if (l0.length:Int) = (l1.length:Int) then (laws_rInts.l0 k l0 l1 0) else (some false)
set_option maxHeartbeats 8000000 in
set_option maxRecDepth 100000 in
theorem laws_rInts.calls (k:Nat) (A0:Option Addr) (c0:Nat) (l0:List Int) (A1:Option Addr) (c1:Nat) (l1:List Int) (r:Bool) (w:World) (hr0:Kd.C (Kd.int .i64) w A0 l0.length l0) (hc0:l0.length ≤ c0) (hr1:Kd.C (Kd.int .i64) w A1 l1.length l1) (hc1:l1.length ≤ c1) (h:laws_rInts.f k l0 l1 = some r) :
  Calls Try.prog 40 #[.slice A0 l0.length c0,.slice A1 l1.length c1] w fun e w'=>e = .returned (.bool r) ∧ Drawn0 w w':=by
 have HR0:=zM hr0;have HC0:=zM hc0;clear hr0 hc0;have HR1:=zM hr1;have HC1:=zM hc1;clear hr1 hc1;have H:(if (l0.length:Int) = (l1.length:Int) then (laws_rInts.l0 k l0 l1 0) else (some false)) = some r:=h
 clear h;by_cases c3:(l0.length:Int) = (l1.length:Int)
 ·rw [if_pos c3] at H
  have c3b0:((l0.length:Int) == (l1.length:Int)) = true:=beq_iff_eq.mpr c3
  have c3b1:((l0.length:Int) != (l1.length:Int)) = false:=bne_eq_false_iff_eq.mpr c3
  have c3b2:(l0.length == l1.length) = true:=by first|simpa using c3|(simp at c3 ⊢;omega)
  clear c3;have H':=zM H;clear H;go_enter Try.func40,Try.ntmps40
  go_wp2
  repeat (go_quiet (fail);try go_wp2)
  go_loopg [5] k (fun kq v5 w' => ∃ (x5_1:Int),v5 = .int .i64 x5_1 ∧ Aside0 (laws_rInts.l0 kq l0 l1 x5_1 = some r) ∧ Aside0 (kq ≤ k) ∧ Drawn0 w w')
  case atStart=>exact ⟨(0),(by first|rfl|(simp;done)|(simp [*];done)),H',⟨Nat.le_refl _⟩,by repeat (first|exact Drawn0.refl _|apply Drawn0.step)⟩
  case round =>
   clear H';(try clear c1);(try clear p2);(try clear c3);(try clear c3b0);(try clear c3b1);(try clear c3b2);obtain ⟨x5_1,rfl,HA,HK1,⟨m1,rfl⟩⟩:=hrel;cases gk with
   | zero=>exact absurd HA.out (by simp [laws_rInts.l0])
   | succ k1 =>
    have H:=HA.out;clear HA;simp only [laws_rInts.l0] at H
    by_cases c4:x5_1 < (l0.length:Int)
    ·rw [if_pos c4] at H
     have c4b0:decide (x5_1 < (l0.length:Int)) = true:=decide_eq_true c4
     clear c4;by_cases c5:0 ≤ x5_1
     ·rw [if_pos c5] at H
      have c5b0:decide (0 ≤ x5_1) = true:=decide_eq_true c5
      clear c5;by_cases c6:x5_1 < (l1.length:Int)
      ·rw [if_pos c6] at H
       have c6b0:decide (x5_1 < (l1.length:Int)) = true:=decide_eq_true c6
       clear c6;by_cases c7:(rd l0 x5_1) = (rd l1 x5_1)
       ·rw [if_pos c7] at H
        have c7b0:((rd l0 x5_1) == (rd l1 x5_1)) = true:=beq_iff_eq.mpr c7
        have c7b1:((rd l0 x5_1) != (rd l1 x5_1)) = false:=bne_eq_false_iff_eq.mpr c7
        clear c7;have H':=zM H;clear H;have p959:0 ≤ (x5_1:Int):=of_decide_eq_true (by first|(with_reducible assumption)|assumption)
        have q959:x5_1 < (l0.length:Int):=of_decide_eq_true (by first|(with_reducible assumption)|assumption)
        obtain ⟨ad959,e959,hx959_0⟩:=Kd.at_int HR0.out x5_1 p959 q959;cases e959
        replace p959:=eq_true p959;replace q959:=eq_true q959;have p960:0 ≤ (x5_1:Int):=of_decide_eq_true (by first|(with_reducible assumption)|assumption)
        have q960:x5_1 < (l1.length:Int):=of_decide_eq_true (by first|(with_reducible assumption)|assumption)
        obtain ⟨ad960,e960,hx960_0⟩:=Kd.at_int HR1.out x5_1 p960 q960;cases e960
        replace p960:=eq_true p960;replace q960:=eq_true q960;go_wp2
        repeat (go_quiet (fail);try go_wp2)
        go_roundg k1
        case measure=>have:=HK1.out;omega
        case rel=>exact ⟨(wrap64 (x5_1 + 1)),(by first|rfl|(simp;done)|(simp [*];done)),H',⟨by have:=HK1.out;omega⟩,by repeat (first|exact Drawn0.refl _|apply Drawn0.step)⟩
       ·rw [if_neg c7] at H
        have c7b0:((rd l0 x5_1) == (rd l1 x5_1)) = false:=beq_eq_false_iff_ne.mpr c7
        have c7b1:((rd l0 x5_1) != (rd l1 x5_1)) = true:=bne_iff_ne.mpr c7
        obtain rfl:=Option.some.inj H;have p959:0 ≤ (x5_1:Int):=of_decide_eq_true (by first|(with_reducible assumption)|assumption)
        have q959:x5_1 < (l0.length:Int):=of_decide_eq_true (by first|(with_reducible assumption)|assumption)
        obtain ⟨ad959,e959,hx959_0⟩:=Kd.at_int HR0.out x5_1 p959 q959;cases e959
        replace p959:=eq_true p959;replace q959:=eq_true q959;have p960:0 ≤ (x5_1:Int):=of_decide_eq_true (by first|(with_reducible assumption)|assumption)
        have q960:x5_1 < (l1.length:Int):=of_decide_eq_true (by first|(with_reducible assumption)|assumption)
        obtain ⟨ad960,e960,hx960_0⟩:=Kd.at_int HR1.out x5_1 p960 q960;cases e960
        replace p960:=eq_true p960;replace q960:=eq_true q960;go_wp2
        repeat (go_quiet (fail);try go_wp2)
        go_ret
        exact ⟨by first|rfl|(simp;done)|(simp [*];done),by repeat (first|exact Drawn0.refl _|apply Drawn0.step)⟩
      ·rw [if_neg c6] at H
       exact absurd H (by simp)
     ·rw [if_neg c5] at H
      exact absurd H (by simp)
    ·rw [if_neg c4] at H
     have c4b0:decide (x5_1 < (l0.length:Int)) = false:=decide_eq_false c4
     clear c4;obtain rfl:=Option.some.inj H;go_wp2
     repeat (go_quiet (fail);try go_wp2)
     go_ret
     exact ⟨by first|rfl|(simp;done)|(simp [*];done),by repeat (first|exact Drawn0.refl _|apply Drawn0.step)⟩
 ·rw [if_neg c3] at H
  have c3b0:((l0.length:Int) == (l1.length:Int)) = false:=beq_eq_false_iff_ne.mpr c3
  have c3b1:((l0.length:Int) != (l1.length:Int)) = true:=bne_iff_ne.mpr c3
  have c3b2:(l0.length == l1.length) = false:=by first|simpa using c3|(simp at c3 ⊢;omega)
  obtain rfl:=Option.some.inj H;go_enter Try.func40,Try.ntmps40
  go_wp2
  repeat (go_quiet (fail);try go_wp2)
  go_ret
  exact ⟨by first|rfl|(simp;done)|(simp [*];done),by repeat (first|exact Drawn0.refl _|apply Drawn0.step)⟩



/-! ### laws_rSum: function 38 -/
def laws_rSum.l0:Nat → List Int → Int → Int → Option (Int)
 | 0,_,_,_=>none
 | k + 1,x0,x3,x4=>if x4 < (x0.length:Int) then (if 0 ≤ x4 then (laws_rSum.l0 k x0 (wrap64 (x3 + (rd x0 x4))) (wrap64 (x4 + 1))) else (none)) else (some x3)
def laws_rSum.f (k:Nat) (l0:List Int):Option (Int):=laws_rSum.l0 k l0 0 0
set_option maxHeartbeats 8000000 in
set_option maxRecDepth 100000 in
theorem laws_rSum.calls (k:Nat) (A0:Option Addr) (c0:Nat) (l0:List Int) (r:Int) (w:World) (hr0:Kd.C (Kd.int .i64) w A0 l0.length l0) (hc0:l0.length ≤ c0) (h:laws_rSum.f k l0 = some r) :
  Calls Try.prog 38 #[.slice A0 l0.length c0] w fun e w'=>e = .returned (.int .i64 r) ∧ Drawn0 w w':=by
 have HR0:=zM hr0;have HC0:=zM hc0;clear hr0 hc0;have H:(laws_rSum.l0 k l0 0 0) = some r:=h
 clear h;have H':=zM H;clear H;go_enter Try.func38,Try.ntmps38
 go_wp2
 go_loopg [3,4] k (fun kq v3 v4 w' => ∃ (x3_1:Int) (x4_1:Int),v3 = .int .i64 x3_1 ∧ v4 = .int .i64 x4_1 ∧ Aside0 (laws_rSum.l0 kq l0 x3_1 x4_1 = some r) ∧ Aside0 (kq ≤ k) ∧ Drawn0 w w')
 case atStart=>exact ⟨(0),(0),(by first|rfl|(simp;done)|(simp [*];done)),(by first|rfl|(simp;done)|(simp [*];done)),H',⟨Nat.le_refl _⟩,by repeat (first|exact Drawn0.refl _|apply Drawn0.step)⟩
 case round =>
  clear H';obtain ⟨x3_1,x4_1,rfl,rfl,HA,HK1,⟨m1,rfl⟩⟩:=hrel;cases gk with
  | zero=>exact absurd HA.out (by simp [laws_rSum.l0])
  | succ k1 =>
   have H:=HA.out;clear HA;simp only [laws_rSum.l0] at H
   by_cases c2:x4_1 < (l0.length:Int)
   ·rw [if_pos c2] at H
    have c2b0:decide (x4_1 < (l0.length:Int)) = true:=decide_eq_true c2
    clear c2;by_cases c3:0 ≤ x4_1
    ·rw [if_pos c3] at H
     have c3b0:decide (0 ≤ x4_1) = true:=decide_eq_true c3
     clear c3;have H':=zM H;clear H;have p964:0 ≤ (x4_1:Int):=of_decide_eq_true (by first|(with_reducible assumption)|assumption)
     have q964:x4_1 < (l0.length:Int):=of_decide_eq_true (by first|(with_reducible assumption)|assumption)
     obtain ⟨ad964,e964,hx964_0⟩:=Kd.at_int HR0.out x4_1 p964 q964;cases e964
     replace p964:=eq_true p964;replace q964:=eq_true q964;go_wp2
     go_roundg k1
     case measure=>have:=HK1.out;omega
     case rel=>exact ⟨(wrap64 (x3_1 + (rd l0 x4_1))),(wrap64 (x4_1 + 1)),(by first|rfl|(simp;done)|(simp [*];done)),(by first|rfl|(simp;done)|(simp [*];done)),H',⟨by have:=HK1.out;omega⟩,by repeat (first|exact Drawn0.refl _|apply Drawn0.step)⟩
    ·rw [if_neg c3] at H
     exact absurd H (by simp)
   ·rw [if_neg c2] at H
    have c2b0:decide (x4_1 < (l0.length:Int)) = false:=decide_eq_false c2
    clear c2;obtain rfl:=Option.some.inj H;go_wp2
    go_ret
    exact ⟨by first|rfl|(simp;done)|(simp [*];done),by repeat (first|exact Drawn0.refl _|apply Drawn0.step)⟩



/-- A state of type 77 at block g of W; what its slices lead to came in by w0. -/
def IsS77 (w0 W:World) (g:Nat) (f0:List Int) (f1:Int) (f2:Int):Prop := ∃ A0 c0,W.heap[g]? = some (.cells #[.slice A0 f0.length c0,.int .i64 f1,.int .u64 f2] 77 (0,0)) ∧ w0.heap.size ≤ g ∧ Kd.C (Kd.int .u8) w0 A0 f0.length f0
theorem IsS77.grown {w0 W:World} {g:Nat} {f0:List Int} {f1:Int} {f2:Int} {W1:World} {row:Option Nat} (h:IsS77 w0 W g f0 f1 f2) (hw:W.grownBy W1 row) (hne:some g ≠ row):IsS77 w0 W1 g f0 f1 f2:=by
 obtain ⟨A0,c0,hb,hg,hr0⟩:=h;exact ⟨A0,c0,blk_grown hb hw hne,hg,hr0⟩
theorem IsS77.below {w0 W:World} {g:Nat} {f0:List Int} {f1:Int} {f2:Int} {W1:World} (h:IsS77 w0 W g f0 f1 f2) (hw:Below W.heap.size W W1):IsS77 w0 W1 g f0 f1 f2:=h.grown (grown_of_below hw none) (by simp)
theorem IsS77.alloc {w0 W:World} {g:Nat} {f0:List Int} {f1:Int} {f2:Int} (h:IsS77 w0 W g f0 f1 f2) (o:Obj):IsS77 w0 (W.alloc o) g f0 f1 f2:=h.below (zD (Below.refl _ _) o)
theorem IsS77.drewN {w0 W:World} {g:Nat} {f0:List Int} {f1:Int} {f2:Int} (h:IsS77 w0 W g f0 f1 f2) (m:Nat):IsS77 w0 (W.drewN m) g f0 f1 f2:=h
theorem IsS77.drew {w0 W:World} {g:Nat} {f0:List Int} {f1:Int} {f2:Int} (h:IsS77 w0 W g f0 f1 f2):IsS77 w0 W.drew g f0 f1 f2:=h
theorem IsS77.apart {w0 W:World} {g:Nat} {f0:List Int} {f1:Int} {f2:Int} {α:Type} {d:Kd α} {e:Nat} {base:Nat} {ok:Nat → Prop} {v:Value} {xs:List α} (h:IsS77 w0 W g f0 f1 f2) (ho:d.R e W base ok v xs) (ht:∀ q,q ∈ e :: d.E → q ≠ 77):d.R e W base (fun k=>ok k ∧ k ≠ g) v xs:=by
 obtain ⟨A0,c0,hb,hg,hr0⟩:=h;exact Kd.R_types ho hb ht
theorem IsS77.own_ne {w0 W:World} {g:Nat} {f0:List Int} {f1:Int} {f2:Int} {α:Type} {d:Kd α} {e:Nat} {base:Nat} {ok:Nat → Prop} {v:Value} {xs:List α} (h:IsS77 w0 W g f0 f1 f2) (ho:d.R e W base ok v xs) (ht:e ≠ 77):some g ≠ v.ownBlock:=by
 obtain ⟨A0,c0,hb,hg,hr0⟩:=h;exact Kd.R_ne ho hb ht
theorem IsS77.lt {w0 W:World} {g:Nat} {f0:List Int} {f1:Int} {f2:Int} (h:IsS77 w0 W g f0 f1 f2):g < W.heap.size:=by
 obtain ⟨A0,c0,hb,hg,hr0⟩:=h;exact blk_lt hb
theorem IsS77.ge {w0 W:World} {g:Nat} {f0:List Int} {f1:Int} {f2:Int} (h:IsS77 w0 W g f0 f1 f2):w0.heap.size ≤ g:=by
 obtain ⟨A0,c0,hb,hg,hr0⟩:=h;exact hg
theorem IsS77.far {w0 W:World} {g:Nat} {f0:List Int} {f1:Int} {f2:Int} {p:Addr} (h:IsS77 w0 W g f0 f1 f2) (hne:g ≠ p.block) (u:Value):IsS77 w0 (W.setCell p u) g f0 f1 f2:=by
 obtain ⟨A0,c0,hb,hg,hr0⟩:=h;exact ⟨A0,c0,blk_far hb hne u,hg,hr0⟩
theorem cellS77_0 {W:World} {g:Nat} {A0:Option Addr} {c0:Nat} {f0:List Int} {f1:Int} {f2:Int} (h:W.heap[g]? = some (.cells #[.slice A0 f0.length c0,.int .i64 f1,.int .u64 f2] 77 (0,0))):W.cell? ⟨g,0,none⟩ = some (.slice A0 f0.length c0):=(blk_cell h 0).trans rfl
theorem cellS77_1 {W:World} {g:Nat} {A0:Option Addr} {c0:Nat} {f0:List Int} {f1:Int} {f2:Int} (h:W.heap[g]? = some (.cells #[.slice A0 f0.length c0,.int .i64 f1,.int .u64 f2] 77 (0,0))):W.cell? ⟨g,1,none⟩ = some (.int .i64 f1):=(blk_cell h 1).trans rfl
theorem IsS77.set_1 {w0 W:World} {g:Nat} {f0:List Int} {f1:Int} {f2:Int} (h:IsS77 w0 W g f0 f1 f2) (x:Int):IsS77 w0 (W.setCell ⟨g,1,none⟩ (.int .i64 x)) g f0 x f2:=by
 obtain ⟨A0,c0,hb,hg,hr0⟩:=h;exact ⟨A0,c0,by simpa using blk_set hb 1 (.int .i64 x),hg,hr0⟩
theorem cellS77_2 {W:World} {g:Nat} {A0:Option Addr} {c0:Nat} {f0:List Int} {f1:Int} {f2:Int} (h:W.heap[g]? = some (.cells #[.slice A0 f0.length c0,.int .i64 f1,.int .u64 f2] 77 (0,0))):W.cell? ⟨g,2,none⟩ = some (.int .u64 f2):=(blk_cell h 2).trans rfl
theorem IsS77.set_2 {w0 W:World} {g:Nat} {f0:List Int} {f1:Int} {f2:Int} (h:IsS77 w0 W g f0 f1 f2) (x:Int):IsS77 w0 (W.setCell ⟨g,2,none⟩ (.int .u64 x)) g f0 f1 x:=by
 obtain ⟨A0,c0,hb,hg,hr0⟩:=h;exact ⟨A0,c0,by simpa using blk_set hb 2 (.int .u64 x),hg,hr0⟩
/-! ### spec_l1Cur_next: function 85 -/
def spec_l1Cur_next.f (s0_0:List Int) (s0_1:Int) (s0_2:Int):Option (Int × Int × Int):=if s0_1 < (s0_0.length:Int) then (if 0 ≤ s0_1 then (if (wrap64 (s0_1 + 1)) ≤ (s0_0.length:Int) then (some (wrap64 (rd s0_0 s0_1),wrap64 (s0_1 + 1),IntKind.u64.wrap ((IntKind.u64.wrap ((IntKind.u64.wrap (s0_2 * 6364136223846793005)) + (IntKind.u64.wrap (wrap64 (rd s0_0 s0_1))))) + 906906))) else (some (wrap64 (Go.bits .and .u64 ((IntKind.u64.wrap ((IntKind.u64.wrap ((IntKind.u64.wrap (s0_2 * 6364136223846793005)) + (IntKind.u64.wrap (wrap64 (rd s0_0 s0_1))))) + 906906)) / 1099511627776) 255),wrap64 (s0_1 + 1),IntKind.u64.wrap ((IntKind.u64.wrap ((IntKind.u64.wrap (s0_2 * 6364136223846793005)) + (IntKind.u64.wrap (wrap64 (rd s0_0 s0_1))))) + 906906)))) else (none)) else (if (wrap64 (s0_1 + 1)) ≤ (s0_0.length:Int) then (some (0,wrap64 (s0_1 + 1),IntKind.u64.wrap ((IntKind.u64.wrap (IntKind.u64.wrap (s0_2 * 6364136223846793005))) + 906906))) else (some (wrap64 (Go.bits .and .u64 ((IntKind.u64.wrap ((IntKind.u64.wrap (IntKind.u64.wrap (s0_2 * 6364136223846793005))) + 906906)) / 1099511627776) 255),wrap64 (s0_1 + 1),IntKind.u64.wrap ((IntKind.u64.wrap (IntKind.u64.wrap (s0_2 * 6364136223846793005))) + 906906))))
set_option maxHeartbeats 8000000 in
set_option maxRecDepth 100000 in
theorem spec_l1Cur_next.calls (g:Nat) (s0_0:List Int) (s0_1:Int) (s0_2:Int) (r1:Int) (r2:Int) (r3:Int) (w0 w:World) (hI:IsS77 w0 w g s0_0 s0_1 s0_2) (hB:Below w0.heap.size w0 w) (h:spec_l1Cur_next.f s0_0 s0_1 s0_2 = some (r1,r2,r3)) :
  Calls Try.prog 85 #[.pointer (some ⟨g,0,none⟩)] w fun e w'=>e = .returned (.int .i64 r1) ∧ IsS77 w0 w' g s0_0 r2 r3 ∧ Below w0.heap.size w0 w' ∧ KeepBut w w' g none:=by
 have HI0:=zM hI;have HK:=zM (KeepBut.refl w g none);have HL:=zM hB.size;clear hI;have HW0:=zM hB.size;have HB:=zM hB;clear hB;have H:(if s0_1 < (s0_0.length:Int) then (if 0 ≤ s0_1 then (if (wrap64 (s0_1 + 1)) ≤ (s0_0.length:Int) then (some (wrap64 (rd s0_0 s0_1),wrap64 (s0_1 + 1),IntKind.u64.wrap ((IntKind.u64.wrap ((IntKind.u64.wrap (s0_2 * 6364136223846793005)) + (IntKind.u64.wrap (wrap64 (rd s0_0 s0_1))))) + 906906))) else (some (wrap64 (Go.bits .and .u64 ((IntKind.u64.wrap ((IntKind.u64.wrap ((IntKind.u64.wrap (s0_2 * 6364136223846793005)) + (IntKind.u64.wrap (wrap64 (rd s0_0 s0_1))))) + 906906)) / 1099511627776) 255),wrap64 (s0_1 + 1),IntKind.u64.wrap ((IntKind.u64.wrap ((IntKind.u64.wrap (s0_2 * 6364136223846793005)) + (IntKind.u64.wrap (wrap64 (rd s0_0 s0_1))))) + 906906)))) else (none)) else (if (wrap64 (s0_1 + 1)) ≤ (s0_0.length:Int) then (some (0,wrap64 (s0_1 + 1),IntKind.u64.wrap ((IntKind.u64.wrap (IntKind.u64.wrap (s0_2 * 6364136223846793005))) + 906906))) else (some (wrap64 (Go.bits .and .u64 ((IntKind.u64.wrap ((IntKind.u64.wrap (IntKind.u64.wrap (s0_2 * 6364136223846793005))) + 906906)) / 1099511627776) 255),wrap64 (s0_1 + 1),IntKind.u64.wrap ((IntKind.u64.wrap (IntKind.u64.wrap (s0_2 * 6364136223846793005))) + 906906))))) = some (r1,r2,r3):=h
 clear h;by_cases c2:s0_1 < (s0_0.length:Int)
 ·rw [if_pos c2] at H
  have c2b0:decide (s0_1 < (s0_0.length:Int)) = true:=decide_eq_true c2
  clear c2;by_cases c3:0 ≤ s0_1
  ·rw [if_pos c3] at H
   have c3b0:decide (0 ≤ s0_1) = true:=decide_eq_true c3
   clear c3;by_cases c4:(wrap64 (s0_1 + 1)) ≤ (s0_0.length:Int)
   ·rw [if_pos c4] at H
    have c4b0:decide ((wrap64 (s0_1 + 1)) ≤ (s0_0.length:Int)) = true:=decide_eq_true c4
    clear c4;simp only [Option.some.injEq,Prod.mk.injEq] at H
    obtain ⟨rfl,rfl,rfl⟩:=H;obtain ⟨ASz5_0,cSz5_0,HGz5,hgz5,HSz5_0⟩:=HI0.out;have hcz5_0:=cellS77_0 HGz5;have hcz5_1:=cellS77_1 HGz5;have hcz5_2:=cellS77_2 HGz5;have hfz5_1:=blk_frozen HGz5 1;have hfz5_2:=blk_frozen HGz5 2;clear HGz5 hgz5;have p788:0 ≤ (s0_1:Int):=of_decide_eq_true (by first|(with_reducible assumption)|assumption)
    have q788:s0_1 < (s0_0.length:Int):=of_decide_eq_true (by first|(with_reducible assumption)|assumption)
    obtain ⟨ad788,e788,hx788_0⟩:=Kd.at_int HSz5_0 s0_1 p788 q788;cases e788
    replace hx788_0:=pw_cell_below HB.out hx788_0;replace p788:=eq_true p788;replace q788:=eq_true q788;go_enter Try.func85,Try.ntmps85
    go_wp2
    repeat (go_quiet (fail);try go_wp2)
    go_ret
    exact ⟨by first|rfl|(simp [errW_none,errW_some] <;> rfl)|(simp [*,errW_none,errW_some] <;> rfl),by repeat (first|(with_reducible first|exact HI0.out|apply IsS77.alloc|apply IsS77.drewN|apply IsS77.drew|apply IsS77.set_1|apply IsS77.set_2)|exact HI0.out),by repeat (first|(with_reducible first|exact HB.out|apply zD|apply zE|apply zF|refine below_set ?_ (IsS77.ge HI0.out))|exact HB.out),by repeat (first|(with_reducible first|exact HK.out|apply KeepBut.set_|apply keep_drewN|apply keep_drew|apply keep_alloc)|exact HK.out)⟩
   ·rw [if_neg c4] at H
    have c4b0:decide ((wrap64 (s0_1 + 1)) ≤ (s0_0.length:Int)) = false:=decide_eq_false c4
    clear c4;simp only [Option.some.injEq,Prod.mk.injEq] at H
    obtain ⟨rfl,rfl,rfl⟩:=H;obtain ⟨ASz6_0,cSz6_0,HGz6,hgz6,HSz6_0⟩:=HI0.out;have hcz6_0:=cellS77_0 HGz6;have hcz6_1:=cellS77_1 HGz6;have hcz6_2:=cellS77_2 HGz6;have hfz6_1:=blk_frozen HGz6 1;have hfz6_2:=blk_frozen HGz6 2;clear HGz6 hgz6;have p788:0 ≤ (s0_1:Int):=of_decide_eq_true (by first|(with_reducible assumption)|assumption)
    have q788:s0_1 < (s0_0.length:Int):=of_decide_eq_true (by first|(with_reducible assumption)|assumption)
    obtain ⟨ad788,e788,hx788_0⟩:=Kd.at_int HSz6_0 s0_1 p788 q788;cases e788
    replace hx788_0:=pw_cell_below HB.out hx788_0;replace p788:=eq_true p788;replace q788:=eq_true q788;go_enter Try.func85,Try.ntmps85
    go_wp2
    repeat (go_quiet (fail);try go_wp2)
    go_ret
    exact ⟨by first|rfl|(simp [errW_none,errW_some] <;> rfl)|(simp [*,errW_none,errW_some] <;> rfl),by repeat (first|(with_reducible first|exact HI0.out|apply IsS77.alloc|apply IsS77.drewN|apply IsS77.drew|apply IsS77.set_1|apply IsS77.set_2)|exact HI0.out),by repeat (first|(with_reducible first|exact HB.out|apply zD|apply zE|apply zF|refine below_set ?_ (IsS77.ge HI0.out))|exact HB.out),by repeat (first|(with_reducible first|exact HK.out|apply KeepBut.set_|apply keep_drewN|apply keep_drew|apply keep_alloc)|exact HK.out)⟩
  ·rw [if_neg c3] at H
   exact absurd H (by simp)
 ·rw [if_neg c2] at H
  have c2b0:decide (s0_1 < (s0_0.length:Int)) = false:=decide_eq_false c2
  clear c2;by_cases c7:(wrap64 (s0_1 + 1)) ≤ (s0_0.length:Int)
  ·rw [if_pos c7] at H
   have c7b0:decide ((wrap64 (s0_1 + 1)) ≤ (s0_0.length:Int)) = true:=decide_eq_true c7
   clear c7;simp only [Option.some.injEq,Prod.mk.injEq] at H
   obtain ⟨rfl,rfl,rfl⟩:=H;obtain ⟨ASz8_0,cSz8_0,HGz8,hgz8,HSz8_0⟩:=HI0.out;have hcz8_0:=cellS77_0 HGz8;have hcz8_1:=cellS77_1 HGz8;have hcz8_2:=cellS77_2 HGz8;have hfz8_1:=blk_frozen HGz8 1;have hfz8_2:=blk_frozen HGz8 2;clear HGz8 hgz8;go_enter Try.func85,Try.ntmps85
   go_wp2
   repeat (go_quiet (fail);try go_wp2)
   go_ret
   exact ⟨by first|rfl|(simp [errW_none,errW_some] <;> rfl)|(simp [*,errW_none,errW_some] <;> rfl),by repeat (first|(with_reducible first|exact HI0.out|apply IsS77.alloc|apply IsS77.drewN|apply IsS77.drew|apply IsS77.set_1|apply IsS77.set_2)|exact HI0.out),by repeat (first|(with_reducible first|exact HB.out|apply zD|apply zE|apply zF|refine below_set ?_ (IsS77.ge HI0.out))|exact HB.out),by repeat (first|(with_reducible first|exact HK.out|apply KeepBut.set_|apply keep_drewN|apply keep_drew|apply keep_alloc)|exact HK.out)⟩
  ·rw [if_neg c7] at H
   have c7b0:decide ((wrap64 (s0_1 + 1)) ≤ (s0_0.length:Int)) = false:=decide_eq_false c7
   clear c7;simp only [Option.some.injEq,Prod.mk.injEq] at H
   obtain ⟨rfl,rfl,rfl⟩:=H;obtain ⟨ASz9_0,cSz9_0,HGz9,hgz9,HSz9_0⟩:=HI0.out;have hcz9_0:=cellS77_0 HGz9;have hcz9_1:=cellS77_1 HGz9;have hcz9_2:=cellS77_2 HGz9;have hfz9_1:=blk_frozen HGz9 1;have hfz9_2:=blk_frozen HGz9 2;clear HGz9 hgz9;go_enter Try.func85,Try.ntmps85
   go_wp2
   repeat (go_quiet (fail);try go_wp2)
   go_ret
   exact ⟨by first|rfl|(simp [errW_none,errW_some] <;> rfl)|(simp [*,errW_none,errW_some] <;> rfl),by repeat (first|(with_reducible first|exact HI0.out|apply IsS77.alloc|apply IsS77.drewN|apply IsS77.drew|apply IsS77.set_1|apply IsS77.set_2)|exact HI0.out),by repeat (first|(with_reducible first|exact HB.out|apply zD|apply zE|apply zF|refine below_set ?_ (IsS77.ge HI0.out))|exact HB.out),by repeat (first|(with_reducible first|exact HK.out|apply KeepBut.set_|apply keep_drewN|apply keep_drew|apply keep_alloc)|exact HK.out)⟩



/-! ### spec_l1Cur_pick: function 71 -/
def spec_l1Cur_pick.f (s0_0:List Int) (s0_1:Int) (s0_2:Int) (a1:Int):Option (Int × Int × Int):=if a1 ≤ 1 then (some (0,s0_1,s0_2)) else ((spec_l1Cur_next.f s0_0 s0_1 s0_2).bind fun bt789=>(if a1 > 200 then ((spec_l1Cur_next.f s0_0 bt789.2.1 bt789.2.2).bind fun bt792=>(if a1 = 0 then (none) else (some (Int.tmod (wrap64 ((wrap64 (bt789.1 * 256)) + bt792.1)) a1,bt792.2.1,bt792.2.2)))) else (if a1 = 0 then (none) else (some (Int.tmod bt789.1 a1,bt789.2.1,bt789.2.2)))))
set_option maxHeartbeats 8000000 in
set_option maxRecDepth 100000 in
theorem spec_l1Cur_pick.calls (g:Nat) (s0_0:List Int) (s0_1:Int) (s0_2:Int) (a1:Int) (r1:Int) (r2:Int) (r3:Int) (w0 w:World) (hI:IsS77 w0 w g s0_0 s0_1 s0_2) (hB:Below w0.heap.size w0 w) (h:spec_l1Cur_pick.f s0_0 s0_1 s0_2 a1 = some (r1,r2,r3)) :
  Calls Try.prog 71 #[.pointer (some ⟨g,0,none⟩),.int .i64 a1] w fun e w'=>e = .returned (.int .i64 r1) ∧ IsS77 w0 w' g s0_0 r2 r3 ∧ Below w0.heap.size w0 w' ∧ KeepBut w w' g none:=by
 have HI0:=zM hI;have HK:=zM (KeepBut.refl w g none);have HL:=zM hB.size;clear hI;have HW0:=zM hB.size;have HB:=zM hB;clear hB;have H:(if a1 ≤ 1 then (some (0,s0_1,s0_2)) else ((spec_l1Cur_next.f s0_0 s0_1 s0_2).bind fun bt789=>(if a1 > 200 then ((spec_l1Cur_next.f s0_0 bt789.2.1 bt789.2.2).bind fun bt792=>(if a1 = 0 then (none) else (some (Int.tmod (wrap64 ((wrap64 (bt789.1 * 256)) + bt792.1)) a1,bt792.2.1,bt792.2.2)))) else (if a1 = 0 then (none) else (some (Int.tmod bt789.1 a1,bt789.2.1,bt789.2.2)))))) = some (r1,r2,r3):=h
 clear h;by_cases c3:a1 ≤ 1
 ·rw [if_pos c3] at H
  have c3b0:decide (a1 ≤ 1) = true:=decide_eq_true c3
  clear c3;simp only [Option.some.injEq,Prod.mk.injEq] at H
  obtain ⟨rfl,rfl,rfl⟩:=H;go_enter Try.func71,Try.ntmps71
  go_wp2
  go_ret
  exact ⟨by first|rfl|(simp [errW_none,errW_some] <;> rfl)|(simp [*,errW_none,errW_some] <;> rfl),by repeat (first|(with_reducible first|exact HI0.out|apply IsS77.alloc|apply IsS77.drewN|apply IsS77.drew|apply IsS77.set_1|apply IsS77.set_2)|exact HI0.out),by repeat (first|(with_reducible first|exact HB.out|apply zD|apply zE|apply zF|refine below_set ?_ (IsS77.ge HI0.out))|exact HB.out),by repeat (first|(with_reducible first|exact HK.out|apply KeepBut.set_|apply keep_drewN|apply keep_drew|apply keep_alloc)|exact HK.out)⟩
 ·rw [if_neg c3] at H
  have c3b0:decide (a1 ≤ 1) = false:=decide_eq_false c3
  clear c3;replace H:=Option.bind_eq_some_iff.mp H;obtain ⟨⟨t789,t790,t791⟩,A40,H⟩:=H;replace H:(if a1 > 200 then ((spec_l1Cur_next.f s0_0 t790 t791).bind fun bt792=>(if a1 = 0 then (none) else (some (Int.tmod (wrap64 ((wrap64 (t789 * 256)) + bt792.1)) a1,bt792.2.1,bt792.2.2)))) else (if a1 = 0 then (none) else (some (Int.tmod t789 a1,t790,t791)))) = some (r1,r2,r3):=H
  have A4:=zM A40;clear A40;by_cases c5:a1 > 200
  ·rw [if_pos c5] at H
   have c5b0:decide (200 < a1) = true:=decide_eq_true c5
   clear c5;replace H:=Option.bind_eq_some_iff.mp H;obtain ⟨⟨t792,t793,t794⟩,A60,H⟩:=H;replace H:(if a1 = 0 then (none) else (some (Int.tmod (wrap64 ((wrap64 (t789 * 256)) + t792)) a1,t793,t794))) = some (r1,r2,r3):=H
   have A6:=zM A60;clear A60;by_cases c7:a1 = 0
   ·rw [if_pos c7] at H
    exact absurd H (by simp)
   ·rw [if_neg c7] at H
    have c7b0:(a1 == 0) = false:=beq_eq_false_iff_ne.mpr c7
    have c7b1:(a1 != 0) = true:=bne_iff_ne.mpr c7
    simp only [Option.some.injEq,Prod.mk.injEq] at H
    obtain ⟨rfl,rfl,rfl⟩:=H;go_enter Try.func71,Try.ntmps71
    go_wp2_with (first|((with_reducible refine gate_callee (f:=85) rfl ?_);refine goesL_ (some 9) rfl rfl Try.func85 (by kernel_rfl) rfl #[.pointer (some ⟨g,0,none⟩)] rfl (by (try simp only [List.map_toArray,List.map_cons,List.map_nil]);first|done|rfl|(simp only [List.length_drop,List.length_take];rfl)) ?_;(with_reducible refine (spec_l1Cur_next.calls g s0_0 s0_1 s0_2 t789 t790 t791 w0 _ ?side1 ?side2 A4.out).mono ?_);(case side1=>repeat (first|(with_reducible first|exact HI0.out|apply IsS77.alloc|apply IsS77.drewN|apply IsS77.drew|apply IsS77.set_1|apply IsS77.set_2)|exact HI0.out));(case side2=>repeat (first|(with_reducible first|exact HB.out|apply zD|apply zE|apply zF|refine below_set ?_ (IsS77.ge HI0.out))|exact HB.out));rintro e w8 ⟨rfl,hi,hb,hk⟩;refine ⟨_,rfl,?_⟩;have n0_:=zM (KeepBut.trans (by repeat (first|(with_reducible first|exact HK.out|apply KeepBut.set_|apply keep_drewN|apply keep_drew|apply keep_alloc)|exact HK.out)) hk (.inl rfl));have n1_:=zM (hb);have n2_:=zM (hi);clear HK;clear HB;clear HI0;have HK:=n0_;have HB:=n1_;have HI0:=n2_;clear n0_ n1_ n2_;(try clear hb);(try clear hb2);(try clear hk);(try clear hi))|((with_reducible refine gate_callee (f:=85) rfl ?_);refine goesL_ (some 15) rfl rfl Try.func85 (by kernel_rfl) rfl #[.pointer (some ⟨g,0,none⟩)] rfl (by (try simp only [List.map_toArray,List.map_cons,List.map_nil]);first|done|rfl|(simp only [List.length_drop,List.length_take];rfl)) ?_;(with_reducible refine (spec_l1Cur_next.calls g s0_0 t790 t791 t792 t793 t794 w0 _ ?side1 ?side2 A6.out).mono ?_);(case side1=>repeat (first|(with_reducible first|exact HI0.out|apply IsS77.alloc|apply IsS77.drewN|apply IsS77.drew|apply IsS77.set_1|apply IsS77.set_2)|exact HI0.out));(case side2=>repeat (first|(with_reducible first|exact HB.out|apply zD|apply zE|apply zF|refine below_set ?_ (IsS77.ge HI0.out))|exact HB.out));rintro e w9 ⟨rfl,hi,hb,hk⟩;refine ⟨_,rfl,?_⟩;have n0_:=zM (KeepBut.trans (by repeat (first|(with_reducible first|exact HK.out|apply KeepBut.set_|apply keep_drewN|apply keep_drew|apply keep_alloc)|exact HK.out)) hk (.inl rfl));have n1_:=zM (hb);have n2_:=zM (hi);clear HK;clear HB;clear HI0;have HK:=n0_;have HB:=n1_;have HI0:=n2_;clear n0_ n1_ n2_;(try clear hb);(try clear hb2);(try clear hk);(try clear hi)))
    go_ret
    exact ⟨by first|rfl|(simp [errW_none,errW_some] <;> rfl)|(simp [*,errW_none,errW_some] <;> rfl),by repeat (first|(with_reducible first|exact HI0.out|apply IsS77.alloc|apply IsS77.drewN|apply IsS77.drew|apply IsS77.set_1|apply IsS77.set_2)|exact HI0.out),by repeat (first|(with_reducible first|exact HB.out|apply zD|apply zE|apply zF|refine below_set ?_ (IsS77.ge HI0.out))|exact HB.out),by repeat (first|(with_reducible first|exact HK.out|apply KeepBut.set_|apply keep_drewN|apply keep_drew|apply keep_alloc)|exact HK.out)⟩
  ·rw [if_neg c5] at H
   have c5b0:decide (200 < a1) = false:=decide_eq_false c5
   clear c5;by_cases c10:a1 = 0
   ·rw [if_pos c10] at H
    exact absurd H (by simp)
   ·rw [if_neg c10] at H
    have c10b0:(a1 == 0) = false:=beq_eq_false_iff_ne.mpr c10
    have c10b1:(a1 != 0) = true:=bne_iff_ne.mpr c10
    simp only [Option.some.injEq,Prod.mk.injEq] at H
    obtain ⟨rfl,rfl,rfl⟩:=H;go_enter Try.func71,Try.ntmps71
    go_wp2_with (first|((with_reducible refine gate_callee (f:=85) rfl ?_);refine goesL_ (some 9) rfl rfl Try.func85 (by kernel_rfl) rfl #[.pointer (some ⟨g,0,none⟩)] rfl (by (try simp only [List.map_toArray,List.map_cons,List.map_nil]);first|done|rfl|(simp only [List.length_drop,List.length_take];rfl)) ?_;(with_reducible refine (spec_l1Cur_next.calls g s0_0 s0_1 s0_2 t789 t790 t791 w0 _ ?side1 ?side2 A4.out).mono ?_);(case side1=>repeat (first|(with_reducible first|exact HI0.out|apply IsS77.alloc|apply IsS77.drewN|apply IsS77.drew|apply IsS77.set_1|apply IsS77.set_2)|exact HI0.out));(case side2=>repeat (first|(with_reducible first|exact HB.out|apply zD|apply zE|apply zF|refine below_set ?_ (IsS77.ge HI0.out))|exact HB.out));rintro e w11 ⟨rfl,hi,hb,hk⟩;refine ⟨_,rfl,?_⟩;have n0_:=zM (KeepBut.trans (by repeat (first|(with_reducible first|exact HK.out|apply KeepBut.set_|apply keep_drewN|apply keep_drew|apply keep_alloc)|exact HK.out)) hk (.inl rfl));have n1_:=zM (hb);have n2_:=zM (hi);clear HK;clear HB;clear HI0;have HK:=n0_;have HB:=n1_;have HI0:=n2_;clear n0_ n1_ n2_;(try clear hb);(try clear hb2);(try clear hk);(try clear hi)))
    go_ret
    exact ⟨by first|rfl|(simp [errW_none,errW_some] <;> rfl)|(simp [*,errW_none,errW_some] <;> rfl),by repeat (first|(with_reducible first|exact HI0.out|apply IsS77.alloc|apply IsS77.drewN|apply IsS77.drew|apply IsS77.set_1|apply IsS77.set_2)|exact HI0.out),by repeat (first|(with_reducible first|exact HB.out|apply zD|apply zE|apply zF|refine below_set ?_ (IsS77.ge HI0.out))|exact HB.out),by repeat (first|(with_reducible first|exact HK.out|apply KeepBut.set_|apply keep_drewN|apply keep_drew|apply keep_alloc)|exact HK.out)⟩



/-! ### spec_l1Cur_among: function 72 -/
def spec_l1Cur_among.f (s0_0:List Int) (s0_1:Int) (s0_2:Int) (l1:List Int):Option (Int × Int × Int):=(spec_l1Cur_pick.f s0_0 s0_1 s0_2 (l1.length:Int)).bind fun bt795=>(if 0 ≤ bt795.1 then (if bt795.1 < (l1.length:Int) then (some (rd l1 bt795.1,bt795.2.1,bt795.2.2)) else (none)) else (none))
set_option maxHeartbeats 8000000 in
set_option maxRecDepth 100000 in
theorem spec_l1Cur_among.calls (g:Nat) (s0_0:List Int) (s0_1:Int) (s0_2:Int) (A1:Option Addr) (c1:Nat) (l1:List Int) (r1:Int) (r2:Int) (r3:Int) (w0 w:World) (hI:IsS77 w0 w g s0_0 s0_1 s0_2) (hB:Below w0.heap.size w0 w) (hr1:Kd.C (Kd.int .i64) w A1 l1.length l1) (hc1:l1.length ≤ c1) (hf1:∀ ad,A1 = some ad → 0 < l1.length → ad.block ≠ g) (h:spec_l1Cur_among.f s0_0 s0_1 s0_2 l1 = some (r1,r2,r3)) :
  Calls Try.prog 72 #[.pointer (some ⟨g,0,none⟩),.slice A1 l1.length c1] w fun e w'=>e = .returned (.int .i64 r1) ∧ IsS77 w0 w' g s0_0 r2 r3 ∧ Below w0.heap.size w0 w' ∧ KeepBut w w' g none:=by
 have HR1:=zM hr1;have HC1:=zM hc1;clear hr1 hc1;have HI0:=zM hI;have HK:=zM (KeepBut.refl w g none);have HL:=zM hB.size;clear hI;have HW0:=zM hB.size;have HB:=zM hB;clear hB;have H:((spec_l1Cur_pick.f s0_0 s0_1 s0_2 (l1.length:Int)).bind fun bt795=>(if 0 ≤ bt795.1 then (if bt795.1 < (l1.length:Int) then (some (rd l1 bt795.1,bt795.2.1,bt795.2.2)) else (none)) else (none))) = some (r1,r2,r3):=h
 clear h;replace H:=Option.bind_eq_some_iff.mp H;obtain ⟨⟨t795,t796,t797⟩,A30,H⟩:=H;replace H:(if 0 ≤ t795 then (if t795 < (l1.length:Int) then (some (rd l1 t795,t796,t797)) else (none)) else (none)) = some (r1,r2,r3):=H
 have A3:=zM A30;clear A30;by_cases c4:0 ≤ t795
 ·rw [if_pos c4] at H
  have c4b0:decide (0 ≤ t795) = true:=decide_eq_true c4
  clear c4;by_cases c5:t795 < (l1.length:Int)
  ·rw [if_pos c5] at H
   have c5b0:decide (t795 < (l1.length:Int)) = true:=decide_eq_true c5
   clear c5;simp only [Option.some.injEq,Prod.mk.injEq] at H
   obtain ⟨rfl,rfl,rfl⟩:=H;go_enter Try.func72,Try.ntmps72
   go_wp2_with (first|((with_reducible refine gate_callee (f:=71) rfl ?_);refine goesL_ (some 9) rfl rfl Try.func71 (by kernel_rfl) rfl #[.pointer (some ⟨g,0,none⟩),.int .i64 (l1.length:Int)] rfl (by (try simp only [List.map_toArray,List.map_cons,List.map_nil]);first|done|rfl|(simp only [List.length_drop,List.length_take];rfl)) ?_;(with_reducible refine (spec_l1Cur_pick.calls g s0_0 s0_1 s0_2 (l1.length:Int) t795 t796 t797 w0 _ ?side1 ?side2 A3.out).mono ?_);(case side1=>repeat (first|(with_reducible first|exact HI0.out|apply IsS77.alloc|apply IsS77.drewN|apply IsS77.drew|apply IsS77.set_1|apply IsS77.set_2)|exact HI0.out));(case side2=>repeat (first|(with_reducible first|exact HB.out|apply zD|apply zE|apply zF|refine below_set ?_ (IsS77.ge HI0.out))|exact HB.out));rintro e w6 ⟨rfl,hi,hb,hk⟩;refine ⟨_,rfl,?_⟩;have n0_:=zM (KeepBut.trans (by repeat (first|(with_reducible first|exact HK.out|apply KeepBut.set_|apply keep_drewN|apply keep_drew|apply keep_alloc)|exact HK.out)) hk (.inl rfl));have n1_:=zM (hb);have n2_:=zM (hi);clear HK;clear HB;clear HI0;have HK:=n0_;have HB:=n1_;have HI0:=n2_;clear n0_ n1_ n2_;(try clear hb);(try clear hb2);(try clear hk);(try clear hi);have p798:0 ≤ (t795:Int):=of_decide_eq_true (by first|(with_reducible assumption)|assumption);have q798:t795 < (l1.length:Int):=of_decide_eq_true (by first|(with_reducible assumption)|assumption);obtain ⟨ad798,e798,hx798_0⟩:=Kd.at_int HR1.out t795 p798 q798;cases e798;replace hx798_0:=keep_cell HK.out hx798_0 (by first|(rw [add_block];exact hf1 _ rfl (by omega))|exact hf1 _ rfl (by omega)|exact hf1 ad798 rfl (by omega));replace p798:=eq_true p798;replace q798:=eq_true q798))
   go_ret
   exact ⟨by first|rfl|(simp [errW_none,errW_some] <;> rfl)|(simp [*,errW_none,errW_some] <;> rfl),by repeat (first|(with_reducible first|exact HI0.out|apply IsS77.alloc|apply IsS77.drewN|apply IsS77.drew|apply IsS77.set_1|apply IsS77.set_2)|exact HI0.out),by repeat (first|(with_reducible first|exact HB.out|apply zD|apply zE|apply zF|refine below_set ?_ (IsS77.ge HI0.out))|exact HB.out),by repeat (first|(with_reducible first|exact HK.out|apply KeepBut.set_|apply keep_drewN|apply keep_drew|apply keep_alloc)|exact HK.out)⟩
  ·rw [if_neg c5] at H
   exact absurd H (by simp)
 ·rw [if_neg c4] at H
  exact absurd H (by simp)

end Go.Proofs.Ytcgfedaoimhejaa.G
