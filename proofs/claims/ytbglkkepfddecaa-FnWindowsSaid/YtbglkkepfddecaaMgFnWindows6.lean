/- Texts of the proof of FnWindows, joined in build order. -/
import Derived.Test.YtbglkkepfddecaaMgFnWindows1
import Derived.Test.YtbglkkepfddecaaMgFnWindows5
import Derived.Test.YtbglkkepfddecaaMgFnWindows4
import Derived.Test.YtbglkkepfddecaaMgFnWindows2
import Derived.Deep.Slices
import Derived.ChangeArms
import Derived.WideShapes
import Derived.ChangeShapes
-- Written by wip/tools/gen.py out of the translation (the kit's printer, one namespace a seat). Lean checks it.
namespace Go.Proofs.Ytbglkkepfddecaa.G
open Go.RowKit Go.Proofs.YtbglkkepfddecaaW.PrintWords Go.Proofs.YtbglkkepfddecaaW.PrintLast Go.Proofs.YtbglkkepfddecaaW.PrintMore
attribute [local go_sem] max2_int min2_int max_two min_two max_three min_three max_four min_four   -- for this text's walks alone
set_option linter.unusedVariables false
set_option linter.unusedSimpArgs false

/-! ### impl_ShiftTides: function 20 -/
mutual
def impl_ShiftTides.j0:Nat → List (S60) → Int → Int → Bool → Option ((List (S60)) × Bool)
 | 0,_,_,_,_=>none
 | k + 1,x0,x1,x2,x23=>if x23 = true then (some (([]:List (S60)),false)) else (impl_ShiftTides.l0 k x1 x2 (([]:List (S60))) x0 (x0.length:Int) 0)
def impl_ShiftTides.l0:Nat → Int → Int → List (S60) → List (S60) → Int → Int → Option ((List (S60)) × Bool)
 | 0,_,_,_,_,_,_=>none
 | k + 1,x1,x2,x8,x25,x26,x27=>if x27 < x26 then (if 0 ≤ x27 then (if x27 < (x25.length:Int) then (if x8.length < 8796093022208 then (impl_ShiftTides.l0 k x1 x2 (x8 ++ [(⟨wrap64 (((rd_T60 x25 x27).f0) + x1),wrap64 (((rd_T60 x25 x27).f1) + x2)⟩ : S60)]) x25 x26 (wrap64 (x27 + 1))) else (none)) else (none)) else (none)) else ((impl_IsValidTides.f k x8).bind fun t182=>(if t182 = true then (some (x8,true)) else (some (([]:List (S60)),false))))
end
def impl_ShiftTides.f (k:Nat) (l0:List (S60)) (a1:Int) (a2:Int):Option ((List (S60)) × Bool):=(impl_IsValidTides.f k l0).bind fun t171=>(if t171 = true then ((impl_within.f a1 (-240) 240).bind fun t172=>(if t172 = true then ((impl_within.f a2 (-2000) 2000).bind fun t173=>(impl_ShiftTides.j0 k l0 a1 a2 (!t173))) else (impl_ShiftTides.j0 k l0 a1 a2 true))) else (impl_ShiftTides.j0 k l0 a1 a2 true))
set_option maxHeartbeats 8000000 in
set_option maxRecDepth 100000 in
theorem impl_ShiftTides.calls (k:Nat) (A0:Option Addr) (c0:Nat) (l0:List (S60)) (a1:Int) (a2:Int) (r1:List (S60)) (r2:Bool) (w:World) (hr0:Kd.C k60 w A0 l0.length l0) (hc0:l0.length ≤ c0) (h:impl_ShiftTides.f k l0 a1 a2 = some (r1,r2)) :
  Calls Try.prog 20 #[.slice A0 l0.length c0,.int .i64 a1,.int .i64 a2] w fun e w' => ∃ v0_:Value,e = .returned (.tuple #[v0_,.bool r2]) ∧ Kd.R k60 60 w' w.heap.size (fun _=>True) v0_ r1 ∧ Below w.heap.size w w':=by
 have hu60:=Try.underlying60;have HR0:=zM hr0;have HC0:=zM hc0;clear hr0 hc0;have HB:=zM (Below.refl w.heap.size w);have H:((impl_IsValidTides.f k l0).bind fun t171=>(if t171 = true then ((impl_within.f a1 (-240) 240).bind fun t172=>(if t172 = true then ((impl_within.f a2 (-2000) 2000).bind fun t173=>(impl_ShiftTides.j0 k l0 a1 a2 (!t173))) else (impl_ShiftTides.j0 k l0 a1 a2 true))) else (impl_ShiftTides.j0 k l0 a1 a2 true))) = some (r1,r2):=h
 clear h;have HC4:=zM H;clear H;go_enter Try.func20,Try.ntmps20
 go_upto_region 1 with (fail)
 go_cut [23] (fun v23 wc => ∃ (kq:Nat) (x23_3:Bool),v23 = .bool x23_3 ∧ Aside0 (impl_ShiftTides.j0 kq l0 a1 a2 x23_3 = some (r1,r2)) ∧ Aside0 (kq ≤ k) ∧ Aside0 (Below w.heap.size w wc))
 case first =>
  have H:=HC4.out;clear HC4;replace H:=Option.bind_eq_some_iff.mp H;obtain ⟨t171,A50,H⟩:=H;replace H:(if t171 = true then ((impl_within.f a1 (-240) 240).bind fun t172=>(if t172 = true then ((impl_within.f a2 (-2000) 2000).bind fun t173=>(impl_ShiftTides.j0 k l0 a1 a2 (!t173))) else (impl_ShiftTides.j0 k l0 a1 a2 true))) else (impl_ShiftTides.j0 k l0 a1 a2 true)) = some (r1,r2):=H
  have A5:=zM A50;clear A50;by_cases c6:t171 = true
  ·subst c6
   have H1:((impl_within.f a1 (-240) 240).bind fun t172=>(if t172 = true then ((impl_within.f a2 (-2000) 2000).bind fun t173=>(impl_ShiftTides.j0 k l0 a1 a2 (!t173))) else (impl_ShiftTides.j0 k l0 a1 a2 true))) = some (r1,r2):=by rw [if_pos rfl] at H;exact H
   clear H;have H:=H1;clear H1;replace H:=Option.bind_eq_some_iff.mp H;obtain ⟨t172,A70,H⟩:=H;replace H:(if t172 = true then ((impl_within.f a2 (-2000) 2000).bind fun t173=>(impl_ShiftTides.j0 k l0 a1 a2 (!t173))) else (impl_ShiftTides.j0 k l0 a1 a2 true)) = some (r1,r2):=H
   have A7:=zM A70;clear A70;by_cases c8:t172 = true
   ·subst c8
    have H1:((impl_within.f a2 (-2000) 2000).bind fun t173=>(impl_ShiftTides.j0 k l0 a1 a2 (!t173))) = some (r1,r2):=by rw [if_pos rfl] at H;exact H
    clear H;have H:=H1;clear H1;replace H:=Option.bind_eq_some_iff.mp H;obtain ⟨t173,A90,H⟩:=H;replace H:(impl_ShiftTides.j0 k l0 a1 a2 (!t173)) = some (r1,r2):=H
    have A9:=zM A90;clear A90;have H':=zM H;clear H;go_wp2_with (first|((with_reducible refine gate_callee (f:=17) rfl ?_);refine goesL_ (some 12) rfl rfl Try.func17 (by kernel_rfl) rfl #[.slice A0 l0.length c0] rfl (by (try simp only [List.map_toArray,List.map_cons,List.map_nil]);first|done|rfl|(simp only [List.length_drop,List.length_take];rfl)) ?_;(with_reducible refine (impl_IsValidTides.calls k _ _ l0 true _ ?side1 ?side2 A5.out).mono ?_);(case side1=>repeat (first|exact (zO HR0.out HB.out)|(with_reducible first|refine zG ?_ _|refine zH ?_ _|refine zI ?_)));(case side2=>exact HC0.out);rintro e w10 ⟨rfl,hb⟩;refine ⟨_,rfl,?_⟩;have n0_:=zM (zQ (by repeat (first|(with_reducible first|exact HB.out|apply zD|apply zE|apply zF)|exact HB.out)) hb);clear HB;have HB:=n0_;clear n0_;(try clear hb);(try clear hb2);(try clear hk);(try clear hi))|(go_at_call 54;(with_reducible refine (impl_within.calls a1 (-240) 240 true _ A7.out).mono ?_);rintro e w' ⟨rfl,⟨nd,rfl⟩⟩)|(go_at_call 54;(with_reducible refine (impl_within.calls a2 (-2000) 2000 t173 _ A9.out).mono ?_);rintro e w' ⟨rfl,⟨nd,rfl⟩⟩))
    go_meet
    case rel=>exact ⟨_,(!t173),(by first|rfl|(simp;done)|(simp [*];done)),H',⟨by first|omega|exact Nat.le_refl _⟩,⟨by repeat (first|(with_reducible first|exact HB.out|apply zD|apply zE|apply zF)|exact HB.out)⟩⟩
   ·replace c8:=Bool.eq_false_iff.mpr c8
    subst c8;have H1:(impl_ShiftTides.j0 k l0 a1 a2 true) = some (r1,r2):=by rw [if_neg (show ¬ (false = true) by decide)] at H;exact H
    clear H;have H:=H1;clear H1;have H':=zM H;clear H;go_wp2_with (first|((with_reducible refine gate_callee (f:=17) rfl ?_);refine goesL_ (some 12) rfl rfl Try.func17 (by kernel_rfl) rfl #[.slice A0 l0.length c0] rfl (by (try simp only [List.map_toArray,List.map_cons,List.map_nil]);first|done|rfl|(simp only [List.length_drop,List.length_take];rfl)) ?_;(with_reducible refine (impl_IsValidTides.calls k _ _ l0 true _ ?side1 ?side2 A5.out).mono ?_);(case side1=>repeat (first|exact (zO HR0.out HB.out)|(with_reducible first|refine zG ?_ _|refine zH ?_ _|refine zI ?_)));(case side2=>exact HC0.out);rintro e w11 ⟨rfl,hb⟩;refine ⟨_,rfl,?_⟩;have n0_:=zM (zQ (by repeat (first|(with_reducible first|exact HB.out|apply zD|apply zE|apply zF)|exact HB.out)) hb);clear HB;have HB:=n0_;clear n0_;(try clear hb);(try clear hb2);(try clear hk);(try clear hi))|(go_at_call 54;(with_reducible refine (impl_within.calls a1 (-240) 240 false _ A7.out).mono ?_);rintro e w' ⟨rfl,⟨nd,rfl⟩⟩))
    go_meet
    case rel=>exact ⟨_,(true),(by first|rfl|(simp;done)|(simp [*];done)),H',⟨by first|omega|exact Nat.le_refl _⟩,⟨by repeat (first|(with_reducible first|exact HB.out|apply zD|apply zE|apply zF)|exact HB.out)⟩⟩
  ·replace c6:=Bool.eq_false_iff.mpr c6
   subst c6;have H1:(impl_ShiftTides.j0 k l0 a1 a2 true) = some (r1,r2):=by rw [if_neg (show ¬ (false = true) by decide)] at H;exact H
   clear H;have H:=H1;clear H1;have H':=zM H;clear H;go_wp2_with (first|((with_reducible refine gate_callee (f:=17) rfl ?_);refine goesL_ (some 12) rfl rfl Try.func17 (by kernel_rfl) rfl #[.slice A0 l0.length c0] rfl (by (try simp only [List.map_toArray,List.map_cons,List.map_nil]);first|done|rfl|(simp only [List.length_drop,List.length_take];rfl)) ?_;(with_reducible refine (impl_IsValidTides.calls k _ _ l0 false _ ?side1 ?side2 A5.out).mono ?_);(case side1=>repeat (first|exact (zO HR0.out HB.out)|(with_reducible first|refine zG ?_ _|refine zH ?_ _|refine zI ?_)));(case side2=>exact HC0.out);rintro e w12 ⟨rfl,hb⟩;refine ⟨_,rfl,?_⟩;have n0_:=zM (zQ (by repeat (first|(with_reducible first|exact HB.out|apply zD|apply zE|apply zF)|exact HB.out)) hb);clear HB;have HB:=n0_;clear n0_;(try clear hb);(try clear hb2);(try clear hk);(try clear hi)))
   go_meet
   case rel=>exact ⟨_,(true),(by first|rfl|(simp;done)|(simp [*];done)),H',⟨by first|omega|exact Nat.le_refl _⟩,⟨by repeat (first|(with_reducible first|exact HB.out|apply zD|apply zE|apply zF)|exact HB.out)⟩⟩
 case rest =>
  clear HC4;(try clear c1);(try clear c2);(try clear p2);(try clear c6);(try clear c8);obtain ⟨kq,x23_3,rfl,HA,HJ3,HB⟩:=hcut;cases kq with
  | zero=>exact absurd HA.out (by simp [impl_ShiftTides.j0])
  | succ kj3 =>
   have H:=HA.out;clear HA;simp only [impl_ShiftTides.j0] at H
   by_cases c13:x23_3 = true
   ·subst c13
    have H1:(some (([]:List (S60)),false)) = some (r1,r2):=by rw [if_pos rfl] at H;exact H
    clear H;have H:=H1;clear H1;simp only [Option.some.injEq,Prod.mk.injEq] at H
    obtain ⟨rfl,rfl⟩:=H;go_wp2
    go_ret2
    exact ⟨_,by first|rfl|(simp [errW_none,errW_some] <;> rfl)|(simp [*,errW_none,errW_some] <;> rfl),by first|exact Kd.R_nil _ _ _ _ _|exact Kd.N_nil _ _ _ _ _|exact Kd.V_nil _ _ _ _ _|exact Kd.Q_nil _ _ _ _ _|exact Kd.S_nil _ _ _ _ _,by repeat (first|(with_reducible first|exact HB.out|apply zD|apply zE|apply zF)|exact HB.out)⟩
   ·replace c13:=Bool.eq_false_iff.mpr c13
    subst c13;have H1:(impl_ShiftTides.l0 kj3 a1 a2 (([]:List (S60))) l0 (l0.length:Int) 0) = some (r1,r2):=by rw [if_neg (show ¬ (false = true) by decide)] at H;exact H
    clear H;have H:=H1;clear H1;obtain ⟨y174,hy174⟩ : ∃ y_:List (S60),y_ = (([]:List (S60))):=⟨_,rfl⟩
    replace H:(impl_ShiftTides.l0 kj3 a1 a2 y174 l0 (l0.length:Int) 0) = some (r1,r2):=by first|(rw [hy174];with_reducible exact H)|(have H2_:=(Option.bind_some _ _).symm.trans H;rw [hy174];with_reducible exact H2_)|(have H2_:=(Option.bind_some _ _).symm.trans H;with_reducible exact H2_)|with_reducible exact H|(rw [hy174];exact H)|exact H
    have Ny174:=zM hy174;clear hy174;have H':=zM H;clear H;go_wp2_with (first|((with_reducible refine gate_dst (N:=24) rfl ?_);refine Kd.R_lit k60 _ 60 ?hg (N:=24) ?hd (xs:=([]:List (S60))) (inner:=[]) (ok:=fun _=>True) (okp:=fun _=>True) ?hr ?hp (fun _ hk=>hk) trivial (Below.refl _ _) (Nat.le_refl _) (by simp) ?_;(case hd=>rfl);(case hg=>rfl);(case hr=>first|(go_simp;done)|(go_simp;rfl));(case hp=>exact (Reps.none _ _));intro v175 w14 ho15 hb hg_ hnew_;clear hg_ hnew_;(first|rw [← Ny174.out] at ho15|(simp only [Int.reduceToNat] at ho15;rw [← Ny174.out] at ho15));have n0_:=zM (Kd.R_lower ho15 (zR (by repeat (first|(with_reducible first|exact HB.out|apply zD|apply zE|apply zF)|exact HB.out))));have n1_:=zM (zQ (by repeat (first|(with_reducible first|exact HB.out|apply zD|apply zE|apply zF)|exact HB.out)) hb);clear HB;have HO176:=n0_;have HB:=n1_;clear n0_ n1_;clear hb ho15))
    go_loopg [8,27] kj3 (fun kq v8 v27 w' => ∃ (x8_2:List (S60)) (x27_2:Int),v27 = .int .i64 x27_2 ∧ Aside0 (impl_ShiftTides.l0 kq a1 a2 x8_2 l0 (l0.length:Int) x27_2 = some (r1,r2)) ∧ Aside0 (kq ≤ kj3) ∧ Aside0 (Kd.R k60 60 w' w.heap.size (fun _=>True) v8 x8_2) ∧ Aside0 (Below w.heap.size w w'))
    case atStart=>exact ⟨(y174),(0),(by first|rfl|(simp;done)|(simp [*];done)),H',⟨Nat.le_refl _⟩,⟨by (with_reducible repeat (first|apply zA|apply zB|apply zC));exact HO176.out⟩,⟨by repeat (first|(with_reducible first|exact HB.out|apply zD|apply zE|apply zF)|exact HB.out)⟩⟩
    case round =>
     clear H';(try clear c1);(try clear c2);(try clear p2);(try clear c6);(try clear c8);(try clear c13);(try clear p2);obtain ⟨x8_2,x27_2,rfl,HA,HK2,HO_8,HB⟩:=hrel;cases gk with
     | zero=>exact absurd HA.out (by simp [impl_ShiftTides.l0])
     | succ k2 =>
      have H:=HA.out;clear HA;simp only [impl_ShiftTides.l0] at H
      by_cases c16:x27_2 < (l0.length:Int)
      ·rw [if_pos c16] at H
       have c16b0:decide (x27_2 < (l0.length:Int)) = true:=decide_eq_true c16
       clear c16;by_cases c17:0 ≤ x27_2
       ·rw [if_pos c17] at H
        have c17b0:decide (0 ≤ x27_2) = true:=decide_eq_true c17
        clear c17;by_cases c18:x27_2 < (l0.length:Int)
        ·rw [if_pos c18] at H
         have c18b0:decide (x27_2 < (l0.length:Int)) = true:=decide_eq_true c18
         clear c18;by_cases c19:x8_2.length < 8796093022208
         ·rw [if_pos c19] at H
          have LMc19:=zM c19;clear c19;obtain ⟨y179,hy179⟩ : ∃ y_:List (S60),y_ = (x8_2 ++ [(⟨wrap64 (((rd_T60 l0 x27_2).f0) + a1),wrap64 (((rd_T60 l0 x27_2).f1) + a2)⟩ : S60)]):=⟨_,rfl⟩
          replace H:(impl_ShiftTides.l0 k2 a1 a2 y179 l0 (l0.length:Int) (wrap64 (x27_2 + 1))) = some (r1,r2):=by first|(rw [hy179];with_reducible exact H)|(have H2_:=(Option.bind_some _ _).symm.trans H;rw [hy179];with_reducible exact H2_)|(have H2_:=(Option.bind_some _ _).symm.trans H;with_reducible exact H2_)|with_reducible exact H|(rw [hy179];exact H)|exact H
          have Ny179:=zM hy179;clear hy179;have H':=zM H;clear H;have p177:0 ≤ (x27_2:Int):=of_decide_eq_true (by first|(with_reducible assumption)|assumption)
          have q177:x27_2 < (l0.length:Int):=of_decide_eq_true (by first|(with_reducible assumption)|assumption)
          obtain ⟨ad177,e177,hx177_0,hx177_1⟩:=at_T60 HR0.out x27_2 p177 q177;cases e177
          replace hx177_0:=zS HB.out hx177_0;replace hx177_1:=zS HB.out hx177_1;replace p177:=eq_true p177;replace q177:=eq_true q177;go_wp2_with (first|((with_reducible refine gate_dst (N:=10) rfl ?_);refine box_event ?hg (N:=10) ?hd (cs := #[.int .i64 0,.int .i64 0]) (t:=60) ?hr ?_;(case hd=>rfl);(case hg=>rfl);(case hr=>first|(go_simp;done)|(go_simp;rfl));intro gb178 hg w20 hbox hb;have n0_:=zM (zP (Kd.R_elderB (by (with_reducible repeat (first|apply zA|apply zB|apply zC));exact HO_8.out) gb178 (Nat.le_of_eq hg.symm)) hb);have n1_:=zM (zQ (by repeat (first|(with_reducible first|exact HB.out|apply zD|apply zE|apply zF)|exact HB.out)) hb);have n2_:=zM (hbox);have n3_:=zM ((by rw [hg];exact (zR (by repeat (first|(with_reducible first|exact HB.out|apply zD|apply zE|apply zF)|exact HB.out))):w.heap.size ≤ gb178));have n4_:=zM ((by rw [hg];exact (zR (by repeat (first|(with_reducible first|exact HB.out|apply zD|apply zE|apply zF)|exact HB.out))):w.heap.size ≤ gb178));clear HO_8;clear HB;have HO_8:=n0_;have HB:=n1_;have BK178:=n2_;have GW178:=n3_;have GE178:=n4_;clear n0_ n1_ n2_ n3_ n4_;clear hb hbox hg;have hcz21_0:w20.cell? ⟨gb178,0,none⟩ = some (.int .i64 0):=(blk_cell BK178.out 0).trans rfl;have hcz21_1:w20.cell? ⟨gb178,1,none⟩ = some (.int .i64 0):=(blk_cell BK178.out 1).trans rfl;have hfz21_0:=blk_frozen BK178.out 0;have hfz21_1:=blk_frozen BK178.out 1)|((with_reducible refine gate_builtin (b := .append) (xs := #[.tmp 31,.tmp 41]) rfl ?_);at_builtin;refine Kd.R_append k60 (w0:=w) w.heap.size rfl (.tmp 31) (.tmp 41) 25 60 (.agg #[(.int .i64 0),(.int .i64 0)]) 16 rfl Try.underlying25 info60 rfl (by decide) (by omega) u8 x8_2 (⟨wrap64 (((rd_T60 l0 x27_2).f0) + a1),wrap64 (((rd_T60 l0 x27_2).f1) + a2)⟩ : S60) [.int .i64 (wrap64 (((rd_T60 l0 x27_2).f0) + a1)),.int .i64 (wrap64 (((rd_T60 l0 x27_2).f1) + a2))] (fun k_=>k_ ≠ gb178) (fun _=>False) rfl (by first|(go_simp;done)|(go_simp;rfl)) ?aP (fun _ hk=>hk.elim) ?aF ?aO ?aB ?aS ?aL ?_;(case aP=>exact k60_mkM _ _ _ (⟨wrap64 (((rd_T60 l0 x27_2).f0) + a1),wrap64 (((rd_T60 l0 x27_2).f1) + a2)⟩ : S60));(case aB=>exact (by repeat (first|(with_reducible first|exact HB.out|apply zD|apply zE|apply zF|refine below_set ?_ GE178.out)|exact HB.out)));(case aF=>exact (fun k_ hk=>Kd.freshB (g:=gb178) (o := .cells #[.int .i64 ((rd_T60 l0 x27_2).f0),.int .i64 ((rd_T60 l0 x27_2).f1)] 60 (0,0)) (by (with_reducible repeat (first|refine zJ ?_ _|refine zK ?_|refine zL ?_ _));refine blk_put (cs := #[.int .i64 ((rd_T60 l0 x27_2).f0),.int .i64 0]) ?_ 1 _ rfl;(with_reducible repeat (first|refine zJ ?_ _|refine zK ?_|refine zL ?_ _));refine blk_put (cs := #[.int .i64 0,.int .i64 0]) ?_ 0 _ rfl;(with_reducible repeat (first|refine zJ ?_ _|refine zK ?_|refine zL ?_ _));exact BK178.out) k_ hk));(case aO=>exact (by (with_reducible repeat (first|apply zA|apply zB|apply zC));exact Kd.R_mono (Kd.R_far (p:=⟨gb178,1,none⟩) (Kd.R_far (p:=⟨gb178,0,none⟩) (Kd.R_mono HO_8.out (fun k_ hk=>(⟨hk,hk.2⟩ : _ ∧ k_ ≠ gb178))) (fun _ hk=>hk.2) (.int .i64 ((rd_T60 l0 x27_2).f0))) (fun _ hk=>hk.2) (.int .i64 ((rd_T60 l0 x27_2).f1))) (fun _ hk=>hk.1.2)));(case aS=>exact (zR (by repeat (first|(with_reducible first|exact HB.out|apply zD|apply zE|apply zF|refine below_set ?_ GE178.out)|exact HB.out))));(case aL=>have:=LMc19.out;omega);intro v180 w22 ho hb hg hat;rw [← Ny179.out] at ho;have n0_:=zM (blk_grown (g:=gb178) (o := .cells #[.int .i64 ((rd_T60 l0 x27_2).f0),.int .i64 ((rd_T60 l0 x27_2).f1)] 60 (0,0)) (by (with_reducible repeat (first|refine zJ ?_ _|refine zK ?_|refine zL ?_ _));refine blk_put (cs := #[.int .i64 ((rd_T60 l0 x27_2).f0),.int .i64 0]) ?_ 1 _ rfl;(with_reducible repeat (first|refine zJ ?_ _|refine zK ?_|refine zL ?_ _));refine blk_put (cs := #[.int .i64 0,.int .i64 0]) ?_ 0 _ rfl;(with_reducible repeat (first|refine zJ ?_ _|refine zK ?_|refine zL ?_ _));exact BK178.out) hg (Kd.R_away HO_8.out (fun _ hk=>hk.2)));have n1_:=zM (hb);have n2_:=zM (ho);clear BK178;clear HB;clear HO_8;have BK178:=n0_;have HB:=n1_;have HO181:=n2_;clear n0_ n1_ n2_;clear ho hb hg hat))
          go_roundg k2
          case measure=>have:=HJ3.out;have:=HK2.out;omega
          case rel=>exact ⟨(y179),(wrap64 (x27_2 + 1)),(by first|rfl|(simp;done)|(simp [*];done)),H',⟨by have:=HJ3.out;have:=HK2.out;omega⟩,⟨by (with_reducible repeat (first|apply zA|apply zB|apply zC));exact Kd.R_mono HO181.out (fun _ hk=>trivial)⟩,⟨by repeat (first|(with_reducible first|exact HB.out|apply zD|apply zE|apply zF|refine below_set ?_ GE178.out)|exact HB.out)⟩⟩
         ·rw [if_neg c19] at H
          exact absurd H (by simp)
        ·rw [if_neg c18] at H
         exact absurd H (by simp)
       ·rw [if_neg c17] at H
        exact absurd H (by simp)
      ·rw [if_neg c16] at H
       have c16b0:decide (x27_2 < (l0.length:Int)) = false:=decide_eq_false c16
       clear c16;replace H:=Option.bind_eq_some_iff.mp H;obtain ⟨t182,A230,H⟩:=H;replace H:(if t182 = true then (some (x8_2,true)) else (some (([]:List (S60)),false))) = some (r1,r2):=H
       have A23:=zM A230;clear A230;by_cases c24:t182 = true
       ·subst c24
        have H1:(some (x8_2,true)) = some (r1,r2):=by rw [if_pos rfl] at H;exact H
        clear H;have H:=H1;clear H1;simp only [Option.some.injEq,Prod.mk.injEq] at H
        obtain ⟨rfl,rfl⟩:=H;obtain ⟨Ao25,co25,eo25⟩:=Kd.R_slice HO_8.out;subst eo25;go_wp2_with (first|((with_reducible refine gate_callee (f:=17) rfl ?_);refine goesL_ (some 45) rfl rfl Try.func17 (by kernel_rfl) rfl #[.slice Ao25 x8_2.length co25] rfl (by (try simp only [List.map_toArray,List.map_cons,List.map_nil]);first|done|rfl|(simp only [List.length_drop,List.length_take];rfl)) ?_;(with_reducible refine (impl_IsValidTides.calls k2 _ _ x8_2 true _ ?side1 ?side2 A23.out).mono ?_);(case side1=>repeat (first|exact (zN HO_8.out).2.2|(with_reducible first|refine zG ?_ _|refine zH ?_ _|refine zI ?_)));(case side2=>exact (zN HO_8.out).2.1);rintro e w26 ⟨rfl,hb⟩;refine ⟨_,rfl,?_⟩;have n0_:=zM (zP (by (with_reducible repeat (first|apply zA|apply zB|apply zC));exact HO_8.out) hb);have n1_:=zM (zQ (by repeat (first|(with_reducible first|exact HB.out|apply zD|apply zE|apply zF)|exact HB.out)) hb);clear HO_8;clear HB;have HO_8:=n0_;have HB:=n1_;clear n0_ n1_;(try clear hb);(try clear hb2);(try clear hk);(try clear hi)))
        go_ret2
        exact ⟨_,by first|rfl|(simp [errW_none,errW_some] <;> rfl)|(simp [*,errW_none,errW_some] <;> rfl),by (with_reducible repeat (first|apply zA|apply zB|apply zC));exact HO_8.out,by repeat (first|(with_reducible first|exact HB.out|apply zD|apply zE|apply zF)|exact HB.out)⟩
       ·replace c24:=Bool.eq_false_iff.mpr c24
        subst c24;have H1:(some (([]:List (S60)),false)) = some (r1,r2):=by rw [if_neg (show ¬ (false = true) by decide)] at H;exact H
        clear H;have H:=H1;clear H1;simp only [Option.some.injEq,Prod.mk.injEq] at H
        obtain ⟨rfl,rfl⟩:=H;obtain ⟨Ao27,co27,eo27⟩:=Kd.R_slice HO_8.out;subst eo27;go_wp2_with (first|((with_reducible refine gate_callee (f:=17) rfl ?_);refine goesL_ (some 45) rfl rfl Try.func17 (by kernel_rfl) rfl #[.slice Ao27 x8_2.length co27] rfl (by (try simp only [List.map_toArray,List.map_cons,List.map_nil]);first|done|rfl|(simp only [List.length_drop,List.length_take];rfl)) ?_;(with_reducible refine (impl_IsValidTides.calls k2 _ _ x8_2 false _ ?side1 ?side2 A23.out).mono ?_);(case side1=>repeat (first|exact (zN HO_8.out).2.2|(with_reducible first|refine zG ?_ _|refine zH ?_ _|refine zI ?_)));(case side2=>exact (zN HO_8.out).2.1);rintro e w28 ⟨rfl,hb⟩;refine ⟨_,rfl,?_⟩;have n0_:=zM (zP (by (with_reducible repeat (first|apply zA|apply zB|apply zC));exact HO_8.out) hb);have n1_:=zM (zQ (by repeat (first|(with_reducible first|exact HB.out|apply zD|apply zE|apply zF)|exact HB.out)) hb);clear HO_8;clear HB;have HO_8:=n0_;have HB:=n1_;clear n0_ n1_;(try clear hb);(try clear hb2);(try clear hk);(try clear hi)))
        go_ret2
        exact ⟨_,by first|rfl|(simp [errW_none,errW_some] <;> rfl)|(simp [*,errW_none,errW_some] <;> rfl),by first|exact Kd.R_nil _ _ _ _ _|exact Kd.N_nil _ _ _ _ _|exact Kd.V_nil _ _ _ _ _|exact Kd.Q_nil _ _ _ _ _|exact Kd.S_nil _ _ _ _ _,by repeat (first|(with_reducible first|exact HB.out|apply zD|apply zE|apply zF)|exact HB.out)⟩

end Go.Proofs.Ytbglkkepfddecaa.G

namespace Go.Proofs.Ytbglkkepfddecaa.G
open Go.RowKit Go.Proofs.YtbglkkepfddecaaW.PrintWords Go.Proofs.YtbglkkepfddecaaW.PrintLast
set_option linter.unusedVariables false
set_option linter.unusedSimpArgs false
def shf (a b : Int) (x : S60) : S60:=⟨x.f0 + a,x.f1 + b⟩
def ShiftOk (xs : List S60) (a b : Int) : Prop:=Valid xs ∧ (-240 ≤ a ∧ a ≤ 240) ∧ (-2000 ≤ b ∧ b ≤ 2000) ∧ Valid (xs.map (shf a b))

theorem frac_mul (a b : Int) : a = (frac a b).1 * (Int.gcd a b : Int) ∧ b = (frac a b).2 * (Int.gcd a b : Int):=by
  unfold frac
  exact ⟨(Int.tdiv_mul_cancel (Int.gcd_dvd_left a b)).symm,(Int.tdiv_mul_cancel (Int.gcd_dvd_right a b)).symm⟩
def meanD (xs : List S60) : Int:=2 * ((rd_T60 xs ((xs.length : Int) - 1)).f0 - (rd_T60 xs 0).f0)

/-- What the windows are, up to an hour. -/
def WinInv (xs : List S60) (p h0 : Int) (out : List S66) (H : Int) : Prop :=
  (∀ i,0 ≤ i → i < (out.length : Int) → h0 ≤ (rd_T66 out i).f0 ∧ (rd_T66 out i).f0 ≤ (rd_T66 out i).f1 ∧ (rd_T66 out i).f1 < H) ∧
  (∀ i,1 ≤ i → i < (out.length : Int) → (rd_T66 out (i - 1)).f1 + 1 < (rd_T66 out i).f0) ∧
  ∀ h,h0 ≤ h → h < H → ((∃ i,0 ≤ i ∧ i < (out.length : Int) ∧ (rd_T66 out i).f0 ≤ h ∧ h ≤ (rd_T66 out i).f1) ↔ Deep xs p h)
theorem rd_app66 (out : List S66) (x : S66) (i : Int) (h0 : 0 ≤ i) (h1 : i < (out.length : Int)) : rd_T66 (out ++ [x]) i = rd_T66 out i:=by
  unfold rd_T66
  rw [List.getD_eq_getElem?_getD,List.getD_eq_getElem?_getD,List.getElem?_append_left (by omega)]
theorem rd_end66 (out : List S66) (x : S66) : rd_T66 (out ++ [x]) (out.length : Int) = x:=by
  unfold rd_T66
  rw [List.getD_eq_getElem?_getD,Int.toNat_natCast,List.getElem?_append_right (Nat.le_refl _),Nat.sub_self]
  rfl
theorem rd_set66 (out : List S66) (x : S66) (i j : Int) (h0 : 0 ≤ i) (h1 : i < (out.length : Int)) (hj : 0 ≤ j) : rd_T66 (out.set i.toNat x) j = if j = i then x else rd_T66 out j:=by
  unfold rd_T66
  rw [getD_set _ _ _ _ _ (by omega)]
  by_cases e : j = i
  · rw [if_pos (by omega),if_pos e]
  · rw [if_neg (by omega),if_neg e]
theorem winStep_inv {xs : List S60} {p h0 H : Int} {out : List S66} (hH : h0 ≤ H) (h : WinInv xs p h0 out H) : WinInv xs p h0 (winStep xs p out H) (H + 1):=by
  obtain ⟨a,b,c⟩:=h
  have fresh : Deep xs p H → ((out.length : Int) > 0 → (rd_T66 out ((out.length : Int) - 1)).f1 ≠ H - 1) → WinInv xs p h0 (out ++ [⟨H,H⟩]) (H + 1):=by
    intro hd hl
    have hlen : ((out ++ [(⟨H,H⟩ : S66)]).length : Int) = (out.length : Int) + 1:=by simp
    refine ⟨fun i i0 i1=>?_,fun i i0 i1=>?_,fun t t0 t1=>?_⟩
    · rw [hlen] at i1
      by_cases e : i < (out.length : Int)
      · rw [rd_app66 _ _ _ i0 e];have:=a i i0 e;omega
      · obtain rfl : i = (out.length : Int):=by omega
        rw [rd_end66];exact ⟨hH,Int.le_refl _,by show H < H + 1;omega⟩
    · rw [hlen] at i1
      by_cases e : i < (out.length : Int)
      · rw [rd_app66 _ _ _ (by omega) e,rd_app66 _ _ _ (by omega) (by omega)];exact b i i0 e
      · obtain rfl : i = (out.length : Int):=by omega
        rw [rd_end66,rd_app66 _ _ _ (by omega) (by omega)]
        have:=a ((out.length : Int) - 1) (by omega) (by omega)
        have:=hl (by omega)
        show (rd_T66 out ((out.length : Int) - 1)).f1 + 1 < H
        omega
    · by_cases e : t = H
      · subst e
        refine ⟨fun _=>hd,fun _=>⟨(out.length : Int),by omega,by omega,?_⟩⟩
        rw [rd_end66];exact ⟨Int.le_refl _,Int.le_refl _⟩
      · rw [← c t t0 (by omega)]
        constructor
        · rintro ⟨i,i0,i1,i2,i3⟩
          rw [hlen] at i1
          by_cases e2 : i < (out.length : Int)
          · rw [rd_app66 _ _ _ i0 e2] at i2 i3;exact ⟨i,i0,e2,i2,i3⟩
          · obtain rfl : i = (out.length : Int):=by omega
            rw [rd_end66] at i2 i3
            exact absurd (Int.le_antisymm i3 i2) e
        · rintro ⟨i,i0,i1,i2,i3⟩
          exact ⟨i,i0,by omega,by rw [rd_app66 _ _ _ i0 i1];exact ⟨i2,i3⟩⟩
  unfold winStep
  by_cases hd : Deep xs p H
  · rw [chk_pos hd]
    by_cases g : (out.length : Int) > 0
    · rw [if_pos g]
      by_cases g2 : (rd_T66 out ((out.length : Int) - 1)).f1 = H - 1
      · rw [if_pos g2]
        have hlen : ((out.set ((out.length : Int) - 1).toNat (⟨(rd_T66 out ((out.length : Int) - 1)).f0,H⟩ : S66)).length : Int) = (out.length : Int):=by rw [List.length_set]
        have al:=a ((out.length : Int) - 1) (by omega) (by omega)
        refine ⟨fun i i0 i1=>?_,fun i i0 i1=>?_,fun t t0 t1=>?_⟩
        · rw [hlen] at i1
          rw [rd_set66 _ _ _ _ (by omega) (by omega) i0]
          by_cases e : i = (out.length : Int) - 1
          · rw [if_pos e]
            refine ⟨al.1,?_,?_⟩
            · show (rd_T66 out ((out.length : Int) - 1)).f0 ≤ H;omega
            · show H < H + 1;omega
          · rw [if_neg e];have:=a i i0 i1;omega
        · rw [hlen] at i1
          rw [rd_set66 _ _ _ _ (by omega) (by omega) (by omega),rd_set66 _ _ _ _ (by omega) (by omega) (by omega)]
          have:=b i i0 i1
          rw [if_neg (show ¬ i - 1 = (out.length : Int) - 1 by omega)]
          by_cases e : i = (out.length : Int) - 1
          · rw [if_pos e,← e];exact this
          · rw [if_neg e];exact this
        · by_cases e : t = H
          · subst e
            refine ⟨fun _=>hd,fun _=>⟨(out.length : Int) - 1,by omega,by omega,?_⟩⟩
            rw [rd_set66 _ _ _ _ (by omega) (by omega) (by omega),if_pos rfl]
            refine ⟨?_,Int.le_refl _⟩
            show (rd_T66 out ((out.length : Int) - 1)).f0 ≤ t
            omega
          · rw [← c t t0 (by omega)]
            constructor
            · rintro ⟨i,i0,i1,i2,i3⟩
              rw [hlen] at i1
              rw [rd_set66 _ _ _ _ (by omega) (by omega) i0] at i2 i3
              by_cases e2 : i = (out.length : Int) - 1
              · rw [if_pos e2] at i2 i3
                have i2 : (rd_T66 out ((out.length : Int) - 1)).f0 ≤ t:=i2
                exact ⟨(out.length : Int) - 1,by omega,by omega,i2,by omega⟩
              · rw [if_neg e2] at i2 i3
                exact ⟨i,i0,i1,i2,i3⟩
            · rintro ⟨i,i0,i1,i2,i3⟩
              refine ⟨i,i0,by omega,?_⟩
              rw [rd_set66 _ _ _ _ (by omega) (by omega) i0]
              by_cases e2 : i = (out.length : Int) - 1
              · rw [if_pos e2]
                rw [e2] at i2 i3
                refine ⟨i2,?_⟩
                show t ≤ H
                omega
              · rw [if_neg e2];exact ⟨i2,i3⟩
      · rw [if_neg g2];exact fresh hd (fun _=>g2)
    · rw [if_neg g];exact fresh hd (fun x=>absurd x g)
  · rw [chk_neg hd]
    refine ⟨fun i i0 i1=>by have:=a i i0 i1;omega,b,fun t t0 t1=>?_⟩
    by_cases e : t = H
    · subst e
      refine ⟨?_,fun x=>absurd x hd⟩
      rintro ⟨i,i0,i1,i2,i3⟩
      have:=a i i0 i1
      omega
    · exact c t t0 (by omega)
theorem winOf_inv {xs : List S60} (hv : Valid xs) (p : Int) : WinInv xs p (rd_T60 xs 0).f0 (winOf xs p) (lastH xs + 1):=by
  have tb:=tab_bd hv
  have main : ∀ d : Nat,WinInv xs p (rd_T60 xs 0).f0 (winTo xs p d) ((rd_T60 xs 0).f0 + d):=by
    intro d
    induction d with
    | zero=>exact ⟨fun i i0 i1=>by simp [winTo] at i1;omega,fun i i0 i1=>by simp [winTo] at i1;omega,fun t t0 t1=>by omega⟩
    | succ d ih =>
      have:=winStep_inv (by omega) ih
      rw [show (rd_T60 xs 0).f0 + ((d + 1 : Nat) : Int) = (rd_T60 xs 0).f0 + (d : Int) + 1 from by omega]
      exact this
  have:=main (lastH xs + 1 - (rd_T60 xs 0).f0).toNat
  rwa [show (rd_T60 xs 0).f0 + (((lastH xs + 1 - (rd_T60 xs 0).f0).toNat : Nat) : Int) = lastH xs + 1 from by omega] at this
/-- HeightAt: the height against a depth. -/
theorem height_X (xs : List S60) (h : Int) : ∃ r : Int × Int × Bool,Ev (fun k=>impl_HeightAt.f k xs h) r ∧ (r.2.2 = true ↔ Valid xs ∧ InTab xs h) ∧ (r.2.2 = true → (0 ≤ r.2.1 ∧ r.2.1 ≤ 240) ∧ ∀ p,r.1 ≥ p * r.2.1 ↔ Deep xs p h):=by
  by_cases hh : Valid xs ∧ InTab xs h
  · obtain ⟨hv,hi⟩:=hh
    obtain ⟨j,sj,ej⟩:=impl_height xs hv h hi
    have bj:=seg_bd hv sj
    refine ⟨((frac (hN xs j h) (hD xs j)).1,(frac (hN xs j h) (hD xs j)).2,true),?_,⟨fun _=>⟨hv,hi⟩,fun _=>rfl⟩,fun _=>⟨?_,fun p=>?_⟩⟩
    · unfold impl_HeightAt.f
      refine Ev.bind (impl_holds_one xs h) ?_
      rw [chk_pos ⟨hv,hi⟩]
      simp only [if_true]
      refine Ev.bind ej ?_
      refine Ev.bind (impl_frac _ _ (by omega) (by omega) (by omega) (by omega)) ?_
      exact Ev.now _
    · have g:=gcd_pos (a:=hN xs j h) (show 0 < hD xs j by omega)
      exact tdiv_bd (show 0 ≤ hD xs j by omega) (show hD xs j ≤ 240 by omega) (by omega)
    · rw [deep_seg hv sj]
      obtain ⟨p1,p2⟩:=frac_mul (hN xs j h) (hD xs j)
      have g:=gcd_pos (a:=hN xs j h) (show 0 < hD xs j by omega)
      dsimp only
      generalize (Int.gcd (hN xs j h) (hD xs j) : Int) = G at *
      generalize (frac (hN xs j h) (hD xs j)).1 = n at *
      generalize (frac (hN xs j h) (hD xs j)).2 = m at *
      rw [p1,p2,← Int.mul_assoc]
      exact ⟨fun q=>Int.mul_le_mul_of_nonneg_right q (by omega),fun q=>Int.le_of_mul_le_mul_right q g⟩
  · refine ⟨(0,0,false),?_,⟨fun e=>(by cases e),fun e=>absurd e hh⟩,fun e=>(by cases e)⟩
    unfold impl_HeightAt.f
    refine Ev.bind (impl_holds_one xs h) ?_
    rw [chk_neg hh]
    simp only [Bool.false_eq_true,if_false]
    exact Ev.now _
theorem ship_X (xs : List S60) (draft bottom from_ hours : Int) : ∃ r : Int × Bool,Ev (fun k=>spec_ShipWindow.f k xs draft bottom from_ hours) r ∧ Ev (fun k=>impl_ShipWindow.f k xs draft bottom from_ hours) r ∧ (r.2 = true → from_ ≤ r.1) ∧
    ((Valid xs ∧ InTab xs from_) ∧ (0 ≤ draft ∧ draft ≤ 3000) ∧ (0 ≤ bottom ∧ bottom ≤ 3000) ∧ (0 ≤ hours ∧ hours ≤ 240) → ShipRes xs (draft - bottom) from_ hours r):=by
  obtain ⟨r,e1,e2⟩:=ship_both xs draft bottom from_ hours
  by_cases hall : (Valid xs ∧ InTab xs from_) ∧ (0 ≤ draft ∧ draft ≤ 3000) ∧ (0 ≤ bottom ∧ bottom ≤ 3000) ∧ (0 ≤ hours ∧ hours ≤ 240)
  · obtain ⟨hvf,hd,hb,hh⟩:=hall
    obtain ⟨r',hr',er'⟩:=spec_ship xs hvf.1 draft bottom from_ hours hd hb hvf.2 hh
    have : Ev (fun k=>spec_ShipWindow.f k xs draft bottom from_ hours) r':=by
      unfold spec_ShipWindow.f
      refine Ev.bind (spec_holds xs from_) ?_
      rw [chk_pos hvf]
      simp only [if_true,spec_l1In_eq,Option.bind_some,decide_eq_true hd,decide_eq_true hb,decide_eq_true hh]
      refine Ev.step (fun k=>by rw [spec_ShipWindow.j0]) ?_
      simp only [Bool.not_true,Bool.false_eq_true,if_false]
      exact er'
    have e : r = r':=Ev.same e1 this
    subst e
    refine ⟨r,e1,e2,fun ht=>?_,fun _=>hr'⟩
    rcases hr' with ⟨s,e,w,_⟩|⟨e,_⟩
    · rw [e];exact w.1
    · rw [e] at ht;cases ht
  · have js : Ev (fun k=>spec_ShipWindow.j0 k xs draft bottom from_ hours true) (0,false):=by
      refine Ev.step (fun k=>by rw [spec_ShipWindow.j0]) ?_
      simp only [if_true];exact Ev.now _
    have : Ev (fun k=>spec_ShipWindow.f k xs draft bottom from_ hours) (0,false):=by
      unfold spec_ShipWindow.f
      refine Ev.bind (spec_holds xs from_) ?_
      simp only [spec_l1In_eq,Option.bind_some]
      refine Ev.ite (fun h1=>?_) (fun _=>js)
      refine Ev.ite (fun h2=>?_) (fun _=>js)
      refine Ev.ite (fun h3=>?_) (fun _=>js)
      rw [decide_eq_false (fun h4=>hall ⟨chk_true.1 h1,of_decide_eq_true h2,of_decide_eq_true h3,h4⟩)]
      exact js
    have e : r = (0,false):=Ev.same e1 this
    subst e
    exact ⟨_,e1,e2,fun ht=>(by cases ht),fun h=>absurd h hall⟩
/-- The whole part of a height, at each segment of an hour. -/
theorem deep_floor {xs : List S60} (hv : Valid xs) {h j q p : Int} (hs : IsSeg xs h j) (hq : Int.tdiv (hN xs j h) (hD xs j) = q) (hp : p ≤ q) : Deep xs p h:=by
  rw [deep_seg hv hs]
  have b:=seg_bd hv hs
  rw [Int.tdiv_eq_ediv_of_nonneg b.2.2.1] at hq
  have:=Int.ediv_mul_le (hN xs j h) (show hD xs j ≠ 0 by omega)
  rw [hq] at this
  have:=Int.mul_le_mul_of_nonneg_right hp (show 0 ≤ hD xs j by omega)
  omega
theorem deep_lower {xs : List S60} (hv : Valid xs) {u v t : Int} (huv : u ≤ v) (hX : Deep xs v t) : Deep xs u t:=by
  intro k hk
  have bk:=seg_bd hv hk
  have a:=hX k hk
  have:=Int.mul_le_mul_of_nonneg_right huv (show 0 ≤ hD xs k by omega)
  omega
theorem draft_X (xs : List S60) (bottom a b : Int) :
    ∃ r : Int × Bool,Ev (fun k=>spec_GreatestDraft.f k xs bottom a b) r ∧ Ev (fun k=>impl_GreatestDraft.f k xs bottom a b) r ∧ (r.2 = true → ((Valid xs ∧ InTab xs a ∧ InTab xs b) ∧ (0 ≤ bottom ∧ bottom ≤ 3000) ∧ a ≤ b) ∧ 0 ≤ r.1 ∧ ∀ h,a ≤ h → h ≤ b → Deep xs (r.1 - bottom) h):=by
  have js : Ev (fun k=>spec_GreatestDraft.j0 k xs bottom a b true) (0,false):=by
    refine Ev.step (fun k=>by rw [spec_GreatestDraft.j0]) ?_
    simp only [if_true];exact Ev.now _
  have ji : Ev (fun k=>impl_GreatestDraft.j0 k xs bottom a b true) (0,false):=by
    refine Ev.step (fun k=>by rw [impl_GreatestDraft.j0]) ?_
    simp only [if_true];exact Ev.now _
  by_cases hall : (Valid xs ∧ InTab xs a ∧ InTab xs b) ∧ (0 ≤ bottom ∧ bottom ≤ 3000) ∧ a ≤ b
  · have hall':=hall
    obtain ⟨⟨hv,ia,ib⟩,hb,hab⟩:=hall
    have ba:=intab_bd hv ia
    have bb:=intab_bd hv ib
    obtain ⟨r,e1,e2⟩:=draft_both xs bottom a b (by omega) (by omega) (by omega)
    refine ⟨r,e1,e2,?_⟩
    have main : ∀ (d : Nat) (h : Int) (s : Int),a ≤ h → h + d = b + 1 → (h = a ∧ s = -1 ∨ a < h ∧ 0 ≤ s ∧ s ≤ 2000 ∧ ∀ t,a ≤ t → t < h → Deep xs s t) → ∃ z,Ev (fun k=>impl_GreatestDraft.l0 k xs bottom b s h) (bottom + z,true) ∧ 0 ≤ z ∧ ∀ t,a ≤ t → t ≤ b → Deep xs z t:=by
      intro d
      induction d with
      | zero =>
        intro h s h0 hd hs
        rcases hs with ⟨_,_⟩|⟨_,s0,s1,q⟩
        · omega
        · refine ⟨s,?_,by omega,fun t t0 t1=>q t t0 (by omega)⟩
          refine Ev.step (fun k=>by rw [impl_GreatestDraft.l0]) ?_
          simp (disch:=omega) only [if_neg,wrap64_id]
          exact Ev.now _
      | succ d ih =>
        intro h s h0 hd hs
        have hh:=intab_mid ia ib h0 (by omega)
        have hbd:=intab_bd hv hh
        obtain ⟨j,sj,ej⟩:=impl_height xs hv h hh
        have bj:=seg_bd hv sj
        obtain ⟨q,hq⟩ : ∃ q,Int.tdiv (hN xs j h) (hD xs j) = q:=⟨_,rfl⟩
        have b1 : 0 ≤ q ∧ q ≤ 2000:=by
          rw [← hq,Int.tdiv_eq_ediv_of_nonneg bj.2.2.1]
          exact ⟨Int.ediv_nonneg bj.2.2.1 (by omega),Int.ediv_le_of_le_mul (by omega) bj.2.2.2⟩
        have take : ∀ s',0 ≤ s' → s' ≤ q → (0 ≤ s → s' ≤ s) → (h = a ∧ s = -1 ∨ a < h ∧ 0 ≤ s ∧ s ≤ 2000 ∧ ∀ t,a ≤ t → t < h → Deep xs s t) → ∃ z,Ev (fun k=>impl_GreatestDraft.l0 k xs bottom b s' (h + 1)) (bottom + z,true) ∧ 0 ≤ z ∧ ∀ t,a ≤ t → t ≤ b → Deep xs z t:=by
          intro s' p0 p1 p2 hs
          refine ih (h + 1) s' (by omega) (by omega) (.inr ⟨by omega,p0,by omega,fun t t0 t1=>?_⟩)
          by_cases e : t = h
          · rw [e];exact deep_floor hv sj hq p1
          · rcases hs with ⟨_,_⟩|⟨_,s0,s1,sd⟩
            · omega
            · exact deep_lower hv (p2 s0) (sd t t0 (by omega))
        have step : ∀ s',(s < 0 → s' = q) → (¬ s < 0 → q < s → s' = q) → (¬ s < 0 → ¬ q < s → s' = s) → ∀ r,Ev (fun k=>impl_GreatestDraft.l0 k xs bottom b s' (h + 1)) r → Ev (fun k=>impl_GreatestDraft.l0 k xs bottom b s h) r:=by
          intro s' k1 k2 k3 r hr
          refine Ev.step (fun k=>by rw [impl_GreatestDraft.l0]) ?_
          simp (disch:=omega) only [if_pos]
          refine Ev.bind ej ?_
          dsimp only
          rw [hq]
          refine Ev.ite (fun h2=>?_) (fun h2=>?_)
          · simp (disch:=omega) only [if_neg,wrap64_id]
            rw [k1 h2] at hr;exact hr
          · simp (disch:=omega) only [if_neg,wrap64_id]
            refine Ev.ite (fun h3=>?_) (fun h3=>?_)
            · rw [k2 h2 h3] at hr;exact hr
            · rw [k3 h2 h3] at hr;exact hr
        by_cases h2 : s < 0
        · obtain ⟨z,ez,z0,zd⟩:=take q b1.1 (Int.le_refl _) (fun _=>by omega) hs
          exact ⟨z,step q (fun _=>rfl) (fun x=>absurd h2 x) (fun x=>absurd h2 x) _ ez,z0,zd⟩
        · by_cases h3 : q < s
          · obtain ⟨z,ez,z0,zd⟩:=take q b1.1 (Int.le_refl _) (fun _=>by omega) hs
            exact ⟨z,step q (fun _=>rfl) (fun _ _=>rfl) (fun _ x=>absurd h3 x) _ ez,z0,zd⟩
          · obtain ⟨z,ez,z0,zd⟩:=take s (by omega) (by omega) (fun _=>Int.le_refl _) hs
            exact ⟨z,step s (fun x=>absurd x h2) (fun _ x=>absurd x h3) (fun _ _=>rfl) _ ez,z0,zd⟩
    obtain ⟨z,ez,z0,zd⟩:=main (b + 1 - a).toNat a (-1) (by omega) (by omega) (.inl ⟨rfl,rfl⟩)
    have : Ev (fun k=>impl_GreatestDraft.f k xs bottom a b) (bottom + z,true):=by
      unfold impl_GreatestDraft.f
      refine Ev.bind (impl_holds_two xs a b) ?_
      rw [chk_pos ⟨hv,ia,ib⟩]
      simp only [if_true,impl_within_eq,Option.bind_some]
      rw [decide_eq_true hb,decide_eq_false (show ¬ a > b by omega)]
      simp only [if_true]
      refine Ev.step (fun k=>by rw [impl_GreatestDraft.j0]) ?_
      simp only [Bool.false_eq_true,if_false]
      exact ez
    have e : r = (bottom + z,true):=Ev.same e2 this
    subst e
    refine fun _=>⟨hall',by show 0 ≤ bottom + z;omega,fun h h0 h1=>?_⟩
    show Deep xs (bottom + z - bottom) h
    rw [show bottom + z - bottom = z from by omega]
    exact zd h h0 h1
  · refine ⟨(0,false),?_,?_,fun x=>by cases x⟩
    · unfold spec_GreatestDraft.f
      refine Ev.bind (spec_holds xs a) ?_
      refine Ev.ite (fun h1=>?_) (fun h1=>js)
      refine Ev.bind (spec_holds xs b) ?_
      refine Ev.ite (fun h2=>?_) (fun h2=>js)
      refine Ev.ite (fun h3=>js) (fun h3=>?_)
      simp only [spec_l1In_eq,Option.bind_some]
      have h1:=chk_true.1 h1
      have h2:=chk_true.1 h2
      rw [decide_eq_false (fun h4=>hall ⟨⟨h1.1,h1.2,h2.2⟩,h4,by omega⟩)]
      exact js
    · unfold impl_GreatestDraft.f
      refine Ev.bind (impl_holds_two xs a b) ?_
      refine Ev.ite (fun h1=>?_) (fun h1=>ji)
      simp only [impl_within_eq,Option.bind_some]
      have h1:=chk_true.1 h1
      refine Ev.ite (fun h2=>?_) (fun h2=>ji)
      have h2:=of_decide_eq_true h2
      rw [decide_eq_true (show a > b from by apply Classical.byContradiction;intro h3;exact hall ⟨h1,h2,by omega⟩)]
      exact ji
end Go.Proofs.Ytbglkkepfddecaa.G

/- FnWindows: the height is at least the depth exactly in the windows, and a ship with the greatest draft can stay for the whole time (for drawn bytes of at most 2^16; else the statement is true at once). -/
namespace Go.Proofs.Ytbglkkepfddecaa.Pure
open Go.RowKit Go.Proofs.Ytbglkkepfddecaa.G Go.Proofs.YtbglkkepfddecaaW.PrintWords Go.Proofs.YtbglkkepfddecaaW.PrintLast
set_option linter.unusedVariables false
set_option linter.unusedSimpArgs false
theorem win_last {l : List Int} (hc : Cd l) : Ev (fun k=>laws_FnWindows.j7 k l false) true:=by
  refine Ev.step (fun k=>by rw [laws_FnWindows.j7]) ?_
  simp only [Bool.false_eq_true,if_false]
  obtain ⟨t,_,e⟩:=drawShip hc
  refine Ev.bind e ?_
  obtain ⟨r,e1,e2,h1,_⟩:=ship_X t.1 t.2.1 t.2.2.1 t.2.2.2.1 t.2.2.2.2
  refine Ev.bind e2 (Ev.bind e1 ?_)
  simp only [if_true,beq_self_eq_true]
  refine Ev.ite (fun g=>?_) (fun g=>Ev.now _)
  rw [decide_eq_true (h1 g)]
  exact Ev.now _
theorem win_rest {l : List Int} (hc : Cd l) : Ev (fun k=>(spec_DrawShipWindow.f k l).bind fun bt905=>((impl_ShipWindow.f k bt905.1 bt905.2.1 bt905.2.2.1 bt905.2.2.2.1 bt905.2.2.2.2).bind fun bt912=>((spec_ShipWindow.f k bt905.1 bt905.2.1 bt905.2.2.1 bt905.2.2.2.1 bt905.2.2.2.2).bind fun bt914=>(if bt912.1 = bt914.1 then (if (bt912.2 == bt914.2) = true then (if bt912.2 = true then (some (decide (bt912.1 ≥ bt905.2.2.2.1))) else (some true)) else (some false)) else (some false))))) true:=by
  obtain ⟨t,_,e⟩:=drawShip hc
  refine Ev.bind e ?_
  obtain ⟨r,e1,e2,h1,_⟩:=ship_X t.1 t.2.1 t.2.2.1 t.2.2.2.1 t.2.2.2.2
  refine Ev.bind e2 (Ev.bind e1 ?_)
  simp only [if_true,beq_self_eq_true]
  refine Ev.ite (fun g=>?_) (fun g=>Ev.now _)
  rw [decide_eq_true (h1 g)]
  exact Ev.now _
theorem win_draft {l : List Int} (hc : Cd l) (x3 : List S60) (x4 : Int) (x5 : List S66) (x6 : Bool) (x10 : Int) : Ev (fun k=>laws_FnWindows.j3 k l x3 x4 x5 x6 x10 false) true:=by
  refine Ev.step (fun k=>by rw [laws_FnWindows.j3]) ?_
  simp only [Bool.false_eq_true,if_false]
  obtain ⟨⟨xs,bottom,a,b⟩,_,e⟩:=drawDraft hc
  refine Ev.bind e ?_
  dsimp only
  obtain ⟨r,e1,e2,hr⟩:=draft_X xs bottom a b
  refine Ev.bind e2 (Ev.bind e1 ?_)
  simp only [if_true,bne_self_eq_false]
  refine Ev.step (fun k=>by rw [laws_FnWindows.j5]) ?_
  simp only [Bool.false_eq_true,if_false]
  have no : Ev (fun k=>laws_FnWindows.j6 k l xs bottom a b r.1 false) true:=by
    refine Ev.step (fun k=>by rw [laws_FnWindows.j6]) ?_
    simp only [Bool.false_eq_true,if_false]
    exact win_rest hc
  refine Ev.ite (fun g=>?_) (fun g=>no)
  obtain ⟨⟨⟨hv,ia,ib⟩,hb,hab⟩,h0,hd⟩:=hr g
  have ba:=intab_bd hv ia
  have bb:=intab_bd hv ib
  by_cases g2 : r.1 ≤ 3000
  · rw [decide_eq_true g2]
    refine Ev.step (fun k=>by rw [laws_FnWindows.j6]) ?_
    simp only [if_true]
    rw [wrap64_id (x:=b - a) (by omega) (by omega)]
    obtain ⟨q,_,e3,_,hs⟩:=ship_X xs r.1 bottom a (b - a)
    have hs:=hs ⟨⟨hv,ia⟩,⟨h0,g2⟩,hb,by omega⟩
    have w : WinAt xs (r.1 - bottom) a (b - a) a:=⟨Int.le_refl _,by rw [show a + (b - a) = b from by omega];exact ib.2,fun t t0 t1=>hd t t0 (by omega)⟩
    have eq : q = (a,true):=shipRes_uniq hs (.inl ⟨a,rfl,w,fun t ht x=>by have:=x.1;omega⟩)
    subst eq
    refine Ev.bind e3 ?_
    simp only [if_true,bne_self_eq_false]
    exact win_last hc
  · rw [decide_eq_false g2]
    exact no
/-- The hours, one after another. -/
theorem win_hours {l : List Int} (hc : Cd l) {xs : List S60} {p : Int} (hv : Valid xs) (hp : 0 ≤ p ∧ p ≤ 2000) : Ev (fun k=>laws_FnWindows.l1 k l xs p (winOf xs p) true 0) true:=by
  have inv:=winOf_inv hv p
  have tb:=tab_bd hv
  have wl : ((winOf xs p).length : Int) ≤ 1000:=by
    have:=winTo_len xs p (lastH xs + 1 - (rd_T60 xs 0).f0).toNat
    unfold winOf;omega
  have inner : ∀ (h n m : Int) (f : Bool),(∀ b : Bool,(b = true ↔ ∃ i,0 ≤ i ∧ i < ((winOf xs p).length : Int) ∧ (rd_T66 (winOf xs p) i).f0 ≤ h ∧ h ≤ (rd_T66 (winOf xs p) i).f1) → Ev (fun k=>if f = true then (if (b != (decide (n ≥ (wrap64 (p * m))))) = true then (some false) else (laws_FnWindows.l1 k l xs p (winOf xs p) true (wrap64 (h + 1)))) else (if (b != false) = true then (some false) else (laws_FnWindows.l1 k l xs p (winOf xs p) true (wrap64 (h + 1))))) true) → Ev (fun k=>laws_FnWindows.l2 k l xs p (winOf xs p) true h n m f false 0) true:=by
    intro h n m f fin
    have main : ∀ (d : Nat) (i : Int) (b : Bool),0 ≤ i → i + d = ((winOf xs p).length : Int) → (b = true ↔ ∃ j,0 ≤ j ∧ j < i ∧ (rd_T66 (winOf xs p) j).f0 ≤ h ∧ h ≤ (rd_T66 (winOf xs p) j).f1) → Ev (fun k=>laws_FnWindows.l2 k l xs p (winOf xs p) true h n m f b i) true:=by
      intro d
      induction d with
      | zero =>
        intro i b i0 hd hb
        refine Ev.step (fun k=>by rw [laws_FnWindows.l2]) ?_
        simp only [if_neg (show ¬ i < ((winOf xs p).length : Int) by omega)]
        exact fin b (by rw [hb];rw [show i = ((winOf xs p).length : Int) from by omega])
      | succ d ih =>
        intro i b i0 hd hb
        refine Ev.step (fun k=>by rw [laws_FnWindows.l2]) ?_
        simp (disch:=omega) only [if_pos,wrap64_id]
        cases b with
        | true =>
          simp only [if_true]
          refine ih (i + 1) true (by omega) (by omega) ⟨fun _=>?_,fun _=>rfl⟩
          obtain ⟨j,j0,j1,j2⟩:=hb.1 rfl
          exact ⟨j,j0,by omega,j2⟩
        | false =>
          simp only [Bool.false_eq_true,if_false]
          have nb : ¬ ∃ j,0 ≤ j ∧ j < i ∧ (rd_T66 (winOf xs p) j).f0 ≤ h ∧ h ≤ (rd_T66 (winOf xs p) j).f1:=fun x=>by have:=hb.2 x;cases this
          refine Ev.ite (fun g=>?_) (fun g=>?_)
          · refine ih (i + 1) _ (by omega) (by omega) ⟨fun x=>⟨i,i0,by omega,g,of_decide_eq_true x⟩,?_⟩
            rintro ⟨j,j0,j1,j2,j3⟩
            by_cases e : j = i
            · rw [e] at j3;exact decide_eq_true j3
            · exact absurd ⟨j,j0,by omega,j2,j3⟩ nb
          · refine ih (i + 1) _ (by omega) (by omega) ⟨fun x=>(by cases x),?_⟩
            rintro ⟨j,j0,j1,j2,j3⟩
            by_cases e : j = i
            · rw [e] at j2;exact absurd j2 g
            · exact absurd ⟨j,j0,by omega,j2,j3⟩ nb
    exact main (winOf xs p).length 0 false (by omega) (by omega) ⟨fun x=>(by cases x),fun ⟨j,j0,j1,_⟩=>by omega⟩
  have outer : ∀ (d : Nat) (h : Int),0 ≤ h → h + d = 241 → Ev (fun k=>laws_FnWindows.l1 k l xs p (winOf xs p) true h) true:=by
    intro d
    induction d with
    | zero =>
      intro h h0 hd
      refine Ev.step (fun k=>by rw [laws_FnWindows.l1]) ?_
      simp only [if_neg (show ¬ h ≤ 240 by omega)]
      exact win_draft hc _ _ _ _ _
    | succ d ih =>
      intro h h0 hd
      refine Ev.step (fun k=>by rw [laws_FnWindows.l1]) ?_
      simp only [if_pos (show h ≤ 240 by omega)]
      refine Ev.step (fun k=>by rw [laws_FnWindows.j3]) ?_
      simp only [if_true]
      obtain ⟨r,e,r1,r2⟩:=height_X xs h
      refine Ev.bind e ?_
      have nx:=ih (h + 1) (by omega) (by omega)
      refine inner h r.1 r.2.1 r.2.2 (fun b hb=>?_)
      rw [wrap64_id (x:=h + 1) (by omega) (by omega)]
      refine Ev.ite (fun g=>?_) (fun g=>?_)
      · have hi:=(r1.1 g).2
        have hx:=r2 g
        have mb:=mul_bd (x:=p) (y:=r.2.1) (A:=2000) (B:=240) (by omega) (by omega) (by omega) (by omega) (by omega) (by omega)
        rw [wrap64_id (x:=p * r.2.1) (by omega) (by omega)]
        have eb : b = decide (r.1 ≥ p * r.2.1):=by
          have : b = true ↔ r.1 ≥ p * r.2.1:=by
            rw [hb,hx.2 p]
            exact inv.2.2 h hi.1 (by have:=hi.2;unfold lastH;omega)
          by_cases q : r.1 ≥ p * r.2.1
          · rw [decide_eq_true q];exact this.2 q
          · rw [decide_eq_false q]
            cases b with
            | true=>exact absurd (this.1 rfl) q
            | false=>rfl
        rw [eb,bne_self_eq_false]
        simp only [Bool.false_eq_true,if_false]
        exact nx
      · have eb : b = false:=by
          cases b with
          | true =>
            obtain ⟨i,i0,i1,i2,i3⟩:=hb.1 rfl
            have:=inv.1 i i0 i1
            exact absurd (r1.2 ⟨hv,by unfold InTab;unfold lastH at this;omega⟩) g
          | false=>rfl
        rw [eb,bne_self_eq_false]
        simp only [Bool.false_eq_true,if_false]
        exact nx
  exact outer 241 0 (by omega) (by omega)
theorem FnWindows : laws_FnWindows.Pure:=by
  intro l0 h0
  refine Ev.rounds (g:=fun k=>laws_FnWindows.f k l0) (r:=true) ?_
  unfold laws_FnWindows.f laws_rBig.f
  simp only [Option.bind_some]
  refine Ev.ite (fun _=>Ev.now _) (fun g0=>?_)
  have hc : Cd l0:=cd_of (by simpa using g0) h0.2
  obtain ⟨⟨xs,p⟩,_,e⟩:=drawDeep hc
  refine Ev.bind e (Ev.bind (impl_win xs p) (Ev.bind (spec_win xs p) ?_))
  simp only [bne_self_eq_false,Bool.false_eq_true,if_false]
  refine Ev.step (fun k=>by rw [laws_FnWindows.j0]) ?_
  simp only [Bool.false_eq_true,if_false]
  by_cases hs : Valid xs ∧ 0 ≤ p ∧ p ≤ 2000
  · rw [chk_pos hs]
    have inv:=winOf_inv hs.1 p
    have tb:=tab_bd hs.1
    have wl : ((winOf xs p).length : Int) ≤ 1000:=by
      have:=winTo_len xs p (lastH xs + 1 - (rd_T60 xs 0).f0).toNat
      unfold winOf;omega
    refine Ev.upc (fun k i=>laws_FnWindows.l0 k l0 xs p (winOf xs p) true (winOf xs p) i) true ((winOf xs p).length : Int) 0 ?_ ?_ 0 (by omega) (by omega)
    · refine Ev.step (fun k=>by rw [laws_FnWindows.l0]) ?_
      simp only [Int.lt_irrefl,if_false]
      exact win_hours hc hs.1 hs.2
    · intro i i0 hlt hr
      have a:=inv.1 i i0 hlt
      refine Ev.step (fun k=>by rw [laws_FnWindows.l0]) ?_
      simp (disch:=omega) only [if_pos,beq_self_eq_true,Bool.not_true,Bool.or_self,Bool.false_eq_true,if_false,wrap64_id]
      simp only [if_neg (show ¬ (rd_T66 (winOf xs p) i).f0 > (rd_T66 (winOf xs p) i).f1 by omega)]
      refine Ev.ite (fun g=>?_) (fun g=>hr)
      have b:=inv.2.1 i (by omega) hlt
      have a2:=inv.1 (i - 1) (by omega) (by omega)
      rw [wrap64_id (x:=(rd_T66 (winOf xs p) (i - 1)).f1 + 1) (by omega) (by omega)]
      simp (disch:=omega) only [if_pos,if_neg]
      exact hr
  · rw [chk_neg hs]
    refine Ev.step (fun k=>by rw [laws_FnWindows.l0]) ?_
    simp only [List.length_nil,Int.natCast_zero,Int.lt_irrefl,if_false]
    refine Ev.step (fun k=>by rw [laws_FnWindows.l1]) ?_
    simp only [if_pos (show (0 : Int) ≤ 240 by omega)]
    exact win_draft hc _ _ _ _ _
end Go.Proofs.Ytbglkkepfddecaa.Pure

-- Written by wip/tools/gen.py out of the translation (the kit's printer, one namespace a seat). Lean checks it.
namespace Go.Proofs.Ytbglkkepfddecaa.G
open Go.RowKit Go.ChangeShapes Go.WideShapes Go.Deep Go.Proofs.YtbglkkepfddecaaW.PrintWords Go.Proofs.YtbglkkepfddecaaW.PrintLast
set_option linter.unusedVariables false
/-! Opening the arguments of a law: whatever reads as data of type t reads as a value of kind d, within what its type allows. -/
def Opens {α : Type} (P : Program) (t : TypeId) (d : Kd α) (Wf : α → Prop) : Prop :=
  ∀ {H : Type} {enc : TypeId × Value → H} {W : World} {spare : Nat → Bool} {held : Bool} {fuel : Nat} {cs : List Value} {x : DataW H × List MemPlace},
    DataW.trod enc P W 0 spare held fuel t cs = some x → ∃ a,d.K W a cs ∧ Wf a
theorem opens_int {P : Program} {t : TypeId} {k : IntKind} (ht : P.underlying t = some (.int k)) : Opens P t (Kd.int k) (fun x=>(Lit.int k x).wf = true):=by
  intro H enc W spare held fuel cs x h
  obtain ⟨n,rfl,_,hw⟩:=DataW.trod_int ht h
  exact ⟨n,rfl,hw⟩
theorem opens_row {α : Type} {d : Kd α} {Wf : α → Prop} {W : World} (Q : Nat → List Value → Prop) (hq : ∀ i cs,Q i cs → ∃ a,d.K W a cs ∧ Wf a) (n : Nat) (h : ∀ i,i < n → ∃ cs,Q i cs) :
    ∃ xs : List α,xs.length = n ∧ (∀ y ∈ xs,Wf y) ∧ ∀ j p,xs[j]? = some p → ∃ cs,Q j cs ∧ d.K W p cs:=by
  induction n with
  | zero=>exact ⟨[],rfl,fun y hy=>by simp at hy,fun j p hp=>by simp at hp⟩
  | succ n ih =>
    obtain ⟨xs,hl,hw,hx⟩:=ih (fun i hi=>h i (by omega))
    obtain ⟨cs,hcs⟩:=h n (by omega)
    obtain ⟨a,ha,hwa⟩:=hq n cs hcs
    refine ⟨xs ++ [a],by simp [hl],fun y hy=>?_,fun j p hp=>?_⟩
    · rcases List.mem_append.1 hy with hy|hy
      · exact hw y hy
      · rw [List.mem_singleton.1 hy];exact hwa
    · rcases Nat.lt_or_ge j xs.length with hj|hj
      · rw [List.getElem?_append_left hj] at hp
        exact hx j p hp
      · rw [List.getElem?_append_right hj] at hp
        have h0 : j - xs.length = 0:=by
          rcases Nat.eq_zero_or_pos (j - xs.length) with h0|h0
          · exact h0
          · rw [List.getElem?_eq_none (by simp;omega)] at hp;cases hp
        rw [h0] at hp
        simp at hp
        subst hp
        have : j = n:=by omega
        subst this
        exact ⟨cs,hcs,ha⟩
theorem opens_slice {α : Type} {P : Program} {t e : TypeId} {d : Kd α} {Wf : α → Prop} (ht : P.underlying t = some (.slice e)) (hC : P.cellsOf e = d.sz) (ho : Opens P e d Wf) :
    Opens P t (Kd.slice e d) (fun xs=>xs.length ≤ maxLen ∧ ∀ y ∈ xs,Wf y):=by
  intro H enc W spare held fuel cs x h
  rcases open_slice ht h with ⟨rfl,_⟩|⟨a,len,cap,m,n,D,Pl,rfl,_,hl,hm,hmm,_,hi⟩
  · exact ⟨[],⟨none,0,rfl,Nat.le_refl _,rfl,by simp,fun h=>by simp at h⟩,by simp [maxLen],fun y hy=>by simp at hy⟩
  · have hml : len ≤ m:=by rw [hmm];split <;> omega
    obtain ⟨xs,hxl,hw,hx⟩:=opens_row (W:=W) (d:=d) (Wf:=Wf) (fun i cs'=>W.cells? 0 (a.add (i * P.cellsOf e)) (P.cellsOf e) = some cs' ∧ DataW.trod enc P W 0 spare held n e cs' = some (D i,Pl i))
      (fun i cs' hq=>ho hq.2) len (fun i hi'=>hi i (by omega))
    refine ⟨xs,⟨some a,cap,by rw [hxl],by omega,rfl,?_,fun _=>⟨a,rfl,fun j p hj=>?_⟩⟩,by omega,hw⟩
    · simp only [maxLen] at hm
      omega
    · obtain ⟨cs',⟨hc,_⟩,hK⟩:=hx j p hj
      obtain ⟨_,hcl,hat⟩:=World.cells?_some hc
      refine ⟨cs',d.K_len hK,hK,fun i u hu=>?_⟩
      have hil : i < cs'.length:=(List.getElem?_eq_some_iff.1 hu).1
      have h1:=hat i (by omega)
      rw [hC] at h1
      rw [← Go.Deep.add_add,h1,hu]
section
variable {α β γ δ : Type} {P : Program} {t : TypeId} {f0 f1 f2 f3 : Field} {d0 : Kd α} {d1 : Kd β} {d2 : Kd γ} {d3 : Kd δ} {W0 : α → Prop} {W1 : β → Prop} {W2 : γ → Prop} {W3 : δ → Prop}
end
theorem opens_arg {α : Type} {P : Program} {t e : TypeId} {d : Kd α} {Wf : List α → Prop} (ho : Opens P t (Kd.slice e d) Wf) {H : Type} {enc : TypeId × Value → H} {W : World} {spare : Nat → Bool} {held : Bool} {a : Option Addr} {len cap : Nat} {dd : DataW H} {p : List MemPlace}
    (h : DataW.Trod enc P W 0 spare held t (.slice a len cap) dd p) : ∃ l : List α,len = l.length ∧ l.length ≤ cap ∧ Kd.C d W a l.length l ∧ Wf l:=by
  obtain ⟨fuel,hf⟩:=h
  obtain ⟨l,⟨A,c,he,hl,hC⟩,hw⟩:=ho hf
  simp [Value.cells] at he
  obtain ⟨rfl,rfl,rfl⟩:=he
  exact ⟨l,rfl,hl,hC,hw⟩
end Go.Proofs.Ytbglkkepfddecaa.G
