/- Texts of the proof of FnTides, joined in build order. -/
import Derived.Test.YtbglkkepfddecaaMgFnTides1
import Derived.Test.YtbglkkepfddecaaMgFnTides2
import Derived.Test.YtbglkkepfddecaaMgFnTides3
-- Written by wip/tools/gen.py out of the translation (the kit's printer, one namespace a seat). Lean checks it.
namespace Go.Proofs.Ytbglkkepfddecaa.G
open Go.RowKit Go.Proofs.YtbglkkepfddecaaW.PrintWords Go.Proofs.YtbglkkepfddecaaW.PrintLast Go.Proofs.YtbglkkepfddecaaW.PrintMore
attribute [local go_sem] max2_int min2_int max_two min_two max_three min_three max_four min_four   -- for this text's walks alone
set_option linter.unusedVariables false
set_option linter.unusedSimpArgs false

/-! ### impl_ShiftTides: function 20 -/
mutual
def impl_ShiftTides.j0 : Nat → List (S60) → Int → Int → Bool → Option ((List (S60)) × Bool)
 | 0,_,_,_,_=>none
 | k + 1,x0,x1,x2,x23=>if x23 = true then (some (([] : List (S60)),false)) else (impl_ShiftTides.l0 k x1 x2 (([] : List (S60))) x0 (x0.length : Int) 0)
def impl_ShiftTides.l0 : Nat → Int → Int → List (S60) → List (S60) → Int → Int → Option ((List (S60)) × Bool)
 | 0,_,_,_,_,_,_=>none
 | k + 1,x1,x2,x8,x25,x26,x27=>if x27 < x26 then (if 0 ≤ x27 then (if x27 < (x25.length : Int) then (if x8.length < 8796093022208 then (impl_ShiftTides.l0 k x1 x2 (x8 ++ [(⟨wrap64 (((rd_T60 x25 x27).f0) + x1),wrap64 (((rd_T60 x25 x27).f1) + x2)⟩ : S60)]) x25 x26 (wrap64 (x27 + 1))) else (none)) else (none)) else (none)) else ((impl_IsValidTides.f k x8).bind fun t182=>(if t182 = true then (some (x8,true)) else (some (([] : List (S60)),false))))
end
def impl_ShiftTides.f (k : Nat) (l0 : List (S60)) (a1 : Int) (a2 : Int) : Option ((List (S60)) × Bool):=(impl_IsValidTides.f k l0).bind fun t171=>(if t171 = true then ((impl_within.f a1 (-240) 240).bind fun t172=>(if t172 = true then ((impl_within.f a2 (-2000) 2000).bind fun t173=>(impl_ShiftTides.j0 k l0 a1 a2 (!t173))) else (impl_ShiftTides.j0 k l0 a1 a2 true))) else (impl_ShiftTides.j0 k l0 a1 a2 true))
set_option maxHeartbeats 8000000 in
set_option maxRecDepth 100000 in
theorem impl_ShiftTides.calls (k : Nat) (A0 : Option Addr) (c0 : Nat) (l0 : List (S60)) (a1 : Int) (a2 : Int) (r1 : List (S60)) (r2 : Bool) (w : World) (hr0 : Kd.C k60 w A0 l0.length l0) (hc0 : l0.length ≤ c0) (h : impl_ShiftTides.f k l0 a1 a2 = some (r1,r2)) :
  Calls Try.prog 20 #[.slice A0 l0.length c0,.int .i64 a1,.int .i64 a2] w fun e w' => ∃ v0_ : Value,e = .returned (.tuple #[v0_,.bool r2]) ∧ Kd.R k60 60 w' w.heap.size (fun _=>True) v0_ r1 ∧ Below w.heap.size w w':=by
 have hu60:=Try.underlying60
 have HR0:=zM hr0
 have HC0:=zM hc0
 clear hr0 hc0
 have HB:=zM (Below.refl w.heap.size w)
 have H : ((impl_IsValidTides.f k l0).bind fun t171=>(if t171 = true then ((impl_within.f a1 (-240) 240).bind fun t172=>(if t172 = true then ((impl_within.f a2 (-2000) 2000).bind fun t173=>(impl_ShiftTides.j0 k l0 a1 a2 (!t173))) else (impl_ShiftTides.j0 k l0 a1 a2 true))) else (impl_ShiftTides.j0 k l0 a1 a2 true))) = some (r1,r2):=h
 clear h
 have HC4:=zM H
 clear H
 go_enter Try.func20,Try.ntmps20
 go_upto_region 1 with (fail)
 go_cut [23] (fun v23 wc => ∃ (kq : Nat) (x23_3 : Bool),v23 = .bool x23_3 ∧ Aside0 (impl_ShiftTides.j0 kq l0 a1 a2 x23_3 = some (r1,r2)) ∧ Aside0 (kq ≤ k) ∧ Aside0 (Below w.heap.size w wc))
 case first =>
  have H:=HC4.out
  clear HC4
  replace H:=Option.bind_eq_some_iff.mp H
  obtain ⟨t171,A50,H⟩:=H
  replace H : (if t171 = true then ((impl_within.f a1 (-240) 240).bind fun t172=>(if t172 = true then ((impl_within.f a2 (-2000) 2000).bind fun t173=>(impl_ShiftTides.j0 k l0 a1 a2 (!t173))) else (impl_ShiftTides.j0 k l0 a1 a2 true))) else (impl_ShiftTides.j0 k l0 a1 a2 true)) = some (r1,r2):=H
  have A5:=zM A50
  clear A50
  by_cases c6 : t171 = true
  ·subst c6
   have H1 : ((impl_within.f a1 (-240) 240).bind fun t172=>(if t172 = true then ((impl_within.f a2 (-2000) 2000).bind fun t173=>(impl_ShiftTides.j0 k l0 a1 a2 (!t173))) else (impl_ShiftTides.j0 k l0 a1 a2 true))) = some (r1,r2):=by rw [if_pos rfl] at H;exact H
   clear H
   have H:=H1
   clear H1
   replace H:=Option.bind_eq_some_iff.mp H
   obtain ⟨t172,A70,H⟩:=H
   replace H : (if t172 = true then ((impl_within.f a2 (-2000) 2000).bind fun t173=>(impl_ShiftTides.j0 k l0 a1 a2 (!t173))) else (impl_ShiftTides.j0 k l0 a1 a2 true)) = some (r1,r2):=H
   have A7:=zM A70
   clear A70
   by_cases c8 : t172 = true
   ·subst c8
    have H1 : ((impl_within.f a2 (-2000) 2000).bind fun t173=>(impl_ShiftTides.j0 k l0 a1 a2 (!t173))) = some (r1,r2):=by rw [if_pos rfl] at H;exact H
    clear H
    have H:=H1
    clear H1
    replace H:=Option.bind_eq_some_iff.mp H
    obtain ⟨t173,A90,H⟩:=H
    replace H : (impl_ShiftTides.j0 k l0 a1 a2 (!t173)) = some (r1,r2):=H
    have A9:=zM A90
    clear A90
    have H':=zM H
    clear H
    go_wp2_with (first|((with_reducible refine gate_callee (f:=17) rfl ?_);refine goesL_ (some 12) rfl rfl Try.func17 (by kernel_rfl) rfl #[.slice A0 l0.length c0] rfl (by (try simp only [List.map_toArray,List.map_cons,List.map_nil]);first|done|rfl|(simp only [List.length_drop,List.length_take];rfl)) ?_;(with_reducible refine (impl_IsValidTides.calls k _ _ l0 true _ ?side1 ?side2 A5.out).mono ?_);(case side1=>repeat (first|exact (zO HR0.out HB.out)|(with_reducible refine zG ?_ _)|(with_reducible refine zH ?_ _)|(with_reducible refine zI ?_)));(case side2=>exact HC0.out);rintro e w10 ⟨rfl,hb⟩;refine ⟨_,rfl,?_⟩;have n0_:=zM (zQ (by repeat (first|(with_reducible first|exact HB.out|apply zD|apply zE|apply zF)|exact HB.out)) hb);clear HB;have HB:=n0_;clear n0_;(try clear hb);(try clear hb2);(try clear hk);(try clear hi))|(go_at_call 54;(with_reducible refine (impl_within.calls a1 (-240) 240 true _ A7.out).mono ?_);rintro e w' ⟨rfl,⟨nd,rfl⟩⟩)|(go_at_call 54;(with_reducible refine (impl_within.calls a2 (-2000) 2000 t173 _ A9.out).mono ?_);rintro e w' ⟨rfl,⟨nd,rfl⟩⟩))
    go_meet
    case rel=>exact ⟨_,(!t173),(by first|rfl|(simp;done)|(simp [*];done)),H',⟨by first|omega|exact Nat.le_refl _⟩,⟨by repeat (first|(with_reducible first|exact HB.out|apply zD|apply zE|apply zF)|exact HB.out)⟩⟩
   ·replace c8:=Bool.eq_false_iff.mpr c8
    subst c8
    have H1 : (impl_ShiftTides.j0 k l0 a1 a2 true) = some (r1,r2):=by rw [if_neg (show ¬ (false = true) by decide)] at H;exact H
    clear H
    have H:=H1
    clear H1
    have H':=zM H
    clear H
    go_wp2_with (first|((with_reducible refine gate_callee (f:=17) rfl ?_);refine goesL_ (some 12) rfl rfl Try.func17 (by kernel_rfl) rfl #[.slice A0 l0.length c0] rfl (by (try simp only [List.map_toArray,List.map_cons,List.map_nil]);first|done|rfl|(simp only [List.length_drop,List.length_take];rfl)) ?_;(with_reducible refine (impl_IsValidTides.calls k _ _ l0 true _ ?side1 ?side2 A5.out).mono ?_);(case side1=>repeat (first|exact (zO HR0.out HB.out)|(with_reducible refine zG ?_ _)|(with_reducible refine zH ?_ _)|(with_reducible refine zI ?_)));(case side2=>exact HC0.out);rintro e w11 ⟨rfl,hb⟩;refine ⟨_,rfl,?_⟩;have n0_:=zM (zQ (by repeat (first|(with_reducible first|exact HB.out|apply zD|apply zE|apply zF)|exact HB.out)) hb);clear HB;have HB:=n0_;clear n0_;(try clear hb);(try clear hb2);(try clear hk);(try clear hi))|(go_at_call 54;(with_reducible refine (impl_within.calls a1 (-240) 240 false _ A7.out).mono ?_);rintro e w' ⟨rfl,⟨nd,rfl⟩⟩))
    go_meet
    case rel=>exact ⟨_,(true),(by first|rfl|(simp;done)|(simp [*];done)),H',⟨by first|omega|exact Nat.le_refl _⟩,⟨by repeat (first|(with_reducible first|exact HB.out|apply zD|apply zE|apply zF)|exact HB.out)⟩⟩
  ·replace c6:=Bool.eq_false_iff.mpr c6
   subst c6
   have H1 : (impl_ShiftTides.j0 k l0 a1 a2 true) = some (r1,r2):=by rw [if_neg (show ¬ (false = true) by decide)] at H;exact H
   clear H
   have H:=H1
   clear H1
   have H':=zM H
   clear H
   go_wp2_with (first|((with_reducible refine gate_callee (f:=17) rfl ?_);refine goesL_ (some 12) rfl rfl Try.func17 (by kernel_rfl) rfl #[.slice A0 l0.length c0] rfl (by (try simp only [List.map_toArray,List.map_cons,List.map_nil]);first|done|rfl|(simp only [List.length_drop,List.length_take];rfl)) ?_;(with_reducible refine (impl_IsValidTides.calls k _ _ l0 false _ ?side1 ?side2 A5.out).mono ?_);(case side1=>repeat (first|exact (zO HR0.out HB.out)|(with_reducible refine zG ?_ _)|(with_reducible refine zH ?_ _)|(with_reducible refine zI ?_)));(case side2=>exact HC0.out);rintro e w12 ⟨rfl,hb⟩;refine ⟨_,rfl,?_⟩;have n0_:=zM (zQ (by repeat (first|(with_reducible first|exact HB.out|apply zD|apply zE|apply zF)|exact HB.out)) hb);clear HB;have HB:=n0_;clear n0_;(try clear hb);(try clear hb2);(try clear hk);(try clear hi)))
   go_meet
   case rel=>exact ⟨_,(true),(by first|rfl|(simp;done)|(simp [*];done)),H',⟨by first|omega|exact Nat.le_refl _⟩,⟨by repeat (first|(with_reducible first|exact HB.out|apply zD|apply zE|apply zF)|exact HB.out)⟩⟩
 case rest =>
  clear HC4
  try clear c1
  try clear c2
  try clear p2
  try clear c6
  try clear c8
  obtain ⟨kq,x23_3,rfl,HA,HJ3,HB⟩:=hcut
  cases kq with
  | zero=>exact absurd HA.out (by simp [impl_ShiftTides.j0])
  | succ kj3 =>
   have H:=HA.out
   clear HA
   simp only [impl_ShiftTides.j0] at H
   by_cases c13 : x23_3 = true
   ·subst c13
    have H1 : (some (([] : List (S60)),false)) = some (r1,r2):=by rw [if_pos rfl] at H;exact H
    clear H
    have H:=H1
    clear H1
    simp only [Option.some.injEq,Prod.mk.injEq] at H
    obtain ⟨rfl,rfl⟩:=H
    go_wp2
    go_ret2
    exact ⟨_,by first|rfl|(simp [errW_none,errW_some] <;> rfl)|(simp [*,errW_none,errW_some] <;> rfl),by first|exact Kd.R_nil _ _ _ _ _|exact Kd.N_nil _ _ _ _ _|exact Kd.V_nil _ _ _ _ _|exact Kd.Q_nil _ _ _ _ _|exact Kd.S_nil _ _ _ _ _,by repeat (first|(with_reducible first|exact HB.out|apply zD|apply zE|apply zF)|exact HB.out)⟩
   ·replace c13:=Bool.eq_false_iff.mpr c13
    subst c13
    have H1 : (impl_ShiftTides.l0 kj3 a1 a2 (([] : List (S60))) l0 (l0.length : Int) 0) = some (r1,r2):=by rw [if_neg (show ¬ (false = true) by decide)] at H;exact H
    clear H
    have H:=H1
    clear H1
    obtain ⟨y174,hy174⟩ : ∃ y_ : List (S60),y_ = (([] : List (S60))):=⟨_,rfl⟩
    replace H : (impl_ShiftTides.l0 kj3 a1 a2 y174 l0 (l0.length : Int) 0) = some (r1,r2):=by first|(rw [hy174];with_reducible exact H)|(have H2_:=(Option.bind_some _ _).symm.trans H;rw [hy174];with_reducible exact H2_)|(have H2_:=(Option.bind_some _ _).symm.trans H;with_reducible exact H2_)|with_reducible exact H|(rw [hy174];exact H)|exact H
    have Ny174:=zM hy174
    clear hy174
    have H':=zM H
    clear H
    go_wp2_with (first|((with_reducible refine gate_dst (N:=24) rfl ?_);refine Kd.R_lit k60 _ 60 ?hg (N:=24) ?hd (xs:=([] : List (S60))) (inner:=[]) (ok:=fun _=>True) (okp:=fun _=>True) ?hr ?hp (fun _ hk=>hk) trivial (Below.refl _ _) (Nat.le_refl _) (by simp) ?_;(case hd=>rfl);(case hg=>rfl);(case hr=>first|(go_simp;done)|(go_simp;rfl));(case hp=>exact (Reps.none _ _));intro v175 w14 ho15 hb hg_ hnew_;clear hg_ hnew_;(first|rw [← Ny174.out] at ho15|(simp only [Int.reduceToNat] at ho15;rw [← Ny174.out] at ho15));have n0_:=zM (Kd.R_lower ho15 (zR (by repeat (first|(with_reducible first|exact HB.out|apply zD|apply zE|apply zF)|exact HB.out))));have n1_:=zM (zQ (by repeat (first|(with_reducible first|exact HB.out|apply zD|apply zE|apply zF)|exact HB.out)) hb);clear HB;have HO176:=n0_;have HB:=n1_;clear n0_ n1_;clear hb ho15))
    go_loopg [8,27] kj3 (fun kq v8 v27 w' => ∃ (x8_2 : List (S60)) (x27_2 : Int),v27 = .int .i64 x27_2 ∧ Aside0 (impl_ShiftTides.l0 kq a1 a2 x8_2 l0 (l0.length : Int) x27_2 = some (r1,r2)) ∧ Aside0 (kq ≤ kj3) ∧ Aside0 (Kd.R k60 60 w' w.heap.size (fun _=>True) v8 x8_2) ∧ Aside0 (Below w.heap.size w w'))
    case atStart=>exact ⟨(y174),(0),(by first|rfl|(simp;done)|(simp [*];done)),H',⟨Nat.le_refl _⟩,⟨by (with_reducible repeat (first|apply zA|apply zB|apply zC));exact HO176.out⟩,⟨by repeat (first|(with_reducible first|exact HB.out|apply zD|apply zE|apply zF)|exact HB.out)⟩⟩
    case round =>
     clear H'
     try clear c1
     try clear c2
     try clear p2
     try clear c6
     try clear c8
     try clear c13
     try clear p2
     obtain ⟨x8_2,x27_2,rfl,HA,HK2,HO_8,HB⟩:=hrel
     cases gk with
     | zero=>exact absurd HA.out (by simp [impl_ShiftTides.l0])
     | succ k2 =>
      have H:=HA.out
      clear HA
      simp only [impl_ShiftTides.l0] at H
      by_cases c16 : x27_2 < (l0.length : Int)
      ·rw [if_pos c16] at H
       have c16b0 : decide (x27_2 < (l0.length : Int)) = true:=decide_eq_true c16
       clear c16
       by_cases c17 : 0 ≤ x27_2
       ·rw [if_pos c17] at H
        have c17b0 : decide (0 ≤ x27_2) = true:=decide_eq_true c17
        clear c17
        by_cases c18 : x27_2 < (l0.length : Int)
        ·rw [if_pos c18] at H
         have c18b0 : decide (x27_2 < (l0.length : Int)) = true:=decide_eq_true c18
         clear c18
         by_cases c19 : x8_2.length < 8796093022208
         ·rw [if_pos c19] at H
          have LMc19:=zM c19
          clear c19
          obtain ⟨y179,hy179⟩ : ∃ y_ : List (S60),y_ = (x8_2 ++ [(⟨wrap64 (((rd_T60 l0 x27_2).f0) + a1),wrap64 (((rd_T60 l0 x27_2).f1) + a2)⟩ : S60)]):=⟨_,rfl⟩
          replace H : (impl_ShiftTides.l0 k2 a1 a2 y179 l0 (l0.length : Int) (wrap64 (x27_2 + 1))) = some (r1,r2):=by first|(rw [hy179];with_reducible exact H)|(have H2_:=(Option.bind_some _ _).symm.trans H;rw [hy179];with_reducible exact H2_)|(have H2_:=(Option.bind_some _ _).symm.trans H;with_reducible exact H2_)|with_reducible exact H|(rw [hy179];exact H)|exact H
          have Ny179:=zM hy179
          clear hy179
          have H':=zM H
          clear H
          have p177 : 0 ≤ (x27_2 : Int):=of_decide_eq_true (by first|(with_reducible assumption)|assumption)
          have q177 : x27_2 < (l0.length : Int):=of_decide_eq_true (by first|(with_reducible assumption)|assumption)
          obtain ⟨ad177,e177,hx177_0,hx177_1⟩:=at_T60 HR0.out x27_2 p177 q177
          cases e177
          replace hx177_0:=(HB.out.cell (World.block_lt_of_cell? w _ hx177_0)).trans hx177_0
          replace hx177_1:=(HB.out.cell (World.block_lt_of_cell? w _ hx177_1)).trans hx177_1
          replace p177:=eq_true p177
          replace q177:=eq_true q177
          go_wp2_with (first|((with_reducible refine gate_dst (N:=10) rfl ?_);refine box_event ?hg (N:=10) ?hd (cs := #[.int .i64 0,.int .i64 0]) (t:=60) ?hr ?_;(case hd=>rfl);(case hg=>rfl);(case hr=>first|(go_simp;done)|(go_simp;rfl));intro gb178 hg w20 hbox hb;have n0_:=zM (zP (Kd.R_elderB (by (with_reducible repeat (first|apply zA|apply zB|apply zC));exact HO_8.out) gb178 (Nat.le_of_eq hg.symm)) hb);have n1_:=zM (zQ (by repeat (first|(with_reducible first|exact HB.out|apply zD|apply zE|apply zF)|exact HB.out)) hb);have n2_:=zM (hbox);have n3_:=zM ((by rw [hg];exact (zR (by repeat (first|(with_reducible first|exact HB.out|apply zD|apply zE|apply zF)|exact HB.out))) : w.heap.size ≤ gb178));have n4_:=zM ((by rw [hg];exact (zR (by repeat (first|(with_reducible first|exact HB.out|apply zD|apply zE|apply zF)|exact HB.out))) : w.heap.size ≤ gb178));clear HO_8;clear HB;have HO_8:=n0_;have HB:=n1_;have BK178:=n2_;have GW178:=n3_;have GE178:=n4_;clear n0_ n1_ n2_ n3_ n4_;clear hb hbox hg;have hcz21_0 : w20.cell? ⟨gb178,0,none⟩ = some (.int .i64 0):=(blk_cell BK178.out 0).trans rfl;have hcz21_1 : w20.cell? ⟨gb178,1,none⟩ = some (.int .i64 0):=(blk_cell BK178.out 1).trans rfl;have hfz21_0:=blk_frozen BK178.out 0;have hfz21_1:=blk_frozen BK178.out 1)|((with_reducible refine gate_builtin (b := .append) (xs := #[.tmp 31,.tmp 41]) rfl ?_);at_builtin;refine Kd.R_append k60 (w0:=w) w.heap.size rfl (.tmp 31) (.tmp 41) 25 60 (.agg #[(.int .i64 0),(.int .i64 0)]) 16 rfl Try.underlying25 info60 rfl (by decide) (by omega) u8 x8_2 (⟨wrap64 (((rd_T60 l0 x27_2).f0) + a1),wrap64 (((rd_T60 l0 x27_2).f1) + a2)⟩ : S60) [.int .i64 (wrap64 (((rd_T60 l0 x27_2).f0) + a1)),.int .i64 (wrap64 (((rd_T60 l0 x27_2).f1) + a2))] (fun k_=>k_ ≠ gb178) (fun _=>False) rfl (by first|(go_simp;done)|(go_simp;rfl)) ?aP (fun _ hk=>hk.elim) ?aF ?aO ?aB ?aS ?aL ?_;(case aP=>exact k60_mkM _ _ _ (⟨wrap64 (((rd_T60 l0 x27_2).f0) + a1),wrap64 (((rd_T60 l0 x27_2).f1) + a2)⟩ : S60));(case aB=>exact (by repeat (first|(with_reducible first|exact HB.out|apply zD|apply zE|apply zF|refine below_set ?_ GE178.out)|exact HB.out)));(case aF=>exact (fun k_ hk=>Kd.freshB (g:=gb178) (o := .cells #[.int .i64 ((rd_T60 l0 x27_2).f0),.int .i64 ((rd_T60 l0 x27_2).f1)] 60 (0,0)) (by (with_reducible repeat (first|refine zJ ?_ _|refine zK ?_|refine zL ?_ _));refine blk_put (cs := #[.int .i64 ((rd_T60 l0 x27_2).f0),.int .i64 0]) ?_ 1 _ rfl;(with_reducible repeat (first|refine zJ ?_ _|refine zK ?_|refine zL ?_ _));refine blk_put (cs := #[.int .i64 0,.int .i64 0]) ?_ 0 _ rfl;(with_reducible repeat (first|refine zJ ?_ _|refine zK ?_|refine zL ?_ _));exact BK178.out) k_ hk));(case aO=>exact (by (with_reducible repeat (first|apply zA|apply zB|apply zC));exact Kd.R_mono (Kd.R_far (p:=⟨gb178,1,none⟩) (Kd.R_far (p:=⟨gb178,0,none⟩) (Kd.R_mono HO_8.out (fun k_ hk=>(⟨hk,hk.2⟩ : _ ∧ k_ ≠ gb178))) (fun _ hk=>hk.2) (.int .i64 ((rd_T60 l0 x27_2).f0))) (fun _ hk=>hk.2) (.int .i64 ((rd_T60 l0 x27_2).f1))) (fun _ hk=>hk.1.2)));(case aS=>exact (zR (by repeat (first|(with_reducible first|exact HB.out|apply zD|apply zE|apply zF|refine below_set ?_ GE178.out)|exact HB.out))));(case aL=>have:=LMc19.out;omega);intro v180 w22 ho hb hg hat;rw [← Ny179.out] at ho;have n0_:=zM (blk_grown (g:=gb178) (o := .cells #[.int .i64 ((rd_T60 l0 x27_2).f0),.int .i64 ((rd_T60 l0 x27_2).f1)] 60 (0,0)) (by (with_reducible repeat (first|refine zJ ?_ _|refine zK ?_|refine zL ?_ _));refine blk_put (cs := #[.int .i64 ((rd_T60 l0 x27_2).f0),.int .i64 0]) ?_ 1 _ rfl;(with_reducible repeat (first|refine zJ ?_ _|refine zK ?_|refine zL ?_ _));refine blk_put (cs := #[.int .i64 0,.int .i64 0]) ?_ 0 _ rfl;(with_reducible repeat (first|refine zJ ?_ _|refine zK ?_|refine zL ?_ _));exact BK178.out) hg (Kd.R_away HO_8.out (fun _ hk=>hk.2)));have n1_:=zM (hb);have n2_:=zM (ho);clear BK178;clear HB;clear HO_8;have BK178:=n0_;have HB:=n1_;have HO181:=n2_;clear n0_ n1_ n2_;clear ho hb hg hat))
          go_roundg k2
          case measure=>have:=HJ3.out;have:=HK2.out;omega
          case rel=>exact ⟨(y179),(wrap64 (x27_2 + 1)),(by first|rfl|(simp;done)|(simp [*];done)),H',⟨by have:=HJ3.out;have:=HK2.out;omega⟩,⟨by (with_reducible repeat (first|apply zA|apply zB|apply zC));exact Kd.R_mono HO181.out (fun _ hk=>trivial)⟩,⟨by repeat (first|(with_reducible first|exact HB.out|apply zD|apply zE|apply zF|refine below_set ?_ GE178.out)|exact HB.out)⟩⟩
         ·rw [if_neg c19] at H
          exact absurd H (by simp)
        ·rw [if_neg c18] at H
         exact absurd H (by simp)
       ·rw [if_neg c17] at H
        exact absurd H (by simp)
      ·rw [if_neg c16] at H
       have c16b0 : decide (x27_2 < (l0.length : Int)) = false:=decide_eq_false c16
       clear c16
       replace H:=Option.bind_eq_some_iff.mp H
       obtain ⟨t182,A230,H⟩:=H
       replace H : (if t182 = true then (some (x8_2,true)) else (some (([] : List (S60)),false))) = some (r1,r2):=H
       have A23:=zM A230
       clear A230
       by_cases c24 : t182 = true
       ·subst c24
        have H1 : (some (x8_2,true)) = some (r1,r2):=by rw [if_pos rfl] at H;exact H
        clear H
        have H:=H1
        clear H1
        simp only [Option.some.injEq,Prod.mk.injEq] at H
        obtain ⟨rfl,rfl⟩:=H
        obtain ⟨Ao25,co25,eo25⟩:=Kd.R_slice HO_8.out
        subst eo25
        go_wp2_with (first|((with_reducible refine gate_callee (f:=17) rfl ?_);refine goesL_ (some 45) rfl rfl Try.func17 (by kernel_rfl) rfl #[.slice Ao25 x8_2.length co25] rfl (by (try simp only [List.map_toArray,List.map_cons,List.map_nil]);first|done|rfl|(simp only [List.length_drop,List.length_take];rfl)) ?_;(with_reducible refine (impl_IsValidTides.calls k2 _ _ x8_2 true _ ?side1 ?side2 A23.out).mono ?_);(case side1=>repeat (first|exact (zN HO_8.out).2.2|(with_reducible refine zG ?_ _)|(with_reducible refine zH ?_ _)|(with_reducible refine zI ?_)));(case side2=>exact (zN HO_8.out).2.1);rintro e w26 ⟨rfl,hb⟩;refine ⟨_,rfl,?_⟩;have n0_:=zM (zP (by (with_reducible repeat (first|apply zA|apply zB|apply zC));exact HO_8.out) hb);have n1_:=zM (zQ (by repeat (first|(with_reducible first|exact HB.out|apply zD|apply zE|apply zF)|exact HB.out)) hb);clear HO_8;clear HB;have HO_8:=n0_;have HB:=n1_;clear n0_ n1_;(try clear hb);(try clear hb2);(try clear hk);(try clear hi)))
        go_ret2
        exact ⟨_,by first|rfl|(simp [errW_none,errW_some] <;> rfl)|(simp [*,errW_none,errW_some] <;> rfl),by (with_reducible repeat (first|apply zA|apply zB|apply zC));exact HO_8.out,by repeat (first|(with_reducible first|exact HB.out|apply zD|apply zE|apply zF)|exact HB.out)⟩
       ·replace c24:=Bool.eq_false_iff.mpr c24
        subst c24
        have H1 : (some (([] : List (S60)),false)) = some (r1,r2):=by rw [if_neg (show ¬ (false = true) by decide)] at H;exact H
        clear H
        have H:=H1
        clear H1
        simp only [Option.some.injEq,Prod.mk.injEq] at H
        obtain ⟨rfl,rfl⟩:=H
        obtain ⟨Ao27,co27,eo27⟩:=Kd.R_slice HO_8.out
        subst eo27
        go_wp2_with (first|((with_reducible refine gate_callee (f:=17) rfl ?_);refine goesL_ (some 45) rfl rfl Try.func17 (by kernel_rfl) rfl #[.slice Ao27 x8_2.length co27] rfl (by (try simp only [List.map_toArray,List.map_cons,List.map_nil]);first|done|rfl|(simp only [List.length_drop,List.length_take];rfl)) ?_;(with_reducible refine (impl_IsValidTides.calls k2 _ _ x8_2 false _ ?side1 ?side2 A23.out).mono ?_);(case side1=>repeat (first|exact (zN HO_8.out).2.2|(with_reducible refine zG ?_ _)|(with_reducible refine zH ?_ _)|(with_reducible refine zI ?_)));(case side2=>exact (zN HO_8.out).2.1);rintro e w28 ⟨rfl,hb⟩;refine ⟨_,rfl,?_⟩;have n0_:=zM (zP (by (with_reducible repeat (first|apply zA|apply zB|apply zC));exact HO_8.out) hb);have n1_:=zM (zQ (by repeat (first|(with_reducible first|exact HB.out|apply zD|apply zE|apply zF)|exact HB.out)) hb);clear HO_8;clear HB;have HO_8:=n0_;have HB:=n1_;clear n0_ n1_;(try clear hb);(try clear hb2);(try clear hk);(try clear hi)))
        go_ret2
        exact ⟨_,by first|rfl|(simp [errW_none,errW_some] <;> rfl)|(simp [*,errW_none,errW_some] <;> rfl),by first|exact Kd.R_nil _ _ _ _ _|exact Kd.N_nil _ _ _ _ _|exact Kd.V_nil _ _ _ _ _|exact Kd.Q_nil _ _ _ _ _|exact Kd.S_nil _ _ _ _ _,by repeat (first|(with_reducible first|exact HB.out|apply zD|apply zE|apply zF)|exact HB.out)⟩

end Go.Proofs.Ytbglkkepfddecaa.G

namespace Go.Proofs.Ytbglkkepfddecaa.G
open Go.RowKit Go.Proofs.YtbglkkepfddecaaW.PrintWords Go.Proofs.YtbglkkepfddecaaW.PrintLast
set_option linter.unusedVariables false
set_option linter.unusedSimpArgs false
def shf (a b : Int) (x : S60) : S60:=⟨x.f0 + a,x.f1 + b⟩
def ShiftOk (xs : List S60) (a b : Int) : Prop:=Valid xs ∧ (-240 ≤ a ∧ a ≤ 240) ∧ (-2000 ≤ b ∧ b ≤ 2000) ∧ Valid (xs.map (shf a b))
theorem valid_bd {xs : List S60} (hv : Valid xs) (i : Int) (h0 : 0 ≤ i) (h1 : i < (xs.length : Int)) : 0 ≤ (rd_T60 xs i).f0 ∧ (rd_T60 xs i).f0 ≤ 240 ∧ 0 ≤ (rd_T60 xs i).f1 ∧ (rd_T60 xs i).f1 ≤ 2000:=(hv.2 i h0 h1).1
theorem impl_shift (xs : List S60) (a b : Int) : Ev (fun k=>impl_ShiftTides.f k xs a b) (chk (ShiftOk xs a b) (xs.map (shf a b),true) ([],false)):=by
  unfold impl_ShiftTides.f
  refine Ev.bind (impl_valid xs) ?_
  refine Ev.ite (fun hv=>?_) (fun hv=>?_)
  · have hv:=chk_true.1 hv
    simp only [impl_within_eq,Option.bind_some,decide_eq_true_eq]
    refine Ev.ite (fun ha=>?_) (fun ha=>?_)
    · refine Ev.step (fun k=>by rw [impl_ShiftTides.j0]) ?_
      refine Ev.ite (fun hb=>?_) (fun hb=>?_)
      · rw [chk_neg (fun h : ShiftOk xs a b=>by have:=h.2.2.1;simp at hb;omega)]
        exact Ev.now _
      · have hb : -2000 ≤ b ∧ b ≤ 2000:=by simpa using hb
        refine Ev.build (fun k out i=>impl_ShiftTides.l0 k a b out xs (xs.length : Int) i) xs (shf a b) z60 _ ?_ ?_
        · refine Ev.step (fun k=>by rw [impl_ShiftTides.l0]) ?_
          simp only [Int.lt_irrefl,if_false]
          refine Ev.bind (impl_valid _) ?_
          refine Ev.ite (fun h=>?_) (fun h=>?_)
          · rw [chk_pos ⟨hv,ha,hb,chk_true.1 h⟩];exact Ev.now _
          · rw [chk_neg (fun h' : ShiftOk xs a b=>h (chk_true.2 h'.2.2.2))];exact Ev.now _
        · intro out i h0 hlt hl r hr
          have bd:=valid_bd hv i h0 hlt
          have hn:=hv.1
          refine Ev.step (fun k=>by rw [impl_ShiftTides.l0]) ?_
          simp (disch:=omega) only [if_pos,wrap64_id]
          exact hr
    · refine Ev.step (fun k=>by rw [impl_ShiftTides.j0]) ?_
      simp only [if_true]
      rw [chk_neg (fun h : ShiftOk xs a b=>ha h.2.1)]
      exact Ev.now _
  · refine Ev.step (fun k=>by rw [impl_ShiftTides.j0]) ?_
    simp only [if_true]
    rw [chk_neg (fun h : ShiftOk xs a b=>hv (chk_true.2 h.1))]
    exact Ev.now _
theorem spec_shift (xs : List S60) (a b : Int) : Ev (fun k=>spec_ShiftTides.f k xs a b) (chk (ShiftOk xs a b) (xs.map (shf a b),true) ([],false)):=by
  unfold spec_ShiftTides.f
  refine Ev.bind (spec_valid xs) ?_
  refine Ev.ite (fun hv=>?_) (fun hv=>?_)
  · have hv:=chk_true.1 hv
    simp only [spec_l1In_eq,Option.bind_some,decide_eq_true_eq]
    refine Ev.ite (fun ha=>?_) (fun ha=>?_)
    · refine Ev.step (fun k=>by rw [spec_ShiftTides.j0]) ?_
      refine Ev.ite (fun hb=>?_) (fun hb=>?_)
      · rw [chk_neg (fun h : ShiftOk xs a b=>by have:=h.2.2.1;simp at hb;omega)]
        exact Ev.now _
      · have hb : -2000 ≤ b ∧ b ≤ 2000:=by simpa using hb
        refine Ev.build (fun k out i=>spec_ShiftTides.l0 k xs a b out i) xs (shf a b) z60 _ ?_ ?_
        · refine Ev.step (fun k=>by rw [spec_ShiftTides.l0]) ?_
          simp only [Int.lt_irrefl,if_false]
          refine Ev.bind (spec_valid _) ?_
          refine Ev.ite (fun h=>?_) (fun h=>?_)
          · rw [chk_pos ⟨hv,ha,hb,chk_true.1 h⟩];exact Ev.now _
          · rw [chk_neg (fun h' : ShiftOk xs a b=>h (chk_true.2 h'.2.2.2))];exact Ev.now _
        · intro out i h0 hlt hl r hr
          have bd:=valid_bd hv i h0 hlt
          have hn:=hv.1
          refine Ev.step (fun k=>by rw [spec_ShiftTides.l0]) ?_
          simp (disch:=omega) only [if_pos,wrap64_id]
          exact hr
    · refine Ev.step (fun k=>by rw [spec_ShiftTides.j0]) ?_
      simp only [if_true]
      rw [chk_neg (fun h : ShiftOk xs a b=>ha h.2.1)]
      exact Ev.now _
  · refine Ev.step (fun k=>by rw [spec_ShiftTides.j0]) ?_
    simp only [if_true]
    rw [chk_neg (fun h : ShiftOk xs a b=>hv (chk_true.2 h.1))]
    exact Ev.now _
end Go.Proofs.Ytbglkkepfddecaa.G

namespace Go.Proofs.Ytbglkkepfddecaa.G
open Go.RowKit Go.Proofs.YtbglkkepfddecaaW.PrintWords Go.Proofs.YtbglkkepfddecaaW.PrintLast
set_option linter.unusedVariables false
set_option linter.unusedSimpArgs false
theorem rd_map (f : S60 → S60) (xs : List S60) (i : Int) (h0 : 0 ≤ i) (h1 : i < (xs.length : Int)) : rd_T60 (xs.map f) i = f (rd_T60 xs i):=by
  unfold rd_T60
  exact getD_map f xs i.toNat _ _ (by omega)
theorem shift_back (xs : List S60) (a b : Int) : (xs.map (shf a b)).map (shf (-a) (-b)) = xs:=by
  rw [List.map_map]
  have : (shf (-a) (-b) ∘ shf a b) = id:=by
    funext x
    show (⟨x.f0 + a + -a,x.f1 + b + -b⟩ : S60) = x
    rw [Int.add_neg_cancel_right,Int.add_neg_cancel_right]
  rw [this,List.map_id]
theorem shiftOk_back {xs : List S60} {a b : Int} (h : ShiftOk xs a b) : ShiftOk (xs.map (shf a b)) (-a) (-b):=by
  refine ⟨h.2.2.2,by have:=h.2.1;omega,by have:=h.2.2.1;omega,?_⟩
  rw [shift_back]
  exact h.1
theorem frac_mul (a b : Int) : a = (frac a b).1 * (Int.gcd a b : Int) ∧ b = (frac a b).2 * (Int.gcd a b : Int):=by
  unfold frac
  exact ⟨(Int.tdiv_mul_cancel (Int.gcd_dvd_left a b)).symm,(Int.tdiv_mul_cancel (Int.gcd_dvd_right a b)).symm⟩
/-- The area of a shifted table. -/
theorem area_shift (xs : List S60) (a b : Int) : ∀ i : Nat,i + 1 ≤ xs.length → area (xs.map (shf a b)) i = area xs i + b * (2 * ((rd_T60 xs (i : Int)).f0 - (rd_T60 xs 0).f0)):=by
  intro i
  induction i with
  | zero=>intro _;simp [area]
  | succ i ih =>
    intro h
    unfold area
    rw [ih (by omega),rd_map _ _ _ (by omega) (by omega),rd_map _ _ _ (by omega) (by omega)]
    show area xs i + b * (2 * ((rd_T60 xs (i : Int)).f0 - (rd_T60 xs 0).f0)) + ((rd_T60 xs (i : Int)).f1 + b + ((rd_T60 xs ((i : Int) + 1)).f1 + b)) * ((rd_T60 xs ((i : Int) + 1)).f0 + a - ((rd_T60 xs (i : Int)).f0 + a)) = _
    rw [show (((i + 1 : Nat) : Int)) = (i : Int) + 1 from by omega]
    generalize (rd_T60 xs (i : Int)).f0 = p
    generalize (rd_T60 xs ((i : Int) + 1)).f0 = q
    generalize (rd_T60 xs (i : Int)).f1 = u
    generalize (rd_T60 xs ((i : Int) + 1)).f1 = v
    generalize (rd_T60 xs 0).f0 = z
    generalize area xs i = A
    rw [show q + a - (p + a) = q - p from by omega,show u + b + (v + b) = (u + v) + 2 * b from by omega,Int.add_mul]
    have e : b * (2 * (q - z)) = b * (2 * (p - z)) + 2 * b * (q - p):=by
      rw [Int.mul_comm 2 b,Int.mul_assoc,← Int.mul_add]
      congr 1
      omega
    omega
def meanD (xs : List S60) : Int:=2 * ((rd_T60 xs ((xs.length : Int) - 1)).f0 - (rd_T60 xs 0).f0)
theorem mean_shift {xs : List S60} {a b : Int} (hs : ShiftOk xs a b) : (meanOf (xs.map (shf a b))).1 * (meanOf xs).2 = ((meanOf xs).1 + b * (meanOf xs).2) * (meanOf (xs.map (shf a b))).2:=by
  have hl:=hs.1.1
  have d:=mean_den hs.1
  have e1 : meanOf (xs.map (shf a b)) = frac (area xs (xs.length - 1) + b * meanD xs) (meanD xs):=by
    unfold meanOf
    rw [List.length_map,rd_map _ _ _ (by omega) (by omega),rd_map _ _ _ (by omega) (by omega),area_shift _ _ _ _ (by omega)]
    rw [show (((xs.length - 1 : Nat) : Int)) = (xs.length : Int) - 1 from by omega]
    unfold meanD shf
    dsimp only
    rw [show (rd_T60 xs ((xs.length : Int) - 1)).f0 + a - ((rd_T60 xs 0).f0 + a) = (rd_T60 xs ((xs.length : Int) - 1)).f0 - (rd_T60 xs 0).f0 from by omega]
  have e2 : meanOf xs = frac (area xs (xs.length - 1)) (meanD xs):=rfl
  have hD : 0 < meanD xs:=by unfold meanD;omega
  rw [e1,e2]
  generalize area xs (xs.length - 1) = A
  generalize meanD xs = D at hD
  obtain ⟨p1,p2⟩:=frac_mul A D
  obtain ⟨q1,q2⟩:=frac_mul (A + b * D) D
  have g1:=gcd_pos (a:=A) hD
  have g2:=gcd_pos (a:=A + b * D) hD
  generalize (Int.gcd A D : Int) = G at p1 p2 g1
  generalize (Int.gcd (A + b * D) D : Int) = H at q1 q2 g2
  generalize (frac A D).1 = n at *
  generalize (frac A D).2 = m at *
  generalize (frac (A + b * D) D).1 = n2 at *
  generalize (frac (A + b * D) D).2 = m2 at *
  have hG : G ≠ 0:=by omega
  have hH : H ≠ 0:=by omega
  apply Int.eq_of_mul_eq_mul_right hG
  apply Int.eq_of_mul_eq_mul_right hH
  calc n2 * m * G * H = (n2 * H) * (m * G):=by
        rw [Int.mul_assoc n2 m G,Int.mul_assoc n2 (m * G) H,Int.mul_comm (m * G) H,← Int.mul_assoc]
    _ = (A + b * D) * D:=by rw [← q1,← p2]
    _ = (n * G + b * (m * G)) * (m2 * H):=by rw [← p1,← p2,← q2]
    _ = (n + b * m) * m2 * G * H:=by
        rw [← Int.mul_assoc b m G,← Int.add_mul,Int.mul_assoc (n + b * m) G,Int.mul_assoc (n + b * m) m2 G,Int.mul_assoc (n + b * m) (m2 * G) H]
        congr 1
        rw [Int.mul_comm G (m2 * H),Int.mul_assoc m2 H G,Int.mul_assoc m2 G H,Int.mul_comm H G]
theorem steep_shift (xs : List S60) (a b : Int) : ∀ i : Nat,i + 1 ≤ xs.length → steep (xs.map (shf a b)) i = steep xs i:=by
  intro i
  induction i with
  | zero=>intro _;rfl
  | succ i ih =>
    intro h
    unfold steep
    rw [ih (by omega),rd_map _ _ _ (by omega) (by omega),rd_map _ _ _ (by omega) (by omega)]
    unfold shf
    dsimp only
    rw [show (rd_T60 xs ((i : Int) + 1)).f1 + b - ((rd_T60 xs (i : Int)).f1 + b) = (rd_T60 xs ((i : Int) + 1)).f1 - (rd_T60 xs (i : Int)).f1 from by omega,show (rd_T60 xs ((i : Int) + 1)).f0 + a - ((rd_T60 xs (i : Int)).f0 + a) = (rd_T60 xs ((i : Int) + 1)).f0 - (rd_T60 xs (i : Int)).f0 from by omega]
theorem steepOf_shift {xs : List S60} (h : 2 ≤ (xs.length : Int)) (a b : Int) : steepOf (xs.map (shf a b)) = steepOf xs:=by
  unfold steepOf
  rw [List.length_map,steep_shift xs a b _ (by omega)]
/-- The area lies between those of the lowest and of the highest tide. -/
theorem area_low {xs : List S60} (hv : Valid xs) (L : Int) (hL : ∀ i,0 ≤ i → i < (xs.length : Int) → L ≤ (rd_T60 xs i).f1) : ∀ i : Nat,i + 1 ≤ xs.length → L * (2 * ((rd_T60 xs (i : Int)).f0 - (rd_T60 xs 0).f0)) ≤ area xs i:=by
  intro i
  induction i with
  | zero=>intro _;simp [area]
  | succ i ih =>
    intro h
    have:=ih (by omega)
    have l0:=hL (i : Int) (by omega) (by omega)
    have l1:=hL ((i : Int) + 1) (by omega) (by omega)
    have lt:=valid_lt hv (show 0 ≤ (i : Int) by omega) (show (i : Int) < i + 1 by omega) (by omega)
    unfold area
    rw [show (((i + 1 : Nat) : Int)) = (i : Int) + 1 from by omega]
    generalize (rd_T60 xs (i : Int)).f0 = p at *
    generalize (rd_T60 xs ((i : Int) + 1)).f0 = q at *
    generalize (rd_T60 xs (i : Int)).f1 = u at *
    generalize (rd_T60 xs ((i : Int) + 1)).f1 = v at *
    generalize (rd_T60 xs 0).f0 = z at *
    have e : L * (2 * (q - z)) = L * (2 * (p - z)) + 2 * L * (q - p):=by
      rw [Int.mul_comm 2 L,Int.mul_assoc,← Int.mul_add]
      congr 1
      omega
    have m:=Int.mul_le_mul_of_nonneg_right (show 2 * L ≤ u + v by omega) (show 0 ≤ q - p by omega)
    omega
theorem area_high {xs : List S60} (hv : Valid xs) (L : Int) (hL : ∀ i,0 ≤ i → i < (xs.length : Int) → (rd_T60 xs i).f1 ≤ L) : ∀ i : Nat,i + 1 ≤ xs.length → area xs i ≤ L * (2 * ((rd_T60 xs (i : Int)).f0 - (rd_T60 xs 0).f0)):=by
  intro i
  induction i with
  | zero=>intro _;simp [area]
  | succ i ih =>
    intro h
    have:=ih (by omega)
    have l0:=hL (i : Int) (by omega) (by omega)
    have l1:=hL ((i : Int) + 1) (by omega) (by omega)
    have lt:=valid_lt hv (show 0 ≤ (i : Int) by omega) (show (i : Int) < i + 1 by omega) (by omega)
    unfold area
    rw [show (((i + 1 : Nat) : Int)) = (i : Int) + 1 from by omega]
    generalize (rd_T60 xs (i : Int)).f0 = p at *
    generalize (rd_T60 xs ((i : Int) + 1)).f0 = q at *
    generalize (rd_T60 xs (i : Int)).f1 = u at *
    generalize (rd_T60 xs ((i : Int) + 1)).f1 = v at *
    generalize (rd_T60 xs 0).f0 = z at *
    have e : L * (2 * (q - z)) = L * (2 * (p - z)) + 2 * L * (q - p):=by
      rw [Int.mul_comm 2 L,Int.mul_assoc,← Int.mul_add]
      congr 1
      omega
    have m:=Int.mul_le_mul_of_nonneg_right (show u + v ≤ 2 * L by omega) (show 0 ≤ q - p by omega)
    omega
theorem mean_within {xs : List S60} (hv : Valid xs) (L U : Int) (hL : ∀ i,0 ≤ i → i < (xs.length : Int) → L ≤ (rd_T60 xs i).f1) (hU : ∀ i,0 ≤ i → i < (xs.length : Int) → (rd_T60 xs i).f1 ≤ U) : L * (meanOf xs).2 ≤ (meanOf xs).1 ∧ (meanOf xs).1 ≤ U * (meanOf xs).2:=by
  have hl:=hv.1
  have d:=mean_den hv
  have a1:=area_low hv L hL (xs.length - 1) (by omega)
  have a2:=area_high hv U hU (xs.length - 1) (by omega)
  rw [show (((xs.length - 1 : Nat) : Int)) = (xs.length : Int) - 1 from by omega] at a1 a2
  have e2 : meanOf xs = frac (area xs (xs.length - 1)) (meanD xs):=rfl
  have hD : 0 < meanD xs:=by unfold meanD;omega
  change L * meanD xs ≤ _ at a1
  change _ ≤ U * meanD xs at a2
  rw [e2]
  generalize area xs (xs.length - 1) = A at *
  generalize meanD xs = D at *
  obtain ⟨p1,p2⟩:=frac_mul A D
  have g1:=gcd_pos (a:=A) hD
  generalize (Int.gcd A D : Int) = G at p1 p2 g1
  generalize (frac A D).1 = n at *
  generalize (frac A D).2 = m at *
  subst p1
  subst p2
  rw [← Int.mul_assoc] at a1 a2
  exact ⟨Int.le_of_mul_le_mul_right a1 g1,Int.le_of_mul_le_mul_right a2 g1⟩
theorem mean_bd {xs : List S60} (hv : Valid xs) : 0 ≤ (meanOf xs).1 ∧ (meanOf xs).1 ≤ 20000000 ∧ 0 ≤ (meanOf xs).2 ∧ (meanOf xs).2 ≤ 480:=by
  have hl:=hv.1
  have d:=mean_den hv
  have a:=area_bd hv (xs.length - 1) (by omega)
  have e2 : meanOf xs = frac (area xs (xs.length - 1)) (meanD xs):=rfl
  have hD : 0 < meanD xs ∧ meanD xs ≤ 480:=by unfold meanD;omega
  rw [e2]
  have g1:=gcd_pos (a:=area xs (xs.length - 1)) hD.1
  have t1:=tdiv_bd (g:=(Int.gcd (area xs (xs.length - 1)) (meanD xs) : Int)) a.1 (B:=20000000) (by omega) (by omega)
  have t2:=tdiv_bd (g:=(Int.gcd (area xs (xs.length - 1)) (meanD xs) : Int)) (show 0 ≤ meanD xs by omega) hD.2 (by omega)
  exact ⟨t1.1,t1.2,t2.1,t2.2⟩
end Go.Proofs.Ytbglkkepfddecaa.G

-- Written by wip/tools/gen.py out of the translation (the kit's printer, one namespace a seat). Lean checks it.
namespace Go.Proofs.Ytbglkkepfddecaa.G
open Go.RowKit Go.Proofs.YtbglkkepfddecaaW.PrintWords Go.Proofs.YtbglkkepfddecaaW.PrintLast Go.Proofs.YtbglkkepfddecaaW.PrintMore
attribute [local go_sem] max2_int min2_int max_two min_two max_three min_three max_four min_four   -- for this text's walks alone
set_option linter.unusedVariables false
set_option linter.unusedSimpArgs false

theorem eqA60 (d : Nat) (w : World) (x0 y0 : Int) (x1 y1 : Int) :
  (Op.equalIn (d + 2) 60 (.agg #[.int .i64 x0,.int .i64 x1]) (.agg #[.int .i64 y0,.int .i64 y1])).run Try.prog w = .ok (x0 == y0 && (x1 == y1)) w:=by
 refine eqA_of Try.underlying60 (by kernel_rfl) ?_
 refine eqf_cons (by rfl) (by go_simp;rfl) (by go_simp;rfl) (by go_simp) ?_
 exact eqf_last (by rfl) (by go_simp;rfl) (by go_simp;rfl) (by go_simp)
end Go.Proofs.Ytbglkkepfddecaa.G

-- Written by wip/tools/gen.py out of the translation (the kit's printer, one namespace a seat). Lean checks it.
namespace Go.Proofs.Ytbglkkepfddecaa.G
open Go.RowKit Go.Proofs.YtbglkkepfddecaaW.PrintWords Go.Proofs.YtbglkkepfddecaaW.PrintLast Go.Proofs.YtbglkkepfddecaaW.PrintMore
attribute [local go_sem] max2_int min2_int max_two min_two max_three min_three max_four min_four   -- for this text's walks alone
set_option linter.unusedVariables false
set_option linter.unusedSimpArgs false

/-! ### laws_rInts: function 48 -/
def laws_rInts.l0 : Nat → List Int → List Int → Int → Option (Bool)
 | 0,_,_,_=>none
 | k + 1,x0,x1,x5=>if x5 < (x0.length : Int) then (if 0 ≤ x5 then (if x5 < (x1.length : Int) then (if (rd x0 x5) = (rd x1 x5) then (laws_rInts.l0 k x0 x1 (wrap64 (x5 + 1))) else (some false)) else (none)) else (none)) else (some true)
def laws_rInts.f (k : Nat) (l0 : List Int) (l1 : List Int) : Option (Bool):=if (l0.length : Int) = (l1.length : Int) then (laws_rInts.l0 k l0 l1 0) else (some false)
set_option maxHeartbeats 8000000 in
set_option maxRecDepth 100000 in
theorem laws_rInts.calls (k : Nat) (A0 : Option Addr) (c0 : Nat) (l0 : List Int) (A1 : Option Addr) (c1 : Nat) (l1 : List Int) (r : Bool) (w : World) (hr0 : Kd.C (Kd.int .i64) w A0 l0.length l0) (hc0 : l0.length ≤ c0) (hr1 : Kd.C (Kd.int .i64) w A1 l1.length l1) (hc1 : l1.length ≤ c1) (h : laws_rInts.f k l0 l1 = some r) :
  Calls Try.prog 48 #[.slice A0 l0.length c0,.slice A1 l1.length c1] w fun e w'=>e = .returned (.bool r) ∧ Drawn0 w w':=by
 have HR0:=zM hr0
 have HC0:=zM hc0
 clear hr0 hc0
 have HR1:=zM hr1
 have HC1:=zM hc1
 clear hr1 hc1
 have H : (if (l0.length : Int) = (l1.length : Int) then (laws_rInts.l0 k l0 l1 0) else (some false)) = some r:=h
 clear h
 by_cases c3 : (l0.length : Int) = (l1.length : Int)
 ·rw [if_pos c3] at H
  have c3b0 : ((l0.length : Int) == (l1.length : Int)) = true:=beq_iff_eq.mpr c3
  have c3b1 : ((l0.length : Int) != (l1.length : Int)) = false:=bne_eq_false_iff_eq.mpr c3
  have c3b2 : (l0.length == l1.length) = true:=by first|simpa using c3|(simp at c3 ⊢;omega)
  clear c3
  have H':=zM H
  clear H
  go_enter Try.func48,Try.ntmps48
  go_wp2
  repeat (go_quiet (fail);try go_wp2)
  go_loopg [5] k (fun kq v5 w' => ∃ (x5_1 : Int),v5 = .int .i64 x5_1 ∧ Aside0 (laws_rInts.l0 kq l0 l1 x5_1 = some r) ∧ Aside0 (kq ≤ k) ∧ Drawn0 w w')
  case atStart=>exact ⟨(0),(by first|rfl|(simp;done)|(simp [*];done)),H',⟨Nat.le_refl _⟩,by repeat (first|exact Drawn0.refl _|apply Drawn0.step)⟩
  case round =>
   clear H'
   try clear c1
   try clear p2
   try clear c3
   try clear c3b0
   try clear c3b1
   try clear c3b2
   obtain ⟨x5_1,rfl,HA,HK1,⟨m1,rfl⟩⟩:=hrel
   cases gk with
   | zero=>exact absurd HA.out (by simp [laws_rInts.l0])
   | succ k1 =>
    have H:=HA.out
    clear HA
    simp only [laws_rInts.l0] at H
    by_cases c4 : x5_1 < (l0.length : Int)
    ·rw [if_pos c4] at H
     have c4b0 : decide (x5_1 < (l0.length : Int)) = true:=decide_eq_true c4
     clear c4
     by_cases c5 : 0 ≤ x5_1
     ·rw [if_pos c5] at H
      have c5b0 : decide (0 ≤ x5_1) = true:=decide_eq_true c5
      clear c5
      by_cases c6 : x5_1 < (l1.length : Int)
      ·rw [if_pos c6] at H
       have c6b0 : decide (x5_1 < (l1.length : Int)) = true:=decide_eq_true c6
       clear c6
       by_cases c7 : (rd l0 x5_1) = (rd l1 x5_1)
       ·rw [if_pos c7] at H
        have c7b0 : ((rd l0 x5_1) == (rd l1 x5_1)) = true:=beq_iff_eq.mpr c7
        have c7b1 : ((rd l0 x5_1) != (rd l1 x5_1)) = false:=bne_eq_false_iff_eq.mpr c7
        clear c7
        have H':=zM H
        clear H
        have p682 : 0 ≤ (x5_1 : Int):=of_decide_eq_true (by first|(with_reducible assumption)|assumption)
        have q682 : x5_1 < (l0.length : Int):=of_decide_eq_true (by first|(with_reducible assumption)|assumption)
        obtain ⟨ad682,e682,hx682_0⟩:=Kd.at_int HR0.out x5_1 p682 q682
        cases e682
        replace p682:=eq_true p682
        replace q682:=eq_true q682
        have p683 : 0 ≤ (x5_1 : Int):=of_decide_eq_true (by first|(with_reducible assumption)|assumption)
        have q683 : x5_1 < (l1.length : Int):=of_decide_eq_true (by first|(with_reducible assumption)|assumption)
        obtain ⟨ad683,e683,hx683_0⟩:=Kd.at_int HR1.out x5_1 p683 q683
        cases e683
        replace p683:=eq_true p683
        replace q683:=eq_true q683
        go_wp2
        repeat (go_quiet (fail);try go_wp2)
        go_roundg k1
        case measure=>have:=HK1.out;omega
        case rel=>exact ⟨(wrap64 (x5_1 + 1)),(by first|rfl|(simp;done)|(simp [*];done)),H',⟨by have:=HK1.out;omega⟩,by repeat (first|exact Drawn0.refl _|apply Drawn0.step)⟩
       ·rw [if_neg c7] at H
        have c7b0 : ((rd l0 x5_1) == (rd l1 x5_1)) = false:=beq_eq_false_iff_ne.mpr c7
        have c7b1 : ((rd l0 x5_1) != (rd l1 x5_1)) = true:=bne_iff_ne.mpr c7
        obtain rfl:=Option.some.inj H
        have p682 : 0 ≤ (x5_1 : Int):=of_decide_eq_true (by first|(with_reducible assumption)|assumption)
        have q682 : x5_1 < (l0.length : Int):=of_decide_eq_true (by first|(with_reducible assumption)|assumption)
        obtain ⟨ad682,e682,hx682_0⟩:=Kd.at_int HR0.out x5_1 p682 q682
        cases e682
        replace p682:=eq_true p682
        replace q682:=eq_true q682
        have p683 : 0 ≤ (x5_1 : Int):=of_decide_eq_true (by first|(with_reducible assumption)|assumption)
        have q683 : x5_1 < (l1.length : Int):=of_decide_eq_true (by first|(with_reducible assumption)|assumption)
        obtain ⟨ad683,e683,hx683_0⟩:=Kd.at_int HR1.out x5_1 p683 q683
        cases e683
        replace p683:=eq_true p683
        replace q683:=eq_true q683
        go_wp2
        repeat (go_quiet (fail);try go_wp2)
        go_ret
        exact ⟨by first|rfl|(simp;done)|(simp [*];done),by repeat (first|exact Drawn0.refl _|apply Drawn0.step)⟩
      ·rw [if_neg c6] at H
       exact absurd H (by simp)
     ·rw [if_neg c5] at H
      exact absurd H (by simp)
    ·rw [if_neg c4] at H
     have c4b0 : decide (x5_1 < (l0.length : Int)) = false:=decide_eq_false c4
     clear c4
     obtain rfl:=Option.some.inj H
     go_wp2
     repeat (go_quiet (fail);try go_wp2)
     go_ret
     exact ⟨by first|rfl|(simp;done)|(simp [*];done),by repeat (first|exact Drawn0.refl _|apply Drawn0.step)⟩
 ·rw [if_neg c3] at H
  have c3b0 : ((l0.length : Int) == (l1.length : Int)) = false:=beq_eq_false_iff_ne.mpr c3
  have c3b1 : ((l0.length : Int) != (l1.length : Int)) = true:=bne_iff_ne.mpr c3
  have c3b2 : (l0.length == l1.length) = false:=by first|simpa using c3|(simp at c3 ⊢;omega)
  obtain rfl:=Option.some.inj H
  go_enter Try.func48,Try.ntmps48
  go_wp2
  repeat (go_quiet (fail);try go_wp2)
  go_ret
  exact ⟨by first|rfl|(simp;done)|(simp [*];done),by repeat (first|exact Drawn0.refl _|apply Drawn0.step)⟩

end Go.Proofs.Ytbglkkepfddecaa.G

-- Written by wip/tools/gen.py out of the translation (the kit's printer, one namespace a seat). Lean checks it.
namespace Go.Proofs.Ytbglkkepfddecaa.G
open Go.RowKit Go.Proofs.YtbglkkepfddecaaW.PrintWords Go.Proofs.YtbglkkepfddecaaW.PrintLast Go.Proofs.YtbglkkepfddecaaW.PrintMore
attribute [local go_sem] max2_int min2_int max_two min_two max_three min_three max_four min_four   -- for this text's walks alone
set_option linter.unusedVariables false
set_option linter.unusedSimpArgs false

attribute [local go_sem high] eqA60
/-! ### laws_FnTides: function 12 -/
mutual
def laws_FnTides.j0 : Nat → List Int → List (S60) → Int → Int → List (S60) → Bool → List (S60) → Bool → Option (Bool)
 | 0,_,_,_,_,_,_,_,_=>none
 | k + 1,x0,x3,x4,x5,x6,x7,x8,x67=>if x67 = true then (some false) else (laws_FnTides.l0 k x0 x3 x4 x5 x6 x7 x8 0)
def laws_FnTides.l0 : Nat → List Int → List (S60) → Int → Int → List (S60) → Bool → List (S60) → Int → Option (Bool)
 | 0,_,_,_,_,_,_,_,_=>none
 | k + 1,x0,x3,x4,x5,x6,x7,x8,x10=>if x10 < (x6.length : Int) then (if 0 ≤ x10 then (if x10 < (x8.length : Int) then (if (!(((rd_T60 x6 x10).f0) == ((rd_T60 x8 x10).f0)) || (!(((rd_T60 x6 x10).f1) == ((rd_T60 x8 x10).f1)))) = true then (some false) else (laws_FnTides.l0 k x0 x3 x4 x5 x6 x7 x8 (wrap64 (x10 + 1)))) else (none)) else (none)) else (if x7 = true then ((impl_ShiftTides.f k x6 (wrap64 (-x4)) (wrap64 (-x5))).bind fun bt700=>((impl_MeanHeight.f k x3).bind fun bt704=>((impl_MeanHeight.f k x6).bind fun bt707=>((impl_SteepestChange.f k x3).bind fun bt710=>((impl_SteepestChange.f k x6).bind fun bt714=>(if bt700.2 = true then (if bt704.2.2 = true then (if bt707.2.2 = true then (if bt710.2.2.2 = true then (if bt714.2.2.2 = true then (if (bt700.1.length : Int) = (x3.length : Int) then (if (wrap64 (bt707.1 * bt704.2.1)) = (wrap64 ((wrap64 (bt704.1 + (wrap64 (x5 * bt704.2.1)))) * bt707.2.1)) then (if bt710.1 = bt714.1 then (laws_FnTides.j2 k x0 x3 bt700.1 bt704.1 bt704.2.1 (bt710.2.1 != bt714.2.1)) else (laws_FnTides.j2 k x0 x3 bt700.1 bt704.1 bt704.2.1 true)) else (laws_FnTides.j2 k x0 x3 bt700.1 bt704.1 bt704.2.1 true)) else (laws_FnTides.j2 k x0 x3 bt700.1 bt704.1 bt704.2.1 true)) else (laws_FnTides.j2 k x0 x3 bt700.1 bt704.1 bt704.2.1 true)) else (laws_FnTides.j2 k x0 x3 bt700.1 bt704.1 bt704.2.1 true)) else (laws_FnTides.j2 k x0 x3 bt700.1 bt704.1 bt704.2.1 true)) else (laws_FnTides.j2 k x0 x3 bt700.1 bt704.1 bt704.2.1 true)) else (laws_FnTides.j2 k x0 x3 bt700.1 bt704.1 bt704.2.1 true))))))) else (laws_FnTides.j4 k x0))
def laws_FnTides.j4 : Nat → List Int → Option (Bool)
 | 0,_=>none
 | k + 1,x0=>(spec_DrawTurningHours.f k x0).bind fun bt722=>((impl_TurningHours.f k bt722.1 bt722.2).bind fun bt726=>((impl_TurningHours.f k bt722.1 (!bt722.2)).bind fun bt730=>((spec_TurningHours.f k bt722.1 bt722.2).bind fun bt734=>(if (bt726.2 == bt734.2) = true then (if (bt730.2 == bt734.2) = true then ((laws_rInts.f k bt726.1 bt734.1).bind fun t738=>(if t738 = true then (if bt726.2 = true then (if (wrap64 ((bt726.1.length : Int) + (bt730.1.length : Int))) = (bt722.1.length : Int) then ((impl_IsValidTides.f k bt722.1).bind fun t739=>(some t739)) else (some false)) else (some true)) else (some false))) else (some false)) else (some false)))))
def laws_FnTides.j2 : Nat → List Int → List (S60) → List (S60) → Int → Int → Bool → Option (Bool)
 | 0,_,_,_,_,_,_=>none
 | k + 1,x0,x3,x11,x13,x14,x166=>if x166 = true then (some false) else (laws_FnTides.l1 k x0 x3 x11 x13 x14 0)
def laws_FnTides.l1 : Nat → List Int → List (S60) → List (S60) → Int → Int → Int → Option (Bool)
 | 0,_,_,_,_,_,_=>none
 | k + 1,x0,x3,x11,x13,x14,x27=>if x27 < (x3.length : Int) then (if 0 ≤ x27 then (if x27 < (x11.length : Int) then (if (!(((rd_T60 x11 x27).f0) == ((rd_T60 x3 x27).f0)) || (!(((rd_T60 x11 x27).f1) == ((rd_T60 x3 x27).f1)))) = true then (some false) else ((laws_rLowest.f k x3).bind fun t720=>(if x13 < (wrap64 (t720 * x14)) then (some false) else ((laws_rHighest.f k x3).bind fun t721=>(if x13 > (wrap64 (t721 * x14)) then (some false) else (laws_FnTides.l1 k x0 x3 x11 x13 x14 (wrap64 (x27 + 1)))))))) else (none)) else (none)) else (laws_FnTides.j4 k x0)
end
def laws_FnTides.f (k : Nat) (l0 : List Int) : Option (Bool):=(laws_rBig.f l0).bind fun t684=>(if t684 = true then (some true) else ((spec_DrawShiftTides.f k l0).bind fun bt685=>((impl_ShiftTides.f k bt685.1 bt685.2.1 bt685.2.2).bind fun bt690=>((spec_ShiftTides.f k bt685.1 bt685.2.1 bt685.2.2).bind fun bt694=>(if (bt690.2 != bt694.2) = true then (laws_FnTides.j0 k l0 bt685.1 bt685.2.1 bt685.2.2 bt690.1 bt690.2 bt694.1 true) else (laws_FnTides.j0 k l0 bt685.1 bt685.2.1 bt685.2.2 bt690.1 bt690.2 bt694.1 ((bt690.1.length : Int) != (bt694.1.length : Int))))))))
set_option maxHeartbeats 8000000 in
set_option maxRecDepth 100000 in
theorem laws_FnTides.calls (k : Nat) (A0 : Option Addr) (c0 : Nat) (l0 : List Int) (r : Bool) (w : World) (hr0 : Kd.C (Kd.int .u8) w A0 l0.length l0) (hc0 : l0.length ≤ c0) (h : laws_FnTides.f k l0 = some r) :
  Calls Try.prog 12 #[.slice A0 l0.length c0] w fun e w'=>e = .returned (.bool r) ∧ Below w.heap.size w w':=by
 have hu60:=Try.underlying60
 have HR0:=zM hr0
 have HC0:=zM hc0
 clear hr0 hc0
 have HB:=zM (Below.refl w.heap.size w)
 have H : ((laws_rBig.f l0).bind fun t684=>(if t684 = true then (some true) else ((spec_DrawShiftTides.f k l0).bind fun bt685=>((impl_ShiftTides.f k bt685.1 bt685.2.1 bt685.2.2).bind fun bt690=>((spec_ShiftTides.f k bt685.1 bt685.2.1 bt685.2.2).bind fun bt694=>(if (bt690.2 != bt694.2) = true then (laws_FnTides.j0 k l0 bt685.1 bt685.2.1 bt685.2.2 bt690.1 bt690.2 bt694.1 true) else (laws_FnTides.j0 k l0 bt685.1 bt685.2.1 bt685.2.2 bt690.1 bt690.2 bt694.1 ((bt690.1.length : Int) != (bt694.1.length : Int))))))))) = some r:=h
 clear h
 replace H:=Option.bind_eq_some_iff.mp H
 obtain ⟨t684,A20,H⟩:=H
 replace H : (if t684 = true then (some true) else ((spec_DrawShiftTides.f k l0).bind fun bt685=>((impl_ShiftTides.f k bt685.1 bt685.2.1 bt685.2.2).bind fun bt690=>((spec_ShiftTides.f k bt685.1 bt685.2.1 bt685.2.2).bind fun bt694=>(if (bt690.2 != bt694.2) = true then (laws_FnTides.j0 k l0 bt685.1 bt685.2.1 bt685.2.2 bt690.1 bt690.2 bt694.1 true) else (laws_FnTides.j0 k l0 bt685.1 bt685.2.1 bt685.2.2 bt690.1 bt690.2 bt694.1 ((bt690.1.length : Int) != (bt694.1.length : Int)))))))) = some r:=H
 have A2:=zM A20
 clear A20
 by_cases c3 : t684 = true
 ·as_aux_lemma =>
  subst c3
  have H1 : (some true) = some r:=by rw [if_pos rfl] at H;exact H
  clear H
  have H:=H1
  clear H1
  obtain rfl:=Option.some.inj H
  go_enter Try.func12,Try.ntmps12
  go_wp2_with (first|(go_at_call 43;(with_reducible refine (laws_rBig.calls _ _ l0 true _ ?side1 ?side2 A2.out).mono ?_);(case side1=>repeat (first|exact HR0.out|(with_reducible refine zG ?_ _)|(with_reducible refine zH ?_ _)|(with_reducible refine zI ?_)));(case side2=>exact HC0.out);rintro e w' ⟨rfl,⟨nd,rfl⟩⟩;(try first|exact ⟨rfl,_,World.drewN_drewN _ _ _⟩|exact ⟨rfl,_,Eq.trans (World.drewN_drewN _ _ _) (congrArg (World.drewN _) (Nat.add_assoc _ _ _))⟩)))
  repeat (go_quiet (first|(go_at_call 43;(with_reducible refine (laws_rBig.calls _ _ l0 true _ ?side1 ?side2 A2.out).mono ?_);(case side1=>repeat (first|exact HR0.out|(with_reducible refine zG ?_ _)|(with_reducible refine zH ?_ _)|(with_reducible refine zI ?_)));(case side2=>exact HC0.out);rintro e w' ⟨rfl,⟨nd,rfl⟩⟩;(try first|exact ⟨rfl,_,World.drewN_drewN _ _ _⟩|exact ⟨rfl,_,Eq.trans (World.drewN_drewN _ _ _) (congrArg (World.drewN _) (Nat.add_assoc _ _ _))⟩)));try go_wp2_with (first|(go_at_call 43;(with_reducible refine (laws_rBig.calls _ _ l0 true _ ?side1 ?side2 A2.out).mono ?_);(case side1=>repeat (first|exact HR0.out|(with_reducible refine zG ?_ _)|(with_reducible refine zH ?_ _)|(with_reducible refine zI ?_)));(case side2=>exact HC0.out);rintro e w' ⟨rfl,⟨nd,rfl⟩⟩;(try first|exact ⟨rfl,_,World.drewN_drewN _ _ _⟩|exact ⟨rfl,_,Eq.trans (World.drewN_drewN _ _ _) (congrArg (World.drewN _) (Nat.add_assoc _ _ _))⟩))))
  go_ret
  exact ⟨by first|rfl|(simp [errW_none,errW_some] <;> rfl)|(simp [*,errW_none,errW_some] <;> rfl),by repeat (first|(with_reducible first|exact HB.out|apply zD|apply zE|apply zF)|exact HB.out)⟩
 ·as_aux_lemma =>
  replace c3:=Bool.eq_false_iff.mpr c3
  subst c3
  have H1 : ((spec_DrawShiftTides.f k l0).bind fun bt685=>((impl_ShiftTides.f k bt685.1 bt685.2.1 bt685.2.2).bind fun bt690=>((spec_ShiftTides.f k bt685.1 bt685.2.1 bt685.2.2).bind fun bt694=>(if (bt690.2 != bt694.2) = true then (laws_FnTides.j0 k l0 bt685.1 bt685.2.1 bt685.2.2 bt690.1 bt690.2 bt694.1 true) else (laws_FnTides.j0 k l0 bt685.1 bt685.2.1 bt685.2.2 bt690.1 bt690.2 bt694.1 ((bt690.1.length : Int) != (bt694.1.length : Int))))))) = some r:=by rw [if_neg (show ¬ (false = true) by decide)] at H;exact H
  clear H
  have H:=H1
  clear H1
  replace H:=Option.bind_eq_some_iff.mp H
  obtain ⟨⟨t685,t686,t687⟩,A40,H⟩:=H
  replace H : ((impl_ShiftTides.f k t685 t686 t687).bind fun bt690=>((spec_ShiftTides.f k t685 t686 t687).bind fun bt694=>(if (bt690.2 != bt694.2) = true then (laws_FnTides.j0 k l0 t685 t686 t687 bt690.1 bt690.2 bt694.1 true) else (laws_FnTides.j0 k l0 t685 t686 t687 bt690.1 bt690.2 bt694.1 ((bt690.1.length : Int) != (bt694.1.length : Int)))))) = some r:=H
  have A4:=zM A40
  clear A40
  replace H:=Option.bind_eq_some_iff.mp H
  obtain ⟨⟨t690,t691⟩,A50,H⟩:=H
  replace H : ((spec_ShiftTides.f k t685 t686 t687).bind fun bt694=>(if (t691 != bt694.2) = true then (laws_FnTides.j0 k l0 t685 t686 t687 t690 t691 bt694.1 true) else (laws_FnTides.j0 k l0 t685 t686 t687 t690 t691 bt694.1 ((t690.length : Int) != (bt694.1.length : Int))))) = some r:=H
  have A5:=zM A50
  clear A50
  replace H:=Option.bind_eq_some_iff.mp H
  obtain ⟨⟨t694,t695⟩,A60,H⟩:=H
  replace H : (if (t691 != t695) = true then (laws_FnTides.j0 k l0 t685 t686 t687 t690 t691 t694 true) else (laws_FnTides.j0 k l0 t685 t686 t687 t690 t691 t694 ((t690.length : Int) != (t694.length : Int)))) = some r:=H
  have A6:=zM A60
  clear A60
  have HC7:=zM H
  clear H
  go_enter Try.func12,Try.ntmps12
  go_upto_region 6 with (first|(go_at_call 43;(with_reducible refine (laws_rBig.calls _ _ l0 false _ ?side1 ?side2 A2.out).mono ?_);(case side1=>repeat (first|exact HR0.out|(with_reducible refine zG ?_ _)|(with_reducible refine zH ?_ _)|(with_reducible refine zI ?_)));(case side2=>exact HC0.out);rintro e w' ⟨rfl,⟨nd,rfl⟩⟩;(try first|exact ⟨rfl,_,World.drewN_drewN _ _ _⟩|exact ⟨rfl,_,Eq.trans (World.drewN_drewN _ _ _) (congrArg (World.drewN _) (Nat.add_assoc _ _ _))⟩))|(go_at_call 44;(with_reducible refine (spec_DrawShiftTides.calls k _ _ l0 t685 t686 t687 _ ?side1 ?side2 A4.out).mono ?_);(case side1=>repeat (first|exact HR0.out|(with_reducible refine zG ?_ _)|(with_reducible refine zH ?_ _)|(with_reducible refine zI ?_)));(case side2=>exact HC0.out);rintro e w8 ⟨v688,rfl,ho0,hb⟩;have n0_:=zM (Kd.R_lower ho0 (zR (by repeat (first|(with_reducible first|exact HB.out|apply zD|apply zE|apply zF)|exact HB.out))));have n1_:=zM (zQ (by repeat (first|(with_reducible first|exact HB.out|apply zD|apply zE|apply zF)|exact HB.out)) hb);clear HB;have HO689:=n0_;have HB:=n1_;clear n0_ n1_;(try clear hb);(try clear hb2);(try clear hk);(try clear hi);(try clear ho0);obtain ⟨Ao9,co9,eo9⟩:=Kd.R_slice HO689.out;subst eo9)|(go_at_call 20;(with_reducible refine (impl_ShiftTides.calls k _ _ t685 t686 t687 t690 t691 _ ?side1 ?side2 A5.out).mono ?_);(case side1=>repeat (first|exact (zN HO689.out).2.2|(with_reducible refine zG ?_ _)|(with_reducible refine zH ?_ _)|(with_reducible refine zI ?_)));(case side2=>exact (zN HO689.out).2.1);rintro e w10 ⟨v692,rfl,ho0,hb⟩;have n0_:=zM (Kd.R_elder' (by (with_reducible repeat (first|apply zA|apply zB|apply zC));exact HO689.out) (Kd.R_base ho0) hb);have n1_:=zM (Kd.R_lower (Kd.R_new' ho0 (Kd.R_lt (by (with_reducible repeat (first|apply zA|apply zB|apply zC));exact HO689.out))) (zR (by repeat (first|(with_reducible first|exact HB.out|apply zD|apply zE|apply zF)|exact HB.out))));have n2_:=zM (zQ (by repeat (first|(with_reducible first|exact HB.out|apply zD|apply zE|apply zF)|exact HB.out)) hb);clear HO689;clear HB;have HO689:=n0_;have HO693:=n1_;have HB:=n2_;clear n0_ n1_ n2_;(try clear hb);(try clear hb2);(try clear hk);(try clear hi);(try clear ho0))|(go_at_call 19;(with_reducible refine (spec_ShiftTides.calls k _ _ t685 t686 t687 t694 t695 _ ?side1 ?side2 A6.out).mono ?_);(case side1=>repeat (first|exact (zN HO689.out).2.2|(with_reducible refine zG ?_ _)|(with_reducible refine zH ?_ _)|(with_reducible refine zI ?_)));(case side2=>exact (zN HO689.out).2.1);rintro e w11 ⟨v696,rfl,ho0,hb⟩;have n0_:=zM (Kd.R_elder' (by (with_reducible repeat (first|apply zA|apply zB|apply zC));exact HO689.out) (Kd.R_base ho0) hb);have n1_:=zM (Kd.R_elder' (by (with_reducible repeat (first|apply zA|apply zB|apply zC));exact HO693.out) (Kd.R_base ho0) hb);have n2_:=zM (Kd.R_lower (Kd.R_new' (Kd.R_new' ho0 (Kd.R_lt (by (with_reducible repeat (first|apply zA|apply zB|apply zC));exact HO689.out))) (Kd.R_lt (by (with_reducible repeat (first|apply zA|apply zB|apply zC));exact HO693.out))) (zR (by repeat (first|(with_reducible first|exact HB.out|apply zD|apply zE|apply zF)|exact HB.out))));have n3_:=zM (zQ (by repeat (first|(with_reducible first|exact HB.out|apply zD|apply zE|apply zF)|exact HB.out)) hb);clear HO689;clear HO693;clear HB;have HO689:=n0_;have HO693:=n1_;have HO697:=n2_;have HB:=n3_;clear n0_ n1_ n2_ n3_;(try clear hb);(try clear hb2);(try clear hk);(try clear hi);(try clear ho0)))
  repeat (go_quiet (first|(go_at_call 43;(with_reducible refine (laws_rBig.calls _ _ l0 false _ ?side1 ?side2 A2.out).mono ?_);(case side1=>repeat (first|exact HR0.out|(with_reducible refine zG ?_ _)|(with_reducible refine zH ?_ _)|(with_reducible refine zI ?_)));(case side2=>exact HC0.out);rintro e w' ⟨rfl,⟨nd,rfl⟩⟩;(try first|exact ⟨rfl,_,World.drewN_drewN _ _ _⟩|exact ⟨rfl,_,Eq.trans (World.drewN_drewN _ _ _) (congrArg (World.drewN _) (Nat.add_assoc _ _ _))⟩))|(go_at_call 44;(with_reducible refine (spec_DrawShiftTides.calls k _ _ l0 t685 t686 t687 _ ?side1 ?side2 A4.out).mono ?_);(case side1=>repeat (first|exact HR0.out|(with_reducible refine zG ?_ _)|(with_reducible refine zH ?_ _)|(with_reducible refine zI ?_)));(case side2=>exact HC0.out);rintro e w8 ⟨v688,rfl,ho0,hb⟩;have n0_:=zM (Kd.R_lower ho0 (zR (by repeat (first|(with_reducible first|exact HB.out|apply zD|apply zE|apply zF)|exact HB.out))));have n1_:=zM (zQ (by repeat (first|(with_reducible first|exact HB.out|apply zD|apply zE|apply zF)|exact HB.out)) hb);clear HB;have HO689:=n0_;have HB:=n1_;clear n0_ n1_;(try clear hb);(try clear hb2);(try clear hk);(try clear hi);(try clear ho0);obtain ⟨Ao9,co9,eo9⟩:=Kd.R_slice HO689.out;subst eo9)|(go_at_call 20;(with_reducible refine (impl_ShiftTides.calls k _ _ t685 t686 t687 t690 t691 _ ?side1 ?side2 A5.out).mono ?_);(case side1=>repeat (first|exact (zN HO689.out).2.2|(with_reducible refine zG ?_ _)|(with_reducible refine zH ?_ _)|(with_reducible refine zI ?_)));(case side2=>exact (zN HO689.out).2.1);rintro e w10 ⟨v692,rfl,ho0,hb⟩;have n0_:=zM (Kd.R_elder' (by (with_reducible repeat (first|apply zA|apply zB|apply zC));exact HO689.out) (Kd.R_base ho0) hb);have n1_:=zM (Kd.R_lower (Kd.R_new' ho0 (Kd.R_lt (by (with_reducible repeat (first|apply zA|apply zB|apply zC));exact HO689.out))) (zR (by repeat (first|(with_reducible first|exact HB.out|apply zD|apply zE|apply zF)|exact HB.out))));have n2_:=zM (zQ (by repeat (first|(with_reducible first|exact HB.out|apply zD|apply zE|apply zF)|exact HB.out)) hb);clear HO689;clear HB;have HO689:=n0_;have HO693:=n1_;have HB:=n2_;clear n0_ n1_ n2_;(try clear hb);(try clear hb2);(try clear hk);(try clear hi);(try clear ho0))|(go_at_call 19;(with_reducible refine (spec_ShiftTides.calls k _ _ t685 t686 t687 t694 t695 _ ?side1 ?side2 A6.out).mono ?_);(case side1=>repeat (first|exact (zN HO689.out).2.2|(with_reducible refine zG ?_ _)|(with_reducible refine zH ?_ _)|(with_reducible refine zI ?_)));(case side2=>exact (zN HO689.out).2.1);rintro e w11 ⟨v696,rfl,ho0,hb⟩;have n0_:=zM (Kd.R_elder' (by (with_reducible repeat (first|apply zA|apply zB|apply zC));exact HO689.out) (Kd.R_base ho0) hb);have n1_:=zM (Kd.R_elder' (by (with_reducible repeat (first|apply zA|apply zB|apply zC));exact HO693.out) (Kd.R_base ho0) hb);have n2_:=zM (Kd.R_lower (Kd.R_new' (Kd.R_new' ho0 (Kd.R_lt (by (with_reducible repeat (first|apply zA|apply zB|apply zC));exact HO689.out))) (Kd.R_lt (by (with_reducible repeat (first|apply zA|apply zB|apply zC));exact HO693.out))) (zR (by repeat (first|(with_reducible first|exact HB.out|apply zD|apply zE|apply zF)|exact HB.out))));have n3_:=zM (zQ (by repeat (first|(with_reducible first|exact HB.out|apply zD|apply zE|apply zF)|exact HB.out)) hb);clear HO689;clear HO693;clear HB;have HO689:=n0_;have HO693:=n1_;have HO697:=n2_;have HB:=n3_;clear n0_ n1_ n2_ n3_;(try clear hb);(try clear hb2);(try clear hk);(try clear hi);(try clear ho0)));go_upto_region 6 with (first|(go_at_call 43;(with_reducible refine (laws_rBig.calls _ _ l0 false _ ?side1 ?side2 A2.out).mono ?_);(case side1=>repeat (first|exact HR0.out|(with_reducible refine zG ?_ _)|(with_reducible refine zH ?_ _)|(with_reducible refine zI ?_)));(case side2=>exact HC0.out);rintro e w' ⟨rfl,⟨nd,rfl⟩⟩;(try first|exact ⟨rfl,_,World.drewN_drewN _ _ _⟩|exact ⟨rfl,_,Eq.trans (World.drewN_drewN _ _ _) (congrArg (World.drewN _) (Nat.add_assoc _ _ _))⟩))|(go_at_call 44;(with_reducible refine (spec_DrawShiftTides.calls k _ _ l0 t685 t686 t687 _ ?side1 ?side2 A4.out).mono ?_);(case side1=>repeat (first|exact HR0.out|(with_reducible refine zG ?_ _)|(with_reducible refine zH ?_ _)|(with_reducible refine zI ?_)));(case side2=>exact HC0.out);rintro e w8 ⟨v688,rfl,ho0,hb⟩;have n0_:=zM (Kd.R_lower ho0 (zR (by repeat (first|(with_reducible first|exact HB.out|apply zD|apply zE|apply zF)|exact HB.out))));have n1_:=zM (zQ (by repeat (first|(with_reducible first|exact HB.out|apply zD|apply zE|apply zF)|exact HB.out)) hb);clear HB;have HO689:=n0_;have HB:=n1_;clear n0_ n1_;(try clear hb);(try clear hb2);(try clear hk);(try clear hi);(try clear ho0);obtain ⟨Ao9,co9,eo9⟩:=Kd.R_slice HO689.out;subst eo9)|(go_at_call 20;(with_reducible refine (impl_ShiftTides.calls k _ _ t685 t686 t687 t690 t691 _ ?side1 ?side2 A5.out).mono ?_);(case side1=>repeat (first|exact (zN HO689.out).2.2|(with_reducible refine zG ?_ _)|(with_reducible refine zH ?_ _)|(with_reducible refine zI ?_)));(case side2=>exact (zN HO689.out).2.1);rintro e w10 ⟨v692,rfl,ho0,hb⟩;have n0_:=zM (Kd.R_elder' (by (with_reducible repeat (first|apply zA|apply zB|apply zC));exact HO689.out) (Kd.R_base ho0) hb);have n1_:=zM (Kd.R_lower (Kd.R_new' ho0 (Kd.R_lt (by (with_reducible repeat (first|apply zA|apply zB|apply zC));exact HO689.out))) (zR (by repeat (first|(with_reducible first|exact HB.out|apply zD|apply zE|apply zF)|exact HB.out))));have n2_:=zM (zQ (by repeat (first|(with_reducible first|exact HB.out|apply zD|apply zE|apply zF)|exact HB.out)) hb);clear HO689;clear HB;have HO689:=n0_;have HO693:=n1_;have HB:=n2_;clear n0_ n1_ n2_;(try clear hb);(try clear hb2);(try clear hk);(try clear hi);(try clear ho0))|(go_at_call 19;(with_reducible refine (spec_ShiftTides.calls k _ _ t685 t686 t687 t694 t695 _ ?side1 ?side2 A6.out).mono ?_);(case side1=>repeat (first|exact (zN HO689.out).2.2|(with_reducible refine zG ?_ _)|(with_reducible refine zH ?_ _)|(with_reducible refine zI ?_)));(case side2=>exact (zN HO689.out).2.1);rintro e w11 ⟨v696,rfl,ho0,hb⟩;have n0_:=zM (Kd.R_elder' (by (with_reducible repeat (first|apply zA|apply zB|apply zC));exact HO689.out) (Kd.R_base ho0) hb);have n1_:=zM (Kd.R_elder' (by (with_reducible repeat (first|apply zA|apply zB|apply zC));exact HO693.out) (Kd.R_base ho0) hb);have n2_:=zM (Kd.R_lower (Kd.R_new' (Kd.R_new' ho0 (Kd.R_lt (by (with_reducible repeat (first|apply zA|apply zB|apply zC));exact HO689.out))) (Kd.R_lt (by (with_reducible repeat (first|apply zA|apply zB|apply zC));exact HO693.out))) (zR (by repeat (first|(with_reducible first|exact HB.out|apply zD|apply zE|apply zF)|exact HB.out))));have n3_:=zM (zQ (by repeat (first|(with_reducible first|exact HB.out|apply zD|apply zE|apply zF)|exact HB.out)) hb);clear HO689;clear HO693;clear HB;have HO689:=n0_;have HO693:=n1_;have HO697:=n2_;have HB:=n3_;clear n0_ n1_ n2_ n3_;(try clear hb);(try clear hb2);(try clear hk);(try clear hi);(try clear ho0))))
  (try simp only [Act.put,List.setIfInBounds_toArray,List.set_cons_zero,List.set_cons_succ])
  go_cut [67] (fun v67 wc => ∃ (kq : Nat) (x67_6 : Bool),v67 = .bool x67_6 ∧ Aside0 (laws_FnTides.j0 kq l0 t685 t686 t687 t690 t691 t694 x67_6 = some r) ∧ Aside0 (kq ≤ k) ∧ Aside0 (Kd.R k60 60 wc w.heap.size (fun k_=>some k_ ≠ (v692 : Value).ownBlock ∧ some k_ ≠ (v696 : Value).ownBlock) (.slice Ao9 t685.length co9) t685) ∧ Aside0 (Kd.R k60 60 wc w.heap.size (fun k_=>some k_ ≠ ((.slice Ao9 t685.length co9) : Value).ownBlock ∧ some k_ ≠ (v696 : Value).ownBlock) v692 t690) ∧ Aside0 (Kd.R k60 60 wc w.heap.size (fun k_=>some k_ ≠ ((.slice Ao9 t685.length co9) : Value).ownBlock ∧ some k_ ≠ (v692 : Value).ownBlock) v696 t694) ∧ Aside0 (Below w.heap.size w wc))
  case first =>
   have H:=HC7.out
   clear HC7
   by_cases c12 : (t691 != t695) = true
   ·as_aux_lemma =>
    rw [if_pos c12] at H
    have c12b0 : (t691 != t695) = true:=c12
    (try (have c12b1 : decide (t691 = t695) = false:=by simpa using c12))
    (try (have c12b2 : (t691 == t695) = false:=by simpa using c12))
    (try (have c12b3 : ¬ (t691 = t695):=by simpa using c12))
    clear c12
    (first|rw [c12b0]|(simp only [i64_w,i32_w];rw [c12b0])|skip)
    have H':=zM H
    clear H
    go_wp2
    repeat (go_quiet (fail);try go_wp2)
    go_meet
    case rel=>exact ⟨_,(true),(by first|rfl|(simp;done)|(simp [*];done)),H',⟨by first|omega|exact Nat.le_refl _⟩,⟨by (with_reducible repeat (first|apply zA|apply zB|apply zC));exact Kd.R_mono HO689.out (fun _ hk=>⟨hk.1.2,hk.2⟩)⟩,⟨by (with_reducible repeat (first|apply zA|apply zB|apply zC));exact Kd.R_mono HO693.out (fun _ hk=>⟨hk.1.2,hk.2⟩)⟩,⟨by (with_reducible repeat (first|apply zA|apply zB|apply zC));exact Kd.R_mono HO697.out (fun _ hk=>⟨hk.1.2,hk.2⟩)⟩,⟨by repeat (first|(with_reducible first|exact HB.out|apply zD|apply zE|apply zF)|exact HB.out)⟩⟩
   ·as_aux_lemma =>
    rw [if_neg c12] at H
    have c12b0 : (t691 != t695) = false:=by simpa using c12
    (try (have c12b1 : decide (t691 = t695) = true:=by simpa using c12))
    (try (have c12b2 : (t691 == t695) = true:=by simpa using c12))
    clear c12
    (first|rw [c12b0]|(simp only [i64_w,i32_w];rw [c12b0])|skip)
    have H':=zM H
    clear H
    obtain ⟨Ao13,co13,eo13⟩:=Kd.R_slice HO693.out
    subst eo13
    obtain ⟨Ao14,co14,eo14⟩:=Kd.R_slice HO697.out
    subst eo14
    go_wp2
    repeat (go_quiet (fail);try go_wp2)
    go_meet
    case rel=>exact ⟨_,(((t690.length : Int) != (t694.length : Int))),(by first|rfl|(simp;done)|(simp [*];done)),H',⟨by first|omega|exact Nat.le_refl _⟩,⟨by (with_reducible repeat (first|apply zA|apply zB|apply zC));exact Kd.R_mono HO689.out (fun _ hk=>⟨hk.1.2,hk.2⟩)⟩,⟨by (with_reducible repeat (first|apply zA|apply zB|apply zC));exact Kd.R_mono HO693.out (fun _ hk=>⟨hk.1.2,hk.2⟩)⟩,⟨by (with_reducible repeat (first|apply zA|apply zB|apply zC));exact Kd.R_mono HO697.out (fun _ hk=>⟨hk.1.2,hk.2⟩)⟩,⟨by repeat (first|(with_reducible first|exact HB.out|apply zD|apply zE|apply zF)|exact HB.out)⟩⟩
  case rest =>
   clear HC7
   try clear c1
   try clear p2
   try clear c3
   try clear c12
   try clear c12b0
   try clear c12b1
   try clear c12b2
   obtain ⟨kq,x67_6,rfl,HA,HJ6,HO_3,HO_6,HO_8,HB⟩:=hcut
   cases kq with
   | zero=>exact absurd HA.out (by simp [laws_FnTides.j0])
   | succ kj6 =>
    have H:=HA.out
    clear HA
    simp only [laws_FnTides.j0] at H
    by_cases c15 : x67_6 = true
    ·as_aux_lemma =>
     subst c15
     have H1 : (some false) = some r:=by rw [if_pos rfl] at H;exact H
     clear H
     have H:=H1
     clear H1
     obtain rfl:=Option.some.inj H
     go_wp2
     repeat (go_quiet (fail);try go_wp2)
     go_ret
     exact ⟨by first|rfl|(simp [errW_none,errW_some] <;> rfl)|(simp [*,errW_none,errW_some] <;> rfl),by repeat (first|(with_reducible first|exact HB.out|apply zD|apply zE|apply zF)|exact HB.out)⟩
    ·as_aux_lemma =>
     replace c15:=Bool.eq_false_iff.mpr c15
     subst c15
     have H1 : (laws_FnTides.l0 kj6 l0 t685 t686 t687 t690 t691 t694 0) = some r:=by rw [if_neg (show ¬ (false = true) by decide)] at H;exact H
     clear H
     have H:=H1
     clear H1
     have H':=zM H
     clear H
     go_wp2
     repeat (go_quiet (fail);try go_wp2)
     go_loopg [10] kj6 (fun kq v10 w' => ∃ (x10_2 : Int),v10 = .int .i64 x10_2 ∧ Aside0 (laws_FnTides.l0 kq l0 t685 t686 t687 t690 t691 t694 x10_2 = some r) ∧ Aside0 (kq ≤ kj6) ∧ Aside0 (Kd.R k60 60 w' w.heap.size (fun k_=>some k_ ≠ (v692 : Value).ownBlock ∧ some k_ ≠ (v696 : Value).ownBlock) (.slice Ao9 t685.length co9) t685) ∧ Aside0 (Kd.R k60 60 w' w.heap.size (fun k_=>some k_ ≠ ((.slice Ao9 t685.length co9) : Value).ownBlock ∧ some k_ ≠ (v696 : Value).ownBlock) v692 t690) ∧ Aside0 (Kd.R k60 60 w' w.heap.size (fun k_=>some k_ ≠ ((.slice Ao9 t685.length co9) : Value).ownBlock ∧ some k_ ≠ (v692 : Value).ownBlock) v696 t694) ∧ Aside0 (Below w.heap.size w w'))
     case atStart=>exact ⟨(0),(by first|rfl|(simp;done)|(simp [*];done)),H',⟨Nat.le_refl _⟩,⟨by (with_reducible repeat (first|apply zA|apply zB|apply zC));exact HO_3.out⟩,⟨by (with_reducible repeat (first|apply zA|apply zB|apply zC));exact HO_6.out⟩,⟨by (with_reducible repeat (first|apply zA|apply zB|apply zC));exact HO_8.out⟩,⟨by repeat (first|(with_reducible first|exact HB.out|apply zD|apply zE|apply zF)|exact HB.out)⟩⟩
     case round =>
      clear H'
      try clear c1
      try clear p2
      try clear c3
      try clear c12
      try clear c12b0
      try clear c12b1
      try clear c12b2
      try clear c15
      try clear p2
      obtain ⟨x10_2,rfl,HA,HK2,HO_3,HO_6,HO_8,HB⟩:=hrel
      cases gk with
      | zero=>exact absurd HA.out (by simp [laws_FnTides.l0])
      | succ k2 =>
       have H:=HA.out
       clear HA
       simp only [laws_FnTides.l0] at H
       by_cases c16 : x10_2 < (t690.length : Int)
       ·as_aux_lemma =>
        rw [if_pos c16] at H
        have c16b0 : decide (x10_2 < (t690.length : Int)) = true:=decide_eq_true c16
        clear c16
        by_cases c17 : 0 ≤ x10_2
        ·as_aux_lemma =>
         rw [if_pos c17] at H
         have c17b0 : decide (0 ≤ x10_2) = true:=decide_eq_true c17
         clear c17
         by_cases c18 : x10_2 < (t694.length : Int)
         ·as_aux_lemma =>
          rw [if_pos c18] at H
          have c18b0 : decide (x10_2 < (t694.length : Int)) = true:=decide_eq_true c18
          clear c18
          by_cases c19 : (!(((rd_T60 t690 x10_2).f0) == ((rd_T60 t694 x10_2).f0)) || (!(((rd_T60 t690 x10_2).f1) == ((rd_T60 t694 x10_2).f1)))) = true
          ·as_aux_lemma =>
           rw [if_pos c19] at H
           have c19b0 : (!(((rd_T60 t690 x10_2).f0) == ((rd_T60 t694 x10_2).f0)) || (!(((rd_T60 t690 x10_2).f1) == ((rd_T60 t694 x10_2).f1)))) = true:=c19
           clear c19
           obtain rfl:=Option.some.inj H
           obtain ⟨Ao20,co20,eo20⟩:=Kd.R_slice HO_6.out
           subst eo20
           have p698 : 0 ≤ (x10_2 : Int):=of_decide_eq_true (by first|(with_reducible assumption)|assumption)
           have q698 : x10_2 < (t690.length : Int):=of_decide_eq_true (by first|(with_reducible assumption)|assumption)
           obtain ⟨ad698,e698,hx698_0,hx698_1⟩:=at_T60 (zN HO_6.out).2.2 x10_2 p698 q698
           cases e698
           replace p698:=eq_true p698
           replace q698:=eq_true q698
           obtain ⟨Ao21,co21,eo21⟩:=Kd.R_slice HO_8.out
           subst eo21
           have p699 : 0 ≤ (x10_2 : Int):=of_decide_eq_true (by first|(with_reducible assumption)|assumption)
           have q699 : x10_2 < (t694.length : Int):=of_decide_eq_true (by first|(with_reducible assumption)|assumption)
           obtain ⟨ad699,e699,hx699_0,hx699_1⟩:=at_T60 (zN HO_8.out).2.2 x10_2 p699 q699
           cases e699
           replace p699:=eq_true p699
           replace q699:=eq_true q699
           go_wp2
           repeat (go_quiet (fail);try go_wp2)
           go_ret
           exact ⟨by first|rfl|(simp [errW_none,errW_some] <;> rfl)|(simp [*,errW_none,errW_some] <;> rfl),by repeat (first|(with_reducible first|exact HB.out|apply zD|apply zE|apply zF)|exact HB.out)⟩
          ·as_aux_lemma =>
           rw [if_neg c19] at H
           have c19b0 : (!(((rd_T60 t690 x10_2).f0) == ((rd_T60 t694 x10_2).f0)) || (!(((rd_T60 t690 x10_2).f1) == ((rd_T60 t694 x10_2).f1)))) = false:=by simpa using c19
           clear c19
           have H':=zM H
           clear H
           obtain ⟨Ao22,co22,eo22⟩:=Kd.R_slice HO_6.out
           subst eo22
           have p698 : 0 ≤ (x10_2 : Int):=of_decide_eq_true (by first|(with_reducible assumption)|assumption)
           have q698 : x10_2 < (t690.length : Int):=of_decide_eq_true (by first|(with_reducible assumption)|assumption)
           obtain ⟨ad698,e698,hx698_0,hx698_1⟩:=at_T60 (zN HO_6.out).2.2 x10_2 p698 q698
           cases e698
           replace p698:=eq_true p698
           replace q698:=eq_true q698
           obtain ⟨Ao23,co23,eo23⟩:=Kd.R_slice HO_8.out
           subst eo23
           have p699 : 0 ≤ (x10_2 : Int):=of_decide_eq_true (by first|(with_reducible assumption)|assumption)
           have q699 : x10_2 < (t694.length : Int):=of_decide_eq_true (by first|(with_reducible assumption)|assumption)
           obtain ⟨ad699,e699,hx699_0,hx699_1⟩:=at_T60 (zN HO_8.out).2.2 x10_2 p699 q699
           cases e699
           replace p699:=eq_true p699
           replace q699:=eq_true q699
           go_wp2
           repeat (go_quiet (fail);try go_wp2)
           go_roundg k2
           case measure=>have:=HJ6.out;have:=HK2.out;omega
           case rel=>exact ⟨(wrap64 (x10_2 + 1)),(by first|rfl|(simp;done)|(simp [*];done)),H',⟨by have:=HJ6.out;have:=HK2.out;omega⟩,⟨by (with_reducible repeat (first|apply zA|apply zB|apply zC));exact HO_3.out⟩,⟨by (with_reducible repeat (first|apply zA|apply zB|apply zC));exact HO_6.out⟩,⟨by (with_reducible repeat (first|apply zA|apply zB|apply zC));exact HO_8.out⟩,⟨by repeat (first|(with_reducible first|exact HB.out|apply zD|apply zE|apply zF)|exact HB.out)⟩⟩
         ·as_aux_lemma =>
          rw [if_neg c18] at H
          exact absurd H (by simp)
        ·as_aux_lemma =>
         rw [if_neg c17] at H
         exact absurd H (by simp)
       ·as_aux_lemma =>
        rw [if_neg c16] at H
        have c16b0 : decide (x10_2 < (t690.length : Int)) = false:=decide_eq_false c16
        clear c16
        have HC24:=zM H
        clear H
        obtain ⟨Ao25,co25,eo25⟩:=Kd.R_slice HO_6.out
        subst eo25
        go_upto_if 83 with (fail)
        repeat (go_quiet (fail);go_upto_if 83 with (fail))
        go_cut [] (fun wc => ∃ (kq : Nat),Aside0 (laws_FnTides.j4 kq l0 = some r) ∧ Aside0 (kq ≤ k2) ∧ Aside0 (Below w.heap.size w wc))
        case first =>
         have H:=HC24.out
         clear HC24
         by_cases c26 : t691 = true
         ·as_aux_lemma =>
          subst c26
          have H1 : ((impl_ShiftTides.f k2 t690 (wrap64 (-t686)) (wrap64 (-t687))).bind fun bt700=>((impl_MeanHeight.f k2 t685).bind fun bt704=>((impl_MeanHeight.f k2 t690).bind fun bt707=>((impl_SteepestChange.f k2 t685).bind fun bt710=>((impl_SteepestChange.f k2 t690).bind fun bt714=>(if bt700.2 = true then (if bt704.2.2 = true then (if bt707.2.2 = true then (if bt710.2.2.2 = true then (if bt714.2.2.2 = true then (if (bt700.1.length : Int) = (t685.length : Int) then (if (wrap64 (bt707.1 * bt704.2.1)) = (wrap64 ((wrap64 (bt704.1 + (wrap64 (t687 * bt704.2.1)))) * bt707.2.1)) then (if bt710.1 = bt714.1 then (laws_FnTides.j2 k2 l0 t685 bt700.1 bt704.1 bt704.2.1 (bt710.2.1 != bt714.2.1)) else (laws_FnTides.j2 k2 l0 t685 bt700.1 bt704.1 bt704.2.1 true)) else (laws_FnTides.j2 k2 l0 t685 bt700.1 bt704.1 bt704.2.1 true)) else (laws_FnTides.j2 k2 l0 t685 bt700.1 bt704.1 bt704.2.1 true)) else (laws_FnTides.j2 k2 l0 t685 bt700.1 bt704.1 bt704.2.1 true)) else (laws_FnTides.j2 k2 l0 t685 bt700.1 bt704.1 bt704.2.1 true)) else (laws_FnTides.j2 k2 l0 t685 bt700.1 bt704.1 bt704.2.1 true)) else (laws_FnTides.j2 k2 l0 t685 bt700.1 bt704.1 bt704.2.1 true)) else (laws_FnTides.j2 k2 l0 t685 bt700.1 bt704.1 bt704.2.1 true))))))) = some r:=by rw [if_pos rfl] at H;exact H
          clear H
          have H:=H1
          clear H1
          replace H:=Option.bind_eq_some_iff.mp H
          obtain ⟨⟨t700,t701⟩,A270,H⟩:=H
          replace H : ((impl_MeanHeight.f k2 t685).bind fun bt704=>((impl_MeanHeight.f k2 t690).bind fun bt707=>((impl_SteepestChange.f k2 t685).bind fun bt710=>((impl_SteepestChange.f k2 t690).bind fun bt714=>(if t701 = true then (if bt704.2.2 = true then (if bt707.2.2 = true then (if bt710.2.2.2 = true then (if bt714.2.2.2 = true then (if (t700.length : Int) = (t685.length : Int) then (if (wrap64 (bt707.1 * bt704.2.1)) = (wrap64 ((wrap64 (bt704.1 + (wrap64 (t687 * bt704.2.1)))) * bt707.2.1)) then (if bt710.1 = bt714.1 then (laws_FnTides.j2 k2 l0 t685 t700 bt704.1 bt704.2.1 (bt710.2.1 != bt714.2.1)) else (laws_FnTides.j2 k2 l0 t685 t700 bt704.1 bt704.2.1 true)) else (laws_FnTides.j2 k2 l0 t685 t700 bt704.1 bt704.2.1 true)) else (laws_FnTides.j2 k2 l0 t685 t700 bt704.1 bt704.2.1 true)) else (laws_FnTides.j2 k2 l0 t685 t700 bt704.1 bt704.2.1 true)) else (laws_FnTides.j2 k2 l0 t685 t700 bt704.1 bt704.2.1 true)) else (laws_FnTides.j2 k2 l0 t685 t700 bt704.1 bt704.2.1 true)) else (laws_FnTides.j2 k2 l0 t685 t700 bt704.1 bt704.2.1 true)) else (laws_FnTides.j2 k2 l0 t685 t700 bt704.1 bt704.2.1 true)))))) = some r:=H
          have A27:=zM A270
          clear A270
          replace H:=Option.bind_eq_some_iff.mp H
          obtain ⟨⟨t704,t705,t706⟩,A280,H⟩:=H
          replace H : ((impl_MeanHeight.f k2 t690).bind fun bt707=>((impl_SteepestChange.f k2 t685).bind fun bt710=>((impl_SteepestChange.f k2 t690).bind fun bt714=>(if t701 = true then (if t706 = true then (if bt707.2.2 = true then (if bt710.2.2.2 = true then (if bt714.2.2.2 = true then (if (t700.length : Int) = (t685.length : Int) then (if (wrap64 (bt707.1 * t705)) = (wrap64 ((wrap64 (t704 + (wrap64 (t687 * t705)))) * bt707.2.1)) then (if bt710.1 = bt714.1 then (laws_FnTides.j2 k2 l0 t685 t700 t704 t705 (bt710.2.1 != bt714.2.1)) else (laws_FnTides.j2 k2 l0 t685 t700 t704 t705 true)) else (laws_FnTides.j2 k2 l0 t685 t700 t704 t705 true)) else (laws_FnTides.j2 k2 l0 t685 t700 t704 t705 true)) else (laws_FnTides.j2 k2 l0 t685 t700 t704 t705 true)) else (laws_FnTides.j2 k2 l0 t685 t700 t704 t705 true)) else (laws_FnTides.j2 k2 l0 t685 t700 t704 t705 true)) else (laws_FnTides.j2 k2 l0 t685 t700 t704 t705 true)) else (laws_FnTides.j2 k2 l0 t685 t700 t704 t705 true))))) = some r:=H
          have A28:=zM A280
          clear A280
          replace H:=Option.bind_eq_some_iff.mp H
          obtain ⟨⟨t707,t708,t709⟩,A290,H⟩:=H
          replace H : ((impl_SteepestChange.f k2 t685).bind fun bt710=>((impl_SteepestChange.f k2 t690).bind fun bt714=>(if t701 = true then (if t706 = true then (if t709 = true then (if bt710.2.2.2 = true then (if bt714.2.2.2 = true then (if (t700.length : Int) = (t685.length : Int) then (if (wrap64 (t707 * t705)) = (wrap64 ((wrap64 (t704 + (wrap64 (t687 * t705)))) * t708)) then (if bt710.1 = bt714.1 then (laws_FnTides.j2 k2 l0 t685 t700 t704 t705 (bt710.2.1 != bt714.2.1)) else (laws_FnTides.j2 k2 l0 t685 t700 t704 t705 true)) else (laws_FnTides.j2 k2 l0 t685 t700 t704 t705 true)) else (laws_FnTides.j2 k2 l0 t685 t700 t704 t705 true)) else (laws_FnTides.j2 k2 l0 t685 t700 t704 t705 true)) else (laws_FnTides.j2 k2 l0 t685 t700 t704 t705 true)) else (laws_FnTides.j2 k2 l0 t685 t700 t704 t705 true)) else (laws_FnTides.j2 k2 l0 t685 t700 t704 t705 true)) else (laws_FnTides.j2 k2 l0 t685 t700 t704 t705 true)))) = some r:=H
          have A29:=zM A290
          clear A290
          replace H:=Option.bind_eq_some_iff.mp H
          obtain ⟨⟨t710,t711,t712,t713⟩,A300,H⟩:=H
          replace H : ((impl_SteepestChange.f k2 t690).bind fun bt714=>(if t701 = true then (if t706 = true then (if t709 = true then (if t713 = true then (if bt714.2.2.2 = true then (if (t700.length : Int) = (t685.length : Int) then (if (wrap64 (t707 * t705)) = (wrap64 ((wrap64 (t704 + (wrap64 (t687 * t705)))) * t708)) then (if t710 = bt714.1 then (laws_FnTides.j2 k2 l0 t685 t700 t704 t705 (t711 != bt714.2.1)) else (laws_FnTides.j2 k2 l0 t685 t700 t704 t705 true)) else (laws_FnTides.j2 k2 l0 t685 t700 t704 t705 true)) else (laws_FnTides.j2 k2 l0 t685 t700 t704 t705 true)) else (laws_FnTides.j2 k2 l0 t685 t700 t704 t705 true)) else (laws_FnTides.j2 k2 l0 t685 t700 t704 t705 true)) else (laws_FnTides.j2 k2 l0 t685 t700 t704 t705 true)) else (laws_FnTides.j2 k2 l0 t685 t700 t704 t705 true)) else (laws_FnTides.j2 k2 l0 t685 t700 t704 t705 true))) = some r:=H
          have A30:=zM A300
          clear A300
          replace H:=Option.bind_eq_some_iff.mp H
          obtain ⟨⟨t714,t715,t716,t717⟩,A310,H⟩:=H
          replace H : (if t701 = true then (if t706 = true then (if t709 = true then (if t713 = true then (if t717 = true then (if (t700.length : Int) = (t685.length : Int) then (if (wrap64 (t707 * t705)) = (wrap64 ((wrap64 (t704 + (wrap64 (t687 * t705)))) * t708)) then (if t710 = t714 then (laws_FnTides.j2 k2 l0 t685 t700 t704 t705 (t711 != t715)) else (laws_FnTides.j2 k2 l0 t685 t700 t704 t705 true)) else (laws_FnTides.j2 k2 l0 t685 t700 t704 t705 true)) else (laws_FnTides.j2 k2 l0 t685 t700 t704 t705 true)) else (laws_FnTides.j2 k2 l0 t685 t700 t704 t705 true)) else (laws_FnTides.j2 k2 l0 t685 t700 t704 t705 true)) else (laws_FnTides.j2 k2 l0 t685 t700 t704 t705 true)) else (laws_FnTides.j2 k2 l0 t685 t700 t704 t705 true)) else (laws_FnTides.j2 k2 l0 t685 t700 t704 t705 true)) = some r:=H
          have A31:=zM A310
          clear A310
          have HC32:=zM H
          clear H
          go_upto_region 19 with (first|(go_at_call 20;(with_reducible refine (impl_ShiftTides.calls k2 _ _ t690 (wrap64 (-t686)) (wrap64 (-t687)) t700 t701 _ ?side1 ?side2 A27.out).mono ?_);(case side1=>repeat (first|exact (zN HO_6.out).2.2|(with_reducible refine zG ?_ _)|(with_reducible refine zH ?_ _)|(with_reducible refine zI ?_)));(case side2=>exact (zN HO_6.out).2.1);rintro e w33 ⟨v702,rfl,ho0,hb⟩;have n0_:=zM (Kd.R_elder' (by (with_reducible repeat (first|apply zA|apply zB|apply zC));exact HO_3.out) (Kd.R_base ho0) hb);have n1_:=zM (Kd.R_elder' (by (with_reducible repeat (first|apply zA|apply zB|apply zC));exact HO_6.out) (Kd.R_base ho0) hb);have n2_:=zM (Kd.R_elder' (by (with_reducible repeat (first|apply zA|apply zB|apply zC));exact HO_8.out) (Kd.R_base ho0) hb);have n3_:=zM (Kd.R_lower (Kd.R_new' (Kd.R_new' (Kd.R_new' ho0 (Kd.R_lt (by (with_reducible repeat (first|apply zA|apply zB|apply zC));exact HO_3.out))) (Kd.R_lt (by (with_reducible repeat (first|apply zA|apply zB|apply zC));exact HO_6.out))) (Kd.R_lt (by (with_reducible repeat (first|apply zA|apply zB|apply zC));exact HO_8.out))) (zR (by repeat (first|(with_reducible first|exact HB.out|apply zD|apply zE|apply zF)|exact HB.out))));have n4_:=zM (zQ (by repeat (first|(with_reducible first|exact HB.out|apply zD|apply zE|apply zF)|exact HB.out)) hb);clear HO_3;clear HO_6;clear HO_8;clear HB;have HO_3:=n0_;have HO_6:=n1_;have HO_8:=n2_;have HO703:=n3_;have HB:=n4_;clear n0_ n1_ n2_ n3_ n4_;(try clear hb);(try clear hb2);(try clear hk);(try clear hi);(try clear ho0))|(go_at_call 24;(with_reducible refine (impl_MeanHeight.calls k2 _ _ t685 t704 t705 t706 _ ?side1 ?side2 A28.out).mono ?_);(case side1=>repeat (first|exact (zN HO_3.out).2.2|(with_reducible refine zG ?_ _)|(with_reducible refine zH ?_ _)|(with_reducible refine zI ?_)));(case side2=>exact (zN HO_3.out).2.1);rintro e w34 ⟨rfl,hb⟩;have n0_:=zM (zP (by (with_reducible repeat (first|apply zA|apply zB|apply zC));exact HO_3.out) hb);have n1_:=zM (zP (by (with_reducible repeat (first|apply zA|apply zB|apply zC));exact HO_6.out) hb);have n2_:=zM (zP (by (with_reducible repeat (first|apply zA|apply zB|apply zC));exact HO_8.out) hb);have n3_:=zM (zP (by (with_reducible repeat (first|apply zA|apply zB|apply zC));exact HO703.out) hb);have n4_:=zM (zQ (by repeat (first|(with_reducible first|exact HB.out|apply zD|apply zE|apply zF)|exact HB.out)) hb);clear HO_3;clear HO_6;clear HO_8;clear HO703;clear HB;have HO_3:=n0_;have HO_6:=n1_;have HO_8:=n2_;have HO703:=n3_;have HB:=n4_;clear n0_ n1_ n2_ n3_ n4_;(try clear hb);(try clear hb2);(try clear hk);(try clear hi))|(go_at_call 24;(with_reducible refine (impl_MeanHeight.calls k2 _ _ t690 t707 t708 t709 _ ?side1 ?side2 A29.out).mono ?_);(case side1=>repeat (first|exact (zN HO_6.out).2.2|(with_reducible refine zG ?_ _)|(with_reducible refine zH ?_ _)|(with_reducible refine zI ?_)));(case side2=>exact (zN HO_6.out).2.1);rintro e w35 ⟨rfl,hb⟩;have n0_:=zM (zP (by (with_reducible repeat (first|apply zA|apply zB|apply zC));exact HO_3.out) hb);have n1_:=zM (zP (by (with_reducible repeat (first|apply zA|apply zB|apply zC));exact HO_6.out) hb);have n2_:=zM (zP (by (with_reducible repeat (first|apply zA|apply zB|apply zC));exact HO_8.out) hb);have n3_:=zM (zP (by (with_reducible repeat (first|apply zA|apply zB|apply zC));exact HO703.out) hb);have n4_:=zM (zQ (by repeat (first|(with_reducible first|exact HB.out|apply zD|apply zE|apply zF)|exact HB.out)) hb);clear HO_3;clear HO_6;clear HO_8;clear HO703;clear HB;have HO_3:=n0_;have HO_6:=n1_;have HO_8:=n2_;have HO703:=n3_;have HB:=n4_;clear n0_ n1_ n2_ n3_ n4_;(try clear hb);(try clear hb2);(try clear hk);(try clear hi))|(go_at_call 28;(with_reducible refine (impl_SteepestChange.calls k2 _ _ t685 t710 t711 t712 t713 _ ?side1 ?side2 A30.out).mono ?_);(case side1=>repeat (first|exact (zN HO_3.out).2.2|(with_reducible refine zG ?_ _)|(with_reducible refine zH ?_ _)|(with_reducible refine zI ?_)));(case side2=>exact (zN HO_3.out).2.1);rintro e w36 ⟨rfl,hb⟩;have n0_:=zM (zP (by (with_reducible repeat (first|apply zA|apply zB|apply zC));exact HO_3.out) hb);have n1_:=zM (zP (by (with_reducible repeat (first|apply zA|apply zB|apply zC));exact HO_6.out) hb);have n2_:=zM (zP (by (with_reducible repeat (first|apply zA|apply zB|apply zC));exact HO_8.out) hb);have n3_:=zM (zP (by (with_reducible repeat (first|apply zA|apply zB|apply zC));exact HO703.out) hb);have n4_:=zM (zQ (by repeat (first|(with_reducible first|exact HB.out|apply zD|apply zE|apply zF)|exact HB.out)) hb);clear HO_3;clear HO_6;clear HO_8;clear HO703;clear HB;have HO_3:=n0_;have HO_6:=n1_;have HO_8:=n2_;have HO703:=n3_;have HB:=n4_;clear n0_ n1_ n2_ n3_ n4_;(try clear hb);(try clear hb2);(try clear hk);(try clear hi))|(go_at_call 28;(with_reducible refine (impl_SteepestChange.calls k2 _ _ t690 t714 t715 t716 t717 _ ?side1 ?side2 A31.out).mono ?_);(case side1=>repeat (first|exact (zN HO_6.out).2.2|(with_reducible refine zG ?_ _)|(with_reducible refine zH ?_ _)|(with_reducible refine zI ?_)));(case side2=>exact (zN HO_6.out).2.1);rintro e w37 ⟨rfl,hb⟩;have n0_:=zM (zP (by (with_reducible repeat (first|apply zA|apply zB|apply zC));exact HO_3.out) hb);have n1_:=zM (zP (by (with_reducible repeat (first|apply zA|apply zB|apply zC));exact HO_6.out) hb);have n2_:=zM (zP (by (with_reducible repeat (first|apply zA|apply zB|apply zC));exact HO_8.out) hb);have n3_:=zM (zP (by (with_reducible repeat (first|apply zA|apply zB|apply zC));exact HO703.out) hb);have n4_:=zM (zQ (by repeat (first|(with_reducible first|exact HB.out|apply zD|apply zE|apply zF)|exact HB.out)) hb);clear HO_3;clear HO_6;clear HO_8;clear HO703;clear HB;have HO_3:=n0_;have HO_6:=n1_;have HO_8:=n2_;have HO703:=n3_;have HB:=n4_;clear n0_ n1_ n2_ n3_ n4_;(try clear hb);(try clear hb2);(try clear hk);(try clear hi)))
          repeat (go_quiet (first|(go_at_call 20;(with_reducible refine (impl_ShiftTides.calls k2 _ _ t690 (wrap64 (-t686)) (wrap64 (-t687)) t700 t701 _ ?side1 ?side2 A27.out).mono ?_);(case side1=>repeat (first|exact (zN HO_6.out).2.2|(with_reducible refine zG ?_ _)|(with_reducible refine zH ?_ _)|(with_reducible refine zI ?_)));(case side2=>exact (zN HO_6.out).2.1);rintro e w33 ⟨v702,rfl,ho0,hb⟩;have n0_:=zM (Kd.R_elder' (by (with_reducible repeat (first|apply zA|apply zB|apply zC));exact HO_3.out) (Kd.R_base ho0) hb);have n1_:=zM (Kd.R_elder' (by (with_reducible repeat (first|apply zA|apply zB|apply zC));exact HO_6.out) (Kd.R_base ho0) hb);have n2_:=zM (Kd.R_elder' (by (with_reducible repeat (first|apply zA|apply zB|apply zC));exact HO_8.out) (Kd.R_base ho0) hb);have n3_:=zM (Kd.R_lower (Kd.R_new' (Kd.R_new' (Kd.R_new' ho0 (Kd.R_lt (by (with_reducible repeat (first|apply zA|apply zB|apply zC));exact HO_3.out))) (Kd.R_lt (by (with_reducible repeat (first|apply zA|apply zB|apply zC));exact HO_6.out))) (Kd.R_lt (by (with_reducible repeat (first|apply zA|apply zB|apply zC));exact HO_8.out))) (zR (by repeat (first|(with_reducible first|exact HB.out|apply zD|apply zE|apply zF)|exact HB.out))));have n4_:=zM (zQ (by repeat (first|(with_reducible first|exact HB.out|apply zD|apply zE|apply zF)|exact HB.out)) hb);clear HO_3;clear HO_6;clear HO_8;clear HB;have HO_3:=n0_;have HO_6:=n1_;have HO_8:=n2_;have HO703:=n3_;have HB:=n4_;clear n0_ n1_ n2_ n3_ n4_;(try clear hb);(try clear hb2);(try clear hk);(try clear hi);(try clear ho0))|(go_at_call 24;(with_reducible refine (impl_MeanHeight.calls k2 _ _ t685 t704 t705 t706 _ ?side1 ?side2 A28.out).mono ?_);(case side1=>repeat (first|exact (zN HO_3.out).2.2|(with_reducible refine zG ?_ _)|(with_reducible refine zH ?_ _)|(with_reducible refine zI ?_)));(case side2=>exact (zN HO_3.out).2.1);rintro e w34 ⟨rfl,hb⟩;have n0_:=zM (zP (by (with_reducible repeat (first|apply zA|apply zB|apply zC));exact HO_3.out) hb);have n1_:=zM (zP (by (with_reducible repeat (first|apply zA|apply zB|apply zC));exact HO_6.out) hb);have n2_:=zM (zP (by (with_reducible repeat (first|apply zA|apply zB|apply zC));exact HO_8.out) hb);have n3_:=zM (zP (by (with_reducible repeat (first|apply zA|apply zB|apply zC));exact HO703.out) hb);have n4_:=zM (zQ (by repeat (first|(with_reducible first|exact HB.out|apply zD|apply zE|apply zF)|exact HB.out)) hb);clear HO_3;clear HO_6;clear HO_8;clear HO703;clear HB;have HO_3:=n0_;have HO_6:=n1_;have HO_8:=n2_;have HO703:=n3_;have HB:=n4_;clear n0_ n1_ n2_ n3_ n4_;(try clear hb);(try clear hb2);(try clear hk);(try clear hi))|(go_at_call 24;(with_reducible refine (impl_MeanHeight.calls k2 _ _ t690 t707 t708 t709 _ ?side1 ?side2 A29.out).mono ?_);(case side1=>repeat (first|exact (zN HO_6.out).2.2|(with_reducible refine zG ?_ _)|(with_reducible refine zH ?_ _)|(with_reducible refine zI ?_)));(case side2=>exact (zN HO_6.out).2.1);rintro e w35 ⟨rfl,hb⟩;have n0_:=zM (zP (by (with_reducible repeat (first|apply zA|apply zB|apply zC));exact HO_3.out) hb);have n1_:=zM (zP (by (with_reducible repeat (first|apply zA|apply zB|apply zC));exact HO_6.out) hb);have n2_:=zM (zP (by (with_reducible repeat (first|apply zA|apply zB|apply zC));exact HO_8.out) hb);have n3_:=zM (zP (by (with_reducible repeat (first|apply zA|apply zB|apply zC));exact HO703.out) hb);have n4_:=zM (zQ (by repeat (first|(with_reducible first|exact HB.out|apply zD|apply zE|apply zF)|exact HB.out)) hb);clear HO_3;clear HO_6;clear HO_8;clear HO703;clear HB;have HO_3:=n0_;have HO_6:=n1_;have HO_8:=n2_;have HO703:=n3_;have HB:=n4_;clear n0_ n1_ n2_ n3_ n4_;(try clear hb);(try clear hb2);(try clear hk);(try clear hi))|(go_at_call 28;(with_reducible refine (impl_SteepestChange.calls k2 _ _ t685 t710 t711 t712 t713 _ ?side1 ?side2 A30.out).mono ?_);(case side1=>repeat (first|exact (zN HO_3.out).2.2|(with_reducible refine zG ?_ _)|(with_reducible refine zH ?_ _)|(with_reducible refine zI ?_)));(case side2=>exact (zN HO_3.out).2.1);rintro e w36 ⟨rfl,hb⟩;have n0_:=zM (zP (by (with_reducible repeat (first|apply zA|apply zB|apply zC));exact HO_3.out) hb);have n1_:=zM (zP (by (with_reducible repeat (first|apply zA|apply zB|apply zC));exact HO_6.out) hb);have n2_:=zM (zP (by (with_reducible repeat (first|apply zA|apply zB|apply zC));exact HO_8.out) hb);have n3_:=zM (zP (by (with_reducible repeat (first|apply zA|apply zB|apply zC));exact HO703.out) hb);have n4_:=zM (zQ (by repeat (first|(with_reducible first|exact HB.out|apply zD|apply zE|apply zF)|exact HB.out)) hb);clear HO_3;clear HO_6;clear HO_8;clear HO703;clear HB;have HO_3:=n0_;have HO_6:=n1_;have HO_8:=n2_;have HO703:=n3_;have HB:=n4_;clear n0_ n1_ n2_ n3_ n4_;(try clear hb);(try clear hb2);(try clear hk);(try clear hi))|(go_at_call 28;(with_reducible refine (impl_SteepestChange.calls k2 _ _ t690 t714 t715 t716 t717 _ ?side1 ?side2 A31.out).mono ?_);(case side1=>repeat (first|exact (zN HO_6.out).2.2|(with_reducible refine zG ?_ _)|(with_reducible refine zH ?_ _)|(with_reducible refine zI ?_)));(case side2=>exact (zN HO_6.out).2.1);rintro e w37 ⟨rfl,hb⟩;have n0_:=zM (zP (by (with_reducible repeat (first|apply zA|apply zB|apply zC));exact HO_3.out) hb);have n1_:=zM (zP (by (with_reducible repeat (first|apply zA|apply zB|apply zC));exact HO_6.out) hb);have n2_:=zM (zP (by (with_reducible repeat (first|apply zA|apply zB|apply zC));exact HO_8.out) hb);have n3_:=zM (zP (by (with_reducible repeat (first|apply zA|apply zB|apply zC));exact HO703.out) hb);have n4_:=zM (zQ (by repeat (first|(with_reducible first|exact HB.out|apply zD|apply zE|apply zF)|exact HB.out)) hb);clear HO_3;clear HO_6;clear HO_8;clear HO703;clear HB;have HO_3:=n0_;have HO_6:=n1_;have HO_8:=n2_;have HO703:=n3_;have HB:=n4_;clear n0_ n1_ n2_ n3_ n4_;(try clear hb);(try clear hb2);(try clear hk);(try clear hi)));go_upto_region 19 with (first|(go_at_call 20;(with_reducible refine (impl_ShiftTides.calls k2 _ _ t690 (wrap64 (-t686)) (wrap64 (-t687)) t700 t701 _ ?side1 ?side2 A27.out).mono ?_);(case side1=>repeat (first|exact (zN HO_6.out).2.2|(with_reducible refine zG ?_ _)|(with_reducible refine zH ?_ _)|(with_reducible refine zI ?_)));(case side2=>exact (zN HO_6.out).2.1);rintro e w33 ⟨v702,rfl,ho0,hb⟩;have n0_:=zM (Kd.R_elder' (by (with_reducible repeat (first|apply zA|apply zB|apply zC));exact HO_3.out) (Kd.R_base ho0) hb);have n1_:=zM (Kd.R_elder' (by (with_reducible repeat (first|apply zA|apply zB|apply zC));exact HO_6.out) (Kd.R_base ho0) hb);have n2_:=zM (Kd.R_elder' (by (with_reducible repeat (first|apply zA|apply zB|apply zC));exact HO_8.out) (Kd.R_base ho0) hb);have n3_:=zM (Kd.R_lower (Kd.R_new' (Kd.R_new' (Kd.R_new' ho0 (Kd.R_lt (by (with_reducible repeat (first|apply zA|apply zB|apply zC));exact HO_3.out))) (Kd.R_lt (by (with_reducible repeat (first|apply zA|apply zB|apply zC));exact HO_6.out))) (Kd.R_lt (by (with_reducible repeat (first|apply zA|apply zB|apply zC));exact HO_8.out))) (zR (by repeat (first|(with_reducible first|exact HB.out|apply zD|apply zE|apply zF)|exact HB.out))));have n4_:=zM (zQ (by repeat (first|(with_reducible first|exact HB.out|apply zD|apply zE|apply zF)|exact HB.out)) hb);clear HO_3;clear HO_6;clear HO_8;clear HB;have HO_3:=n0_;have HO_6:=n1_;have HO_8:=n2_;have HO703:=n3_;have HB:=n4_;clear n0_ n1_ n2_ n3_ n4_;(try clear hb);(try clear hb2);(try clear hk);(try clear hi);(try clear ho0))|(go_at_call 24;(with_reducible refine (impl_MeanHeight.calls k2 _ _ t685 t704 t705 t706 _ ?side1 ?side2 A28.out).mono ?_);(case side1=>repeat (first|exact (zN HO_3.out).2.2|(with_reducible refine zG ?_ _)|(with_reducible refine zH ?_ _)|(with_reducible refine zI ?_)));(case side2=>exact (zN HO_3.out).2.1);rintro e w34 ⟨rfl,hb⟩;have n0_:=zM (zP (by (with_reducible repeat (first|apply zA|apply zB|apply zC));exact HO_3.out) hb);have n1_:=zM (zP (by (with_reducible repeat (first|apply zA|apply zB|apply zC));exact HO_6.out) hb);have n2_:=zM (zP (by (with_reducible repeat (first|apply zA|apply zB|apply zC));exact HO_8.out) hb);have n3_:=zM (zP (by (with_reducible repeat (first|apply zA|apply zB|apply zC));exact HO703.out) hb);have n4_:=zM (zQ (by repeat (first|(with_reducible first|exact HB.out|apply zD|apply zE|apply zF)|exact HB.out)) hb);clear HO_3;clear HO_6;clear HO_8;clear HO703;clear HB;have HO_3:=n0_;have HO_6:=n1_;have HO_8:=n2_;have HO703:=n3_;have HB:=n4_;clear n0_ n1_ n2_ n3_ n4_;(try clear hb);(try clear hb2);(try clear hk);(try clear hi))|(go_at_call 24;(with_reducible refine (impl_MeanHeight.calls k2 _ _ t690 t707 t708 t709 _ ?side1 ?side2 A29.out).mono ?_);(case side1=>repeat (first|exact (zN HO_6.out).2.2|(with_reducible refine zG ?_ _)|(with_reducible refine zH ?_ _)|(with_reducible refine zI ?_)));(case side2=>exact (zN HO_6.out).2.1);rintro e w35 ⟨rfl,hb⟩;have n0_:=zM (zP (by (with_reducible repeat (first|apply zA|apply zB|apply zC));exact HO_3.out) hb);have n1_:=zM (zP (by (with_reducible repeat (first|apply zA|apply zB|apply zC));exact HO_6.out) hb);have n2_:=zM (zP (by (with_reducible repeat (first|apply zA|apply zB|apply zC));exact HO_8.out) hb);have n3_:=zM (zP (by (with_reducible repeat (first|apply zA|apply zB|apply zC));exact HO703.out) hb);have n4_:=zM (zQ (by repeat (first|(with_reducible first|exact HB.out|apply zD|apply zE|apply zF)|exact HB.out)) hb);clear HO_3;clear HO_6;clear HO_8;clear HO703;clear HB;have HO_3:=n0_;have HO_6:=n1_;have HO_8:=n2_;have HO703:=n3_;have HB:=n4_;clear n0_ n1_ n2_ n3_ n4_;(try clear hb);(try clear hb2);(try clear hk);(try clear hi))|(go_at_call 28;(with_reducible refine (impl_SteepestChange.calls k2 _ _ t685 t710 t711 t712 t713 _ ?side1 ?side2 A30.out).mono ?_);(case side1=>repeat (first|exact (zN HO_3.out).2.2|(with_reducible refine zG ?_ _)|(with_reducible refine zH ?_ _)|(with_reducible refine zI ?_)));(case side2=>exact (zN HO_3.out).2.1);rintro e w36 ⟨rfl,hb⟩;have n0_:=zM (zP (by (with_reducible repeat (first|apply zA|apply zB|apply zC));exact HO_3.out) hb);have n1_:=zM (zP (by (with_reducible repeat (first|apply zA|apply zB|apply zC));exact HO_6.out) hb);have n2_:=zM (zP (by (with_reducible repeat (first|apply zA|apply zB|apply zC));exact HO_8.out) hb);have n3_:=zM (zP (by (with_reducible repeat (first|apply zA|apply zB|apply zC));exact HO703.out) hb);have n4_:=zM (zQ (by repeat (first|(with_reducible first|exact HB.out|apply zD|apply zE|apply zF)|exact HB.out)) hb);clear HO_3;clear HO_6;clear HO_8;clear HO703;clear HB;have HO_3:=n0_;have HO_6:=n1_;have HO_8:=n2_;have HO703:=n3_;have HB:=n4_;clear n0_ n1_ n2_ n3_ n4_;(try clear hb);(try clear hb2);(try clear hk);(try clear hi))|(go_at_call 28;(with_reducible refine (impl_SteepestChange.calls k2 _ _ t690 t714 t715 t716 t717 _ ?side1 ?side2 A31.out).mono ?_);(case side1=>repeat (first|exact (zN HO_6.out).2.2|(with_reducible refine zG ?_ _)|(with_reducible refine zH ?_ _)|(with_reducible refine zI ?_)));(case side2=>exact (zN HO_6.out).2.1);rintro e w37 ⟨rfl,hb⟩;have n0_:=zM (zP (by (with_reducible repeat (first|apply zA|apply zB|apply zC));exact HO_3.out) hb);have n1_:=zM (zP (by (with_reducible repeat (first|apply zA|apply zB|apply zC));exact HO_6.out) hb);have n2_:=zM (zP (by (with_reducible repeat (first|apply zA|apply zB|apply zC));exact HO_8.out) hb);have n3_:=zM (zP (by (with_reducible repeat (first|apply zA|apply zB|apply zC));exact HO703.out) hb);have n4_:=zM (zQ (by repeat (first|(with_reducible first|exact HB.out|apply zD|apply zE|apply zF)|exact HB.out)) hb);clear HO_3;clear HO_6;clear HO_8;clear HO703;clear HB;have HO_3:=n0_;have HO_6:=n1_;have HO_8:=n2_;have HO703:=n3_;have HB:=n4_;clear n0_ n1_ n2_ n3_ n4_;(try clear hb);(try clear hb2);(try clear hk);(try clear hi))))
          (try simp only [Act.put,List.setIfInBounds_toArray,List.set_cons_zero,List.set_cons_succ])
          go_cut [166] (fun v166 wc => ∃ (kq : Nat) (x166_31 : Bool),v166 = .bool x166_31 ∧ Aside0 (laws_FnTides.j2 kq l0 t685 t700 t704 t705 x166_31 = some r) ∧ Aside0 (kq ≤ k2) ∧ Aside0 (Kd.R k60 60 wc w.heap.size (fun k_=>some k_ ≠ (v702 : Value).ownBlock) (.slice Ao9 t685.length co9) t685) ∧ Aside0 (Kd.R k60 60 wc w.heap.size (fun k_=>some k_ ≠ ((.slice Ao9 t685.length co9) : Value).ownBlock) v702 t700) ∧ Aside0 (Below w.heap.size w wc))
          case first =>
           have H:=HC32.out
           clear HC32
           by_cases c38 : t701 = true
           ·as_aux_lemma =>
            subst c38
            have H1 : (if t706 = true then (if t709 = true then (if t713 = true then (if t717 = true then (if (t700.length : Int) = (t685.length : Int) then (if (wrap64 (t707 * t705)) = (wrap64 ((wrap64 (t704 + (wrap64 (t687 * t705)))) * t708)) then (if t710 = t714 then (laws_FnTides.j2 k2 l0 t685 t700 t704 t705 (t711 != t715)) else (laws_FnTides.j2 k2 l0 t685 t700 t704 t705 true)) else (laws_FnTides.j2 k2 l0 t685 t700 t704 t705 true)) else (laws_FnTides.j2 k2 l0 t685 t700 t704 t705 true)) else (laws_FnTides.j2 k2 l0 t685 t700 t704 t705 true)) else (laws_FnTides.j2 k2 l0 t685 t700 t704 t705 true)) else (laws_FnTides.j2 k2 l0 t685 t700 t704 t705 true)) else (laws_FnTides.j2 k2 l0 t685 t700 t704 t705 true)) = some r:=by rw [if_pos rfl] at H;exact H
            clear H
            have H:=H1
            clear H1
            by_cases c39 : t706 = true
            ·as_aux_lemma =>
             subst c39
             have H1 : (if t709 = true then (if t713 = true then (if t717 = true then (if (t700.length : Int) = (t685.length : Int) then (if (wrap64 (t707 * t705)) = (wrap64 ((wrap64 (t704 + (wrap64 (t687 * t705)))) * t708)) then (if t710 = t714 then (laws_FnTides.j2 k2 l0 t685 t700 t704 t705 (t711 != t715)) else (laws_FnTides.j2 k2 l0 t685 t700 t704 t705 true)) else (laws_FnTides.j2 k2 l0 t685 t700 t704 t705 true)) else (laws_FnTides.j2 k2 l0 t685 t700 t704 t705 true)) else (laws_FnTides.j2 k2 l0 t685 t700 t704 t705 true)) else (laws_FnTides.j2 k2 l0 t685 t700 t704 t705 true)) else (laws_FnTides.j2 k2 l0 t685 t700 t704 t705 true)) = some r:=by rw [if_pos rfl] at H;exact H
             clear H
             have H:=H1
             clear H1
             by_cases c40 : t709 = true
             ·as_aux_lemma =>
              subst c40
              have H1 : (if t713 = true then (if t717 = true then (if (t700.length : Int) = (t685.length : Int) then (if (wrap64 (t707 * t705)) = (wrap64 ((wrap64 (t704 + (wrap64 (t687 * t705)))) * t708)) then (if t710 = t714 then (laws_FnTides.j2 k2 l0 t685 t700 t704 t705 (t711 != t715)) else (laws_FnTides.j2 k2 l0 t685 t700 t704 t705 true)) else (laws_FnTides.j2 k2 l0 t685 t700 t704 t705 true)) else (laws_FnTides.j2 k2 l0 t685 t700 t704 t705 true)) else (laws_FnTides.j2 k2 l0 t685 t700 t704 t705 true)) else (laws_FnTides.j2 k2 l0 t685 t700 t704 t705 true)) = some r:=by rw [if_pos rfl] at H;exact H
              clear H
              have H:=H1
              clear H1
              by_cases c41 : t713 = true
              ·as_aux_lemma =>
               subst c41
               have H1 : (if t717 = true then (if (t700.length : Int) = (t685.length : Int) then (if (wrap64 (t707 * t705)) = (wrap64 ((wrap64 (t704 + (wrap64 (t687 * t705)))) * t708)) then (if t710 = t714 then (laws_FnTides.j2 k2 l0 t685 t700 t704 t705 (t711 != t715)) else (laws_FnTides.j2 k2 l0 t685 t700 t704 t705 true)) else (laws_FnTides.j2 k2 l0 t685 t700 t704 t705 true)) else (laws_FnTides.j2 k2 l0 t685 t700 t704 t705 true)) else (laws_FnTides.j2 k2 l0 t685 t700 t704 t705 true)) = some r:=by rw [if_pos rfl] at H;exact H
               clear H
               have H:=H1
               clear H1
               by_cases c42 : t717 = true
               ·as_aux_lemma =>
                subst c42
                have H1 : (if (t700.length : Int) = (t685.length : Int) then (if (wrap64 (t707 * t705)) = (wrap64 ((wrap64 (t704 + (wrap64 (t687 * t705)))) * t708)) then (if t710 = t714 then (laws_FnTides.j2 k2 l0 t685 t700 t704 t705 (t711 != t715)) else (laws_FnTides.j2 k2 l0 t685 t700 t704 t705 true)) else (laws_FnTides.j2 k2 l0 t685 t700 t704 t705 true)) else (laws_FnTides.j2 k2 l0 t685 t700 t704 t705 true)) = some r:=by rw [if_pos rfl] at H;exact H
                clear H
                have H:=H1
                clear H1
                by_cases c43 : (t700.length : Int) = (t685.length : Int)
                ·as_aux_lemma =>
                 rw [if_pos c43] at H
                 have c43b0 : ((t700.length : Int) == (t685.length : Int)) = true:=beq_iff_eq.mpr c43
                 have c43b1 : ((t700.length : Int) != (t685.length : Int)) = false:=bne_eq_false_iff_eq.mpr c43
                 have c43b2 : (t700.length == t685.length) = true:=by first|simpa using c43|(simp at c43 ⊢;omega)
                 clear c43
                 (first|rw [c43b0]|(simp only [i64_w,i32_w];rw [c43b0])|skip)
                 by_cases c44 : (wrap64 (t707 * t705)) = (wrap64 ((wrap64 (t704 + (wrap64 (t687 * t705)))) * t708))
                 ·as_aux_lemma =>
                  rw [if_pos c44] at H
                  have c44b0 : ((wrap64 (t707 * t705)) == (wrap64 ((wrap64 (t704 + (wrap64 (t687 * t705)))) * t708))) = true:=beq_iff_eq.mpr c44
                  have c44b1 : ((wrap64 (t707 * t705)) != (wrap64 ((wrap64 (t704 + (wrap64 (t687 * t705)))) * t708))) = false:=bne_eq_false_iff_eq.mpr c44
                  clear c44
                  by_cases c45 : t710 = t714
                  ·as_aux_lemma =>
                   rw [if_pos c45] at H
                   have c45b0 : (t710 == t714) = true:=beq_iff_eq.mpr c45
                   have c45b1 : (t710 != t714) = false:=bne_eq_false_iff_eq.mpr c45
                   clear c45
                   have H':=zM H
                   clear H
                   obtain ⟨Ao46,co46,eo46⟩:=Kd.R_slice HO703.out
                   subst eo46
                   go_wp2
                   repeat (go_quiet (fail);try go_wp2)
                   go_meet
                   case rel=>exact ⟨_,((t711 != t715)),(by first|rfl|(simp;done)|(simp [*];done)),H',⟨by have:=HJ6.out;have:=HK2.out;first|omega|exact Nat.le_refl _⟩,⟨by (with_reducible repeat (first|apply zA|apply zB|apply zC));exact Kd.R_mono HO_3.out (fun _ hk=>hk.2)⟩,⟨by (with_reducible repeat (first|apply zA|apply zB|apply zC));exact Kd.R_mono HO703.out (fun _ hk=>hk.1.1.2)⟩,⟨by repeat (first|(with_reducible first|exact HB.out|apply zD|apply zE|apply zF)|exact HB.out)⟩⟩
                  ·as_aux_lemma =>
                   rw [if_neg c45] at H
                   have c45b0 : (t710 == t714) = false:=beq_eq_false_iff_ne.mpr c45
                   have c45b1 : (t710 != t714) = true:=bne_iff_ne.mpr c45
                   have H':=zM H
                   clear H
                   obtain ⟨Ao47,co47,eo47⟩:=Kd.R_slice HO703.out
                   subst eo47
                   go_wp2
                   repeat (go_quiet (fail);try go_wp2)
                   go_meet
                   case rel=>exact ⟨_,(true),(by first|rfl|(simp;done)|(simp [*];done)),H',⟨by have:=HJ6.out;have:=HK2.out;first|omega|exact Nat.le_refl _⟩,⟨by (with_reducible repeat (first|apply zA|apply zB|apply zC));exact Kd.R_mono HO_3.out (fun _ hk=>hk.2)⟩,⟨by (with_reducible repeat (first|apply zA|apply zB|apply zC));exact Kd.R_mono HO703.out (fun _ hk=>hk.1.1.2)⟩,⟨by repeat (first|(with_reducible first|exact HB.out|apply zD|apply zE|apply zF)|exact HB.out)⟩⟩
                 ·as_aux_lemma =>
                  rw [if_neg c44] at H
                  have c44b0 : ((wrap64 (t707 * t705)) == (wrap64 ((wrap64 (t704 + (wrap64 (t687 * t705)))) * t708))) = false:=beq_eq_false_iff_ne.mpr c44
                  have c44b1 : ((wrap64 (t707 * t705)) != (wrap64 ((wrap64 (t704 + (wrap64 (t687 * t705)))) * t708))) = true:=bne_iff_ne.mpr c44
                  have H':=zM H
                  clear H
                  obtain ⟨Ao48,co48,eo48⟩:=Kd.R_slice HO703.out
                  subst eo48
                  go_wp2
                  repeat (go_quiet (fail);try go_wp2)
                  go_meet
                  case rel=>exact ⟨_,(true),(by first|rfl|(simp;done)|(simp [*];done)),H',⟨by have:=HJ6.out;have:=HK2.out;first|omega|exact Nat.le_refl _⟩,⟨by (with_reducible repeat (first|apply zA|apply zB|apply zC));exact Kd.R_mono HO_3.out (fun _ hk=>hk.2)⟩,⟨by (with_reducible repeat (first|apply zA|apply zB|apply zC));exact Kd.R_mono HO703.out (fun _ hk=>hk.1.1.2)⟩,⟨by repeat (first|(with_reducible first|exact HB.out|apply zD|apply zE|apply zF)|exact HB.out)⟩⟩
                ·as_aux_lemma =>
                 rw [if_neg c43] at H
                 have c43b0 : ((t700.length : Int) == (t685.length : Int)) = false:=beq_eq_false_iff_ne.mpr c43
                 have c43b1 : ((t700.length : Int) != (t685.length : Int)) = true:=bne_iff_ne.mpr c43
                 have c43b2 : (t700.length == t685.length) = false:=by first|simpa using c43|(simp at c43 ⊢;omega)
                 (first|rw [c43b0]|(simp only [i64_w,i32_w];rw [c43b0])|skip)
                 have H':=zM H
                 clear H
                 obtain ⟨Ao49,co49,eo49⟩:=Kd.R_slice HO703.out
                 subst eo49
                 go_wp2
                 repeat (go_quiet (fail);try go_wp2)
                 go_meet
                 case rel=>exact ⟨_,(true),(by first|rfl|(simp;done)|(simp [*];done)),H',⟨by have:=HJ6.out;have:=HK2.out;first|omega|exact Nat.le_refl _⟩,⟨by (with_reducible repeat (first|apply zA|apply zB|apply zC));exact Kd.R_mono HO_3.out (fun _ hk=>hk.2)⟩,⟨by (with_reducible repeat (first|apply zA|apply zB|apply zC));exact Kd.R_mono HO703.out (fun _ hk=>hk.1.1.2)⟩,⟨by repeat (first|(with_reducible first|exact HB.out|apply zD|apply zE|apply zF)|exact HB.out)⟩⟩
               ·as_aux_lemma =>
                replace c42:=Bool.eq_false_iff.mpr c42
                subst c42
                have H1 : (laws_FnTides.j2 k2 l0 t685 t700 t704 t705 true) = some r:=by rw [if_neg (show ¬ (false = true) by decide)] at H;exact H
                clear H
                have H:=H1
                clear H1
                have H':=zM H
                clear H
                go_wp2
                repeat (go_quiet (fail);try go_wp2)
                go_meet
                case rel=>exact ⟨_,(true),(by first|rfl|(simp;done)|(simp [*];done)),H',⟨by have:=HJ6.out;have:=HK2.out;first|omega|exact Nat.le_refl _⟩,⟨by (with_reducible repeat (first|apply zA|apply zB|apply zC));exact Kd.R_mono HO_3.out (fun _ hk=>hk.2)⟩,⟨by (with_reducible repeat (first|apply zA|apply zB|apply zC));exact Kd.R_mono HO703.out (fun _ hk=>hk.1.1.2)⟩,⟨by repeat (first|(with_reducible first|exact HB.out|apply zD|apply zE|apply zF)|exact HB.out)⟩⟩
              ·as_aux_lemma =>
               replace c41:=Bool.eq_false_iff.mpr c41
               subst c41
               have H1 : (laws_FnTides.j2 k2 l0 t685 t700 t704 t705 true) = some r:=by rw [if_neg (show ¬ (false = true) by decide)] at H;exact H
               clear H
               have H:=H1
               clear H1
               have H':=zM H
               clear H
               go_wp2
               repeat (go_quiet (fail);try go_wp2)
               go_meet
               case rel=>exact ⟨_,(true),(by first|rfl|(simp;done)|(simp [*];done)),H',⟨by have:=HJ6.out;have:=HK2.out;first|omega|exact Nat.le_refl _⟩,⟨by (with_reducible repeat (first|apply zA|apply zB|apply zC));exact Kd.R_mono HO_3.out (fun _ hk=>hk.2)⟩,⟨by (with_reducible repeat (first|apply zA|apply zB|apply zC));exact Kd.R_mono HO703.out (fun _ hk=>hk.1.1.2)⟩,⟨by repeat (first|(with_reducible first|exact HB.out|apply zD|apply zE|apply zF)|exact HB.out)⟩⟩
             ·as_aux_lemma =>
              replace c40:=Bool.eq_false_iff.mpr c40
              subst c40
              have H1 : (laws_FnTides.j2 k2 l0 t685 t700 t704 t705 true) = some r:=by rw [if_neg (show ¬ (false = true) by decide)] at H;exact H
              clear H
              have H:=H1
              clear H1
              have H':=zM H
              clear H
              go_wp2
              repeat (go_quiet (fail);try go_wp2)
              go_meet
              case rel=>exact ⟨_,(true),(by first|rfl|(simp;done)|(simp [*];done)),H',⟨by have:=HJ6.out;have:=HK2.out;first|omega|exact Nat.le_refl _⟩,⟨by (with_reducible repeat (first|apply zA|apply zB|apply zC));exact Kd.R_mono HO_3.out (fun _ hk=>hk.2)⟩,⟨by (with_reducible repeat (first|apply zA|apply zB|apply zC));exact Kd.R_mono HO703.out (fun _ hk=>hk.1.1.2)⟩,⟨by repeat (first|(with_reducible first|exact HB.out|apply zD|apply zE|apply zF)|exact HB.out)⟩⟩
            ·as_aux_lemma =>
             replace c39:=Bool.eq_false_iff.mpr c39
             subst c39
             have H1 : (laws_FnTides.j2 k2 l0 t685 t700 t704 t705 true) = some r:=by rw [if_neg (show ¬ (false = true) by decide)] at H;exact H
             clear H
             have H:=H1
             clear H1
             have H':=zM H
             clear H
             go_wp2
             repeat (go_quiet (fail);try go_wp2)
             go_meet
             case rel=>exact ⟨_,(true),(by first|rfl|(simp;done)|(simp [*];done)),H',⟨by have:=HJ6.out;have:=HK2.out;first|omega|exact Nat.le_refl _⟩,⟨by (with_reducible repeat (first|apply zA|apply zB|apply zC));exact Kd.R_mono HO_3.out (fun _ hk=>hk.2)⟩,⟨by (with_reducible repeat (first|apply zA|apply zB|apply zC));exact Kd.R_mono HO703.out (fun _ hk=>hk.1.1.2)⟩,⟨by repeat (first|(with_reducible first|exact HB.out|apply zD|apply zE|apply zF)|exact HB.out)⟩⟩
           ·as_aux_lemma =>
            replace c38:=Bool.eq_false_iff.mpr c38
            subst c38
            have H1 : (laws_FnTides.j2 k2 l0 t685 t700 t704 t705 true) = some r:=by rw [if_neg (show ¬ (false = true) by decide)] at H;exact H
            clear H
            have H:=H1
            clear H1
            have H':=zM H
            clear H
            go_wp2
            repeat (go_quiet (fail);try go_wp2)
            go_meet
            case rel=>exact ⟨_,(true),(by first|rfl|(simp;done)|(simp [*];done)),H',⟨by have:=HJ6.out;have:=HK2.out;first|omega|exact Nat.le_refl _⟩,⟨by (with_reducible repeat (first|apply zA|apply zB|apply zC));exact Kd.R_mono HO_3.out (fun _ hk=>hk.2)⟩,⟨by (with_reducible repeat (first|apply zA|apply zB|apply zC));exact Kd.R_mono HO703.out (fun _ hk=>hk.1.1.2)⟩,⟨by repeat (first|(with_reducible first|exact HB.out|apply zD|apply zE|apply zF)|exact HB.out)⟩⟩
          case rest =>
           clear HC32
           try clear c1
           try clear c2
           try clear p2
           try clear c3
           try clear c4
           try clear p6
           try clear q6
           try clear hx6
           try clear c12
           try clear c12b0
           try clear c12b1
           try clear c12b2
           try clear c15
           try clear c16
           try clear c16b0
           try clear c17
           try clear c17b0
           try clear c18
           try clear c18b0
           try clear c19
           try clear c19b0
           try clear c26
           try clear c38
           try clear c39
           try clear c40
           try clear c41
           try clear c42
           try clear c43
           try clear c43b0
           try clear c43b1
           try clear c43b2
           try clear c44
           try clear c44b0
           try clear c44b1
           try clear c45
           try clear c45b0
           try clear c45b1
           try clear hx698_0
           try clear hx698_1
           try clear hx699_0
           try clear hx699_1
           try clear p2
           try clear p698
           try clear p699
           try clear q698
           try clear q699
           obtain ⟨kq,x166_31,rfl,HA,HJ31,HO_3,HO_11,HB⟩:=hcut
           cases kq with
           | zero=>exact absurd HA.out (by simp [laws_FnTides.j2])
           | succ kj31 =>
            have H:=HA.out
            clear HA
            simp only [laws_FnTides.j2] at H
            by_cases c50 : x166_31 = true
            ·as_aux_lemma =>
             subst c50
             have H1 : (some false) = some r:=by rw [if_pos rfl] at H;exact H
             clear H
             have H:=H1
             clear H1
             obtain rfl:=Option.some.inj H
             go_wp2
             repeat (go_quiet (fail);try go_wp2)
             go_ret
             exact ⟨by first|rfl|(simp [errW_none,errW_some] <;> rfl)|(simp [*,errW_none,errW_some] <;> rfl),by repeat (first|(with_reducible first|exact HB.out|apply zD|apply zE|apply zF)|exact HB.out)⟩
            ·as_aux_lemma =>
             replace c50:=Bool.eq_false_iff.mpr c50
             subst c50
             have H1 : (laws_FnTides.l1 kj31 l0 t685 t700 t704 t705 0) = some r:=by rw [if_neg (show ¬ (false = true) by decide)] at H;exact H
             clear H
             have H:=H1
             clear H1
             have H':=zM H
             clear H
             go_wp2
             repeat (go_quiet (fail);try go_wp2)
             go_loopg [27] kj31 (fun kq v27 w' => ∃ (x27_4 : Int),v27 = .int .i64 x27_4 ∧ Aside0 (laws_FnTides.l1 kq l0 t685 t700 t704 t705 x27_4 = some r) ∧ Aside0 (kq ≤ kj31) ∧ Aside0 (Kd.R k60 60 w' w.heap.size (fun k_=>some k_ ≠ (v702 : Value).ownBlock) (.slice Ao9 t685.length co9) t685) ∧ Aside0 (Kd.R k60 60 w' w.heap.size (fun k_=>some k_ ≠ ((.slice Ao9 t685.length co9) : Value).ownBlock) v702 t700) ∧ Aside0 (Below w.heap.size w w'))
             case atStart=>exact ⟨(0),(by first|rfl|(simp;done)|(simp [*];done)),H',⟨Nat.le_refl _⟩,⟨by (with_reducible repeat (first|apply zA|apply zB|apply zC));exact HO_3.out⟩,⟨by (with_reducible repeat (first|apply zA|apply zB|apply zC));exact HO_11.out⟩,⟨by repeat (first|(with_reducible first|exact HB.out|apply zD|apply zE|apply zF)|exact HB.out)⟩⟩
             case round =>
              clear H'
              try clear c1
              try clear c2
              try clear p2
              try clear c3
              try clear c4
              try clear c5
              try clear p6
              try clear q6
              try clear hx6
              try clear c12
              try clear c12b0
              try clear c12b1
              try clear c12b2
              try clear c15
              try clear c16
              try clear c16b0
              try clear c17
              try clear c17b0
              try clear c18
              try clear c18b0
              try clear c19
              try clear c19b0
              try clear c26
              try clear c38
              try clear c39
              try clear c40
              try clear c41
              try clear c42
              try clear c43
              try clear c43b0
              try clear c43b1
              try clear c43b2
              try clear c44
              try clear c44b0
              try clear c44b1
              try clear c45
              try clear c45b0
              try clear c45b1
              try clear c50
              try clear hx698_0
              try clear hx698_1
              try clear hx699_0
              try clear hx699_1
              try clear p2
              try clear p6
              try clear p698
              try clear p699
              try clear q6
              try clear q698
              try clear q699
              obtain ⟨x27_4,rfl,HA,HK4,HO_3,HO_11,HB⟩:=hrel
              cases gk with
              | zero=>exact absurd HA.out (by simp [laws_FnTides.l1])
              | succ k4 =>
               have H:=HA.out
               clear HA
               simp only [laws_FnTides.l1] at H
               by_cases c51 : x27_4 < (t685.length : Int)
               ·as_aux_lemma =>
                rw [if_pos c51] at H
                have c51b0 : decide (x27_4 < (t685.length : Int)) = true:=decide_eq_true c51
                clear c51
                by_cases c52 : 0 ≤ x27_4
                ·as_aux_lemma =>
                 rw [if_pos c52] at H
                 have c52b0 : decide (0 ≤ x27_4) = true:=decide_eq_true c52
                 clear c52
                 by_cases c53 : x27_4 < (t700.length : Int)
                 ·as_aux_lemma =>
                  rw [if_pos c53] at H
                  have c53b0 : decide (x27_4 < (t700.length : Int)) = true:=decide_eq_true c53
                  clear c53
                  by_cases c54 : (!(((rd_T60 t700 x27_4).f0) == ((rd_T60 t685 x27_4).f0)) || (!(((rd_T60 t700 x27_4).f1) == ((rd_T60 t685 x27_4).f1)))) = true
                  ·as_aux_lemma =>
                   rw [if_pos c54] at H
                   have c54b0 : (!(((rd_T60 t700 x27_4).f0) == ((rd_T60 t685 x27_4).f0)) || (!(((rd_T60 t700 x27_4).f1) == ((rd_T60 t685 x27_4).f1)))) = true:=c54
                   clear c54
                   obtain rfl:=Option.some.inj H
                   obtain ⟨Ao55,co55,eo55⟩:=Kd.R_slice HO_11.out
                   subst eo55
                   have p718 : 0 ≤ (x27_4 : Int):=of_decide_eq_true (by first|(with_reducible assumption)|assumption)
                   have q718 : x27_4 < (t700.length : Int):=of_decide_eq_true (by first|(with_reducible assumption)|assumption)
                   obtain ⟨ad718,e718,hx718_0,hx718_1⟩:=at_T60 (zN HO_11.out).2.2 x27_4 p718 q718
                   cases e718
                   replace p718:=eq_true p718
                   replace q718:=eq_true q718
                   have p719 : 0 ≤ (x27_4 : Int):=of_decide_eq_true (by first|(with_reducible assumption)|assumption)
                   have q719 : x27_4 < (t685.length : Int):=of_decide_eq_true (by first|(with_reducible assumption)|assumption)
                   obtain ⟨ad719,e719,hx719_0,hx719_1⟩:=at_T60 (zN HO_3.out).2.2 x27_4 p719 q719
                   cases e719
                   replace p719:=eq_true p719
                   replace q719:=eq_true q719
                   go_wp2
                   repeat (go_quiet (fail);try go_wp2)
                   go_ret
                   exact ⟨by first|rfl|(simp [errW_none,errW_some] <;> rfl)|(simp [*,errW_none,errW_some] <;> rfl),by repeat (first|(with_reducible first|exact HB.out|apply zD|apply zE|apply zF)|exact HB.out)⟩
                  ·as_aux_lemma =>
                   rw [if_neg c54] at H
                   have c54b0 : (!(((rd_T60 t700 x27_4).f0) == ((rd_T60 t685 x27_4).f0)) || (!(((rd_T60 t700 x27_4).f1) == ((rd_T60 t685 x27_4).f1)))) = false:=by simpa using c54
                   clear c54
                   replace H:=Option.bind_eq_some_iff.mp H
                   obtain ⟨t720,A560,H⟩:=H
                   replace H : (if t704 < (wrap64 (t720 * t705)) then (some false) else ((laws_rHighest.f k4 t685).bind fun t721=>(if t704 > (wrap64 (t721 * t705)) then (some false) else (laws_FnTides.l1 k4 l0 t685 t700 t704 t705 (wrap64 (x27_4 + 1)))))) = some r:=H
                   have A56:=zM A560
                   clear A560
                   by_cases c57 : t704 < (wrap64 (t720 * t705))
                   ·as_aux_lemma =>
                    rw [if_pos c57] at H
                    have c57b0 : decide (t704 < (wrap64 (t720 * t705))) = true:=decide_eq_true c57
                    clear c57
                    obtain rfl:=Option.some.inj H
                    obtain ⟨Ao58,co58,eo58⟩:=Kd.R_slice HO_11.out
                    subst eo58
                    have p718 : 0 ≤ (x27_4 : Int):=of_decide_eq_true (by first|(with_reducible assumption)|assumption)
                    have q718 : x27_4 < (t700.length : Int):=of_decide_eq_true (by first|(with_reducible assumption)|assumption)
                    obtain ⟨ad718,e718,hx718_0,hx718_1⟩:=at_T60 (zN HO_11.out).2.2 x27_4 p718 q718
                    cases e718
                    replace p718:=eq_true p718
                    replace q718:=eq_true q718
                    have p719 : 0 ≤ (x27_4 : Int):=of_decide_eq_true (by first|(with_reducible assumption)|assumption)
                    have q719 : x27_4 < (t685.length : Int):=of_decide_eq_true (by first|(with_reducible assumption)|assumption)
                    obtain ⟨ad719,e719,hx719_0,hx719_1⟩:=at_T60 (zN HO_3.out).2.2 x27_4 p719 q719
                    cases e719
                    replace p719:=eq_true p719
                    replace q719:=eq_true q719
                    go_wp2_with (first|(go_at_call 45;(with_reducible refine (laws_rLowest.calls k4 _ _ t685 t720 _ ?side1 ?side2 A56.out).mono ?_);(case side1=>repeat (first|exact (zN HO_3.out).2.2|(with_reducible refine zG ?_ _)|(with_reducible refine zH ?_ _)|(with_reducible refine zI ?_)));(case side2=>exact (zN HO_3.out).2.1);rintro e w' ⟨rfl,⟨nd,rfl⟩⟩;(try first|exact ⟨rfl,_,World.drewN_drewN _ _ _⟩|exact ⟨rfl,_,Eq.trans (World.drewN_drewN _ _ _) (congrArg (World.drewN _) (Nat.add_assoc _ _ _))⟩)))
                    repeat (go_quiet (first|(go_at_call 45;(with_reducible refine (laws_rLowest.calls k4 _ _ t685 t720 _ ?side1 ?side2 A56.out).mono ?_);(case side1=>repeat (first|exact (zN HO_3.out).2.2|(with_reducible refine zG ?_ _)|(with_reducible refine zH ?_ _)|(with_reducible refine zI ?_)));(case side2=>exact (zN HO_3.out).2.1);rintro e w' ⟨rfl,⟨nd,rfl⟩⟩;(try first|exact ⟨rfl,_,World.drewN_drewN _ _ _⟩|exact ⟨rfl,_,Eq.trans (World.drewN_drewN _ _ _) (congrArg (World.drewN _) (Nat.add_assoc _ _ _))⟩)));try go_wp2_with (first|(go_at_call 45;(with_reducible refine (laws_rLowest.calls k4 _ _ t685 t720 _ ?side1 ?side2 A56.out).mono ?_);(case side1=>repeat (first|exact (zN HO_3.out).2.2|(with_reducible refine zG ?_ _)|(with_reducible refine zH ?_ _)|(with_reducible refine zI ?_)));(case side2=>exact (zN HO_3.out).2.1);rintro e w' ⟨rfl,⟨nd,rfl⟩⟩;(try first|exact ⟨rfl,_,World.drewN_drewN _ _ _⟩|exact ⟨rfl,_,Eq.trans (World.drewN_drewN _ _ _) (congrArg (World.drewN _) (Nat.add_assoc _ _ _))⟩))))
                    go_ret
                    exact ⟨by first|rfl|(simp [errW_none,errW_some] <;> rfl)|(simp [*,errW_none,errW_some] <;> rfl),by repeat (first|(with_reducible first|exact HB.out|apply zD|apply zE|apply zF)|exact HB.out)⟩
                   ·as_aux_lemma =>
                    rw [if_neg c57] at H
                    have c57b0 : decide (t704 < (wrap64 (t720 * t705))) = false:=decide_eq_false c57
                    clear c57
                    replace H:=Option.bind_eq_some_iff.mp H
                    obtain ⟨t721,A590,H⟩:=H
                    replace H : (if t704 > (wrap64 (t721 * t705)) then (some false) else (laws_FnTides.l1 k4 l0 t685 t700 t704 t705 (wrap64 (x27_4 + 1)))) = some r:=H
                    have A59:=zM A590
                    clear A590
                    by_cases c60 : t704 > (wrap64 (t721 * t705))
                    ·as_aux_lemma =>
                     rw [if_pos c60] at H
                     have c60b0 : decide ((wrap64 (t721 * t705)) < t704) = true:=decide_eq_true c60
                     clear c60
                     obtain rfl:=Option.some.inj H
                     obtain ⟨Ao61,co61,eo61⟩:=Kd.R_slice HO_11.out
                     subst eo61
                     have p718 : 0 ≤ (x27_4 : Int):=of_decide_eq_true (by first|(with_reducible assumption)|assumption)
                     have q718 : x27_4 < (t700.length : Int):=of_decide_eq_true (by first|(with_reducible assumption)|assumption)
                     obtain ⟨ad718,e718,hx718_0,hx718_1⟩:=at_T60 (zN HO_11.out).2.2 x27_4 p718 q718
                     cases e718
                     replace p718:=eq_true p718
                     replace q718:=eq_true q718
                     have p719 : 0 ≤ (x27_4 : Int):=of_decide_eq_true (by first|(with_reducible assumption)|assumption)
                     have q719 : x27_4 < (t685.length : Int):=of_decide_eq_true (by first|(with_reducible assumption)|assumption)
                     obtain ⟨ad719,e719,hx719_0,hx719_1⟩:=at_T60 (zN HO_3.out).2.2 x27_4 p719 q719
                     cases e719
                     replace p719:=eq_true p719
                     replace q719:=eq_true q719
                     go_wp2_with (first|(go_at_call 45;(with_reducible refine (laws_rLowest.calls k4 _ _ t685 t720 _ ?side1 ?side2 A56.out).mono ?_);(case side1=>repeat (first|exact (zN HO_3.out).2.2|(with_reducible refine zG ?_ _)|(with_reducible refine zH ?_ _)|(with_reducible refine zI ?_)));(case side2=>exact (zN HO_3.out).2.1);rintro e w' ⟨rfl,⟨nd,rfl⟩⟩;(try first|exact ⟨rfl,_,World.drewN_drewN _ _ _⟩|exact ⟨rfl,_,Eq.trans (World.drewN_drewN _ _ _) (congrArg (World.drewN _) (Nat.add_assoc _ _ _))⟩))|(go_at_call 46;(with_reducible refine (laws_rHighest.calls k4 _ _ t685 t721 _ ?side1 ?side2 A59.out).mono ?_);(case side1=>repeat (first|exact (zN HO_3.out).2.2|(with_reducible refine zG ?_ _)|(with_reducible refine zH ?_ _)|(with_reducible refine zI ?_)));(case side2=>exact (zN HO_3.out).2.1);rintro e w' ⟨rfl,⟨nd,rfl⟩⟩;(try first|exact ⟨rfl,_,World.drewN_drewN _ _ _⟩|exact ⟨rfl,_,Eq.trans (World.drewN_drewN _ _ _) (congrArg (World.drewN _) (Nat.add_assoc _ _ _))⟩)))
                     repeat (go_quiet (first|(go_at_call 45;(with_reducible refine (laws_rLowest.calls k4 _ _ t685 t720 _ ?side1 ?side2 A56.out).mono ?_);(case side1=>repeat (first|exact (zN HO_3.out).2.2|(with_reducible refine zG ?_ _)|(with_reducible refine zH ?_ _)|(with_reducible refine zI ?_)));(case side2=>exact (zN HO_3.out).2.1);rintro e w' ⟨rfl,⟨nd,rfl⟩⟩;(try first|exact ⟨rfl,_,World.drewN_drewN _ _ _⟩|exact ⟨rfl,_,Eq.trans (World.drewN_drewN _ _ _) (congrArg (World.drewN _) (Nat.add_assoc _ _ _))⟩))|(go_at_call 46;(with_reducible refine (laws_rHighest.calls k4 _ _ t685 t721 _ ?side1 ?side2 A59.out).mono ?_);(case side1=>repeat (first|exact (zN HO_3.out).2.2|(with_reducible refine zG ?_ _)|(with_reducible refine zH ?_ _)|(with_reducible refine zI ?_)));(case side2=>exact (zN HO_3.out).2.1);rintro e w' ⟨rfl,⟨nd,rfl⟩⟩;(try first|exact ⟨rfl,_,World.drewN_drewN _ _ _⟩|exact ⟨rfl,_,Eq.trans (World.drewN_drewN _ _ _) (congrArg (World.drewN _) (Nat.add_assoc _ _ _))⟩)));try go_wp2_with (first|(go_at_call 45;(with_reducible refine (laws_rLowest.calls k4 _ _ t685 t720 _ ?side1 ?side2 A56.out).mono ?_);(case side1=>repeat (first|exact (zN HO_3.out).2.2|(with_reducible refine zG ?_ _)|(with_reducible refine zH ?_ _)|(with_reducible refine zI ?_)));(case side2=>exact (zN HO_3.out).2.1);rintro e w' ⟨rfl,⟨nd,rfl⟩⟩;(try first|exact ⟨rfl,_,World.drewN_drewN _ _ _⟩|exact ⟨rfl,_,Eq.trans (World.drewN_drewN _ _ _) (congrArg (World.drewN _) (Nat.add_assoc _ _ _))⟩))|(go_at_call 46;(with_reducible refine (laws_rHighest.calls k4 _ _ t685 t721 _ ?side1 ?side2 A59.out).mono ?_);(case side1=>repeat (first|exact (zN HO_3.out).2.2|(with_reducible refine zG ?_ _)|(with_reducible refine zH ?_ _)|(with_reducible refine zI ?_)));(case side2=>exact (zN HO_3.out).2.1);rintro e w' ⟨rfl,⟨nd,rfl⟩⟩;(try first|exact ⟨rfl,_,World.drewN_drewN _ _ _⟩|exact ⟨rfl,_,Eq.trans (World.drewN_drewN _ _ _) (congrArg (World.drewN _) (Nat.add_assoc _ _ _))⟩))))
                     go_ret
                     exact ⟨by first|rfl|(simp [errW_none,errW_some] <;> rfl)|(simp [*,errW_none,errW_some] <;> rfl),by repeat (first|(with_reducible first|exact HB.out|apply zD|apply zE|apply zF)|exact HB.out)⟩
                    ·as_aux_lemma =>
                     rw [if_neg c60] at H
                     have c60b0 : decide ((wrap64 (t721 * t705)) < t704) = false:=decide_eq_false c60
                     clear c60
                     have H':=zM H
                     clear H
                     obtain ⟨Ao62,co62,eo62⟩:=Kd.R_slice HO_11.out
                     subst eo62
                     have p718 : 0 ≤ (x27_4 : Int):=of_decide_eq_true (by first|(with_reducible assumption)|assumption)
                     have q718 : x27_4 < (t700.length : Int):=of_decide_eq_true (by first|(with_reducible assumption)|assumption)
                     obtain ⟨ad718,e718,hx718_0,hx718_1⟩:=at_T60 (zN HO_11.out).2.2 x27_4 p718 q718
                     cases e718
                     replace p718:=eq_true p718
                     replace q718:=eq_true q718
                     have p719 : 0 ≤ (x27_4 : Int):=of_decide_eq_true (by first|(with_reducible assumption)|assumption)
                     have q719 : x27_4 < (t685.length : Int):=of_decide_eq_true (by first|(with_reducible assumption)|assumption)
                     obtain ⟨ad719,e719,hx719_0,hx719_1⟩:=at_T60 (zN HO_3.out).2.2 x27_4 p719 q719
                     cases e719
                     replace p719:=eq_true p719
                     replace q719:=eq_true q719
                     go_wp2_with (first|(go_at_call 45;(with_reducible refine (laws_rLowest.calls k4 _ _ t685 t720 _ ?side1 ?side2 A56.out).mono ?_);(case side1=>repeat (first|exact (zN HO_3.out).2.2|(with_reducible refine zG ?_ _)|(with_reducible refine zH ?_ _)|(with_reducible refine zI ?_)));(case side2=>exact (zN HO_3.out).2.1);rintro e w' ⟨rfl,⟨nd,rfl⟩⟩;(try first|exact ⟨rfl,_,World.drewN_drewN _ _ _⟩|exact ⟨rfl,_,Eq.trans (World.drewN_drewN _ _ _) (congrArg (World.drewN _) (Nat.add_assoc _ _ _))⟩))|(go_at_call 46;(with_reducible refine (laws_rHighest.calls k4 _ _ t685 t721 _ ?side1 ?side2 A59.out).mono ?_);(case side1=>repeat (first|exact (zN HO_3.out).2.2|(with_reducible refine zG ?_ _)|(with_reducible refine zH ?_ _)|(with_reducible refine zI ?_)));(case side2=>exact (zN HO_3.out).2.1);rintro e w' ⟨rfl,⟨nd,rfl⟩⟩;(try first|exact ⟨rfl,_,World.drewN_drewN _ _ _⟩|exact ⟨rfl,_,Eq.trans (World.drewN_drewN _ _ _) (congrArg (World.drewN _) (Nat.add_assoc _ _ _))⟩)))
                     repeat (go_quiet (first|(go_at_call 45;(with_reducible refine (laws_rLowest.calls k4 _ _ t685 t720 _ ?side1 ?side2 A56.out).mono ?_);(case side1=>repeat (first|exact (zN HO_3.out).2.2|(with_reducible refine zG ?_ _)|(with_reducible refine zH ?_ _)|(with_reducible refine zI ?_)));(case side2=>exact (zN HO_3.out).2.1);rintro e w' ⟨rfl,⟨nd,rfl⟩⟩;(try first|exact ⟨rfl,_,World.drewN_drewN _ _ _⟩|exact ⟨rfl,_,Eq.trans (World.drewN_drewN _ _ _) (congrArg (World.drewN _) (Nat.add_assoc _ _ _))⟩))|(go_at_call 46;(with_reducible refine (laws_rHighest.calls k4 _ _ t685 t721 _ ?side1 ?side2 A59.out).mono ?_);(case side1=>repeat (first|exact (zN HO_3.out).2.2|(with_reducible refine zG ?_ _)|(with_reducible refine zH ?_ _)|(with_reducible refine zI ?_)));(case side2=>exact (zN HO_3.out).2.1);rintro e w' ⟨rfl,⟨nd,rfl⟩⟩;(try first|exact ⟨rfl,_,World.drewN_drewN _ _ _⟩|exact ⟨rfl,_,Eq.trans (World.drewN_drewN _ _ _) (congrArg (World.drewN _) (Nat.add_assoc _ _ _))⟩)));try go_wp2_with (first|(go_at_call 45;(with_reducible refine (laws_rLowest.calls k4 _ _ t685 t720 _ ?side1 ?side2 A56.out).mono ?_);(case side1=>repeat (first|exact (zN HO_3.out).2.2|(with_reducible refine zG ?_ _)|(with_reducible refine zH ?_ _)|(with_reducible refine zI ?_)));(case side2=>exact (zN HO_3.out).2.1);rintro e w' ⟨rfl,⟨nd,rfl⟩⟩;(try first|exact ⟨rfl,_,World.drewN_drewN _ _ _⟩|exact ⟨rfl,_,Eq.trans (World.drewN_drewN _ _ _) (congrArg (World.drewN _) (Nat.add_assoc _ _ _))⟩))|(go_at_call 46;(with_reducible refine (laws_rHighest.calls k4 _ _ t685 t721 _ ?side1 ?side2 A59.out).mono ?_);(case side1=>repeat (first|exact (zN HO_3.out).2.2|(with_reducible refine zG ?_ _)|(with_reducible refine zH ?_ _)|(with_reducible refine zI ?_)));(case side2=>exact (zN HO_3.out).2.1);rintro e w' ⟨rfl,⟨nd,rfl⟩⟩;(try first|exact ⟨rfl,_,World.drewN_drewN _ _ _⟩|exact ⟨rfl,_,Eq.trans (World.drewN_drewN _ _ _) (congrArg (World.drewN _) (Nat.add_assoc _ _ _))⟩))))
                     go_roundg k4
                     case measure=>have:=HJ6.out;have:=HK2.out;have:=HJ31.out;have:=HK4.out;omega
                     case rel=>exact ⟨(wrap64 (x27_4 + 1)),(by first|rfl|(simp;done)|(simp [*];done)),H',⟨by have:=HJ6.out;have:=HK2.out;have:=HJ31.out;have:=HK4.out;omega⟩,⟨by (with_reducible repeat (first|apply zA|apply zB|apply zC));exact HO_3.out⟩,⟨by (with_reducible repeat (first|apply zA|apply zB|apply zC));exact HO_11.out⟩,⟨by repeat (first|(with_reducible first|exact HB.out|apply zD|apply zE|apply zF)|exact HB.out)⟩⟩
                 ·as_aux_lemma =>
                  rw [if_neg c53] at H
                  exact absurd H (by simp)
                ·as_aux_lemma =>
                 rw [if_neg c52] at H
                 exact absurd H (by simp)
               ·as_aux_lemma =>
                rw [if_neg c51] at H
                have c51b0 : decide (x27_4 < (t685.length : Int)) = false:=decide_eq_false c51
                clear c51
                have H':=zM H
                clear H
                go_wp2
                repeat (go_quiet (fail);try go_wp2)
                go_meet
                case rel=>exact ⟨_,H',⟨by have:=HJ6.out;have:=HK2.out;have:=HJ31.out;have:=HK4.out;first|omega|exact Nat.le_refl _⟩,⟨by repeat (first|(with_reducible first|exact HB.out|apply zD|apply zE|apply zF)|exact HB.out)⟩⟩
         ·as_aux_lemma =>
          replace c26:=Bool.eq_false_iff.mpr c26
          subst c26
          have H1 : (laws_FnTides.j4 k2 l0) = some r:=by rw [if_neg (show ¬ (false = true) by decide)] at H;exact H
          clear H
          have H:=H1
          clear H1
          have H':=zM H
          clear H
          go_wp2
          repeat (go_quiet (fail);try go_wp2)
          go_meet
          case rel=>exact ⟨_,H',⟨by have:=HJ6.out;have:=HK2.out;first|omega|exact Nat.le_refl _⟩,⟨by repeat (first|(with_reducible first|exact HB.out|apply zD|apply zE|apply zF)|exact HB.out)⟩⟩
        case rest =>
         clear HC24
         try clear c1
         try clear c2
         try clear p2
         try clear c3
         try clear c4
         try clear c5
         try clear c6
         try clear p6
         try clear q6
         try clear hx6
         try clear p7
         try clear q7
         try clear hx7
         try clear c12
         try clear c12b0
         try clear c12b1
         try clear c12b2
         try clear c15
         try clear c16
         try clear c16b0
         try clear c17
         try clear c17b0
         try clear c18
         try clear c18b0
         try clear c19
         try clear c19b0
         try clear c26
         try clear c38
         try clear c39
         try clear c40
         try clear c41
         try clear c42
         try clear c43
         try clear c43b0
         try clear c43b1
         try clear c43b2
         try clear c44
         try clear c44b0
         try clear c44b1
         try clear c45
         try clear c45b0
         try clear c45b1
         try clear c50
         try clear c51
         try clear c51b0
         try clear c52
         try clear c52b0
         try clear c53
         try clear c53b0
         try clear c54
         try clear c54b0
         try clear c57
         try clear c57b0
         try clear c60
         try clear c60b0
         try clear hx698_0
         try clear hx698_1
         try clear hx699_0
         try clear hx699_1
         try clear hx718_0
         try clear hx718_1
         try clear hx719_0
         try clear hx719_1
         try clear p2
         try clear p6
         try clear p698
         try clear p699
         try clear p718
         try clear p719
         try clear q6
         try clear q698
         try clear q699
         try clear q718
         try clear q719
         obtain ⟨kq,HA,HJ23,HB⟩:=hcut
         cases kq with
         | zero=>exact absurd HA.out (by simp [laws_FnTides.j4])
         | succ kj23 =>
          have H:=HA.out
          clear HA
          simp only [laws_FnTides.j4] at H
          replace H:=Option.bind_eq_some_iff.mp H
          obtain ⟨⟨t722,t723⟩,A630,H⟩:=H
          replace H : ((impl_TurningHours.f kj23 t722 t723).bind fun bt726=>((impl_TurningHours.f kj23 t722 (!t723)).bind fun bt730=>((spec_TurningHours.f kj23 t722 t723).bind fun bt734=>(if (bt726.2 == bt734.2) = true then (if (bt730.2 == bt734.2) = true then ((laws_rInts.f kj23 bt726.1 bt734.1).bind fun t738=>(if t738 = true then (if bt726.2 = true then (if (wrap64 ((bt726.1.length : Int) + (bt730.1.length : Int))) = (t722.length : Int) then ((impl_IsValidTides.f kj23 t722).bind fun t739=>(some t739)) else (some false)) else (some true)) else (some false))) else (some false)) else (some false))))) = some r:=H
          have A63:=zM A630
          clear A630
          replace H:=Option.bind_eq_some_iff.mp H
          obtain ⟨⟨t726,t727⟩,A640,H⟩:=H
          replace H : ((impl_TurningHours.f kj23 t722 (!t723)).bind fun bt730=>((spec_TurningHours.f kj23 t722 t723).bind fun bt734=>(if (t727 == bt734.2) = true then (if (bt730.2 == bt734.2) = true then ((laws_rInts.f kj23 t726 bt734.1).bind fun t738=>(if t738 = true then (if t727 = true then (if (wrap64 ((t726.length : Int) + (bt730.1.length : Int))) = (t722.length : Int) then ((impl_IsValidTides.f kj23 t722).bind fun t739=>(some t739)) else (some false)) else (some true)) else (some false))) else (some false)) else (some false)))) = some r:=H
          have A64:=zM A640
          clear A640
          replace H:=Option.bind_eq_some_iff.mp H
          obtain ⟨⟨t730,t731⟩,A650,H⟩:=H
          replace H : ((spec_TurningHours.f kj23 t722 t723).bind fun bt734=>(if (t727 == bt734.2) = true then (if (t731 == bt734.2) = true then ((laws_rInts.f kj23 t726 bt734.1).bind fun t738=>(if t738 = true then (if t727 = true then (if (wrap64 ((t726.length : Int) + (t730.length : Int))) = (t722.length : Int) then ((impl_IsValidTides.f kj23 t722).bind fun t739=>(some t739)) else (some false)) else (some true)) else (some false))) else (some false)) else (some false))) = some r:=H
          have A65:=zM A650
          clear A650
          replace H:=Option.bind_eq_some_iff.mp H
          obtain ⟨⟨t734,t735⟩,A660,H⟩:=H
          replace H : (if (t727 == t735) = true then (if (t731 == t735) = true then ((laws_rInts.f kj23 t726 t734).bind fun t738=>(if t738 = true then (if t727 = true then (if (wrap64 ((t726.length : Int) + (t730.length : Int))) = (t722.length : Int) then ((impl_IsValidTides.f kj23 t722).bind fun t739=>(some t739)) else (some false)) else (some true)) else (some false))) else (some false)) else (some false)) = some r:=H
          have A66:=zM A660
          clear A660
          by_cases c67 : (t727 == t735) = true
          ·as_aux_lemma =>
           rw [if_pos c67] at H
           have c67b0 : (t727 == t735) = true:=c67
           (try (have c67b1 : decide (t727 = t735) = true:=by simpa using c67))
           (try (have c67b2 : (t727 == t735) = true:=by simpa using c67))
           clear c67
           by_cases c68 : (t731 == t735) = true
           ·as_aux_lemma =>
            rw [if_pos c68] at H
            have c68b0 : (t731 == t735) = true:=c68
            (try (have c68b1 : decide (t731 = t735) = true:=by simpa using c68))
            (try (have c68b2 : (t731 == t735) = true:=by simpa using c68))
            clear c68
            replace H:=Option.bind_eq_some_iff.mp H
            obtain ⟨t738,A690,H⟩:=H
            replace H : (if t738 = true then (if t727 = true then (if (wrap64 ((t726.length : Int) + (t730.length : Int))) = (t722.length : Int) then ((impl_IsValidTides.f kj23 t722).bind fun t739=>(some t739)) else (some false)) else (some true)) else (some false)) = some r:=H
            have A69:=zM A690
            clear A690
            by_cases c70 : t738 = true
            ·as_aux_lemma =>
             subst c70
             have H1 : (if t727 = true then (if (wrap64 ((t726.length : Int) + (t730.length : Int))) = (t722.length : Int) then ((impl_IsValidTides.f kj23 t722).bind fun t739=>(some t739)) else (some false)) else (some true)) = some r:=by rw [if_pos rfl] at H;exact H
             clear H
             have H:=H1
             clear H1
             by_cases c71 : t727 = true
             ·as_aux_lemma =>
              subst c71
              have H1 : (if (wrap64 ((t726.length : Int) + (t730.length : Int))) = (t722.length : Int) then ((impl_IsValidTides.f kj23 t722).bind fun t739=>(some t739)) else (some false)) = some r:=by rw [if_pos rfl] at H;exact H
              clear H
              have H:=H1
              clear H1
              by_cases c72 : (wrap64 ((t726.length : Int) + (t730.length : Int))) = (t722.length : Int)
              ·as_aux_lemma =>
               rw [if_pos c72] at H
               have c72b0 : ((wrap64 ((t726.length : Int) + (t730.length : Int))) == (t722.length : Int)) = true:=beq_iff_eq.mpr c72
               have c72b1 : ((wrap64 ((t726.length : Int) + (t730.length : Int))) != (t722.length : Int)) = false:=bne_eq_false_iff_eq.mpr c72
               clear c72
               replace H:=Option.bind_eq_some_iff.mp H
               obtain ⟨t739,A730,H⟩:=H
               replace H : (some t739) = some r:=H
               have A73:=zM A730
               clear A730
               obtain rfl:=Option.some.inj H
               go_wp2_with (first|(go_at_call 47;(with_reducible refine (spec_DrawTurningHours.calls kj23 _ _ l0 t722 t723 _ ?side1 ?side2 A63.out).mono ?_);(case side1=>repeat (first|exact (zO HR0.out HB.out)|(with_reducible refine zG ?_ _)|(with_reducible refine zH ?_ _)|(with_reducible refine zI ?_)));(case side2=>exact HC0.out);rintro e w74 ⟨v724,rfl,ho0,hb⟩;have n0_:=zM (Kd.R_lower ho0 (zR (by repeat (first|(with_reducible first|exact HB.out|apply zD|apply zE|apply zF)|exact HB.out))));have n1_:=zM (zQ (by repeat (first|(with_reducible first|exact HB.out|apply zD|apply zE|apply zF)|exact HB.out)) hb);clear HB;have HO725:=n0_;have HB:=n1_;clear n0_ n1_;(try clear hb);(try clear hb2);(try clear hk);(try clear hi);(try clear ho0);obtain ⟨Ao75,co75,eo75⟩:=Kd.R_slice HO725.out;subst eo75)|(go_at_call 30;(with_reducible refine (impl_TurningHours.calls kj23 _ _ t722 t723 t726 true _ ?side1 ?side2 A64.out).mono ?_);(case side1=>repeat (first|exact (zN HO725.out).2.2|(with_reducible refine zG ?_ _)|(with_reducible refine zH ?_ _)|(with_reducible refine zI ?_)));(case side2=>exact (zN HO725.out).2.1);rintro e w76 ⟨v728,rfl,ho0,hb⟩;have n0_:=zM (zP (by (with_reducible repeat (first|apply zA|apply zB|apply zC));exact HO725.out) hb);have n1_:=zM (Kd.R_lower ho0 (zR (by repeat (first|(with_reducible first|exact HB.out|apply zD|apply zE|apply zF)|exact HB.out))));have n2_:=zM (zQ (by repeat (first|(with_reducible first|exact HB.out|apply zD|apply zE|apply zF)|exact HB.out)) hb);clear HO725;clear HB;have HO725:=n0_;have HO729:=n1_;have HB:=n2_;clear n0_ n1_ n2_;(try clear hb);(try clear hb2);(try clear hk);(try clear hi);(try clear ho0))|(go_at_call 30;(with_reducible refine (impl_TurningHours.calls kj23 _ _ t722 (!t723) t730 t731 _ ?side1 ?side2 A65.out).mono ?_);(case side1=>repeat (first|exact (zN HO725.out).2.2|(with_reducible refine zG ?_ _)|(with_reducible refine zH ?_ _)|(with_reducible refine zI ?_)));(case side2=>exact (zN HO725.out).2.1);rintro e w77 ⟨v732,rfl,ho0,hb⟩;have n0_:=zM (zP (by (with_reducible repeat (first|apply zA|apply zB|apply zC));exact HO725.out) hb);have n1_:=zM (Kd.R_elder' (by (with_reducible repeat (first|apply zA|apply zB|apply zC));exact HO729.out) (Kd.R_base ho0) hb);have n2_:=zM (Kd.R_lower (Kd.R_new' ho0 (Kd.R_lt (by (with_reducible repeat (first|apply zA|apply zB|apply zC));exact HO729.out))) (zR (by repeat (first|(with_reducible first|exact HB.out|apply zD|apply zE|apply zF)|exact HB.out))));have n3_:=zM (zQ (by repeat (first|(with_reducible first|exact HB.out|apply zD|apply zE|apply zF)|exact HB.out)) hb);clear HO725;clear HO729;clear HB;have HO725:=n0_;have HO729:=n1_;have HO733:=n2_;have HB:=n3_;clear n0_ n1_ n2_ n3_;(try clear hb);(try clear hb2);(try clear hk);(try clear hi);(try clear ho0))|(go_at_call 29;(with_reducible refine (spec_TurningHours.calls kj23 _ _ t722 t723 t734 t735 _ ?side1 ?side2 A66.out).mono ?_);(case side1=>repeat (first|exact (zN HO725.out).2.2|(with_reducible refine zG ?_ _)|(with_reducible refine zH ?_ _)|(with_reducible refine zI ?_)));(case side2=>exact (zN HO725.out).2.1);rintro e w78 ⟨v736,rfl,ho0,hb⟩;have n0_:=zM (zP (by (with_reducible repeat (first|apply zA|apply zB|apply zC));exact HO725.out) hb);have n1_:=zM (Kd.R_elder' (by (with_reducible repeat (first|apply zA|apply zB|apply zC));exact HO729.out) (Kd.R_base ho0) hb);have n2_:=zM (Kd.R_elder' (by (with_reducible repeat (first|apply zA|apply zB|apply zC));exact HO733.out) (Kd.R_base ho0) hb);have n3_:=zM (Kd.R_lower (Kd.R_new' (Kd.R_new' ho0 (Kd.R_lt (by (with_reducible repeat (first|apply zA|apply zB|apply zC));exact HO729.out))) (Kd.R_lt (by (with_reducible repeat (first|apply zA|apply zB|apply zC));exact HO733.out))) (zR (by repeat (first|(with_reducible first|exact HB.out|apply zD|apply zE|apply zF)|exact HB.out))));have n4_:=zM (zQ (by repeat (first|(with_reducible first|exact HB.out|apply zD|apply zE|apply zF)|exact HB.out)) hb);clear HO725;clear HO729;clear HO733;clear HB;have HO725:=n0_;have HO729:=n1_;have HO733:=n2_;have HO737:=n3_;have HB:=n4_;clear n0_ n1_ n2_ n3_ n4_;(try clear hb);(try clear hb2);(try clear hk);(try clear hi);(try clear ho0);obtain ⟨Ao79,co79,eo79⟩:=Kd.R_slice HO729.out;subst eo79;obtain ⟨Ao80,co80,eo80⟩:=Kd.R_slice HO737.out;subst eo80)|(go_at_call 48;(with_reducible refine (laws_rInts.calls kj23 _ _ t726 _ _ t734 true _ ?side1 ?side2 ?side3 ?side4 A69.out).mono ?_);(case side1=>repeat (first|exact (zN HO729.out).2.2|(with_reducible refine zG ?_ _)|(with_reducible refine zH ?_ _)|(with_reducible refine zI ?_)));(case side2=>exact (zN HO729.out).2.1);(case side3=>repeat (first|exact (zN HO737.out).2.2|(with_reducible refine zG ?_ _)|(with_reducible refine zH ?_ _)|(with_reducible refine zI ?_)));(case side4=>exact (zN HO737.out).2.1);rintro e w' ⟨rfl,⟨nd,rfl⟩⟩;(try first|exact ⟨rfl,_,World.drewN_drewN _ _ _⟩|exact ⟨rfl,_,Eq.trans (World.drewN_drewN _ _ _) (congrArg (World.drewN _) (Nat.add_assoc _ _ _))⟩);obtain ⟨Ao81,co81,eo81⟩:=Kd.R_slice HO733.out;subst eo81)|(go_at_call 17;(with_reducible refine (impl_IsValidTides.calls kj23 _ _ t722 t739 _ ?side1 ?side2 A73.out).mono ?_);(case side1=>repeat (first|exact (zN HO725.out).2.2|(with_reducible refine zG ?_ _)|(with_reducible refine zH ?_ _)|(with_reducible refine zI ?_)));(case side2=>exact (zN HO725.out).2.1);rintro e w82 ⟨rfl,hb⟩;have n0_:=zM (zP (by (with_reducible repeat (first|apply zA|apply zB|apply zC));exact HO725.out) hb);have n1_:=zM (zP (by (with_reducible repeat (first|apply zA|apply zB|apply zC));exact HO729.out) hb);have n2_:=zM (zP (by (with_reducible repeat (first|apply zA|apply zB|apply zC));exact HO733.out) hb);have n3_:=zM (zP (by (with_reducible repeat (first|apply zA|apply zB|apply zC));exact HO737.out) hb);have n4_:=zM (zQ (by repeat (first|(with_reducible first|exact HB.out|apply zD|apply zE|apply zF)|exact HB.out)) hb);clear HO725;clear HO729;clear HO733;clear HO737;clear HB;have HO725:=n0_;have HO729:=n1_;have HO733:=n2_;have HO737:=n3_;have HB:=n4_;clear n0_ n1_ n2_ n3_ n4_;(try clear hb);(try clear hb2);(try clear hk);(try clear hi)))
               repeat (go_quiet (first|(go_at_call 47;(with_reducible refine (spec_DrawTurningHours.calls kj23 _ _ l0 t722 t723 _ ?side1 ?side2 A63.out).mono ?_);(case side1=>repeat (first|exact (zO HR0.out HB.out)|(with_reducible refine zG ?_ _)|(with_reducible refine zH ?_ _)|(with_reducible refine zI ?_)));(case side2=>exact HC0.out);rintro e w74 ⟨v724,rfl,ho0,hb⟩;have n0_:=zM (Kd.R_lower ho0 (zR (by repeat (first|(with_reducible first|exact HB.out|apply zD|apply zE|apply zF)|exact HB.out))));have n1_:=zM (zQ (by repeat (first|(with_reducible first|exact HB.out|apply zD|apply zE|apply zF)|exact HB.out)) hb);clear HB;have HO725:=n0_;have HB:=n1_;clear n0_ n1_;(try clear hb);(try clear hb2);(try clear hk);(try clear hi);(try clear ho0);obtain ⟨Ao75,co75,eo75⟩:=Kd.R_slice HO725.out;subst eo75)|(go_at_call 30;(with_reducible refine (impl_TurningHours.calls kj23 _ _ t722 t723 t726 true _ ?side1 ?side2 A64.out).mono ?_);(case side1=>repeat (first|exact (zN HO725.out).2.2|(with_reducible refine zG ?_ _)|(with_reducible refine zH ?_ _)|(with_reducible refine zI ?_)));(case side2=>exact (zN HO725.out).2.1);rintro e w76 ⟨v728,rfl,ho0,hb⟩;have n0_:=zM (zP (by (with_reducible repeat (first|apply zA|apply zB|apply zC));exact HO725.out) hb);have n1_:=zM (Kd.R_lower ho0 (zR (by repeat (first|(with_reducible first|exact HB.out|apply zD|apply zE|apply zF)|exact HB.out))));have n2_:=zM (zQ (by repeat (first|(with_reducible first|exact HB.out|apply zD|apply zE|apply zF)|exact HB.out)) hb);clear HO725;clear HB;have HO725:=n0_;have HO729:=n1_;have HB:=n2_;clear n0_ n1_ n2_;(try clear hb);(try clear hb2);(try clear hk);(try clear hi);(try clear ho0))|(go_at_call 30;(with_reducible refine (impl_TurningHours.calls kj23 _ _ t722 (!t723) t730 t731 _ ?side1 ?side2 A65.out).mono ?_);(case side1=>repeat (first|exact (zN HO725.out).2.2|(with_reducible refine zG ?_ _)|(with_reducible refine zH ?_ _)|(with_reducible refine zI ?_)));(case side2=>exact (zN HO725.out).2.1);rintro e w77 ⟨v732,rfl,ho0,hb⟩;have n0_:=zM (zP (by (with_reducible repeat (first|apply zA|apply zB|apply zC));exact HO725.out) hb);have n1_:=zM (Kd.R_elder' (by (with_reducible repeat (first|apply zA|apply zB|apply zC));exact HO729.out) (Kd.R_base ho0) hb);have n2_:=zM (Kd.R_lower (Kd.R_new' ho0 (Kd.R_lt (by (with_reducible repeat (first|apply zA|apply zB|apply zC));exact HO729.out))) (zR (by repeat (first|(with_reducible first|exact HB.out|apply zD|apply zE|apply zF)|exact HB.out))));have n3_:=zM (zQ (by repeat (first|(with_reducible first|exact HB.out|apply zD|apply zE|apply zF)|exact HB.out)) hb);clear HO725;clear HO729;clear HB;have HO725:=n0_;have HO729:=n1_;have HO733:=n2_;have HB:=n3_;clear n0_ n1_ n2_ n3_;(try clear hb);(try clear hb2);(try clear hk);(try clear hi);(try clear ho0))|(go_at_call 29;(with_reducible refine (spec_TurningHours.calls kj23 _ _ t722 t723 t734 t735 _ ?side1 ?side2 A66.out).mono ?_);(case side1=>repeat (first|exact (zN HO725.out).2.2|(with_reducible refine zG ?_ _)|(with_reducible refine zH ?_ _)|(with_reducible refine zI ?_)));(case side2=>exact (zN HO725.out).2.1);rintro e w78 ⟨v736,rfl,ho0,hb⟩;have n0_:=zM (zP (by (with_reducible repeat (first|apply zA|apply zB|apply zC));exact HO725.out) hb);have n1_:=zM (Kd.R_elder' (by (with_reducible repeat (first|apply zA|apply zB|apply zC));exact HO729.out) (Kd.R_base ho0) hb);have n2_:=zM (Kd.R_elder' (by (with_reducible repeat (first|apply zA|apply zB|apply zC));exact HO733.out) (Kd.R_base ho0) hb);have n3_:=zM (Kd.R_lower (Kd.R_new' (Kd.R_new' ho0 (Kd.R_lt (by (with_reducible repeat (first|apply zA|apply zB|apply zC));exact HO729.out))) (Kd.R_lt (by (with_reducible repeat (first|apply zA|apply zB|apply zC));exact HO733.out))) (zR (by repeat (first|(with_reducible first|exact HB.out|apply zD|apply zE|apply zF)|exact HB.out))));have n4_:=zM (zQ (by repeat (first|(with_reducible first|exact HB.out|apply zD|apply zE|apply zF)|exact HB.out)) hb);clear HO725;clear HO729;clear HO733;clear HB;have HO725:=n0_;have HO729:=n1_;have HO733:=n2_;have HO737:=n3_;have HB:=n4_;clear n0_ n1_ n2_ n3_ n4_;(try clear hb);(try clear hb2);(try clear hk);(try clear hi);(try clear ho0);obtain ⟨Ao79,co79,eo79⟩:=Kd.R_slice HO729.out;subst eo79;obtain ⟨Ao80,co80,eo80⟩:=Kd.R_slice HO737.out;subst eo80)|(go_at_call 48;(with_reducible refine (laws_rInts.calls kj23 _ _ t726 _ _ t734 true _ ?side1 ?side2 ?side3 ?side4 A69.out).mono ?_);(case side1=>repeat (first|exact (zN HO729.out).2.2|(with_reducible refine zG ?_ _)|(with_reducible refine zH ?_ _)|(with_reducible refine zI ?_)));(case side2=>exact (zN HO729.out).2.1);(case side3=>repeat (first|exact (zN HO737.out).2.2|(with_reducible refine zG ?_ _)|(with_reducible refine zH ?_ _)|(with_reducible refine zI ?_)));(case side4=>exact (zN HO737.out).2.1);rintro e w' ⟨rfl,⟨nd,rfl⟩⟩;(try first|exact ⟨rfl,_,World.drewN_drewN _ _ _⟩|exact ⟨rfl,_,Eq.trans (World.drewN_drewN _ _ _) (congrArg (World.drewN _) (Nat.add_assoc _ _ _))⟩);obtain ⟨Ao81,co81,eo81⟩:=Kd.R_slice HO733.out;subst eo81)|(go_at_call 17;(with_reducible refine (impl_IsValidTides.calls kj23 _ _ t722 t739 _ ?side1 ?side2 A73.out).mono ?_);(case side1=>repeat (first|exact (zN HO725.out).2.2|(with_reducible refine zG ?_ _)|(with_reducible refine zH ?_ _)|(with_reducible refine zI ?_)));(case side2=>exact (zN HO725.out).2.1);rintro e w82 ⟨rfl,hb⟩;have n0_:=zM (zP (by (with_reducible repeat (first|apply zA|apply zB|apply zC));exact HO725.out) hb);have n1_:=zM (zP (by (with_reducible repeat (first|apply zA|apply zB|apply zC));exact HO729.out) hb);have n2_:=zM (zP (by (with_reducible repeat (first|apply zA|apply zB|apply zC));exact HO733.out) hb);have n3_:=zM (zP (by (with_reducible repeat (first|apply zA|apply zB|apply zC));exact HO737.out) hb);have n4_:=zM (zQ (by repeat (first|(with_reducible first|exact HB.out|apply zD|apply zE|apply zF)|exact HB.out)) hb);clear HO725;clear HO729;clear HO733;clear HO737;clear HB;have HO725:=n0_;have HO729:=n1_;have HO733:=n2_;have HO737:=n3_;have HB:=n4_;clear n0_ n1_ n2_ n3_ n4_;(try clear hb);(try clear hb2);(try clear hk);(try clear hi)));try go_wp2_with (first|(go_at_call 47;(with_reducible refine (spec_DrawTurningHours.calls kj23 _ _ l0 t722 t723 _ ?side1 ?side2 A63.out).mono ?_);(case side1=>repeat (first|exact (zO HR0.out HB.out)|(with_reducible refine zG ?_ _)|(with_reducible refine zH ?_ _)|(with_reducible refine zI ?_)));(case side2=>exact HC0.out);rintro e w74 ⟨v724,rfl,ho0,hb⟩;have n0_:=zM (Kd.R_lower ho0 (zR (by repeat (first|(with_reducible first|exact HB.out|apply zD|apply zE|apply zF)|exact HB.out))));have n1_:=zM (zQ (by repeat (first|(with_reducible first|exact HB.out|apply zD|apply zE|apply zF)|exact HB.out)) hb);clear HB;have HO725:=n0_;have HB:=n1_;clear n0_ n1_;(try clear hb);(try clear hb2);(try clear hk);(try clear hi);(try clear ho0);obtain ⟨Ao75,co75,eo75⟩:=Kd.R_slice HO725.out;subst eo75)|(go_at_call 30;(with_reducible refine (impl_TurningHours.calls kj23 _ _ t722 t723 t726 true _ ?side1 ?side2 A64.out).mono ?_);(case side1=>repeat (first|exact (zN HO725.out).2.2|(with_reducible refine zG ?_ _)|(with_reducible refine zH ?_ _)|(with_reducible refine zI ?_)));(case side2=>exact (zN HO725.out).2.1);rintro e w76 ⟨v728,rfl,ho0,hb⟩;have n0_:=zM (zP (by (with_reducible repeat (first|apply zA|apply zB|apply zC));exact HO725.out) hb);have n1_:=zM (Kd.R_lower ho0 (zR (by repeat (first|(with_reducible first|exact HB.out|apply zD|apply zE|apply zF)|exact HB.out))));have n2_:=zM (zQ (by repeat (first|(with_reducible first|exact HB.out|apply zD|apply zE|apply zF)|exact HB.out)) hb);clear HO725;clear HB;have HO725:=n0_;have HO729:=n1_;have HB:=n2_;clear n0_ n1_ n2_;(try clear hb);(try clear hb2);(try clear hk);(try clear hi);(try clear ho0))|(go_at_call 30;(with_reducible refine (impl_TurningHours.calls kj23 _ _ t722 (!t723) t730 t731 _ ?side1 ?side2 A65.out).mono ?_);(case side1=>repeat (first|exact (zN HO725.out).2.2|(with_reducible refine zG ?_ _)|(with_reducible refine zH ?_ _)|(with_reducible refine zI ?_)));(case side2=>exact (zN HO725.out).2.1);rintro e w77 ⟨v732,rfl,ho0,hb⟩;have n0_:=zM (zP (by (with_reducible repeat (first|apply zA|apply zB|apply zC));exact HO725.out) hb);have n1_:=zM (Kd.R_elder' (by (with_reducible repeat (first|apply zA|apply zB|apply zC));exact HO729.out) (Kd.R_base ho0) hb);have n2_:=zM (Kd.R_lower (Kd.R_new' ho0 (Kd.R_lt (by (with_reducible repeat (first|apply zA|apply zB|apply zC));exact HO729.out))) (zR (by repeat (first|(with_reducible first|exact HB.out|apply zD|apply zE|apply zF)|exact HB.out))));have n3_:=zM (zQ (by repeat (first|(with_reducible first|exact HB.out|apply zD|apply zE|apply zF)|exact HB.out)) hb);clear HO725;clear HO729;clear HB;have HO725:=n0_;have HO729:=n1_;have HO733:=n2_;have HB:=n3_;clear n0_ n1_ n2_ n3_;(try clear hb);(try clear hb2);(try clear hk);(try clear hi);(try clear ho0))|(go_at_call 29;(with_reducible refine (spec_TurningHours.calls kj23 _ _ t722 t723 t734 t735 _ ?side1 ?side2 A66.out).mono ?_);(case side1=>repeat (first|exact (zN HO725.out).2.2|(with_reducible refine zG ?_ _)|(with_reducible refine zH ?_ _)|(with_reducible refine zI ?_)));(case side2=>exact (zN HO725.out).2.1);rintro e w78 ⟨v736,rfl,ho0,hb⟩;have n0_:=zM (zP (by (with_reducible repeat (first|apply zA|apply zB|apply zC));exact HO725.out) hb);have n1_:=zM (Kd.R_elder' (by (with_reducible repeat (first|apply zA|apply zB|apply zC));exact HO729.out) (Kd.R_base ho0) hb);have n2_:=zM (Kd.R_elder' (by (with_reducible repeat (first|apply zA|apply zB|apply zC));exact HO733.out) (Kd.R_base ho0) hb);have n3_:=zM (Kd.R_lower (Kd.R_new' (Kd.R_new' ho0 (Kd.R_lt (by (with_reducible repeat (first|apply zA|apply zB|apply zC));exact HO729.out))) (Kd.R_lt (by (with_reducible repeat (first|apply zA|apply zB|apply zC));exact HO733.out))) (zR (by repeat (first|(with_reducible first|exact HB.out|apply zD|apply zE|apply zF)|exact HB.out))));have n4_:=zM (zQ (by repeat (first|(with_reducible first|exact HB.out|apply zD|apply zE|apply zF)|exact HB.out)) hb);clear HO725;clear HO729;clear HO733;clear HB;have HO725:=n0_;have HO729:=n1_;have HO733:=n2_;have HO737:=n3_;have HB:=n4_;clear n0_ n1_ n2_ n3_ n4_;(try clear hb);(try clear hb2);(try clear hk);(try clear hi);(try clear ho0);obtain ⟨Ao79,co79,eo79⟩:=Kd.R_slice HO729.out;subst eo79;obtain ⟨Ao80,co80,eo80⟩:=Kd.R_slice HO737.out;subst eo80)|(go_at_call 48;(with_reducible refine (laws_rInts.calls kj23 _ _ t726 _ _ t734 true _ ?side1 ?side2 ?side3 ?side4 A69.out).mono ?_);(case side1=>repeat (first|exact (zN HO729.out).2.2|(with_reducible refine zG ?_ _)|(with_reducible refine zH ?_ _)|(with_reducible refine zI ?_)));(case side2=>exact (zN HO729.out).2.1);(case side3=>repeat (first|exact (zN HO737.out).2.2|(with_reducible refine zG ?_ _)|(with_reducible refine zH ?_ _)|(with_reducible refine zI ?_)));(case side4=>exact (zN HO737.out).2.1);rintro e w' ⟨rfl,⟨nd,rfl⟩⟩;(try first|exact ⟨rfl,_,World.drewN_drewN _ _ _⟩|exact ⟨rfl,_,Eq.trans (World.drewN_drewN _ _ _) (congrArg (World.drewN _) (Nat.add_assoc _ _ _))⟩);obtain ⟨Ao81,co81,eo81⟩:=Kd.R_slice HO733.out;subst eo81)|(go_at_call 17;(with_reducible refine (impl_IsValidTides.calls kj23 _ _ t722 t739 _ ?side1 ?side2 A73.out).mono ?_);(case side1=>repeat (first|exact (zN HO725.out).2.2|(with_reducible refine zG ?_ _)|(with_reducible refine zH ?_ _)|(with_reducible refine zI ?_)));(case side2=>exact (zN HO725.out).2.1);rintro e w82 ⟨rfl,hb⟩;have n0_:=zM (zP (by (with_reducible repeat (first|apply zA|apply zB|apply zC));exact HO725.out) hb);have n1_:=zM (zP (by (with_reducible repeat (first|apply zA|apply zB|apply zC));exact HO729.out) hb);have n2_:=zM (zP (by (with_reducible repeat (first|apply zA|apply zB|apply zC));exact HO733.out) hb);have n3_:=zM (zP (by (with_reducible repeat (first|apply zA|apply zB|apply zC));exact HO737.out) hb);have n4_:=zM (zQ (by repeat (first|(with_reducible first|exact HB.out|apply zD|apply zE|apply zF)|exact HB.out)) hb);clear HO725;clear HO729;clear HO733;clear HO737;clear HB;have HO725:=n0_;have HO729:=n1_;have HO733:=n2_;have HO737:=n3_;have HB:=n4_;clear n0_ n1_ n2_ n3_ n4_;(try clear hb);(try clear hb2);(try clear hk);(try clear hi))))
               go_ret
               exact ⟨by first|rfl|(simp [errW_none,errW_some] <;> rfl)|(simp [*,errW_none,errW_some] <;> rfl),by repeat (first|(with_reducible first|exact HB.out|apply zD|apply zE|apply zF)|exact HB.out)⟩
              ·as_aux_lemma =>
               rw [if_neg c72] at H
               have c72b0 : ((wrap64 ((t726.length : Int) + (t730.length : Int))) == (t722.length : Int)) = false:=beq_eq_false_iff_ne.mpr c72
               have c72b1 : ((wrap64 ((t726.length : Int) + (t730.length : Int))) != (t722.length : Int)) = true:=bne_iff_ne.mpr c72
               obtain rfl:=Option.some.inj H
               go_wp2_with (first|(go_at_call 47;(with_reducible refine (spec_DrawTurningHours.calls kj23 _ _ l0 t722 t723 _ ?side1 ?side2 A63.out).mono ?_);(case side1=>repeat (first|exact (zO HR0.out HB.out)|(with_reducible refine zG ?_ _)|(with_reducible refine zH ?_ _)|(with_reducible refine zI ?_)));(case side2=>exact HC0.out);rintro e w83 ⟨v724,rfl,ho0,hb⟩;have n0_:=zM (Kd.R_lower ho0 (zR (by repeat (first|(with_reducible first|exact HB.out|apply zD|apply zE|apply zF)|exact HB.out))));have n1_:=zM (zQ (by repeat (first|(with_reducible first|exact HB.out|apply zD|apply zE|apply zF)|exact HB.out)) hb);clear HB;have HO725:=n0_;have HB:=n1_;clear n0_ n1_;(try clear hb);(try clear hb2);(try clear hk);(try clear hi);(try clear ho0);obtain ⟨Ao84,co84,eo84⟩:=Kd.R_slice HO725.out;subst eo84)|(go_at_call 30;(with_reducible refine (impl_TurningHours.calls kj23 _ _ t722 t723 t726 true _ ?side1 ?side2 A64.out).mono ?_);(case side1=>repeat (first|exact (zN HO725.out).2.2|(with_reducible refine zG ?_ _)|(with_reducible refine zH ?_ _)|(with_reducible refine zI ?_)));(case side2=>exact (zN HO725.out).2.1);rintro e w85 ⟨v728,rfl,ho0,hb⟩;have n0_:=zM (zP (by (with_reducible repeat (first|apply zA|apply zB|apply zC));exact HO725.out) hb);have n1_:=zM (Kd.R_lower ho0 (zR (by repeat (first|(with_reducible first|exact HB.out|apply zD|apply zE|apply zF)|exact HB.out))));have n2_:=zM (zQ (by repeat (first|(with_reducible first|exact HB.out|apply zD|apply zE|apply zF)|exact HB.out)) hb);clear HO725;clear HB;have HO725:=n0_;have HO729:=n1_;have HB:=n2_;clear n0_ n1_ n2_;(try clear hb);(try clear hb2);(try clear hk);(try clear hi);(try clear ho0))|(go_at_call 30;(with_reducible refine (impl_TurningHours.calls kj23 _ _ t722 (!t723) t730 t731 _ ?side1 ?side2 A65.out).mono ?_);(case side1=>repeat (first|exact (zN HO725.out).2.2|(with_reducible refine zG ?_ _)|(with_reducible refine zH ?_ _)|(with_reducible refine zI ?_)));(case side2=>exact (zN HO725.out).2.1);rintro e w86 ⟨v732,rfl,ho0,hb⟩;have n0_:=zM (zP (by (with_reducible repeat (first|apply zA|apply zB|apply zC));exact HO725.out) hb);have n1_:=zM (Kd.R_elder' (by (with_reducible repeat (first|apply zA|apply zB|apply zC));exact HO729.out) (Kd.R_base ho0) hb);have n2_:=zM (Kd.R_lower (Kd.R_new' ho0 (Kd.R_lt (by (with_reducible repeat (first|apply zA|apply zB|apply zC));exact HO729.out))) (zR (by repeat (first|(with_reducible first|exact HB.out|apply zD|apply zE|apply zF)|exact HB.out))));have n3_:=zM (zQ (by repeat (first|(with_reducible first|exact HB.out|apply zD|apply zE|apply zF)|exact HB.out)) hb);clear HO725;clear HO729;clear HB;have HO725:=n0_;have HO729:=n1_;have HO733:=n2_;have HB:=n3_;clear n0_ n1_ n2_ n3_;(try clear hb);(try clear hb2);(try clear hk);(try clear hi);(try clear ho0))|(go_at_call 29;(with_reducible refine (spec_TurningHours.calls kj23 _ _ t722 t723 t734 t735 _ ?side1 ?side2 A66.out).mono ?_);(case side1=>repeat (first|exact (zN HO725.out).2.2|(with_reducible refine zG ?_ _)|(with_reducible refine zH ?_ _)|(with_reducible refine zI ?_)));(case side2=>exact (zN HO725.out).2.1);rintro e w87 ⟨v736,rfl,ho0,hb⟩;have n0_:=zM (zP (by (with_reducible repeat (first|apply zA|apply zB|apply zC));exact HO725.out) hb);have n1_:=zM (Kd.R_elder' (by (with_reducible repeat (first|apply zA|apply zB|apply zC));exact HO729.out) (Kd.R_base ho0) hb);have n2_:=zM (Kd.R_elder' (by (with_reducible repeat (first|apply zA|apply zB|apply zC));exact HO733.out) (Kd.R_base ho0) hb);have n3_:=zM (Kd.R_lower (Kd.R_new' (Kd.R_new' ho0 (Kd.R_lt (by (with_reducible repeat (first|apply zA|apply zB|apply zC));exact HO729.out))) (Kd.R_lt (by (with_reducible repeat (first|apply zA|apply zB|apply zC));exact HO733.out))) (zR (by repeat (first|(with_reducible first|exact HB.out|apply zD|apply zE|apply zF)|exact HB.out))));have n4_:=zM (zQ (by repeat (first|(with_reducible first|exact HB.out|apply zD|apply zE|apply zF)|exact HB.out)) hb);clear HO725;clear HO729;clear HO733;clear HB;have HO725:=n0_;have HO729:=n1_;have HO733:=n2_;have HO737:=n3_;have HB:=n4_;clear n0_ n1_ n2_ n3_ n4_;(try clear hb);(try clear hb2);(try clear hk);(try clear hi);(try clear ho0);obtain ⟨Ao88,co88,eo88⟩:=Kd.R_slice HO729.out;subst eo88;obtain ⟨Ao89,co89,eo89⟩:=Kd.R_slice HO737.out;subst eo89)|(go_at_call 48;(with_reducible refine (laws_rInts.calls kj23 _ _ t726 _ _ t734 true _ ?side1 ?side2 ?side3 ?side4 A69.out).mono ?_);(case side1=>repeat (first|exact (zN HO729.out).2.2|(with_reducible refine zG ?_ _)|(with_reducible refine zH ?_ _)|(with_reducible refine zI ?_)));(case side2=>exact (zN HO729.out).2.1);(case side3=>repeat (first|exact (zN HO737.out).2.2|(with_reducible refine zG ?_ _)|(with_reducible refine zH ?_ _)|(with_reducible refine zI ?_)));(case side4=>exact (zN HO737.out).2.1);rintro e w' ⟨rfl,⟨nd,rfl⟩⟩;(try first|exact ⟨rfl,_,World.drewN_drewN _ _ _⟩|exact ⟨rfl,_,Eq.trans (World.drewN_drewN _ _ _) (congrArg (World.drewN _) (Nat.add_assoc _ _ _))⟩);obtain ⟨Ao90,co90,eo90⟩:=Kd.R_slice HO733.out;subst eo90))
               repeat (go_quiet (first|(go_at_call 47;(with_reducible refine (spec_DrawTurningHours.calls kj23 _ _ l0 t722 t723 _ ?side1 ?side2 A63.out).mono ?_);(case side1=>repeat (first|exact (zO HR0.out HB.out)|(with_reducible refine zG ?_ _)|(with_reducible refine zH ?_ _)|(with_reducible refine zI ?_)));(case side2=>exact HC0.out);rintro e w83 ⟨v724,rfl,ho0,hb⟩;have n0_:=zM (Kd.R_lower ho0 (zR (by repeat (first|(with_reducible first|exact HB.out|apply zD|apply zE|apply zF)|exact HB.out))));have n1_:=zM (zQ (by repeat (first|(with_reducible first|exact HB.out|apply zD|apply zE|apply zF)|exact HB.out)) hb);clear HB;have HO725:=n0_;have HB:=n1_;clear n0_ n1_;(try clear hb);(try clear hb2);(try clear hk);(try clear hi);(try clear ho0);obtain ⟨Ao84,co84,eo84⟩:=Kd.R_slice HO725.out;subst eo84)|(go_at_call 30;(with_reducible refine (impl_TurningHours.calls kj23 _ _ t722 t723 t726 true _ ?side1 ?side2 A64.out).mono ?_);(case side1=>repeat (first|exact (zN HO725.out).2.2|(with_reducible refine zG ?_ _)|(with_reducible refine zH ?_ _)|(with_reducible refine zI ?_)));(case side2=>exact (zN HO725.out).2.1);rintro e w85 ⟨v728,rfl,ho0,hb⟩;have n0_:=zM (zP (by (with_reducible repeat (first|apply zA|apply zB|apply zC));exact HO725.out) hb);have n1_:=zM (Kd.R_lower ho0 (zR (by repeat (first|(with_reducible first|exact HB.out|apply zD|apply zE|apply zF)|exact HB.out))));have n2_:=zM (zQ (by repeat (first|(with_reducible first|exact HB.out|apply zD|apply zE|apply zF)|exact HB.out)) hb);clear HO725;clear HB;have HO725:=n0_;have HO729:=n1_;have HB:=n2_;clear n0_ n1_ n2_;(try clear hb);(try clear hb2);(try clear hk);(try clear hi);(try clear ho0))|(go_at_call 30;(with_reducible refine (impl_TurningHours.calls kj23 _ _ t722 (!t723) t730 t731 _ ?side1 ?side2 A65.out).mono ?_);(case side1=>repeat (first|exact (zN HO725.out).2.2|(with_reducible refine zG ?_ _)|(with_reducible refine zH ?_ _)|(with_reducible refine zI ?_)));(case side2=>exact (zN HO725.out).2.1);rintro e w86 ⟨v732,rfl,ho0,hb⟩;have n0_:=zM (zP (by (with_reducible repeat (first|apply zA|apply zB|apply zC));exact HO725.out) hb);have n1_:=zM (Kd.R_elder' (by (with_reducible repeat (first|apply zA|apply zB|apply zC));exact HO729.out) (Kd.R_base ho0) hb);have n2_:=zM (Kd.R_lower (Kd.R_new' ho0 (Kd.R_lt (by (with_reducible repeat (first|apply zA|apply zB|apply zC));exact HO729.out))) (zR (by repeat (first|(with_reducible first|exact HB.out|apply zD|apply zE|apply zF)|exact HB.out))));have n3_:=zM (zQ (by repeat (first|(with_reducible first|exact HB.out|apply zD|apply zE|apply zF)|exact HB.out)) hb);clear HO725;clear HO729;clear HB;have HO725:=n0_;have HO729:=n1_;have HO733:=n2_;have HB:=n3_;clear n0_ n1_ n2_ n3_;(try clear hb);(try clear hb2);(try clear hk);(try clear hi);(try clear ho0))|(go_at_call 29;(with_reducible refine (spec_TurningHours.calls kj23 _ _ t722 t723 t734 t735 _ ?side1 ?side2 A66.out).mono ?_);(case side1=>repeat (first|exact (zN HO725.out).2.2|(with_reducible refine zG ?_ _)|(with_reducible refine zH ?_ _)|(with_reducible refine zI ?_)));(case side2=>exact (zN HO725.out).2.1);rintro e w87 ⟨v736,rfl,ho0,hb⟩;have n0_:=zM (zP (by (with_reducible repeat (first|apply zA|apply zB|apply zC));exact HO725.out) hb);have n1_:=zM (Kd.R_elder' (by (with_reducible repeat (first|apply zA|apply zB|apply zC));exact HO729.out) (Kd.R_base ho0) hb);have n2_:=zM (Kd.R_elder' (by (with_reducible repeat (first|apply zA|apply zB|apply zC));exact HO733.out) (Kd.R_base ho0) hb);have n3_:=zM (Kd.R_lower (Kd.R_new' (Kd.R_new' ho0 (Kd.R_lt (by (with_reducible repeat (first|apply zA|apply zB|apply zC));exact HO729.out))) (Kd.R_lt (by (with_reducible repeat (first|apply zA|apply zB|apply zC));exact HO733.out))) (zR (by repeat (first|(with_reducible first|exact HB.out|apply zD|apply zE|apply zF)|exact HB.out))));have n4_:=zM (zQ (by repeat (first|(with_reducible first|exact HB.out|apply zD|apply zE|apply zF)|exact HB.out)) hb);clear HO725;clear HO729;clear HO733;clear HB;have HO725:=n0_;have HO729:=n1_;have HO733:=n2_;have HO737:=n3_;have HB:=n4_;clear n0_ n1_ n2_ n3_ n4_;(try clear hb);(try clear hb2);(try clear hk);(try clear hi);(try clear ho0);obtain ⟨Ao88,co88,eo88⟩:=Kd.R_slice HO729.out;subst eo88;obtain ⟨Ao89,co89,eo89⟩:=Kd.R_slice HO737.out;subst eo89)|(go_at_call 48;(with_reducible refine (laws_rInts.calls kj23 _ _ t726 _ _ t734 true _ ?side1 ?side2 ?side3 ?side4 A69.out).mono ?_);(case side1=>repeat (first|exact (zN HO729.out).2.2|(with_reducible refine zG ?_ _)|(with_reducible refine zH ?_ _)|(with_reducible refine zI ?_)));(case side2=>exact (zN HO729.out).2.1);(case side3=>repeat (first|exact (zN HO737.out).2.2|(with_reducible refine zG ?_ _)|(with_reducible refine zH ?_ _)|(with_reducible refine zI ?_)));(case side4=>exact (zN HO737.out).2.1);rintro e w' ⟨rfl,⟨nd,rfl⟩⟩;(try first|exact ⟨rfl,_,World.drewN_drewN _ _ _⟩|exact ⟨rfl,_,Eq.trans (World.drewN_drewN _ _ _) (congrArg (World.drewN _) (Nat.add_assoc _ _ _))⟩);obtain ⟨Ao90,co90,eo90⟩:=Kd.R_slice HO733.out;subst eo90));try go_wp2_with (first|(go_at_call 47;(with_reducible refine (spec_DrawTurningHours.calls kj23 _ _ l0 t722 t723 _ ?side1 ?side2 A63.out).mono ?_);(case side1=>repeat (first|exact (zO HR0.out HB.out)|(with_reducible refine zG ?_ _)|(with_reducible refine zH ?_ _)|(with_reducible refine zI ?_)));(case side2=>exact HC0.out);rintro e w83 ⟨v724,rfl,ho0,hb⟩;have n0_:=zM (Kd.R_lower ho0 (zR (by repeat (first|(with_reducible first|exact HB.out|apply zD|apply zE|apply zF)|exact HB.out))));have n1_:=zM (zQ (by repeat (first|(with_reducible first|exact HB.out|apply zD|apply zE|apply zF)|exact HB.out)) hb);clear HB;have HO725:=n0_;have HB:=n1_;clear n0_ n1_;(try clear hb);(try clear hb2);(try clear hk);(try clear hi);(try clear ho0);obtain ⟨Ao84,co84,eo84⟩:=Kd.R_slice HO725.out;subst eo84)|(go_at_call 30;(with_reducible refine (impl_TurningHours.calls kj23 _ _ t722 t723 t726 true _ ?side1 ?side2 A64.out).mono ?_);(case side1=>repeat (first|exact (zN HO725.out).2.2|(with_reducible refine zG ?_ _)|(with_reducible refine zH ?_ _)|(with_reducible refine zI ?_)));(case side2=>exact (zN HO725.out).2.1);rintro e w85 ⟨v728,rfl,ho0,hb⟩;have n0_:=zM (zP (by (with_reducible repeat (first|apply zA|apply zB|apply zC));exact HO725.out) hb);have n1_:=zM (Kd.R_lower ho0 (zR (by repeat (first|(with_reducible first|exact HB.out|apply zD|apply zE|apply zF)|exact HB.out))));have n2_:=zM (zQ (by repeat (first|(with_reducible first|exact HB.out|apply zD|apply zE|apply zF)|exact HB.out)) hb);clear HO725;clear HB;have HO725:=n0_;have HO729:=n1_;have HB:=n2_;clear n0_ n1_ n2_;(try clear hb);(try clear hb2);(try clear hk);(try clear hi);(try clear ho0))|(go_at_call 30;(with_reducible refine (impl_TurningHours.calls kj23 _ _ t722 (!t723) t730 t731 _ ?side1 ?side2 A65.out).mono ?_);(case side1=>repeat (first|exact (zN HO725.out).2.2|(with_reducible refine zG ?_ _)|(with_reducible refine zH ?_ _)|(with_reducible refine zI ?_)));(case side2=>exact (zN HO725.out).2.1);rintro e w86 ⟨v732,rfl,ho0,hb⟩;have n0_:=zM (zP (by (with_reducible repeat (first|apply zA|apply zB|apply zC));exact HO725.out) hb);have n1_:=zM (Kd.R_elder' (by (with_reducible repeat (first|apply zA|apply zB|apply zC));exact HO729.out) (Kd.R_base ho0) hb);have n2_:=zM (Kd.R_lower (Kd.R_new' ho0 (Kd.R_lt (by (with_reducible repeat (first|apply zA|apply zB|apply zC));exact HO729.out))) (zR (by repeat (first|(with_reducible first|exact HB.out|apply zD|apply zE|apply zF)|exact HB.out))));have n3_:=zM (zQ (by repeat (first|(with_reducible first|exact HB.out|apply zD|apply zE|apply zF)|exact HB.out)) hb);clear HO725;clear HO729;clear HB;have HO725:=n0_;have HO729:=n1_;have HO733:=n2_;have HB:=n3_;clear n0_ n1_ n2_ n3_;(try clear hb);(try clear hb2);(try clear hk);(try clear hi);(try clear ho0))|(go_at_call 29;(with_reducible refine (spec_TurningHours.calls kj23 _ _ t722 t723 t734 t735 _ ?side1 ?side2 A66.out).mono ?_);(case side1=>repeat (first|exact (zN HO725.out).2.2|(with_reducible refine zG ?_ _)|(with_reducible refine zH ?_ _)|(with_reducible refine zI ?_)));(case side2=>exact (zN HO725.out).2.1);rintro e w87 ⟨v736,rfl,ho0,hb⟩;have n0_:=zM (zP (by (with_reducible repeat (first|apply zA|apply zB|apply zC));exact HO725.out) hb);have n1_:=zM (Kd.R_elder' (by (with_reducible repeat (first|apply zA|apply zB|apply zC));exact HO729.out) (Kd.R_base ho0) hb);have n2_:=zM (Kd.R_elder' (by (with_reducible repeat (first|apply zA|apply zB|apply zC));exact HO733.out) (Kd.R_base ho0) hb);have n3_:=zM (Kd.R_lower (Kd.R_new' (Kd.R_new' ho0 (Kd.R_lt (by (with_reducible repeat (first|apply zA|apply zB|apply zC));exact HO729.out))) (Kd.R_lt (by (with_reducible repeat (first|apply zA|apply zB|apply zC));exact HO733.out))) (zR (by repeat (first|(with_reducible first|exact HB.out|apply zD|apply zE|apply zF)|exact HB.out))));have n4_:=zM (zQ (by repeat (first|(with_reducible first|exact HB.out|apply zD|apply zE|apply zF)|exact HB.out)) hb);clear HO725;clear HO729;clear HO733;clear HB;have HO725:=n0_;have HO729:=n1_;have HO733:=n2_;have HO737:=n3_;have HB:=n4_;clear n0_ n1_ n2_ n3_ n4_;(try clear hb);(try clear hb2);(try clear hk);(try clear hi);(try clear ho0);obtain ⟨Ao88,co88,eo88⟩:=Kd.R_slice HO729.out;subst eo88;obtain ⟨Ao89,co89,eo89⟩:=Kd.R_slice HO737.out;subst eo89)|(go_at_call 48;(with_reducible refine (laws_rInts.calls kj23 _ _ t726 _ _ t734 true _ ?side1 ?side2 ?side3 ?side4 A69.out).mono ?_);(case side1=>repeat (first|exact (zN HO729.out).2.2|(with_reducible refine zG ?_ _)|(with_reducible refine zH ?_ _)|(with_reducible refine zI ?_)));(case side2=>exact (zN HO729.out).2.1);(case side3=>repeat (first|exact (zN HO737.out).2.2|(with_reducible refine zG ?_ _)|(with_reducible refine zH ?_ _)|(with_reducible refine zI ?_)));(case side4=>exact (zN HO737.out).2.1);rintro e w' ⟨rfl,⟨nd,rfl⟩⟩;(try first|exact ⟨rfl,_,World.drewN_drewN _ _ _⟩|exact ⟨rfl,_,Eq.trans (World.drewN_drewN _ _ _) (congrArg (World.drewN _) (Nat.add_assoc _ _ _))⟩);obtain ⟨Ao90,co90,eo90⟩:=Kd.R_slice HO733.out;subst eo90)))
               go_ret
               exact ⟨by first|rfl|(simp [errW_none,errW_some] <;> rfl)|(simp [*,errW_none,errW_some] <;> rfl),by repeat (first|(with_reducible first|exact HB.out|apply zD|apply zE|apply zF)|exact HB.out)⟩
             ·as_aux_lemma =>
              replace c71:=Bool.eq_false_iff.mpr c71
              subst c71
              have H1 : (some true) = some r:=by rw [if_neg (show ¬ (false = true) by decide)] at H;exact H
              clear H
              have H:=H1
              clear H1
              obtain rfl:=Option.some.inj H
              go_wp2_with (first|(go_at_call 47;(with_reducible refine (spec_DrawTurningHours.calls kj23 _ _ l0 t722 t723 _ ?side1 ?side2 A63.out).mono ?_);(case side1=>repeat (first|exact (zO HR0.out HB.out)|(with_reducible refine zG ?_ _)|(with_reducible refine zH ?_ _)|(with_reducible refine zI ?_)));(case side2=>exact HC0.out);rintro e w91 ⟨v724,rfl,ho0,hb⟩;have n0_:=zM (Kd.R_lower ho0 (zR (by repeat (first|(with_reducible first|exact HB.out|apply zD|apply zE|apply zF)|exact HB.out))));have n1_:=zM (zQ (by repeat (first|(with_reducible first|exact HB.out|apply zD|apply zE|apply zF)|exact HB.out)) hb);clear HB;have HO725:=n0_;have HB:=n1_;clear n0_ n1_;(try clear hb);(try clear hb2);(try clear hk);(try clear hi);(try clear ho0);obtain ⟨Ao92,co92,eo92⟩:=Kd.R_slice HO725.out;subst eo92)|(go_at_call 30;(with_reducible refine (impl_TurningHours.calls kj23 _ _ t722 t723 t726 false _ ?side1 ?side2 A64.out).mono ?_);(case side1=>repeat (first|exact (zN HO725.out).2.2|(with_reducible refine zG ?_ _)|(with_reducible refine zH ?_ _)|(with_reducible refine zI ?_)));(case side2=>exact (zN HO725.out).2.1);rintro e w93 ⟨v728,rfl,ho0,hb⟩;have n0_:=zM (zP (by (with_reducible repeat (first|apply zA|apply zB|apply zC));exact HO725.out) hb);have n1_:=zM (Kd.R_lower ho0 (zR (by repeat (first|(with_reducible first|exact HB.out|apply zD|apply zE|apply zF)|exact HB.out))));have n2_:=zM (zQ (by repeat (first|(with_reducible first|exact HB.out|apply zD|apply zE|apply zF)|exact HB.out)) hb);clear HO725;clear HB;have HO725:=n0_;have HO729:=n1_;have HB:=n2_;clear n0_ n1_ n2_;(try clear hb);(try clear hb2);(try clear hk);(try clear hi);(try clear ho0))|(go_at_call 30;(with_reducible refine (impl_TurningHours.calls kj23 _ _ t722 (!t723) t730 t731 _ ?side1 ?side2 A65.out).mono ?_);(case side1=>repeat (first|exact (zN HO725.out).2.2|(with_reducible refine zG ?_ _)|(with_reducible refine zH ?_ _)|(with_reducible refine zI ?_)));(case side2=>exact (zN HO725.out).2.1);rintro e w94 ⟨v732,rfl,ho0,hb⟩;have n0_:=zM (zP (by (with_reducible repeat (first|apply zA|apply zB|apply zC));exact HO725.out) hb);have n1_:=zM (Kd.R_elder' (by (with_reducible repeat (first|apply zA|apply zB|apply zC));exact HO729.out) (Kd.R_base ho0) hb);have n2_:=zM (Kd.R_lower (Kd.R_new' ho0 (Kd.R_lt (by (with_reducible repeat (first|apply zA|apply zB|apply zC));exact HO729.out))) (zR (by repeat (first|(with_reducible first|exact HB.out|apply zD|apply zE|apply zF)|exact HB.out))));have n3_:=zM (zQ (by repeat (first|(with_reducible first|exact HB.out|apply zD|apply zE|apply zF)|exact HB.out)) hb);clear HO725;clear HO729;clear HB;have HO725:=n0_;have HO729:=n1_;have HO733:=n2_;have HB:=n3_;clear n0_ n1_ n2_ n3_;(try clear hb);(try clear hb2);(try clear hk);(try clear hi);(try clear ho0))|(go_at_call 29;(with_reducible refine (spec_TurningHours.calls kj23 _ _ t722 t723 t734 t735 _ ?side1 ?side2 A66.out).mono ?_);(case side1=>repeat (first|exact (zN HO725.out).2.2|(with_reducible refine zG ?_ _)|(with_reducible refine zH ?_ _)|(with_reducible refine zI ?_)));(case side2=>exact (zN HO725.out).2.1);rintro e w95 ⟨v736,rfl,ho0,hb⟩;have n0_:=zM (zP (by (with_reducible repeat (first|apply zA|apply zB|apply zC));exact HO725.out) hb);have n1_:=zM (Kd.R_elder' (by (with_reducible repeat (first|apply zA|apply zB|apply zC));exact HO729.out) (Kd.R_base ho0) hb);have n2_:=zM (Kd.R_elder' (by (with_reducible repeat (first|apply zA|apply zB|apply zC));exact HO733.out) (Kd.R_base ho0) hb);have n3_:=zM (Kd.R_lower (Kd.R_new' (Kd.R_new' ho0 (Kd.R_lt (by (with_reducible repeat (first|apply zA|apply zB|apply zC));exact HO729.out))) (Kd.R_lt (by (with_reducible repeat (first|apply zA|apply zB|apply zC));exact HO733.out))) (zR (by repeat (first|(with_reducible first|exact HB.out|apply zD|apply zE|apply zF)|exact HB.out))));have n4_:=zM (zQ (by repeat (first|(with_reducible first|exact HB.out|apply zD|apply zE|apply zF)|exact HB.out)) hb);clear HO725;clear HO729;clear HO733;clear HB;have HO725:=n0_;have HO729:=n1_;have HO733:=n2_;have HO737:=n3_;have HB:=n4_;clear n0_ n1_ n2_ n3_ n4_;(try clear hb);(try clear hb2);(try clear hk);(try clear hi);(try clear ho0);obtain ⟨Ao96,co96,eo96⟩:=Kd.R_slice HO729.out;subst eo96;obtain ⟨Ao97,co97,eo97⟩:=Kd.R_slice HO737.out;subst eo97)|(go_at_call 48;(with_reducible refine (laws_rInts.calls kj23 _ _ t726 _ _ t734 true _ ?side1 ?side2 ?side3 ?side4 A69.out).mono ?_);(case side1=>repeat (first|exact (zN HO729.out).2.2|(with_reducible refine zG ?_ _)|(with_reducible refine zH ?_ _)|(with_reducible refine zI ?_)));(case side2=>exact (zN HO729.out).2.1);(case side3=>repeat (first|exact (zN HO737.out).2.2|(with_reducible refine zG ?_ _)|(with_reducible refine zH ?_ _)|(with_reducible refine zI ?_)));(case side4=>exact (zN HO737.out).2.1);rintro e w' ⟨rfl,⟨nd,rfl⟩⟩;(try first|exact ⟨rfl,_,World.drewN_drewN _ _ _⟩|exact ⟨rfl,_,Eq.trans (World.drewN_drewN _ _ _) (congrArg (World.drewN _) (Nat.add_assoc _ _ _))⟩)))
              repeat (go_quiet (first|(go_at_call 47;(with_reducible refine (spec_DrawTurningHours.calls kj23 _ _ l0 t722 t723 _ ?side1 ?side2 A63.out).mono ?_);(case side1=>repeat (first|exact (zO HR0.out HB.out)|(with_reducible refine zG ?_ _)|(with_reducible refine zH ?_ _)|(with_reducible refine zI ?_)));(case side2=>exact HC0.out);rintro e w91 ⟨v724,rfl,ho0,hb⟩;have n0_:=zM (Kd.R_lower ho0 (zR (by repeat (first|(with_reducible first|exact HB.out|apply zD|apply zE|apply zF)|exact HB.out))));have n1_:=zM (zQ (by repeat (first|(with_reducible first|exact HB.out|apply zD|apply zE|apply zF)|exact HB.out)) hb);clear HB;have HO725:=n0_;have HB:=n1_;clear n0_ n1_;(try clear hb);(try clear hb2);(try clear hk);(try clear hi);(try clear ho0);obtain ⟨Ao92,co92,eo92⟩:=Kd.R_slice HO725.out;subst eo92)|(go_at_call 30;(with_reducible refine (impl_TurningHours.calls kj23 _ _ t722 t723 t726 false _ ?side1 ?side2 A64.out).mono ?_);(case side1=>repeat (first|exact (zN HO725.out).2.2|(with_reducible refine zG ?_ _)|(with_reducible refine zH ?_ _)|(with_reducible refine zI ?_)));(case side2=>exact (zN HO725.out).2.1);rintro e w93 ⟨v728,rfl,ho0,hb⟩;have n0_:=zM (zP (by (with_reducible repeat (first|apply zA|apply zB|apply zC));exact HO725.out) hb);have n1_:=zM (Kd.R_lower ho0 (zR (by repeat (first|(with_reducible first|exact HB.out|apply zD|apply zE|apply zF)|exact HB.out))));have n2_:=zM (zQ (by repeat (first|(with_reducible first|exact HB.out|apply zD|apply zE|apply zF)|exact HB.out)) hb);clear HO725;clear HB;have HO725:=n0_;have HO729:=n1_;have HB:=n2_;clear n0_ n1_ n2_;(try clear hb);(try clear hb2);(try clear hk);(try clear hi);(try clear ho0))|(go_at_call 30;(with_reducible refine (impl_TurningHours.calls kj23 _ _ t722 (!t723) t730 t731 _ ?side1 ?side2 A65.out).mono ?_);(case side1=>repeat (first|exact (zN HO725.out).2.2|(with_reducible refine zG ?_ _)|(with_reducible refine zH ?_ _)|(with_reducible refine zI ?_)));(case side2=>exact (zN HO725.out).2.1);rintro e w94 ⟨v732,rfl,ho0,hb⟩;have n0_:=zM (zP (by (with_reducible repeat (first|apply zA|apply zB|apply zC));exact HO725.out) hb);have n1_:=zM (Kd.R_elder' (by (with_reducible repeat (first|apply zA|apply zB|apply zC));exact HO729.out) (Kd.R_base ho0) hb);have n2_:=zM (Kd.R_lower (Kd.R_new' ho0 (Kd.R_lt (by (with_reducible repeat (first|apply zA|apply zB|apply zC));exact HO729.out))) (zR (by repeat (first|(with_reducible first|exact HB.out|apply zD|apply zE|apply zF)|exact HB.out))));have n3_:=zM (zQ (by repeat (first|(with_reducible first|exact HB.out|apply zD|apply zE|apply zF)|exact HB.out)) hb);clear HO725;clear HO729;clear HB;have HO725:=n0_;have HO729:=n1_;have HO733:=n2_;have HB:=n3_;clear n0_ n1_ n2_ n3_;(try clear hb);(try clear hb2);(try clear hk);(try clear hi);(try clear ho0))|(go_at_call 29;(with_reducible refine (spec_TurningHours.calls kj23 _ _ t722 t723 t734 t735 _ ?side1 ?side2 A66.out).mono ?_);(case side1=>repeat (first|exact (zN HO725.out).2.2|(with_reducible refine zG ?_ _)|(with_reducible refine zH ?_ _)|(with_reducible refine zI ?_)));(case side2=>exact (zN HO725.out).2.1);rintro e w95 ⟨v736,rfl,ho0,hb⟩;have n0_:=zM (zP (by (with_reducible repeat (first|apply zA|apply zB|apply zC));exact HO725.out) hb);have n1_:=zM (Kd.R_elder' (by (with_reducible repeat (first|apply zA|apply zB|apply zC));exact HO729.out) (Kd.R_base ho0) hb);have n2_:=zM (Kd.R_elder' (by (with_reducible repeat (first|apply zA|apply zB|apply zC));exact HO733.out) (Kd.R_base ho0) hb);have n3_:=zM (Kd.R_lower (Kd.R_new' (Kd.R_new' ho0 (Kd.R_lt (by (with_reducible repeat (first|apply zA|apply zB|apply zC));exact HO729.out))) (Kd.R_lt (by (with_reducible repeat (first|apply zA|apply zB|apply zC));exact HO733.out))) (zR (by repeat (first|(with_reducible first|exact HB.out|apply zD|apply zE|apply zF)|exact HB.out))));have n4_:=zM (zQ (by repeat (first|(with_reducible first|exact HB.out|apply zD|apply zE|apply zF)|exact HB.out)) hb);clear HO725;clear HO729;clear HO733;clear HB;have HO725:=n0_;have HO729:=n1_;have HO733:=n2_;have HO737:=n3_;have HB:=n4_;clear n0_ n1_ n2_ n3_ n4_;(try clear hb);(try clear hb2);(try clear hk);(try clear hi);(try clear ho0);obtain ⟨Ao96,co96,eo96⟩:=Kd.R_slice HO729.out;subst eo96;obtain ⟨Ao97,co97,eo97⟩:=Kd.R_slice HO737.out;subst eo97)|(go_at_call 48;(with_reducible refine (laws_rInts.calls kj23 _ _ t726 _ _ t734 true _ ?side1 ?side2 ?side3 ?side4 A69.out).mono ?_);(case side1=>repeat (first|exact (zN HO729.out).2.2|(with_reducible refine zG ?_ _)|(with_reducible refine zH ?_ _)|(with_reducible refine zI ?_)));(case side2=>exact (zN HO729.out).2.1);(case side3=>repeat (first|exact (zN HO737.out).2.2|(with_reducible refine zG ?_ _)|(with_reducible refine zH ?_ _)|(with_reducible refine zI ?_)));(case side4=>exact (zN HO737.out).2.1);rintro e w' ⟨rfl,⟨nd,rfl⟩⟩;(try first|exact ⟨rfl,_,World.drewN_drewN _ _ _⟩|exact ⟨rfl,_,Eq.trans (World.drewN_drewN _ _ _) (congrArg (World.drewN _) (Nat.add_assoc _ _ _))⟩)));try go_wp2_with (first|(go_at_call 47;(with_reducible refine (spec_DrawTurningHours.calls kj23 _ _ l0 t722 t723 _ ?side1 ?side2 A63.out).mono ?_);(case side1=>repeat (first|exact (zO HR0.out HB.out)|(with_reducible refine zG ?_ _)|(with_reducible refine zH ?_ _)|(with_reducible refine zI ?_)));(case side2=>exact HC0.out);rintro e w91 ⟨v724,rfl,ho0,hb⟩;have n0_:=zM (Kd.R_lower ho0 (zR (by repeat (first|(with_reducible first|exact HB.out|apply zD|apply zE|apply zF)|exact HB.out))));have n1_:=zM (zQ (by repeat (first|(with_reducible first|exact HB.out|apply zD|apply zE|apply zF)|exact HB.out)) hb);clear HB;have HO725:=n0_;have HB:=n1_;clear n0_ n1_;(try clear hb);(try clear hb2);(try clear hk);(try clear hi);(try clear ho0);obtain ⟨Ao92,co92,eo92⟩:=Kd.R_slice HO725.out;subst eo92)|(go_at_call 30;(with_reducible refine (impl_TurningHours.calls kj23 _ _ t722 t723 t726 false _ ?side1 ?side2 A64.out).mono ?_);(case side1=>repeat (first|exact (zN HO725.out).2.2|(with_reducible refine zG ?_ _)|(with_reducible refine zH ?_ _)|(with_reducible refine zI ?_)));(case side2=>exact (zN HO725.out).2.1);rintro e w93 ⟨v728,rfl,ho0,hb⟩;have n0_:=zM (zP (by (with_reducible repeat (first|apply zA|apply zB|apply zC));exact HO725.out) hb);have n1_:=zM (Kd.R_lower ho0 (zR (by repeat (first|(with_reducible first|exact HB.out|apply zD|apply zE|apply zF)|exact HB.out))));have n2_:=zM (zQ (by repeat (first|(with_reducible first|exact HB.out|apply zD|apply zE|apply zF)|exact HB.out)) hb);clear HO725;clear HB;have HO725:=n0_;have HO729:=n1_;have HB:=n2_;clear n0_ n1_ n2_;(try clear hb);(try clear hb2);(try clear hk);(try clear hi);(try clear ho0))|(go_at_call 30;(with_reducible refine (impl_TurningHours.calls kj23 _ _ t722 (!t723) t730 t731 _ ?side1 ?side2 A65.out).mono ?_);(case side1=>repeat (first|exact (zN HO725.out).2.2|(with_reducible refine zG ?_ _)|(with_reducible refine zH ?_ _)|(with_reducible refine zI ?_)));(case side2=>exact (zN HO725.out).2.1);rintro e w94 ⟨v732,rfl,ho0,hb⟩;have n0_:=zM (zP (by (with_reducible repeat (first|apply zA|apply zB|apply zC));exact HO725.out) hb);have n1_:=zM (Kd.R_elder' (by (with_reducible repeat (first|apply zA|apply zB|apply zC));exact HO729.out) (Kd.R_base ho0) hb);have n2_:=zM (Kd.R_lower (Kd.R_new' ho0 (Kd.R_lt (by (with_reducible repeat (first|apply zA|apply zB|apply zC));exact HO729.out))) (zR (by repeat (first|(with_reducible first|exact HB.out|apply zD|apply zE|apply zF)|exact HB.out))));have n3_:=zM (zQ (by repeat (first|(with_reducible first|exact HB.out|apply zD|apply zE|apply zF)|exact HB.out)) hb);clear HO725;clear HO729;clear HB;have HO725:=n0_;have HO729:=n1_;have HO733:=n2_;have HB:=n3_;clear n0_ n1_ n2_ n3_;(try clear hb);(try clear hb2);(try clear hk);(try clear hi);(try clear ho0))|(go_at_call 29;(with_reducible refine (spec_TurningHours.calls kj23 _ _ t722 t723 t734 t735 _ ?side1 ?side2 A66.out).mono ?_);(case side1=>repeat (first|exact (zN HO725.out).2.2|(with_reducible refine zG ?_ _)|(with_reducible refine zH ?_ _)|(with_reducible refine zI ?_)));(case side2=>exact (zN HO725.out).2.1);rintro e w95 ⟨v736,rfl,ho0,hb⟩;have n0_:=zM (zP (by (with_reducible repeat (first|apply zA|apply zB|apply zC));exact HO725.out) hb);have n1_:=zM (Kd.R_elder' (by (with_reducible repeat (first|apply zA|apply zB|apply zC));exact HO729.out) (Kd.R_base ho0) hb);have n2_:=zM (Kd.R_elder' (by (with_reducible repeat (first|apply zA|apply zB|apply zC));exact HO733.out) (Kd.R_base ho0) hb);have n3_:=zM (Kd.R_lower (Kd.R_new' (Kd.R_new' ho0 (Kd.R_lt (by (with_reducible repeat (first|apply zA|apply zB|apply zC));exact HO729.out))) (Kd.R_lt (by (with_reducible repeat (first|apply zA|apply zB|apply zC));exact HO733.out))) (zR (by repeat (first|(with_reducible first|exact HB.out|apply zD|apply zE|apply zF)|exact HB.out))));have n4_:=zM (zQ (by repeat (first|(with_reducible first|exact HB.out|apply zD|apply zE|apply zF)|exact HB.out)) hb);clear HO725;clear HO729;clear HO733;clear HB;have HO725:=n0_;have HO729:=n1_;have HO733:=n2_;have HO737:=n3_;have HB:=n4_;clear n0_ n1_ n2_ n3_ n4_;(try clear hb);(try clear hb2);(try clear hk);(try clear hi);(try clear ho0);obtain ⟨Ao96,co96,eo96⟩:=Kd.R_slice HO729.out;subst eo96;obtain ⟨Ao97,co97,eo97⟩:=Kd.R_slice HO737.out;subst eo97)|(go_at_call 48;(with_reducible refine (laws_rInts.calls kj23 _ _ t726 _ _ t734 true _ ?side1 ?side2 ?side3 ?side4 A69.out).mono ?_);(case side1=>repeat (first|exact (zN HO729.out).2.2|(with_reducible refine zG ?_ _)|(with_reducible refine zH ?_ _)|(with_reducible refine zI ?_)));(case side2=>exact (zN HO729.out).2.1);(case side3=>repeat (first|exact (zN HO737.out).2.2|(with_reducible refine zG ?_ _)|(with_reducible refine zH ?_ _)|(with_reducible refine zI ?_)));(case side4=>exact (zN HO737.out).2.1);rintro e w' ⟨rfl,⟨nd,rfl⟩⟩;(try first|exact ⟨rfl,_,World.drewN_drewN _ _ _⟩|exact ⟨rfl,_,Eq.trans (World.drewN_drewN _ _ _) (congrArg (World.drewN _) (Nat.add_assoc _ _ _))⟩))))
              go_ret
              exact ⟨by first|rfl|(simp [errW_none,errW_some] <;> rfl)|(simp [*,errW_none,errW_some] <;> rfl),by repeat (first|(with_reducible first|exact HB.out|apply zD|apply zE|apply zF)|exact HB.out)⟩
            ·as_aux_lemma =>
             replace c70:=Bool.eq_false_iff.mpr c70
             subst c70
             have H1 : (some false) = some r:=by rw [if_neg (show ¬ (false = true) by decide)] at H;exact H
             clear H
             have H:=H1
             clear H1
             obtain rfl:=Option.some.inj H
             go_wp2_with (first|(go_at_call 47;(with_reducible refine (spec_DrawTurningHours.calls kj23 _ _ l0 t722 t723 _ ?side1 ?side2 A63.out).mono ?_);(case side1=>repeat (first|exact (zO HR0.out HB.out)|(with_reducible refine zG ?_ _)|(with_reducible refine zH ?_ _)|(with_reducible refine zI ?_)));(case side2=>exact HC0.out);rintro e w98 ⟨v724,rfl,ho0,hb⟩;have n0_:=zM (Kd.R_lower ho0 (zR (by repeat (first|(with_reducible first|exact HB.out|apply zD|apply zE|apply zF)|exact HB.out))));have n1_:=zM (zQ (by repeat (first|(with_reducible first|exact HB.out|apply zD|apply zE|apply zF)|exact HB.out)) hb);clear HB;have HO725:=n0_;have HB:=n1_;clear n0_ n1_;(try clear hb);(try clear hb2);(try clear hk);(try clear hi);(try clear ho0);obtain ⟨Ao99,co99,eo99⟩:=Kd.R_slice HO725.out;subst eo99)|(go_at_call 30;(with_reducible refine (impl_TurningHours.calls kj23 _ _ t722 t723 t726 t727 _ ?side1 ?side2 A64.out).mono ?_);(case side1=>repeat (first|exact (zN HO725.out).2.2|(with_reducible refine zG ?_ _)|(with_reducible refine zH ?_ _)|(with_reducible refine zI ?_)));(case side2=>exact (zN HO725.out).2.1);rintro e w100 ⟨v728,rfl,ho0,hb⟩;have n0_:=zM (zP (by (with_reducible repeat (first|apply zA|apply zB|apply zC));exact HO725.out) hb);have n1_:=zM (Kd.R_lower ho0 (zR (by repeat (first|(with_reducible first|exact HB.out|apply zD|apply zE|apply zF)|exact HB.out))));have n2_:=zM (zQ (by repeat (first|(with_reducible first|exact HB.out|apply zD|apply zE|apply zF)|exact HB.out)) hb);clear HO725;clear HB;have HO725:=n0_;have HO729:=n1_;have HB:=n2_;clear n0_ n1_ n2_;(try clear hb);(try clear hb2);(try clear hk);(try clear hi);(try clear ho0))|(go_at_call 30;(with_reducible refine (impl_TurningHours.calls kj23 _ _ t722 (!t723) t730 t731 _ ?side1 ?side2 A65.out).mono ?_);(case side1=>repeat (first|exact (zN HO725.out).2.2|(with_reducible refine zG ?_ _)|(with_reducible refine zH ?_ _)|(with_reducible refine zI ?_)));(case side2=>exact (zN HO725.out).2.1);rintro e w101 ⟨v732,rfl,ho0,hb⟩;have n0_:=zM (zP (by (with_reducible repeat (first|apply zA|apply zB|apply zC));exact HO725.out) hb);have n1_:=zM (Kd.R_elder' (by (with_reducible repeat (first|apply zA|apply zB|apply zC));exact HO729.out) (Kd.R_base ho0) hb);have n2_:=zM (Kd.R_lower (Kd.R_new' ho0 (Kd.R_lt (by (with_reducible repeat (first|apply zA|apply zB|apply zC));exact HO729.out))) (zR (by repeat (first|(with_reducible first|exact HB.out|apply zD|apply zE|apply zF)|exact HB.out))));have n3_:=zM (zQ (by repeat (first|(with_reducible first|exact HB.out|apply zD|apply zE|apply zF)|exact HB.out)) hb);clear HO725;clear HO729;clear HB;have HO725:=n0_;have HO729:=n1_;have HO733:=n2_;have HB:=n3_;clear n0_ n1_ n2_ n3_;(try clear hb);(try clear hb2);(try clear hk);(try clear hi);(try clear ho0))|(go_at_call 29;(with_reducible refine (spec_TurningHours.calls kj23 _ _ t722 t723 t734 t735 _ ?side1 ?side2 A66.out).mono ?_);(case side1=>repeat (first|exact (zN HO725.out).2.2|(with_reducible refine zG ?_ _)|(with_reducible refine zH ?_ _)|(with_reducible refine zI ?_)));(case side2=>exact (zN HO725.out).2.1);rintro e w102 ⟨v736,rfl,ho0,hb⟩;have n0_:=zM (zP (by (with_reducible repeat (first|apply zA|apply zB|apply zC));exact HO725.out) hb);have n1_:=zM (Kd.R_elder' (by (with_reducible repeat (first|apply zA|apply zB|apply zC));exact HO729.out) (Kd.R_base ho0) hb);have n2_:=zM (Kd.R_elder' (by (with_reducible repeat (first|apply zA|apply zB|apply zC));exact HO733.out) (Kd.R_base ho0) hb);have n3_:=zM (Kd.R_lower (Kd.R_new' (Kd.R_new' ho0 (Kd.R_lt (by (with_reducible repeat (first|apply zA|apply zB|apply zC));exact HO729.out))) (Kd.R_lt (by (with_reducible repeat (first|apply zA|apply zB|apply zC));exact HO733.out))) (zR (by repeat (first|(with_reducible first|exact HB.out|apply zD|apply zE|apply zF)|exact HB.out))));have n4_:=zM (zQ (by repeat (first|(with_reducible first|exact HB.out|apply zD|apply zE|apply zF)|exact HB.out)) hb);clear HO725;clear HO729;clear HO733;clear HB;have HO725:=n0_;have HO729:=n1_;have HO733:=n2_;have HO737:=n3_;have HB:=n4_;clear n0_ n1_ n2_ n3_ n4_;(try clear hb);(try clear hb2);(try clear hk);(try clear hi);(try clear ho0);obtain ⟨Ao103,co103,eo103⟩:=Kd.R_slice HO729.out;subst eo103;obtain ⟨Ao104,co104,eo104⟩:=Kd.R_slice HO737.out;subst eo104)|(go_at_call 48;(with_reducible refine (laws_rInts.calls kj23 _ _ t726 _ _ t734 false _ ?side1 ?side2 ?side3 ?side4 A69.out).mono ?_);(case side1=>repeat (first|exact (zN HO729.out).2.2|(with_reducible refine zG ?_ _)|(with_reducible refine zH ?_ _)|(with_reducible refine zI ?_)));(case side2=>exact (zN HO729.out).2.1);(case side3=>repeat (first|exact (zN HO737.out).2.2|(with_reducible refine zG ?_ _)|(with_reducible refine zH ?_ _)|(with_reducible refine zI ?_)));(case side4=>exact (zN HO737.out).2.1);rintro e w' ⟨rfl,⟨nd,rfl⟩⟩;(try first|exact ⟨rfl,_,World.drewN_drewN _ _ _⟩|exact ⟨rfl,_,Eq.trans (World.drewN_drewN _ _ _) (congrArg (World.drewN _) (Nat.add_assoc _ _ _))⟩)))
             repeat (go_quiet (first|(go_at_call 47;(with_reducible refine (spec_DrawTurningHours.calls kj23 _ _ l0 t722 t723 _ ?side1 ?side2 A63.out).mono ?_);(case side1=>repeat (first|exact (zO HR0.out HB.out)|(with_reducible refine zG ?_ _)|(with_reducible refine zH ?_ _)|(with_reducible refine zI ?_)));(case side2=>exact HC0.out);rintro e w98 ⟨v724,rfl,ho0,hb⟩;have n0_:=zM (Kd.R_lower ho0 (zR (by repeat (first|(with_reducible first|exact HB.out|apply zD|apply zE|apply zF)|exact HB.out))));have n1_:=zM (zQ (by repeat (first|(with_reducible first|exact HB.out|apply zD|apply zE|apply zF)|exact HB.out)) hb);clear HB;have HO725:=n0_;have HB:=n1_;clear n0_ n1_;(try clear hb);(try clear hb2);(try clear hk);(try clear hi);(try clear ho0);obtain ⟨Ao99,co99,eo99⟩:=Kd.R_slice HO725.out;subst eo99)|(go_at_call 30;(with_reducible refine (impl_TurningHours.calls kj23 _ _ t722 t723 t726 t727 _ ?side1 ?side2 A64.out).mono ?_);(case side1=>repeat (first|exact (zN HO725.out).2.2|(with_reducible refine zG ?_ _)|(with_reducible refine zH ?_ _)|(with_reducible refine zI ?_)));(case side2=>exact (zN HO725.out).2.1);rintro e w100 ⟨v728,rfl,ho0,hb⟩;have n0_:=zM (zP (by (with_reducible repeat (first|apply zA|apply zB|apply zC));exact HO725.out) hb);have n1_:=zM (Kd.R_lower ho0 (zR (by repeat (first|(with_reducible first|exact HB.out|apply zD|apply zE|apply zF)|exact HB.out))));have n2_:=zM (zQ (by repeat (first|(with_reducible first|exact HB.out|apply zD|apply zE|apply zF)|exact HB.out)) hb);clear HO725;clear HB;have HO725:=n0_;have HO729:=n1_;have HB:=n2_;clear n0_ n1_ n2_;(try clear hb);(try clear hb2);(try clear hk);(try clear hi);(try clear ho0))|(go_at_call 30;(with_reducible refine (impl_TurningHours.calls kj23 _ _ t722 (!t723) t730 t731 _ ?side1 ?side2 A65.out).mono ?_);(case side1=>repeat (first|exact (zN HO725.out).2.2|(with_reducible refine zG ?_ _)|(with_reducible refine zH ?_ _)|(with_reducible refine zI ?_)));(case side2=>exact (zN HO725.out).2.1);rintro e w101 ⟨v732,rfl,ho0,hb⟩;have n0_:=zM (zP (by (with_reducible repeat (first|apply zA|apply zB|apply zC));exact HO725.out) hb);have n1_:=zM (Kd.R_elder' (by (with_reducible repeat (first|apply zA|apply zB|apply zC));exact HO729.out) (Kd.R_base ho0) hb);have n2_:=zM (Kd.R_lower (Kd.R_new' ho0 (Kd.R_lt (by (with_reducible repeat (first|apply zA|apply zB|apply zC));exact HO729.out))) (zR (by repeat (first|(with_reducible first|exact HB.out|apply zD|apply zE|apply zF)|exact HB.out))));have n3_:=zM (zQ (by repeat (first|(with_reducible first|exact HB.out|apply zD|apply zE|apply zF)|exact HB.out)) hb);clear HO725;clear HO729;clear HB;have HO725:=n0_;have HO729:=n1_;have HO733:=n2_;have HB:=n3_;clear n0_ n1_ n2_ n3_;(try clear hb);(try clear hb2);(try clear hk);(try clear hi);(try clear ho0))|(go_at_call 29;(with_reducible refine (spec_TurningHours.calls kj23 _ _ t722 t723 t734 t735 _ ?side1 ?side2 A66.out).mono ?_);(case side1=>repeat (first|exact (zN HO725.out).2.2|(with_reducible refine zG ?_ _)|(with_reducible refine zH ?_ _)|(with_reducible refine zI ?_)));(case side2=>exact (zN HO725.out).2.1);rintro e w102 ⟨v736,rfl,ho0,hb⟩;have n0_:=zM (zP (by (with_reducible repeat (first|apply zA|apply zB|apply zC));exact HO725.out) hb);have n1_:=zM (Kd.R_elder' (by (with_reducible repeat (first|apply zA|apply zB|apply zC));exact HO729.out) (Kd.R_base ho0) hb);have n2_:=zM (Kd.R_elder' (by (with_reducible repeat (first|apply zA|apply zB|apply zC));exact HO733.out) (Kd.R_base ho0) hb);have n3_:=zM (Kd.R_lower (Kd.R_new' (Kd.R_new' ho0 (Kd.R_lt (by (with_reducible repeat (first|apply zA|apply zB|apply zC));exact HO729.out))) (Kd.R_lt (by (with_reducible repeat (first|apply zA|apply zB|apply zC));exact HO733.out))) (zR (by repeat (first|(with_reducible first|exact HB.out|apply zD|apply zE|apply zF)|exact HB.out))));have n4_:=zM (zQ (by repeat (first|(with_reducible first|exact HB.out|apply zD|apply zE|apply zF)|exact HB.out)) hb);clear HO725;clear HO729;clear HO733;clear HB;have HO725:=n0_;have HO729:=n1_;have HO733:=n2_;have HO737:=n3_;have HB:=n4_;clear n0_ n1_ n2_ n3_ n4_;(try clear hb);(try clear hb2);(try clear hk);(try clear hi);(try clear ho0);obtain ⟨Ao103,co103,eo103⟩:=Kd.R_slice HO729.out;subst eo103;obtain ⟨Ao104,co104,eo104⟩:=Kd.R_slice HO737.out;subst eo104)|(go_at_call 48;(with_reducible refine (laws_rInts.calls kj23 _ _ t726 _ _ t734 false _ ?side1 ?side2 ?side3 ?side4 A69.out).mono ?_);(case side1=>repeat (first|exact (zN HO729.out).2.2|(with_reducible refine zG ?_ _)|(with_reducible refine zH ?_ _)|(with_reducible refine zI ?_)));(case side2=>exact (zN HO729.out).2.1);(case side3=>repeat (first|exact (zN HO737.out).2.2|(with_reducible refine zG ?_ _)|(with_reducible refine zH ?_ _)|(with_reducible refine zI ?_)));(case side4=>exact (zN HO737.out).2.1);rintro e w' ⟨rfl,⟨nd,rfl⟩⟩;(try first|exact ⟨rfl,_,World.drewN_drewN _ _ _⟩|exact ⟨rfl,_,Eq.trans (World.drewN_drewN _ _ _) (congrArg (World.drewN _) (Nat.add_assoc _ _ _))⟩)));try go_wp2_with (first|(go_at_call 47;(with_reducible refine (spec_DrawTurningHours.calls kj23 _ _ l0 t722 t723 _ ?side1 ?side2 A63.out).mono ?_);(case side1=>repeat (first|exact (zO HR0.out HB.out)|(with_reducible refine zG ?_ _)|(with_reducible refine zH ?_ _)|(with_reducible refine zI ?_)));(case side2=>exact HC0.out);rintro e w98 ⟨v724,rfl,ho0,hb⟩;have n0_:=zM (Kd.R_lower ho0 (zR (by repeat (first|(with_reducible first|exact HB.out|apply zD|apply zE|apply zF)|exact HB.out))));have n1_:=zM (zQ (by repeat (first|(with_reducible first|exact HB.out|apply zD|apply zE|apply zF)|exact HB.out)) hb);clear HB;have HO725:=n0_;have HB:=n1_;clear n0_ n1_;(try clear hb);(try clear hb2);(try clear hk);(try clear hi);(try clear ho0);obtain ⟨Ao99,co99,eo99⟩:=Kd.R_slice HO725.out;subst eo99)|(go_at_call 30;(with_reducible refine (impl_TurningHours.calls kj23 _ _ t722 t723 t726 t727 _ ?side1 ?side2 A64.out).mono ?_);(case side1=>repeat (first|exact (zN HO725.out).2.2|(with_reducible refine zG ?_ _)|(with_reducible refine zH ?_ _)|(with_reducible refine zI ?_)));(case side2=>exact (zN HO725.out).2.1);rintro e w100 ⟨v728,rfl,ho0,hb⟩;have n0_:=zM (zP (by (with_reducible repeat (first|apply zA|apply zB|apply zC));exact HO725.out) hb);have n1_:=zM (Kd.R_lower ho0 (zR (by repeat (first|(with_reducible first|exact HB.out|apply zD|apply zE|apply zF)|exact HB.out))));have n2_:=zM (zQ (by repeat (first|(with_reducible first|exact HB.out|apply zD|apply zE|apply zF)|exact HB.out)) hb);clear HO725;clear HB;have HO725:=n0_;have HO729:=n1_;have HB:=n2_;clear n0_ n1_ n2_;(try clear hb);(try clear hb2);(try clear hk);(try clear hi);(try clear ho0))|(go_at_call 30;(with_reducible refine (impl_TurningHours.calls kj23 _ _ t722 (!t723) t730 t731 _ ?side1 ?side2 A65.out).mono ?_);(case side1=>repeat (first|exact (zN HO725.out).2.2|(with_reducible refine zG ?_ _)|(with_reducible refine zH ?_ _)|(with_reducible refine zI ?_)));(case side2=>exact (zN HO725.out).2.1);rintro e w101 ⟨v732,rfl,ho0,hb⟩;have n0_:=zM (zP (by (with_reducible repeat (first|apply zA|apply zB|apply zC));exact HO725.out) hb);have n1_:=zM (Kd.R_elder' (by (with_reducible repeat (first|apply zA|apply zB|apply zC));exact HO729.out) (Kd.R_base ho0) hb);have n2_:=zM (Kd.R_lower (Kd.R_new' ho0 (Kd.R_lt (by (with_reducible repeat (first|apply zA|apply zB|apply zC));exact HO729.out))) (zR (by repeat (first|(with_reducible first|exact HB.out|apply zD|apply zE|apply zF)|exact HB.out))));have n3_:=zM (zQ (by repeat (first|(with_reducible first|exact HB.out|apply zD|apply zE|apply zF)|exact HB.out)) hb);clear HO725;clear HO729;clear HB;have HO725:=n0_;have HO729:=n1_;have HO733:=n2_;have HB:=n3_;clear n0_ n1_ n2_ n3_;(try clear hb);(try clear hb2);(try clear hk);(try clear hi);(try clear ho0))|(go_at_call 29;(with_reducible refine (spec_TurningHours.calls kj23 _ _ t722 t723 t734 t735 _ ?side1 ?side2 A66.out).mono ?_);(case side1=>repeat (first|exact (zN HO725.out).2.2|(with_reducible refine zG ?_ _)|(with_reducible refine zH ?_ _)|(with_reducible refine zI ?_)));(case side2=>exact (zN HO725.out).2.1);rintro e w102 ⟨v736,rfl,ho0,hb⟩;have n0_:=zM (zP (by (with_reducible repeat (first|apply zA|apply zB|apply zC));exact HO725.out) hb);have n1_:=zM (Kd.R_elder' (by (with_reducible repeat (first|apply zA|apply zB|apply zC));exact HO729.out) (Kd.R_base ho0) hb);have n2_:=zM (Kd.R_elder' (by (with_reducible repeat (first|apply zA|apply zB|apply zC));exact HO733.out) (Kd.R_base ho0) hb);have n3_:=zM (Kd.R_lower (Kd.R_new' (Kd.R_new' ho0 (Kd.R_lt (by (with_reducible repeat (first|apply zA|apply zB|apply zC));exact HO729.out))) (Kd.R_lt (by (with_reducible repeat (first|apply zA|apply zB|apply zC));exact HO733.out))) (zR (by repeat (first|(with_reducible first|exact HB.out|apply zD|apply zE|apply zF)|exact HB.out))));have n4_:=zM (zQ (by repeat (first|(with_reducible first|exact HB.out|apply zD|apply zE|apply zF)|exact HB.out)) hb);clear HO725;clear HO729;clear HO733;clear HB;have HO725:=n0_;have HO729:=n1_;have HO733:=n2_;have HO737:=n3_;have HB:=n4_;clear n0_ n1_ n2_ n3_ n4_;(try clear hb);(try clear hb2);(try clear hk);(try clear hi);(try clear ho0);obtain ⟨Ao103,co103,eo103⟩:=Kd.R_slice HO729.out;subst eo103;obtain ⟨Ao104,co104,eo104⟩:=Kd.R_slice HO737.out;subst eo104)|(go_at_call 48;(with_reducible refine (laws_rInts.calls kj23 _ _ t726 _ _ t734 false _ ?side1 ?side2 ?side3 ?side4 A69.out).mono ?_);(case side1=>repeat (first|exact (zN HO729.out).2.2|(with_reducible refine zG ?_ _)|(with_reducible refine zH ?_ _)|(with_reducible refine zI ?_)));(case side2=>exact (zN HO729.out).2.1);(case side3=>repeat (first|exact (zN HO737.out).2.2|(with_reducible refine zG ?_ _)|(with_reducible refine zH ?_ _)|(with_reducible refine zI ?_)));(case side4=>exact (zN HO737.out).2.1);rintro e w' ⟨rfl,⟨nd,rfl⟩⟩;(try first|exact ⟨rfl,_,World.drewN_drewN _ _ _⟩|exact ⟨rfl,_,Eq.trans (World.drewN_drewN _ _ _) (congrArg (World.drewN _) (Nat.add_assoc _ _ _))⟩))))
             go_ret
             exact ⟨by first|rfl|(simp [errW_none,errW_some] <;> rfl)|(simp [*,errW_none,errW_some] <;> rfl),by repeat (first|(with_reducible first|exact HB.out|apply zD|apply zE|apply zF)|exact HB.out)⟩
           ·as_aux_lemma =>
            rw [if_neg c68] at H
            have c68b0 : (t731 == t735) = false:=by simpa using c68
            (try (have c68b1 : decide (t731 = t735) = false:=by simpa using c68))
            (try (have c68b2 : (t731 == t735) = false:=by simpa using c68))
            (try (have c68b3 : ¬ (t731 = t735):=by simpa using c68))
            clear c68
            obtain rfl:=Option.some.inj H
            go_wp2_with (first|(go_at_call 47;(with_reducible refine (spec_DrawTurningHours.calls kj23 _ _ l0 t722 t723 _ ?side1 ?side2 A63.out).mono ?_);(case side1=>repeat (first|exact (zO HR0.out HB.out)|(with_reducible refine zG ?_ _)|(with_reducible refine zH ?_ _)|(with_reducible refine zI ?_)));(case side2=>exact HC0.out);rintro e w105 ⟨v724,rfl,ho0,hb⟩;have n0_:=zM (Kd.R_lower ho0 (zR (by repeat (first|(with_reducible first|exact HB.out|apply zD|apply zE|apply zF)|exact HB.out))));have n1_:=zM (zQ (by repeat (first|(with_reducible first|exact HB.out|apply zD|apply zE|apply zF)|exact HB.out)) hb);clear HB;have HO725:=n0_;have HB:=n1_;clear n0_ n1_;(try clear hb);(try clear hb2);(try clear hk);(try clear hi);(try clear ho0);obtain ⟨Ao106,co106,eo106⟩:=Kd.R_slice HO725.out;subst eo106)|(go_at_call 30;(with_reducible refine (impl_TurningHours.calls kj23 _ _ t722 t723 t726 t727 _ ?side1 ?side2 A64.out).mono ?_);(case side1=>repeat (first|exact (zN HO725.out).2.2|(with_reducible refine zG ?_ _)|(with_reducible refine zH ?_ _)|(with_reducible refine zI ?_)));(case side2=>exact (zN HO725.out).2.1);rintro e w107 ⟨v728,rfl,ho0,hb⟩;have n0_:=zM (zP (by (with_reducible repeat (first|apply zA|apply zB|apply zC));exact HO725.out) hb);have n1_:=zM (Kd.R_lower ho0 (zR (by repeat (first|(with_reducible first|exact HB.out|apply zD|apply zE|apply zF)|exact HB.out))));have n2_:=zM (zQ (by repeat (first|(with_reducible first|exact HB.out|apply zD|apply zE|apply zF)|exact HB.out)) hb);clear HO725;clear HB;have HO725:=n0_;have HO729:=n1_;have HB:=n2_;clear n0_ n1_ n2_;(try clear hb);(try clear hb2);(try clear hk);(try clear hi);(try clear ho0))|(go_at_call 30;(with_reducible refine (impl_TurningHours.calls kj23 _ _ t722 (!t723) t730 t731 _ ?side1 ?side2 A65.out).mono ?_);(case side1=>repeat (first|exact (zN HO725.out).2.2|(with_reducible refine zG ?_ _)|(with_reducible refine zH ?_ _)|(with_reducible refine zI ?_)));(case side2=>exact (zN HO725.out).2.1);rintro e w108 ⟨v732,rfl,ho0,hb⟩;have n0_:=zM (zP (by (with_reducible repeat (first|apply zA|apply zB|apply zC));exact HO725.out) hb);have n1_:=zM (Kd.R_elder' (by (with_reducible repeat (first|apply zA|apply zB|apply zC));exact HO729.out) (Kd.R_base ho0) hb);have n2_:=zM (Kd.R_lower (Kd.R_new' ho0 (Kd.R_lt (by (with_reducible repeat (first|apply zA|apply zB|apply zC));exact HO729.out))) (zR (by repeat (first|(with_reducible first|exact HB.out|apply zD|apply zE|apply zF)|exact HB.out))));have n3_:=zM (zQ (by repeat (first|(with_reducible first|exact HB.out|apply zD|apply zE|apply zF)|exact HB.out)) hb);clear HO725;clear HO729;clear HB;have HO725:=n0_;have HO729:=n1_;have HO733:=n2_;have HB:=n3_;clear n0_ n1_ n2_ n3_;(try clear hb);(try clear hb2);(try clear hk);(try clear hi);(try clear ho0))|(go_at_call 29;(with_reducible refine (spec_TurningHours.calls kj23 _ _ t722 t723 t734 t735 _ ?side1 ?side2 A66.out).mono ?_);(case side1=>repeat (first|exact (zN HO725.out).2.2|(with_reducible refine zG ?_ _)|(with_reducible refine zH ?_ _)|(with_reducible refine zI ?_)));(case side2=>exact (zN HO725.out).2.1);rintro e w109 ⟨v736,rfl,ho0,hb⟩;have n0_:=zM (zP (by (with_reducible repeat (first|apply zA|apply zB|apply zC));exact HO725.out) hb);have n1_:=zM (Kd.R_elder' (by (with_reducible repeat (first|apply zA|apply zB|apply zC));exact HO729.out) (Kd.R_base ho0) hb);have n2_:=zM (Kd.R_elder' (by (with_reducible repeat (first|apply zA|apply zB|apply zC));exact HO733.out) (Kd.R_base ho0) hb);have n3_:=zM (Kd.R_lower (Kd.R_new' (Kd.R_new' ho0 (Kd.R_lt (by (with_reducible repeat (first|apply zA|apply zB|apply zC));exact HO729.out))) (Kd.R_lt (by (with_reducible repeat (first|apply zA|apply zB|apply zC));exact HO733.out))) (zR (by repeat (first|(with_reducible first|exact HB.out|apply zD|apply zE|apply zF)|exact HB.out))));have n4_:=zM (zQ (by repeat (first|(with_reducible first|exact HB.out|apply zD|apply zE|apply zF)|exact HB.out)) hb);clear HO725;clear HO729;clear HO733;clear HB;have HO725:=n0_;have HO729:=n1_;have HO733:=n2_;have HO737:=n3_;have HB:=n4_;clear n0_ n1_ n2_ n3_ n4_;(try clear hb);(try clear hb2);(try clear hk);(try clear hi);(try clear ho0)))
            repeat (go_quiet (first|(go_at_call 47;(with_reducible refine (spec_DrawTurningHours.calls kj23 _ _ l0 t722 t723 _ ?side1 ?side2 A63.out).mono ?_);(case side1=>repeat (first|exact (zO HR0.out HB.out)|(with_reducible refine zG ?_ _)|(with_reducible refine zH ?_ _)|(with_reducible refine zI ?_)));(case side2=>exact HC0.out);rintro e w105 ⟨v724,rfl,ho0,hb⟩;have n0_:=zM (Kd.R_lower ho0 (zR (by repeat (first|(with_reducible first|exact HB.out|apply zD|apply zE|apply zF)|exact HB.out))));have n1_:=zM (zQ (by repeat (first|(with_reducible first|exact HB.out|apply zD|apply zE|apply zF)|exact HB.out)) hb);clear HB;have HO725:=n0_;have HB:=n1_;clear n0_ n1_;(try clear hb);(try clear hb2);(try clear hk);(try clear hi);(try clear ho0);obtain ⟨Ao106,co106,eo106⟩:=Kd.R_slice HO725.out;subst eo106)|(go_at_call 30;(with_reducible refine (impl_TurningHours.calls kj23 _ _ t722 t723 t726 t727 _ ?side1 ?side2 A64.out).mono ?_);(case side1=>repeat (first|exact (zN HO725.out).2.2|(with_reducible refine zG ?_ _)|(with_reducible refine zH ?_ _)|(with_reducible refine zI ?_)));(case side2=>exact (zN HO725.out).2.1);rintro e w107 ⟨v728,rfl,ho0,hb⟩;have n0_:=zM (zP (by (with_reducible repeat (first|apply zA|apply zB|apply zC));exact HO725.out) hb);have n1_:=zM (Kd.R_lower ho0 (zR (by repeat (first|(with_reducible first|exact HB.out|apply zD|apply zE|apply zF)|exact HB.out))));have n2_:=zM (zQ (by repeat (first|(with_reducible first|exact HB.out|apply zD|apply zE|apply zF)|exact HB.out)) hb);clear HO725;clear HB;have HO725:=n0_;have HO729:=n1_;have HB:=n2_;clear n0_ n1_ n2_;(try clear hb);(try clear hb2);(try clear hk);(try clear hi);(try clear ho0))|(go_at_call 30;(with_reducible refine (impl_TurningHours.calls kj23 _ _ t722 (!t723) t730 t731 _ ?side1 ?side2 A65.out).mono ?_);(case side1=>repeat (first|exact (zN HO725.out).2.2|(with_reducible refine zG ?_ _)|(with_reducible refine zH ?_ _)|(with_reducible refine zI ?_)));(case side2=>exact (zN HO725.out).2.1);rintro e w108 ⟨v732,rfl,ho0,hb⟩;have n0_:=zM (zP (by (with_reducible repeat (first|apply zA|apply zB|apply zC));exact HO725.out) hb);have n1_:=zM (Kd.R_elder' (by (with_reducible repeat (first|apply zA|apply zB|apply zC));exact HO729.out) (Kd.R_base ho0) hb);have n2_:=zM (Kd.R_lower (Kd.R_new' ho0 (Kd.R_lt (by (with_reducible repeat (first|apply zA|apply zB|apply zC));exact HO729.out))) (zR (by repeat (first|(with_reducible first|exact HB.out|apply zD|apply zE|apply zF)|exact HB.out))));have n3_:=zM (zQ (by repeat (first|(with_reducible first|exact HB.out|apply zD|apply zE|apply zF)|exact HB.out)) hb);clear HO725;clear HO729;clear HB;have HO725:=n0_;have HO729:=n1_;have HO733:=n2_;have HB:=n3_;clear n0_ n1_ n2_ n3_;(try clear hb);(try clear hb2);(try clear hk);(try clear hi);(try clear ho0))|(go_at_call 29;(with_reducible refine (spec_TurningHours.calls kj23 _ _ t722 t723 t734 t735 _ ?side1 ?side2 A66.out).mono ?_);(case side1=>repeat (first|exact (zN HO725.out).2.2|(with_reducible refine zG ?_ _)|(with_reducible refine zH ?_ _)|(with_reducible refine zI ?_)));(case side2=>exact (zN HO725.out).2.1);rintro e w109 ⟨v736,rfl,ho0,hb⟩;have n0_:=zM (zP (by (with_reducible repeat (first|apply zA|apply zB|apply zC));exact HO725.out) hb);have n1_:=zM (Kd.R_elder' (by (with_reducible repeat (first|apply zA|apply zB|apply zC));exact HO729.out) (Kd.R_base ho0) hb);have n2_:=zM (Kd.R_elder' (by (with_reducible repeat (first|apply zA|apply zB|apply zC));exact HO733.out) (Kd.R_base ho0) hb);have n3_:=zM (Kd.R_lower (Kd.R_new' (Kd.R_new' ho0 (Kd.R_lt (by (with_reducible repeat (first|apply zA|apply zB|apply zC));exact HO729.out))) (Kd.R_lt (by (with_reducible repeat (first|apply zA|apply zB|apply zC));exact HO733.out))) (zR (by repeat (first|(with_reducible first|exact HB.out|apply zD|apply zE|apply zF)|exact HB.out))));have n4_:=zM (zQ (by repeat (first|(with_reducible first|exact HB.out|apply zD|apply zE|apply zF)|exact HB.out)) hb);clear HO725;clear HO729;clear HO733;clear HB;have HO725:=n0_;have HO729:=n1_;have HO733:=n2_;have HO737:=n3_;have HB:=n4_;clear n0_ n1_ n2_ n3_ n4_;(try clear hb);(try clear hb2);(try clear hk);(try clear hi);(try clear ho0)));try go_wp2_with (first|(go_at_call 47;(with_reducible refine (spec_DrawTurningHours.calls kj23 _ _ l0 t722 t723 _ ?side1 ?side2 A63.out).mono ?_);(case side1=>repeat (first|exact (zO HR0.out HB.out)|(with_reducible refine zG ?_ _)|(with_reducible refine zH ?_ _)|(with_reducible refine zI ?_)));(case side2=>exact HC0.out);rintro e w105 ⟨v724,rfl,ho0,hb⟩;have n0_:=zM (Kd.R_lower ho0 (zR (by repeat (first|(with_reducible first|exact HB.out|apply zD|apply zE|apply zF)|exact HB.out))));have n1_:=zM (zQ (by repeat (first|(with_reducible first|exact HB.out|apply zD|apply zE|apply zF)|exact HB.out)) hb);clear HB;have HO725:=n0_;have HB:=n1_;clear n0_ n1_;(try clear hb);(try clear hb2);(try clear hk);(try clear hi);(try clear ho0);obtain ⟨Ao106,co106,eo106⟩:=Kd.R_slice HO725.out;subst eo106)|(go_at_call 30;(with_reducible refine (impl_TurningHours.calls kj23 _ _ t722 t723 t726 t727 _ ?side1 ?side2 A64.out).mono ?_);(case side1=>repeat (first|exact (zN HO725.out).2.2|(with_reducible refine zG ?_ _)|(with_reducible refine zH ?_ _)|(with_reducible refine zI ?_)));(case side2=>exact (zN HO725.out).2.1);rintro e w107 ⟨v728,rfl,ho0,hb⟩;have n0_:=zM (zP (by (with_reducible repeat (first|apply zA|apply zB|apply zC));exact HO725.out) hb);have n1_:=zM (Kd.R_lower ho0 (zR (by repeat (first|(with_reducible first|exact HB.out|apply zD|apply zE|apply zF)|exact HB.out))));have n2_:=zM (zQ (by repeat (first|(with_reducible first|exact HB.out|apply zD|apply zE|apply zF)|exact HB.out)) hb);clear HO725;clear HB;have HO725:=n0_;have HO729:=n1_;have HB:=n2_;clear n0_ n1_ n2_;(try clear hb);(try clear hb2);(try clear hk);(try clear hi);(try clear ho0))|(go_at_call 30;(with_reducible refine (impl_TurningHours.calls kj23 _ _ t722 (!t723) t730 t731 _ ?side1 ?side2 A65.out).mono ?_);(case side1=>repeat (first|exact (zN HO725.out).2.2|(with_reducible refine zG ?_ _)|(with_reducible refine zH ?_ _)|(with_reducible refine zI ?_)));(case side2=>exact (zN HO725.out).2.1);rintro e w108 ⟨v732,rfl,ho0,hb⟩;have n0_:=zM (zP (by (with_reducible repeat (first|apply zA|apply zB|apply zC));exact HO725.out) hb);have n1_:=zM (Kd.R_elder' (by (with_reducible repeat (first|apply zA|apply zB|apply zC));exact HO729.out) (Kd.R_base ho0) hb);have n2_:=zM (Kd.R_lower (Kd.R_new' ho0 (Kd.R_lt (by (with_reducible repeat (first|apply zA|apply zB|apply zC));exact HO729.out))) (zR (by repeat (first|(with_reducible first|exact HB.out|apply zD|apply zE|apply zF)|exact HB.out))));have n3_:=zM (zQ (by repeat (first|(with_reducible first|exact HB.out|apply zD|apply zE|apply zF)|exact HB.out)) hb);clear HO725;clear HO729;clear HB;have HO725:=n0_;have HO729:=n1_;have HO733:=n2_;have HB:=n3_;clear n0_ n1_ n2_ n3_;(try clear hb);(try clear hb2);(try clear hk);(try clear hi);(try clear ho0))|(go_at_call 29;(with_reducible refine (spec_TurningHours.calls kj23 _ _ t722 t723 t734 t735 _ ?side1 ?side2 A66.out).mono ?_);(case side1=>repeat (first|exact (zN HO725.out).2.2|(with_reducible refine zG ?_ _)|(with_reducible refine zH ?_ _)|(with_reducible refine zI ?_)));(case side2=>exact (zN HO725.out).2.1);rintro e w109 ⟨v736,rfl,ho0,hb⟩;have n0_:=zM (zP (by (with_reducible repeat (first|apply zA|apply zB|apply zC));exact HO725.out) hb);have n1_:=zM (Kd.R_elder' (by (with_reducible repeat (first|apply zA|apply zB|apply zC));exact HO729.out) (Kd.R_base ho0) hb);have n2_:=zM (Kd.R_elder' (by (with_reducible repeat (first|apply zA|apply zB|apply zC));exact HO733.out) (Kd.R_base ho0) hb);have n3_:=zM (Kd.R_lower (Kd.R_new' (Kd.R_new' ho0 (Kd.R_lt (by (with_reducible repeat (first|apply zA|apply zB|apply zC));exact HO729.out))) (Kd.R_lt (by (with_reducible repeat (first|apply zA|apply zB|apply zC));exact HO733.out))) (zR (by repeat (first|(with_reducible first|exact HB.out|apply zD|apply zE|apply zF)|exact HB.out))));have n4_:=zM (zQ (by repeat (first|(with_reducible first|exact HB.out|apply zD|apply zE|apply zF)|exact HB.out)) hb);clear HO725;clear HO729;clear HO733;clear HB;have HO725:=n0_;have HO729:=n1_;have HO733:=n2_;have HO737:=n3_;have HB:=n4_;clear n0_ n1_ n2_ n3_ n4_;(try clear hb);(try clear hb2);(try clear hk);(try clear hi);(try clear ho0))))
            go_ret
            exact ⟨by first|rfl|(simp [errW_none,errW_some] <;> rfl)|(simp [*,errW_none,errW_some] <;> rfl),by repeat (first|(with_reducible first|exact HB.out|apply zD|apply zE|apply zF)|exact HB.out)⟩
          ·as_aux_lemma =>
           rw [if_neg c67] at H
           have c67b0 : (t727 == t735) = false:=by simpa using c67
           (try (have c67b1 : decide (t727 = t735) = false:=by simpa using c67))
           (try (have c67b2 : (t727 == t735) = false:=by simpa using c67))
           (try (have c67b3 : ¬ (t727 = t735):=by simpa using c67))
           clear c67
           obtain rfl:=Option.some.inj H
           go_wp2_with (first|(go_at_call 47;(with_reducible refine (spec_DrawTurningHours.calls kj23 _ _ l0 t722 t723 _ ?side1 ?side2 A63.out).mono ?_);(case side1=>repeat (first|exact (zO HR0.out HB.out)|(with_reducible refine zG ?_ _)|(with_reducible refine zH ?_ _)|(with_reducible refine zI ?_)));(case side2=>exact HC0.out);rintro e w110 ⟨v724,rfl,ho0,hb⟩;have n0_:=zM (Kd.R_lower ho0 (zR (by repeat (first|(with_reducible first|exact HB.out|apply zD|apply zE|apply zF)|exact HB.out))));have n1_:=zM (zQ (by repeat (first|(with_reducible first|exact HB.out|apply zD|apply zE|apply zF)|exact HB.out)) hb);clear HB;have HO725:=n0_;have HB:=n1_;clear n0_ n1_;(try clear hb);(try clear hb2);(try clear hk);(try clear hi);(try clear ho0);obtain ⟨Ao111,co111,eo111⟩:=Kd.R_slice HO725.out;subst eo111)|(go_at_call 30;(with_reducible refine (impl_TurningHours.calls kj23 _ _ t722 t723 t726 t727 _ ?side1 ?side2 A64.out).mono ?_);(case side1=>repeat (first|exact (zN HO725.out).2.2|(with_reducible refine zG ?_ _)|(with_reducible refine zH ?_ _)|(with_reducible refine zI ?_)));(case side2=>exact (zN HO725.out).2.1);rintro e w112 ⟨v728,rfl,ho0,hb⟩;have n0_:=zM (zP (by (with_reducible repeat (first|apply zA|apply zB|apply zC));exact HO725.out) hb);have n1_:=zM (Kd.R_lower ho0 (zR (by repeat (first|(with_reducible first|exact HB.out|apply zD|apply zE|apply zF)|exact HB.out))));have n2_:=zM (zQ (by repeat (first|(with_reducible first|exact HB.out|apply zD|apply zE|apply zF)|exact HB.out)) hb);clear HO725;clear HB;have HO725:=n0_;have HO729:=n1_;have HB:=n2_;clear n0_ n1_ n2_;(try clear hb);(try clear hb2);(try clear hk);(try clear hi);(try clear ho0))|(go_at_call 30;(with_reducible refine (impl_TurningHours.calls kj23 _ _ t722 (!t723) t730 t731 _ ?side1 ?side2 A65.out).mono ?_);(case side1=>repeat (first|exact (zN HO725.out).2.2|(with_reducible refine zG ?_ _)|(with_reducible refine zH ?_ _)|(with_reducible refine zI ?_)));(case side2=>exact (zN HO725.out).2.1);rintro e w113 ⟨v732,rfl,ho0,hb⟩;have n0_:=zM (zP (by (with_reducible repeat (first|apply zA|apply zB|apply zC));exact HO725.out) hb);have n1_:=zM (Kd.R_elder' (by (with_reducible repeat (first|apply zA|apply zB|apply zC));exact HO729.out) (Kd.R_base ho0) hb);have n2_:=zM (Kd.R_lower (Kd.R_new' ho0 (Kd.R_lt (by (with_reducible repeat (first|apply zA|apply zB|apply zC));exact HO729.out))) (zR (by repeat (first|(with_reducible first|exact HB.out|apply zD|apply zE|apply zF)|exact HB.out))));have n3_:=zM (zQ (by repeat (first|(with_reducible first|exact HB.out|apply zD|apply zE|apply zF)|exact HB.out)) hb);clear HO725;clear HO729;clear HB;have HO725:=n0_;have HO729:=n1_;have HO733:=n2_;have HB:=n3_;clear n0_ n1_ n2_ n3_;(try clear hb);(try clear hb2);(try clear hk);(try clear hi);(try clear ho0))|(go_at_call 29;(with_reducible refine (spec_TurningHours.calls kj23 _ _ t722 t723 t734 t735 _ ?side1 ?side2 A66.out).mono ?_);(case side1=>repeat (first|exact (zN HO725.out).2.2|(with_reducible refine zG ?_ _)|(with_reducible refine zH ?_ _)|(with_reducible refine zI ?_)));(case side2=>exact (zN HO725.out).2.1);rintro e w114 ⟨v736,rfl,ho0,hb⟩;have n0_:=zM (zP (by (with_reducible repeat (first|apply zA|apply zB|apply zC));exact HO725.out) hb);have n1_:=zM (Kd.R_elder' (by (with_reducible repeat (first|apply zA|apply zB|apply zC));exact HO729.out) (Kd.R_base ho0) hb);have n2_:=zM (Kd.R_elder' (by (with_reducible repeat (first|apply zA|apply zB|apply zC));exact HO733.out) (Kd.R_base ho0) hb);have n3_:=zM (Kd.R_lower (Kd.R_new' (Kd.R_new' ho0 (Kd.R_lt (by (with_reducible repeat (first|apply zA|apply zB|apply zC));exact HO729.out))) (Kd.R_lt (by (with_reducible repeat (first|apply zA|apply zB|apply zC));exact HO733.out))) (zR (by repeat (first|(with_reducible first|exact HB.out|apply zD|apply zE|apply zF)|exact HB.out))));have n4_:=zM (zQ (by repeat (first|(with_reducible first|exact HB.out|apply zD|apply zE|apply zF)|exact HB.out)) hb);clear HO725;clear HO729;clear HO733;clear HB;have HO725:=n0_;have HO729:=n1_;have HO733:=n2_;have HO737:=n3_;have HB:=n4_;clear n0_ n1_ n2_ n3_ n4_;(try clear hb);(try clear hb2);(try clear hk);(try clear hi);(try clear ho0)))
           repeat (go_quiet (first|(go_at_call 47;(with_reducible refine (spec_DrawTurningHours.calls kj23 _ _ l0 t722 t723 _ ?side1 ?side2 A63.out).mono ?_);(case side1=>repeat (first|exact (zO HR0.out HB.out)|(with_reducible refine zG ?_ _)|(with_reducible refine zH ?_ _)|(with_reducible refine zI ?_)));(case side2=>exact HC0.out);rintro e w110 ⟨v724,rfl,ho0,hb⟩;have n0_:=zM (Kd.R_lower ho0 (zR (by repeat (first|(with_reducible first|exact HB.out|apply zD|apply zE|apply zF)|exact HB.out))));have n1_:=zM (zQ (by repeat (first|(with_reducible first|exact HB.out|apply zD|apply zE|apply zF)|exact HB.out)) hb);clear HB;have HO725:=n0_;have HB:=n1_;clear n0_ n1_;(try clear hb);(try clear hb2);(try clear hk);(try clear hi);(try clear ho0);obtain ⟨Ao111,co111,eo111⟩:=Kd.R_slice HO725.out;subst eo111)|(go_at_call 30;(with_reducible refine (impl_TurningHours.calls kj23 _ _ t722 t723 t726 t727 _ ?side1 ?side2 A64.out).mono ?_);(case side1=>repeat (first|exact (zN HO725.out).2.2|(with_reducible refine zG ?_ _)|(with_reducible refine zH ?_ _)|(with_reducible refine zI ?_)));(case side2=>exact (zN HO725.out).2.1);rintro e w112 ⟨v728,rfl,ho0,hb⟩;have n0_:=zM (zP (by (with_reducible repeat (first|apply zA|apply zB|apply zC));exact HO725.out) hb);have n1_:=zM (Kd.R_lower ho0 (zR (by repeat (first|(with_reducible first|exact HB.out|apply zD|apply zE|apply zF)|exact HB.out))));have n2_:=zM (zQ (by repeat (first|(with_reducible first|exact HB.out|apply zD|apply zE|apply zF)|exact HB.out)) hb);clear HO725;clear HB;have HO725:=n0_;have HO729:=n1_;have HB:=n2_;clear n0_ n1_ n2_;(try clear hb);(try clear hb2);(try clear hk);(try clear hi);(try clear ho0))|(go_at_call 30;(with_reducible refine (impl_TurningHours.calls kj23 _ _ t722 (!t723) t730 t731 _ ?side1 ?side2 A65.out).mono ?_);(case side1=>repeat (first|exact (zN HO725.out).2.2|(with_reducible refine zG ?_ _)|(with_reducible refine zH ?_ _)|(with_reducible refine zI ?_)));(case side2=>exact (zN HO725.out).2.1);rintro e w113 ⟨v732,rfl,ho0,hb⟩;have n0_:=zM (zP (by (with_reducible repeat (first|apply zA|apply zB|apply zC));exact HO725.out) hb);have n1_:=zM (Kd.R_elder' (by (with_reducible repeat (first|apply zA|apply zB|apply zC));exact HO729.out) (Kd.R_base ho0) hb);have n2_:=zM (Kd.R_lower (Kd.R_new' ho0 (Kd.R_lt (by (with_reducible repeat (first|apply zA|apply zB|apply zC));exact HO729.out))) (zR (by repeat (first|(with_reducible first|exact HB.out|apply zD|apply zE|apply zF)|exact HB.out))));have n3_:=zM (zQ (by repeat (first|(with_reducible first|exact HB.out|apply zD|apply zE|apply zF)|exact HB.out)) hb);clear HO725;clear HO729;clear HB;have HO725:=n0_;have HO729:=n1_;have HO733:=n2_;have HB:=n3_;clear n0_ n1_ n2_ n3_;(try clear hb);(try clear hb2);(try clear hk);(try clear hi);(try clear ho0))|(go_at_call 29;(with_reducible refine (spec_TurningHours.calls kj23 _ _ t722 t723 t734 t735 _ ?side1 ?side2 A66.out).mono ?_);(case side1=>repeat (first|exact (zN HO725.out).2.2|(with_reducible refine zG ?_ _)|(with_reducible refine zH ?_ _)|(with_reducible refine zI ?_)));(case side2=>exact (zN HO725.out).2.1);rintro e w114 ⟨v736,rfl,ho0,hb⟩;have n0_:=zM (zP (by (with_reducible repeat (first|apply zA|apply zB|apply zC));exact HO725.out) hb);have n1_:=zM (Kd.R_elder' (by (with_reducible repeat (first|apply zA|apply zB|apply zC));exact HO729.out) (Kd.R_base ho0) hb);have n2_:=zM (Kd.R_elder' (by (with_reducible repeat (first|apply zA|apply zB|apply zC));exact HO733.out) (Kd.R_base ho0) hb);have n3_:=zM (Kd.R_lower (Kd.R_new' (Kd.R_new' ho0 (Kd.R_lt (by (with_reducible repeat (first|apply zA|apply zB|apply zC));exact HO729.out))) (Kd.R_lt (by (with_reducible repeat (first|apply zA|apply zB|apply zC));exact HO733.out))) (zR (by repeat (first|(with_reducible first|exact HB.out|apply zD|apply zE|apply zF)|exact HB.out))));have n4_:=zM (zQ (by repeat (first|(with_reducible first|exact HB.out|apply zD|apply zE|apply zF)|exact HB.out)) hb);clear HO725;clear HO729;clear HO733;clear HB;have HO725:=n0_;have HO729:=n1_;have HO733:=n2_;have HO737:=n3_;have HB:=n4_;clear n0_ n1_ n2_ n3_ n4_;(try clear hb);(try clear hb2);(try clear hk);(try clear hi);(try clear ho0)));try go_wp2_with (first|(go_at_call 47;(with_reducible refine (spec_DrawTurningHours.calls kj23 _ _ l0 t722 t723 _ ?side1 ?side2 A63.out).mono ?_);(case side1=>repeat (first|exact (zO HR0.out HB.out)|(with_reducible refine zG ?_ _)|(with_reducible refine zH ?_ _)|(with_reducible refine zI ?_)));(case side2=>exact HC0.out);rintro e w110 ⟨v724,rfl,ho0,hb⟩;have n0_:=zM (Kd.R_lower ho0 (zR (by repeat (first|(with_reducible first|exact HB.out|apply zD|apply zE|apply zF)|exact HB.out))));have n1_:=zM (zQ (by repeat (first|(with_reducible first|exact HB.out|apply zD|apply zE|apply zF)|exact HB.out)) hb);clear HB;have HO725:=n0_;have HB:=n1_;clear n0_ n1_;(try clear hb);(try clear hb2);(try clear hk);(try clear hi);(try clear ho0);obtain ⟨Ao111,co111,eo111⟩:=Kd.R_slice HO725.out;subst eo111)|(go_at_call 30;(with_reducible refine (impl_TurningHours.calls kj23 _ _ t722 t723 t726 t727 _ ?side1 ?side2 A64.out).mono ?_);(case side1=>repeat (first|exact (zN HO725.out).2.2|(with_reducible refine zG ?_ _)|(with_reducible refine zH ?_ _)|(with_reducible refine zI ?_)));(case side2=>exact (zN HO725.out).2.1);rintro e w112 ⟨v728,rfl,ho0,hb⟩;have n0_:=zM (zP (by (with_reducible repeat (first|apply zA|apply zB|apply zC));exact HO725.out) hb);have n1_:=zM (Kd.R_lower ho0 (zR (by repeat (first|(with_reducible first|exact HB.out|apply zD|apply zE|apply zF)|exact HB.out))));have n2_:=zM (zQ (by repeat (first|(with_reducible first|exact HB.out|apply zD|apply zE|apply zF)|exact HB.out)) hb);clear HO725;clear HB;have HO725:=n0_;have HO729:=n1_;have HB:=n2_;clear n0_ n1_ n2_;(try clear hb);(try clear hb2);(try clear hk);(try clear hi);(try clear ho0))|(go_at_call 30;(with_reducible refine (impl_TurningHours.calls kj23 _ _ t722 (!t723) t730 t731 _ ?side1 ?side2 A65.out).mono ?_);(case side1=>repeat (first|exact (zN HO725.out).2.2|(with_reducible refine zG ?_ _)|(with_reducible refine zH ?_ _)|(with_reducible refine zI ?_)));(case side2=>exact (zN HO725.out).2.1);rintro e w113 ⟨v732,rfl,ho0,hb⟩;have n0_:=zM (zP (by (with_reducible repeat (first|apply zA|apply zB|apply zC));exact HO725.out) hb);have n1_:=zM (Kd.R_elder' (by (with_reducible repeat (first|apply zA|apply zB|apply zC));exact HO729.out) (Kd.R_base ho0) hb);have n2_:=zM (Kd.R_lower (Kd.R_new' ho0 (Kd.R_lt (by (with_reducible repeat (first|apply zA|apply zB|apply zC));exact HO729.out))) (zR (by repeat (first|(with_reducible first|exact HB.out|apply zD|apply zE|apply zF)|exact HB.out))));have n3_:=zM (zQ (by repeat (first|(with_reducible first|exact HB.out|apply zD|apply zE|apply zF)|exact HB.out)) hb);clear HO725;clear HO729;clear HB;have HO725:=n0_;have HO729:=n1_;have HO733:=n2_;have HB:=n3_;clear n0_ n1_ n2_ n3_;(try clear hb);(try clear hb2);(try clear hk);(try clear hi);(try clear ho0))|(go_at_call 29;(with_reducible refine (spec_TurningHours.calls kj23 _ _ t722 t723 t734 t735 _ ?side1 ?side2 A66.out).mono ?_);(case side1=>repeat (first|exact (zN HO725.out).2.2|(with_reducible refine zG ?_ _)|(with_reducible refine zH ?_ _)|(with_reducible refine zI ?_)));(case side2=>exact (zN HO725.out).2.1);rintro e w114 ⟨v736,rfl,ho0,hb⟩;have n0_:=zM (zP (by (with_reducible repeat (first|apply zA|apply zB|apply zC));exact HO725.out) hb);have n1_:=zM (Kd.R_elder' (by (with_reducible repeat (first|apply zA|apply zB|apply zC));exact HO729.out) (Kd.R_base ho0) hb);have n2_:=zM (Kd.R_elder' (by (with_reducible repeat (first|apply zA|apply zB|apply zC));exact HO733.out) (Kd.R_base ho0) hb);have n3_:=zM (Kd.R_lower (Kd.R_new' (Kd.R_new' ho0 (Kd.R_lt (by (with_reducible repeat (first|apply zA|apply zB|apply zC));exact HO729.out))) (Kd.R_lt (by (with_reducible repeat (first|apply zA|apply zB|apply zC));exact HO733.out))) (zR (by repeat (first|(with_reducible first|exact HB.out|apply zD|apply zE|apply zF)|exact HB.out))));have n4_:=zM (zQ (by repeat (first|(with_reducible first|exact HB.out|apply zD|apply zE|apply zF)|exact HB.out)) hb);clear HO725;clear HO729;clear HO733;clear HB;have HO725:=n0_;have HO729:=n1_;have HO733:=n2_;have HO737:=n3_;have HB:=n4_;clear n0_ n1_ n2_ n3_ n4_;(try clear hb);(try clear hb2);(try clear hk);(try clear hi);(try clear ho0))))
           go_ret
           exact ⟨by first|rfl|(simp [errW_none,errW_some] <;> rfl)|(simp [*,errW_none,errW_some] <;> rfl),by repeat (first|(with_reducible first|exact HB.out|apply zD|apply zE|apply zF)|exact HB.out)⟩

/-- THE ONE PURE STATEMENT of laws_FnTides. -/
def laws_FnTides.Pure : Prop := ∀ (l0 : List Int),(l0.length ≤ maxLen ∧ ∀ y ∈ l0,(Lit.int .u8 y).wf = true) → ∃ k,laws_FnTides.f k l0 = some true
theorem laws_FnTides.walk (P : laws_FnTides.Pure) (A0 : Option Addr) (c0 : Nat) (l0 : List Int) (w : World) (hr0 : Kd.C (Kd.int .u8) w A0 l0.length l0) (hc0 : l0.length ≤ c0) (hw0 : (l0.length ≤ maxLen ∧ ∀ y ∈ l0,(Lit.int .u8 y).wf = true)) :
  Calls Try.prog 12 #[.slice A0 l0.length c0] w fun e w'=>e = .returned (.bool true) ∧ Below w.heap.size w w':=by
 obtain ⟨k,h⟩:=P l0 hw0
 refine (laws_FnTides.calls k _ _ l0 true w hr0 hc0 h).mono ?_
 rintro e w' ⟨rfl,hd⟩
 exact ⟨rfl,hd⟩

end Go.Proofs.Ytbglkkepfddecaa.G

/- FnTides: the mean height is between the lowest and the highest tide, every tide is a high or a low water, and shifting back restores a table (for drawn bytes of at most 2^16; else the statement is true at once). -/
namespace Go.Proofs.Ytbglkkepfddecaa.Pure
open Go.RowKit Go.Proofs.Ytbglkkepfddecaa.G Go.Proofs.YtbglkkepfddecaaW.PrintWords Go.Proofs.YtbglkkepfddecaaW.PrintLast
set_option linter.unusedVariables false
set_option linter.unusedSimpArgs false
theorem rInts_I (xs : List Int) (h : (xs.length : Int) ≤ 1048576) : Ev (fun k=>laws_rInts.f k xs xs) true:=by
  unfold laws_rInts.f
  simp only [if_true]
  refine Ev.upc (fun k i=>laws_rInts.l0 k xs xs i) true (xs.length : Int) 0 ?_ ?_ 0 (by omega) (by omega)
  · refine Ev.step (fun k=>by rw [laws_rInts.l0]) ?_
    simp only [Int.lt_irrefl,if_false]
    exact Ev.now _
  · intro i h0 hlt hr
    refine Ev.step (fun k=>by rw [laws_rInts.l0]) ?_
    simp (disch:=omega) only [wrap64_id,if_pos,if_true]
    exact hr
theorem lowest {xs : List S60} (h0 : 0 < (xs.length : Int)) (h1 : (xs.length : Int) ≤ 1048576) : ∃ L,Ev (fun k=>laws_rLowest.f k xs) L ∧ (∀ i,0 ≤ i → i < (xs.length : Int) → L ≤ (rd_T60 xs i).f1) ∧ ∃ i,0 ≤ i ∧ i < (xs.length : Int) ∧ L = (rd_T60 xs i).f1:=by
  have main : ∀ (d : Nat) (i L : Int),0 ≤ i → i + d = (xs.length : Int) → (∀ j,0 ≤ j → j < i → L ≤ (rd_T60 xs j).f1) → (∃ j,0 ≤ j ∧ j < (xs.length : Int) ∧ L = (rd_T60 xs j).f1) → ∃ M,Ev (fun k=>laws_rLowest.l0 k xs L i) M ∧ (∀ i,0 ≤ i → i < (xs.length : Int) → M ≤ (rd_T60 xs i).f1) ∧ ∃ i,0 ≤ i ∧ i < (xs.length : Int) ∧ M = (rd_T60 xs i).f1:=by
    intro d
    induction d with
    | zero =>
      intro i L i0 hd hL hx
      refine ⟨L,?_,fun j a b=>hL j a (by omega),hx⟩
      refine Ev.step (fun k=>by rw [laws_rLowest.l0]) ?_
      simp (disch:=omega) only [if_neg]
      exact Ev.now _
    | succ d ih =>
      intro i L i0 hd hL hx
      by_cases g : (rd_T60 xs i).f1 < L
      · obtain ⟨M,m1,m2⟩:=ih (i + 1) _ (by omega) (by omega) (fun j a b=>by
          by_cases e : j = i
          · rw [e];exact Int.le_refl _
          · have:=hL j a (by omega);omega) ⟨i,i0,by omega,rfl⟩
        refine ⟨M,?_,m2⟩
        refine Ev.step (fun k=>by rw [laws_rLowest.l0]) ?_
        simp (disch:=omega) only [if_pos,wrap64_id]
        exact m1
      · obtain ⟨M,m1,m2⟩:=ih (i + 1) L (by omega) (by omega) (fun j a b=>by
          by_cases e : j = i
          · rw [e];omega
          · exact hL j a (by omega)) hx
        refine ⟨M,?_,m2⟩
        refine Ev.step (fun k=>by rw [laws_rLowest.l0]) ?_
        simp only [if_neg g]
        simp (disch:=omega) only [if_pos,wrap64_id]
        exact m1
  obtain ⟨M,m1,m2⟩:=main xs.length 0 (rd_T60 xs 0).f1 (by omega) (by omega) (fun j a b=>by omega) ⟨0,by omega,h0,rfl⟩
  refine ⟨M,?_,m2⟩
  unfold laws_rLowest.f
  simp only [if_pos h0]
  exact m1
theorem highest {xs : List S60} (h0 : 0 < (xs.length : Int)) (h1 : (xs.length : Int) ≤ 1048576) : ∃ L,Ev (fun k=>laws_rHighest.f k xs) L ∧ (∀ i,0 ≤ i → i < (xs.length : Int) → (rd_T60 xs i).f1 ≤ L) ∧ ∃ i,0 ≤ i ∧ i < (xs.length : Int) ∧ L = (rd_T60 xs i).f1:=by
  have main : ∀ (d : Nat) (i L : Int),0 ≤ i → i + d = (xs.length : Int) → (∀ j,0 ≤ j → j < i → (rd_T60 xs j).f1 ≤ L) → (∃ j,0 ≤ j ∧ j < (xs.length : Int) ∧ L = (rd_T60 xs j).f1) → ∃ M,Ev (fun k=>laws_rHighest.l0 k xs L i) M ∧ (∀ i,0 ≤ i → i < (xs.length : Int) → (rd_T60 xs i).f1 ≤ M) ∧ ∃ i,0 ≤ i ∧ i < (xs.length : Int) ∧ M = (rd_T60 xs i).f1:=by
    intro d
    induction d with
    | zero =>
      intro i L i0 hd hL hx
      refine ⟨L,?_,fun j a b=>hL j a (by omega),hx⟩
      refine Ev.step (fun k=>by rw [laws_rHighest.l0]) ?_
      simp (disch:=omega) only [if_neg]
      exact Ev.now _
    | succ d ih =>
      intro i L i0 hd hL hx
      by_cases g : (rd_T60 xs i).f1 > L
      · obtain ⟨M,m1,m2⟩:=ih (i + 1) _ (by omega) (by omega) (fun j a b=>by
          by_cases e : j = i
          · rw [e];exact Int.le_refl _
          · have:=hL j a (by omega);omega) ⟨i,i0,by omega,rfl⟩
        refine ⟨M,?_,m2⟩
        refine Ev.step (fun k=>by rw [laws_rHighest.l0]) ?_
        simp (disch:=omega) only [if_pos,wrap64_id]
        exact m1
      · obtain ⟨M,m1,m2⟩:=ih (i + 1) L (by omega) (by omega) (fun j a b=>by
          by_cases e : j = i
          · rw [e];omega
          · exact hL j a (by omega)) hx
        refine ⟨M,?_,m2⟩
        refine Ev.step (fun k=>by rw [laws_rHighest.l0]) ?_
        simp only [if_neg g]
        simp (disch:=omega) only [if_pos,wrap64_id]
        exact m1
  obtain ⟨M,m1,m2⟩:=main xs.length 0 (rd_T60 xs 0).f1 (by omega) (by omega) (fun j a b=>by omega) ⟨0,by omega,h0,rfl⟩
  refine ⟨M,?_,m2⟩
  unfold laws_rHighest.f
  simp only [if_pos h0]
  exact m1
theorem tides4 {l : List Int} (hc : Cd l) : Ev (fun k=>laws_FnTides.j4 k l) true:=by
  refine Ev.step (fun k=>by rw [laws_FnTides.j4]) ?_
  obtain ⟨t,ht,e⟩:=drawTurn hc
  refine Ev.bind e (Ev.bind (impl_turn _ _) (Ev.bind (impl_turn _ _) (Ev.bind (spec_turn _ _) ?_)))
  have n1:=turnTo_len t.1 t.2 t.1.length
  have n2:=turn_add t.1 t.2 t.1.length
  by_cases hv : Valid t.1
  · rw [chk_pos hv,chk_pos hv]
    simp only [beq_self_eq_true,if_true]
    refine Ev.bind (rInts_I _ (by omega)) ?_
    simp only [if_true]
    rw [wrap64_id (by omega) (by omega)]
    simp (disch:=omega) only [if_pos]
    refine Ev.bind (impl_valid _) ?_
    rw [chk_pos hv]
    exact Ev.now _
  · rw [chk_neg hv,chk_neg hv]
    simp only [beq_self_eq_true,if_true]
    refine Ev.bind (rInts_I _ (by simp)) ?_
    simp only [if_true,Bool.false_eq_true,if_false]
    exact Ev.now _
theorem tides2 {l : List Int} (hc : Cd l) {xs : List S60} (hv : Valid xs) : Ev (fun k=>laws_FnTides.j2 k l xs xs (meanOf xs).1 (meanOf xs).2 false) true:=by
  refine Ev.step (fun k=>by rw [laws_FnTides.j2]) ?_
  simp only [Bool.false_eq_true,if_false]
  have hl:=hv.1
  obtain ⟨L,e1,l1,i,i0,i1,rfl⟩:=lowest (xs:=xs) (by omega) (by omega)
  obtain ⟨U,e2,u1,j,j0,j1,rfl⟩:=highest (xs:=xs) (by omega) (by omega)
  have w:=mean_within hv _ _ l1 u1
  have bi:=valid_bd hv i i0 i1
  have bj:=valid_bd hv j j0 j1
  have bm:=mean_bd hv
  have m1:=mul_bd (x:=(rd_T60 xs i).f1) (y:=(meanOf xs).2) (A:=2000) (B:=480) (by omega) (by omega) (by omega) (by omega) (by omega) (by omega)
  have m2:=mul_bd (x:=(rd_T60 xs j).f1) (y:=(meanOf xs).2) (A:=2000) (B:=480) (by omega) (by omega) (by omega) (by omega) (by omega) (by omega)
  refine Ev.upc (fun k n=>laws_FnTides.l1 k l xs xs (meanOf xs).1 (meanOf xs).2 n) true (xs.length : Int) 0 ?_ ?_ 0 (by omega) (by omega)
  · refine Ev.step (fun k=>by rw [laws_FnTides.l1]) ?_
    simp only [Int.lt_irrefl,if_false]
    exact tides4 hc
  · intro n n0 hlt hr
    refine Ev.step (fun k=>by rw [laws_FnTides.l1]) ?_
    simp (disch:=omega) only [if_pos,beq_self_eq_true,Bool.not_true,Bool.or_self,Bool.false_eq_true,if_false]
    refine Ev.bind e1 ?_
    rw [wrap64_id (x:=(rd_T60 xs i).f1 * (meanOf xs).2) (by omega) (by omega),wrap64_id (x:=n + 1) (by omega) (by omega)]
    simp (disch:=omega) only [if_neg]
    refine Ev.bind e2 ?_
    rw [wrap64_id (x:=(rd_T60 xs j).f1 * (meanOf xs).2) (by omega) (by omega)]
    simp (disch:=omega) only [if_neg]
    exact hr
theorem FnTides : laws_FnTides.Pure:=by
  intro l0 h0
  refine Ev.rounds (g:=fun k=>laws_FnTides.f k l0) (r:=true) ?_
  unfold laws_FnTides.f laws_rBig.f
  simp only [Option.bind_some]
  refine Ev.ite (fun _=>Ev.now _) (fun g0=>?_)
  have hc : Cd l0:=cd_of (by simpa using g0) h0.2
  obtain ⟨⟨xs,a,b⟩,_,e⟩:=drawShift hc
  refine Ev.bind e (Ev.bind (impl_shift xs a b) (Ev.bind (spec_shift xs a b) ?_))
  simp only [bne_self_eq_false,Bool.false_eq_true,if_false]
  refine Ev.step (fun k=>by rw [laws_FnTides.j0]) ?_
  simp only [Bool.false_eq_true,if_false]
  by_cases hs : ShiftOk xs a b
  · rw [chk_pos hs]
    have hl:=hs.1.1
    have hlm : ((xs.map (shf a b)).length : Int) = (xs.length : Int):=by rw [List.length_map]
    refine Ev.upc (fun k i=>laws_FnTides.l0 k l0 xs a b (xs.map (shf a b)) true (xs.map (shf a b)) i) true ((xs.map (shf a b)).length : Int) 0 ?_ ?_ 0 (by omega) (by omega)
    · refine Ev.step (fun k=>by rw [laws_FnTides.l0]) ?_
      simp only [Int.lt_irrefl,if_false,if_true]
      have ra:=hs.2.1
      have rb:=hs.2.2.1
      rw [wrap64_id (x := -a) (by omega) (by omega),wrap64_id (x := -b) (by omega) (by omega)]
      refine Ev.bind (impl_shift _ _ _) (Ev.bind (impl_mean _) (Ev.bind (impl_mean _) (Ev.bind (impl_steep _) (Ev.bind (impl_steep _) ?_))))
      rw [chk_pos (shiftOk_back hs),chk_pos hs.1,chk_pos hs.2.2.2,chk_pos hs.1,chk_pos hs.2.2.2,shift_back,steepOf_shift hl.1]
      have e3 : (steepOf xs).2.2.2 = true:=rfl
      simp only [if_true,e3]
      have b1:=mean_bd hs.1
      have b2:=mean_bd hs.2.2.2
      have m1:=mul_bd (x:=(meanOf (xs.map (shf a b))).1) (y:=(meanOf xs).2) (A:=20000000) (B:=480) (by omega) (by omega) (by omega) (by omega) (by omega) (by omega)
      have m2:=mul_bd (x:=b) (y:=(meanOf xs).2) (A:=2000) (B:=480) (by omega) (by omega) (by omega) (by omega) (by omega) (by omega)
      have ms:=mean_shift hs
      rw [wrap64_id (x:=b * (meanOf xs).2) (by omega) (by omega),wrap64_id (x:=(meanOf xs).1 + b * (meanOf xs).2) (by omega) (by omega),← ms,bne_self_eq_false]
      simp only [if_true]
      exact tides2 hc hs.1
    · intro i i0 hlt hr
      refine Ev.step (fun k=>by rw [laws_FnTides.l0]) ?_
      simp (disch:=omega) only [if_pos,beq_self_eq_true,Bool.not_true,Bool.or_self,Bool.false_eq_true,if_false,wrap64_id]
      exact hr
  · rw [chk_neg hs]
    refine Ev.step (fun k=>by rw [laws_FnTides.l0]) ?_
    simp only [List.length_nil,Int.natCast_zero,Int.lt_irrefl,if_false,Bool.false_eq_true]
    exact tides4 hc
end Go.Proofs.Ytbglkkepfddecaa.Pure
